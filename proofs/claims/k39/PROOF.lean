import PyProof.Rows.All
import Wide.All
import OpenK.AllK
import Wide.FinOn
import HandS.ForMost
import HandS.Deep
import HandS.TupAny
import HandS.TupLe
import HandS.Gcd
import HandS.Flow
import HandS.Style
import HandS.IsInst
import HandS.Wide
import KE.DataCmp
import HandS.TupMul
import KE.SortData
import KE.DataMinMax
import HandS.More
import KE.GoesMore
import HandS.Conv
import HandS.SetFor
import PySem.Challenge.RW_ornamentwright_k39_whole_smaller_lattice
set_option Elab.async false
set_option linter.all false
set_option maxRecDepth 100000
set_option maxHeartbeats 4000000
/-! The state of draws: a list of a list of numbers from 0 on, and of a number. -/
namespace Orn
open PySem PySem.Spec L2
/-- st: the state's list; c: the list of numbers that it holds -/
def TokR (st c : Addr) (H : Hp) : Prop := st ≠ c ∧ ∃ (ns : List Int) (seed : Int), H st = some (.lst [.ref c, .int seed]) ∧ H c = some (.lst (ns.map V.int)) ∧ (∀ n ∈ ns, 0 ≤ n) ∧ 0 ≤ seed ∧ seed < 4294967296 ∧ ns.length ≤ 63
theorem tok_ext {st c : Addr} {H H' : Hp} (h1 : H' st = H st) (h2 : H' c = H c) (h : TokR st c H) : TokR st c H' := by
  obtain ⟨n, ns, seed, a, b, r⟩ := h
  exact ⟨n, ns, seed, h1.trans a, h2.trans b, r⟩
theorem tok_has {st c : Addr} {H : Hp} (h : TokR st c H) : H st ≠ none ∧ H c ≠ none := by
  obtain ⟨n, ns, seed, a, b, r⟩ := h
  exact ⟨fun z => (by rw [a] at z; cases z), fun z => (by rw [b] at z; cases z)⟩
end Orn

set_option Elab.async false
set_option linter.all false
set_option maxRecDepth 100000
set_option maxHeartbeats 4000000
/-! Data-level semantics over the hand layer: what a slot holds, what an expression yields, as plain functions. -/
namespace Orn
open PySem PySem.Spec L2

abbrev D := PyData

/-- what a slot holds: nothing known; a value that nobody changes; a list that this slot alone holds; the draws' state -/
inductive S where
  | un
  | sh (d : D)
  | ow (ds : List D)
  | tk

/-! ### data in the heap -/
mutual
def Rp (K : PySem.W.Frag) (H : Hp) : D → V → Prop
  | .none, v => v = .non
  | .bool b, v => v = .bl b
  | .int i, v => v = .int i
  | .str x, v => v = .str x
  | .list ds, v => ∃ a xs, v = .ref a ∧ H a = some (.lst xs) ∧ RpL K H ds xs
  | .tuple ds, v => ∃ a xs, v = .ref a ∧ SqT K H a xs ∧ RpL K H ds xs
  | .dict _, _ => False
def RpL (K : PySem.W.Frag) (H : Hp) : List D → List V → Prop
  | [], vs => vs = []
  | d :: ds, vs => ∃ v r, vs = v :: r ∧ Rp K H d v ∧ RpL K H ds r
end

def Ex (H H' : Hp) : Prop := ∀ a o, H a = some o → H' a = some o
theorem Ex.refl (H : Hp) : Ex H H := fun _ _ h => h
theorem Ex.trans {H H1 H2 : Hp} (a : Ex H H1) (b : Ex H1 H2) : Ex H H2 := fun x o h => b x o (a x o h)
theorem Ex.new {H : Hp} {p : Addr} {o : HO} (h : H p = none) : Ex H (upd H p o) := fun a u e => by
  rw [upd_ne (ne_of_none e h)]
  exact e
theorem Ex.free {H H' : Hp} {p : Addr} (e : Ex H H') (h : H' p = none) : H p = none := by
  cases h1 : H p with
  | none => rfl
  | some o => rw [e p o h1] at h; cases h
theorem Ex.updB {H H' : Hp} {p : Addr} {o : HO} (e : Ex H H') (h : H p = none) : Ex H (upd H' p o) := fun a u ha => by
  rw [upd_ne (ne_of_none ha h)]
  exact e a u ha
theorem Ex.upd2 {H H' : Hp} {p : Addr} {o : HO} (e : Ex H H') : Ex (upd H p o) (upd H' p o) := fun a u ha => by
  by_cases h : a = p
  · subst h; rw [upd_same] at ha ⊢; exact ha
  · rw [upd_ne h] at ha ⊢; exact e a u ha
theorem ex_t {K : PySem.W.Frag} {H H' : Hp} {a : Addr} {xs : List V} (e : Ex H H') (h : SqT K H a xs) : SqT K H' a xs := by
  rcases h with (h | ⟨o, h⟩) | h
  · exact .inl (.inl (e _ _ h))
  · exact .inl (.inr ⟨o, e _ _ h⟩)
  · exact .inr h

mutual
theorem Rp.mono {K : PySem.W.Frag} {H H' : Hp} (e : Ex H H') : ∀ (d : D) (v : V), Rp K H d v → Rp K H' d v
  | .none, _, h => h
  | .bool _, _, h => h
  | .int _, _, h => h
  | .str _, _, h => h
  | .list ds, v, h => by
    obtain ⟨a, xs, e1, h1, h2⟩ := h
    exact ⟨a, xs, e1, e _ _ h1, RpL.mono e ds xs h2⟩
  | .tuple ds, v, h => by
    obtain ⟨a, xs, e1, h1, h2⟩ := h
    exact ⟨a, xs, e1, ex_t e h1, RpL.mono e ds xs h2⟩
  | .dict _, _, h => h
theorem RpL.mono {K : PySem.W.Frag} {H H' : Hp} (e : Ex H H') : ∀ (ds : List D) (vs : List V), RpL K H ds vs → RpL K H' ds vs
  | [], _, h => h
  | d :: ds, vs, h => by
    obtain ⟨v, r, e1, h1, h2⟩ := h
    exact ⟨v, r, e1, Rp.mono e d v h1, RpL.mono e ds r h2⟩
end
mutual
theorem Rp.dp {K : PySem.W.Frag} {H : Hp} : ∀ (d : D) (v : V), Rp K H d v → Dp K H v d
  | .none, _, h => by cases h; exact .non
  | .bool b, _, h => by cases h; exact .bl b
  | .int i, _, h => by cases h; exact .int i
  | .str x, _, h => by cases h; exact .str x
  | .list ds, v, h => by
    obtain ⟨a, xs, e1, h1, h2⟩ := h
    subst e1
    exact .lst (SqL.of h1) (RpL.dp ds xs h2)
  | .tuple ds, v, h => by
    obtain ⟨a, xs, e1, h1, h2⟩ := h
    subst e1
    exact .tup h1 (RpL.dp ds xs h2)
  | .dict _, _, h => h.elim
theorem RpL.dp {K : PySem.W.Frag} {H : Hp} : ∀ (ds : List D) (vs : List V), RpL K H ds vs → DpAll K H vs ds
  | [], _, h => by cases h; exact .nil
  | d :: ds, vs, h => by
    obtain ⟨v, r, e1, h1, h2⟩ := h
    subst e1
    exact .cons (Rp.dp d v h1) (RpL.dp ds r h2)
end
section
variable {K : PySem.W.Frag} {H : Hp}
theorem RpL.length : ∀ {ds : List D} {vs : List V}, RpL K H ds vs → vs.length = ds.length
  | [], _, h => by cases h; rfl
  | d :: ds, vs, h => by
    obtain ⟨v, r, e1, h1, h2⟩ := h
    subst e1
    rw [List.length_cons, List.length_cons, RpL.length h2]
theorem RpL.get : ∀ {ds : List D} {vs : List V} {i : Nat} {d : D}, RpL K H ds vs → ds[i]? = some d → ∃ v, vs[i]? = some v ∧ Rp K H d v
  | [], _, _, _, _, e => by simp at e
  | d :: ds, vs, 0, d', h, e => by
    obtain ⟨v, r, e1, h1, h2⟩ := h
    subst e1
    simp at e
    subst e
    exact ⟨v, rfl, h1⟩
  | d :: ds, vs, i + 1, d', h, e => by
    obtain ⟨v, r, e1, h1, h2⟩ := h
    subst e1
    obtain ⟨u, q, z⟩ := RpL.get (i := i) h2 (by simpa using e)
    exact ⟨u, by simpa using q, z⟩
theorem RpL.getV : ∀ {ds : List D} {vs : List V} {i : Nat} {v : V}, RpL K H ds vs → vs[i]? = some v → ∃ d, ds[i]? = some d ∧ Rp K H d v := fun {ds vs i v} h e => by
  have hl := RpL.length h
  have hi : i < ds.length := by
    have := (List.getElem?_eq_some_iff.mp e).1
    omega
  obtain ⟨u, q, z⟩ := RpL.get (i := i) h (List.getElem?_eq_getElem hi)
  rw [e] at q
  cases q
  exact ⟨_, List.getElem?_eq_getElem hi, z⟩
theorem RpL.append : ∀ {ds es : List D} {vs us : List V}, RpL K H ds vs → RpL K H es us → RpL K H (ds ++ es) (vs ++ us)
  | [], _, _, _, h, g => by cases h; exact g
  | d :: ds, es, vs, us, h, g => by
    obtain ⟨v, r, e1, h1, h2⟩ := h
    subst e1
    exact ⟨v, r ++ us, rfl, h1, RpL.append h2 g⟩
theorem RpL.one {d : D} {v : V} (h : Rp K H d v) : RpL K H [d] [v] := ⟨v, [], rfl, h, rfl⟩
theorem RpL.take : ∀ {ds : List D} {vs : List V} (n : Nat), RpL K H ds vs → RpL K H (ds.take n) (vs.take n)
  | _, _, 0, _ => rfl
  | [], _, _ + 1, h => by cases h; rfl
  | d :: ds, vs, n + 1, h => by
    obtain ⟨v, r, e1, h1, h2⟩ := h
    subst e1
    exact ⟨v, _, rfl, h1, RpL.take n h2⟩
theorem RpL.drop : ∀ {ds : List D} {vs : List V} (n : Nat), RpL K H ds vs → RpL K H (ds.drop n) (vs.drop n)
  | _, _, 0, h => h
  | [], _, _ + 1, h => by cases h; rfl
  | d :: ds, vs, n + 1, h => by
    obtain ⟨v, r, e1, h1, h2⟩ := h
    subst e1
    exact RpL.drop n h2
theorem RpL.set : ∀ {ds : List D} {vs : List V} (i : Nat) {d : D} {v : V}, RpL K H ds vs → Rp K H d v → RpL K H (ds.set i d) (vs.set i v)
  | [], _, _, _, _, h, _ => by cases h; rfl
  | d :: ds, vs, 0, d', v', h, g => by
    obtain ⟨v, r, e1, h1, h2⟩ := h
    subst e1
    exact ⟨v', r, rfl, g, h2⟩
  | d :: ds, vs, i + 1, d', v', h, g => by
    obtain ⟨v, r, e1, h1, h2⟩ := h
    subst e1
    exact ⟨v, _, rfl, h1, RpL.set i h2 g⟩
theorem RpL.reverse : ∀ {ds : List D} {vs : List V}, RpL K H ds vs → RpL K H ds.reverse vs.reverse
  | [], _, h => by cases h; rfl
  | d :: ds, vs, h => by
    obtain ⟨v, r, e1, h1, h2⟩ := h
    subst e1
    rw [List.reverse_cons, List.reverse_cons]
    exact RpL.append (RpL.reverse h2) (RpL.one h1)
theorem RpL.ints : ∀ {ns : List Int} {vs : List V}, RpL K H (ns.map PyData.int) vs → vs = ns.map V.int
  | [], _, h => h
  | n :: ns, vs, h => by
    obtain ⟨v, r, e1, h1, h2⟩ := h
    subst e1
    have e : v = .int n := h1
    rw [e, RpL.ints h2]
    rfl
theorem RpL.of_ints : ∀ (ns : List Int), RpL K H (ns.map PyData.int) (ns.map V.int)
  | [] => rfl
  | n :: ns => ⟨_, _, rfl, rfl, RpL.of_ints ns⟩
end

/-! ### where a def runs: what was frozen at its entry, the heap there, the draws' state -/
structure Fr where
  H0 : Hp
  H : Hp
  st : Addr
  c : Addr
def Fr.T (F : Fr) (a : Addr) : Prop := a = F.st ∨ a = F.c
def Fr.TR (F : Fr) (H : Hp) : Prop := TokR F.st F.c H
theorem Fr.ext (F : Fr) (H H' : Hp) (h : ∀ a, F.T a → H' a = H a) (r : F.TR H) : F.TR H' := tok_ext (h _ (.inl rfl)) (h _ (.inr rfl)) r
theorem Fr.has (F : Fr) (H : Hp) (r : F.TR H) (a : Addr) (t : F.T a) : H a ≠ none := by
  obtain ⟨h1, h2⟩ := tok_has r
  rcases t with rfl | rfl
  · exact h1
  · exact h2

/-- p holds the list vs, and none but its holder knows it -/
structure Own (F : Fr) (H0 H : Hp) (p : Addr) (vs : List V) : Prop where
  e : F.H p = none
  f : H0 p = none
  at_ : H p = some (.lst vs)
  t : ¬ F.T p

def SlotR (K : PySem.W.Frag) (F : Fr) (H0 : Hp) (σ : L2.St) (H : Hp) (i : Nat) : S → Prop
  | .un => True
  | .sh d => ∃ v, σ[i]? = some (some v) ∧ Rp K H0 d v
  | .ow ds => ∃ p vs, σ[i]? = some (some (.ref p)) ∧ Own F H0 H p vs ∧ RpL K H0 ds vs
  | .tk => σ[i]? = some (some (.ref F.st))

structure StR (K : PySem.W.Frag) (F : Fr) (H0 : Hp) (σ : L2.St) (H : Hp) (env : List S) : Prop where
  ex : Ex H0 H
  e0 : Ex F.H0 H0
  keep : ∀ a o, F.H a = some o → ¬ F.T a → H a = some o
  newo : ∀ a, F.H a ≠ none → F.H0 a = none → H0 a = none
  tok : F.TR H
  tfr : ∀ a, F.T a → H0 a = none
  len : env.length ≤ σ.length
  slot : ∀ i s, env[i]? = some s → SlotR K F H0 σ H i s
  sep : ∀ (i j : Nat) (p : Addr) (xs ys : List D), env[i]? = some (.ow xs) → env[j]? = some (.ow ys) → σ[i]? = some (some (.ref p)) → σ[j]? = some (some (.ref p)) → i = j

/-- a value that has come -/
def ValR (K : PySem.W.Frag) (F : Fr) (H0 : Hp) (σ : L2.St) (H : Hp) (env : List S) (v : V) : S → Prop
  | .un => False
  | .sh d => Rp K H0 d v
  | .ow ds => ∃ p vs, v = .ref p ∧ Own F H0 H p vs ∧ RpL K H0 ds vs ∧ ∀ (i : Nat) (xs : List D), env[i]? = some (.ow xs) → σ[i]? ≠ some (some (.ref p))
  | .tk => v = .ref F.st

/-- a value that is only looked at -/
def Vw (K : PySem.W.Frag) (F : Fr) (H0 H : Hp) (d : D) (v : V) : Prop :=
  Rp K H0 d v ∨ ∃ p vs ds, d = .list ds ∧ v = .ref p ∧ H p = some (.lst vs) ∧ ¬ F.T p ∧ RpL K H0 ds vs

structure Grow (F : Fr) (H0 H H0' H' : Hp) : Prop where
  e0 : Ex H0 H0'
  kp : ∀ a o, H a = some o → ¬ F.T a → H' a = some o
  nw : ∀ a, H a ≠ none → ¬ F.T a → H0 a = none → H0' a = none
theorem Grow.refl {F : Fr} {H0 H : Hp} : Grow F H0 H H0 H := ⟨Ex.refl _, fun _ _ h _ => h, fun _ _ _ h => h⟩
theorem Grow.trans {F : Fr} {A B A1 B1 A2 B2 : Hp} (x : Grow F A B A1 B1) (y : Grow F A1 B1 A2 B2) : Grow F A B A2 B2 :=
  ⟨x.e0.trans y.e0, fun a o h t => y.kp a o (x.kp a o h t) t, fun a h t e => by
    cases q : B a with
    | none => exact absurd q h
    | some o => exact y.nw a (by rw [x.kp a o q t]; intro z; cases z) t (x.nw a h t e)⟩

section
variable {K : PySem.W.Frag} {F : Fr} {H0 H H0' H' : Hp} {σ : L2.St} {env : List S}
theorem StR.notT (R : StR K F H0 σ H env) {a : Addr} {o : HO} (h : H0 a = some o) : ¬ F.T a := fun t => by
  rw [R.tfr a t] at h; cases h
theorem StR.tNew (R : StR K F H0 σ H env) {p : Addr} (h : H p = none) : ¬ F.T p := fun t => F.has H R.tok p t h
theorem StR.fNew (R : StR K F H0 σ H env) {p : Addr} (h : H p = none) : F.H p = none := by
  cases q : F.H p with
  | none => rfl
  | some o =>
    have z := R.keep p o q (R.tNew h)
    rw [h] at z; cases z
/-- a new object that nobody changes -/
theorem StR.new {p : Addr} {o : HO} (R : StR K F H0 σ H env) (h : H p = none) : StR K F (upd H0 p o) σ (upd H p o) env := by
  have h0 : H0 p = none := R.ex.free h
  have ht := R.tNew h
  have hf := R.fNew h
  refine ⟨R.ex.upd2, R.e0.trans (Ex.new h0), fun a u e t => ?_, fun a e1 e2 => ?_, F.ext H _ (fun a t => ?_) R.tok, fun a t => ?_, R.len, fun i s e => ?_, R.sep⟩
  · rw [upd_ne (ne_of_none e hf)]; exact R.keep a u e t
  · have : a ≠ p := fun z => by subst z; exact e1 hf
    rw [upd_ne this]; exact R.newo a e1 e2
  · have : a ≠ p := fun z => by subst z; exact ht t
    rw [upd_ne this]
  · have : a ≠ p := fun z => by subst z; exact ht t
    rw [upd_ne this]; exact R.tfr a t
  · have q := R.slot i s e
    cases s with
    | un => trivial
    | sh d =>
      obtain ⟨v, e1, e2⟩ := q
      exact ⟨v, e1, Rp.mono (Ex.new h0) d v e2⟩
    | ow ds =>
      obtain ⟨q1, vs, e1, w, e2⟩ := q
      have ne : q1 ≠ p := ne_of_none w.at_ h
      exact ⟨q1, vs, e1, ⟨w.e, by rw [upd_ne ne]; exact w.f, by rw [upd_ne ne]; exact w.at_, w.t⟩, RpL.mono (Ex.new h0) ds vs e2⟩
    | tk => exact q
/-- a new list that is not shared yet -/
theorem StR.newL {p : Addr} {o : HO} (R : StR K F H0 σ H env) (h : H p = none) : StR K F H0 σ (upd H p o) env := by
  have h0 : H0 p = none := R.ex.free h
  have ht := R.tNew h
  have hf := R.fNew h
  refine ⟨R.ex.updB h0, R.e0, fun a u e t => ?_, R.newo, F.ext H _ (fun a t => ?_) R.tok, R.tfr, R.len, fun i s e => ?_, R.sep⟩
  · rw [upd_ne (ne_of_none e hf)]; exact R.keep a u e t
  · have : a ≠ p := fun z => by subst z; exact ht t
    rw [upd_ne this]
  · have q := R.slot i s e
    cases s with
    | un => trivial
    | sh d => exact q
    | ow ds =>
      obtain ⟨q1, vs, e1, w, e2⟩ := q
      have ne : q1 ≠ p := ne_of_none w.at_ h
      exact ⟨q1, vs, e1, ⟨w.e, w.f, by rw [upd_ne ne]; exact w.at_, w.t⟩, e2⟩
    | tk => exact q
theorem Grow.new {p : Addr} {o : HO} (R : StR K F H0 σ H env) (h : H p = none) : Grow F H0 H (upd H0 p o) (upd H p o) :=
  ⟨Ex.new (R.ex.free h), fun a u e _ => by rw [upd_ne (ne_of_none e h)]; exact e, fun a n _ e => by
    have : a ≠ p := fun z => by subst z; exact n h
    rw [upd_ne this]; exact e⟩
theorem Grow.newL {p : Addr} {o : HO} (h : H p = none) : Grow F H0 H H0 (upd H p o) :=
  ⟨Ex.refl _, fun a u e _ => by rw [upd_ne (ne_of_none e h)]; exact e, fun _ _ _ e => e⟩
/-- the new list's value -/
theorem StR.valNew {p : Addr} {ds : List D} {vs : List V} (R : StR K F H0 σ H env) (h : H p = none) (r : RpL K H0 ds vs) : ValR K F H0 σ (upd H p (.lst vs)) env (.ref p) (.ow ds) := by
  refine ⟨p, vs, rfl, ⟨R.fNew h, R.ex.free h, upd_same, R.tNew h⟩, r, fun i xs e1 e2 => ?_⟩
  obtain ⟨q1, us, e3, w, _⟩ := R.slot i _ e1
  rw [e2] at e3
  cases e3
  have z := w.at_
  rw [h] at z
  cases z
/-- what is held by one value alone, let go -/
theorem StR.freeze {p : Addr} {ds : List D} {vs : List V} (R : StR K F H0 σ H env) (w : Own F H0 H p vs) (r : RpL K H0 ds vs) (ne : ∀ (i : Nat) (xs : List D), env[i]? = some (.ow xs) → σ[i]? ≠ some (some (.ref p))) :
    StR K F (upd H0 p (.lst vs)) σ H env ∧ Rp K (upd H0 p (.lst vs)) (.list ds) (.ref p) := by
  have x0 : Ex H0 (upd H0 p (.lst vs)) := Ex.new w.f
  refine ⟨⟨fun a o e => ?_, R.e0.trans x0, R.keep, fun a e1 e2 => ?_, R.tok, fun a t => ?_, R.len, fun i s e => ?_, R.sep⟩, ⟨p, vs, rfl, upd_same, RpL.mono x0 ds vs r⟩⟩
  · by_cases h : a = p
    · subst h; rw [upd_same] at e; rw [← e]; exact w.at_
    · rw [upd_ne h] at e; exact R.ex a o e
  · have : a ≠ p := fun z => by subst z; exact e1 w.e
    rw [upd_ne this]; exact R.newo a e1 e2
  · have : a ≠ p := fun z => by subst z; exact w.t t
    rw [upd_ne this]; exact R.tfr a t
  · have q := R.slot i s e
    cases s with
    | un => trivial
    | sh d =>
      obtain ⟨v, e1, e2⟩ := q
      exact ⟨v, e1, Rp.mono x0 d v e2⟩
    | ow es =>
      obtain ⟨q1, us, e1, w1, e2⟩ := q
      have n1 : q1 ≠ p := fun z => by subst z; exact ne i es e e1
      exact ⟨q1, us, e1, ⟨w1.e, by rw [upd_ne n1]; exact w1.f, w1.at_, w1.t⟩, RpL.mono x0 es us e2⟩
    | tk => exact q
/-- .. if it came after H -/
theorem Grow.fz {A : Hp} {p : Addr} {vs : List V} {B : Hp} (g : Grow F A B H0 H) (w : H0 p = none) (hn : B p = none) : Grow F A B (upd H0 p (.lst vs)) H :=
  ⟨g.e0.trans (Ex.new w), g.kp, fun a n t e => by
    have : a ≠ p := fun z => by subst z; exact n hn
    rw [upd_ne this]; exact g.nw a n t e⟩
/-- a list that has come is new -/
def NewS (H : Hp) (v : V) : S → Prop
  | .ow _ => ∀ p, v = .ref p → H p = none
  | _ => True
theorem NewS.back {s : S} {v : V} (g : Grow F H0 H H0' H') (R : StR K F H0' σ H' env) (h : NewS H' v s) : NewS H v s := by
  cases s with
  | ow ds =>
    intro p e
    have q := h p e
    cases z : H p with
    | none => rfl
    | some o =>
      rw [g.kp p o z (R.tNew q)] at q
      cases q
  | un => trivial
  | sh d => trivial
  | tk => trivial
theorem Vw.mono {d : D} {v : V} (g : Grow F H0 H H0' H') (h : Vw K F H0 H d v) : Vw K F H0' H' d v := by
  rcases h with h | ⟨p, vs, ds, e1, e2, h, ht, r⟩
  · exact .inl (Rp.mono g.e0 d v h)
  · exact .inr ⟨p, vs, ds, e1, e2, g.kp p _ h ht, ht, RpL.mono g.e0 ds vs r⟩
theorem Vw.rp {d : D} {v : V} (R : StR K F H0 σ H env) (h : Vw K F H0 H d v) : Rp K H d v := by
  rcases h with h | ⟨p, vs, ds, e1, e2, h, _, r⟩
  · exact Rp.mono R.ex d v h
  · subst e1; exact ⟨p, vs, e2, h, RpL.mono R.ex ds vs r⟩
theorem Vw.int {i : Int} {v : V} (h : Vw K F H0 H (.int i) v) : v = .int i := by
  rcases h with h | ⟨_, _, _, e, _⟩
  · exact h
  · cases e
theorem Vw.str {x : Str} {v : V} (h : Vw K F H0 H (.str x) v) : v = .str x := by
  rcases h with h | ⟨_, _, _, e, _⟩
  · exact h
  · cases e
theorem Vw.bool {b : Bool} {v : V} (h : Vw K F H0 H (.bool b) v) : v = .bl b := by
  rcases h with h | ⟨_, _, _, e, _⟩
  · exact h
  · cases e
theorem Vw.none {v : V} (h : Vw K F H0 H .none v) : v = .non := by
  rcases h with h | ⟨_, _, _, e, _⟩
  · exact h
  · cases e
theorem Vw.tup {ds : List D} {v : V} (h : Vw K F H0 H (.tuple ds) v) : ∃ a xs, v = .ref a ∧ SqT K H0 a xs ∧ RpL K H0 ds xs := by
  rcases h with h | ⟨_, _, _, e, _⟩
  · exact h
  · cases e
theorem Vw.lst {ds : List D} {v : V} (R : StR K F H0 σ H env) (h : Vw K F H0 H (.list ds) v) : ∃ p vs, v = .ref p ∧ H p = some (.lst vs) ∧ RpL K H0 ds vs := by
  rcases h with ⟨a, xs, e1, h1, h2⟩ | ⟨p, vs, ds, e1, e2, h, _, r⟩
  · exact ⟨a, xs, e1, R.ex a _ h1, h2⟩
  · cases e1; exact ⟨p, vs, e2, h, r⟩
end
end Orn

set_option Elab.async false
set_option linter.all false
set_option maxRecDepth 100000
set_option maxHeartbeats 4000000
namespace Orn
open PySem PySem.Spec L2

theorem PEc {X : Cx} {e : Expr} {t t' : TE} (h : PE X e t) (w : ∀ σ H Q, t' σ H Q → t σ H Q) : PE X e t' := ⟨fun pins s σ H Q I q => h.run pins s σ H Q I (w σ H Q q)⟩
theorem PTc {X : Cx} {e : Expr} {t t' : TT} (h : PT X e t) (w : ∀ σ H Q, t' σ H Q → t σ H Q) : PT X e t' := ⟨fun pins s σ H Q I q => h.run pins s σ H Q I (w σ H Q q)⟩
theorem PAc {X : Cx} {e : List Expr} {t t' : TA} (h : PA X e t) (w : ∀ σ H Q, t' σ H Q → t σ H Q) : PA X e t' := ⟨fun pos pins s σ H Q I q => h.run pos pins s σ H Q I (w σ H Q q)⟩

/-! ### what an expression yields, by the slots -/
abbrev ES := List S → (S → Bool) → Bool
abbrev ED := List S → (D → Bool) → Bool
abbrev EB := List S → (Bool → Bool) → Bool
abbrev EL := List S → (List D → Bool) → Bool

def PostS (K : PySem.W.Frag) (F : Fr) (H0 : Hp) (σ : L2.St) (H : Hp) (env : List S) (k : S → Bool) (Q : VK) : Prop :=
  ∀ v s H0' H', k s = true → StR K F H0' σ H' env → ValR K F H0' σ H' env v s → NewS H v s → Grow F H0 H H0' H' → Q v H'
def PostD (K : PySem.W.Frag) (F : Fr) (H0 : Hp) (σ : L2.St) (H : Hp) (env : List S) (k : D → Bool) (Q : VK) : Prop :=
  ∀ v d H0' H', k d = true → StR K F H0' σ H' env → Rp K H0' d v → Grow F H0 H H0' H' → Q v H'
def PostV (K : PySem.W.Frag) (F : Fr) (H0 : Hp) (σ : L2.St) (H : Hp) (env : List S) (k : D → Bool) (Q : VK) : Prop :=
  ∀ v d H0' H', k d = true → StR K F H0' σ H' env → Vw K F H0' H' d v → Grow F H0 H H0' H' → Q v H'
/-- a value to keep | frozen data | data to look at | a test | frozen data in a row -/
def tS (K : PySem.W.Frag) (f : ES) : TE := fun σ H Q => ∃ F H0 env k, StR K F H0 σ H env ∧ f env k = true ∧ PostS K F H0 σ H env k Q
def tD (K : PySem.W.Frag) (f : ED) : TE := fun σ H Q => ∃ F H0 env k, StR K F H0 σ H env ∧ f env k = true ∧ PostD K F H0 σ H env k Q
def tV (K : PySem.W.Frag) (f : ED) : TE := fun σ H Q => ∃ F H0 env k, StR K F H0 σ H env ∧ f env k = true ∧ PostV K F H0 σ H env k Q
def tT (K : PySem.W.Frag) (f : EB) : TT := fun σ H Q => ∃ F H0 env k, StR K F H0 σ H env ∧ f env k = true ∧
  ∀ b H0' H', k b = true → StR K F H0' σ H' env → Grow F H0 H H0' H' → Q b H'
def tL (K : PySem.W.Frag) (n : Nat) (f : EL) : TA := fun σ H Q => ∃ F H0 env k, StR K F H0 σ H env ∧ f env k = true ∧
  ∀ vs ds H0' H', k ds = true → StR K F H0' σ H' env → RpL K H0' ds vs → ds.length = n → Grow F H0 H H0' H' → Q vs H'
/-- data to look at, in a row -/
def VwL (K : PySem.W.Frag) (F : Fr) (H0 H : Hp) : List D → List V → Prop
  | [], vs => vs = []
  | d :: ds, vs => ∃ v r, vs = v :: r ∧ Vw K F H0 H d v ∧ VwL K F H0 H ds r
def tW (K : PySem.W.Frag) (f : EL) : TA := fun σ H Q => ∃ F H0 env k, StR K F H0 σ H env ∧ f env k = true ∧
  ∀ vs ds H0' H', k ds = true → StR K F H0' σ H' env → VwL K F H0' H' ds vs → Grow F H0 H H0' H' → Q vs H'
/-- arguments of a def: frozen data, or the draws' state -/
def ArgR (K : PySem.W.Frag) (F : Fr) (H0 : Hp) : S → V → Prop
  | .sh d, v => Rp K H0 d v
  | .tk, v => v = .ref F.st
  | _, _ => False
def ArgL (K : PySem.W.Frag) (F : Fr) (H0 : Hp) : List S → List V → Prop
  | [], vs => vs = []
  | d :: ds, vs => ∃ v r, vs = v :: r ∧ ArgR K F H0 d v ∧ ArgL K F H0 ds r
abbrev EA := List S → (List S → Bool) → Bool
def tA (K : PySem.W.Frag) (n : Nat) (f : EA) : TA := fun σ H Q => ∃ F H0 env k, StR K F H0 σ H env ∧ f env k = true ∧
  ∀ vs ds H0' H', k ds = true → StR K F H0' σ H' env → ArgL K F H0' ds vs → ds.length = n → Grow F H0 H H0' H' → Q vs H'

section
variable {K : PySem.W.Frag} {F : Fr} {H0 H H0' H' : Hp} {σ : L2.St} {env : List S}
theorem VwL.mono (g : Grow F H0 H H0' H') : ∀ {ds : List D} {vs : List V}, VwL K F H0 H ds vs → VwL K F H0' H' ds vs
  | [], _, h => h
  | d :: ds, vs, h => by
    obtain ⟨v, r, e1, h1, h2⟩ := h
    exact ⟨v, r, e1, Vw.mono g h1, VwL.mono g h2⟩
theorem ArgL.mono (e : Ex H0 H0') : ∀ {ds : List S} {vs : List V}, ArgL K F H0 ds vs → ArgL K F H0' ds vs
  | [], _, h => h
  | d :: ds, vs, h => by
    obtain ⟨v, r, e1, h1, h2⟩ := h
    refine ⟨v, r, e1, ?_, ArgL.mono e h2⟩
    cases d with
    | sh d => exact Rp.mono e d v h1
    | tk => exact h1
    | un => exact h1
    | ow ds => exact h1
theorem ArgL.length : ∀ {ds : List S} {vs : List V}, ArgL K F H0 ds vs → vs.length = ds.length
  | [], _, h => by cases h; rfl
  | d :: ds, vs, h => by
    obtain ⟨v, r, e1, h1, h2⟩ := h
    subst e1
    rw [List.length_cons, List.length_cons, ArgL.length h2]
end

/-! ### names -/
def sat : List S → Nat → S
  | [], _ => .un
  | s :: _, 0 => s
  | _ :: r, n + 1 => sat r n
theorem sat_some : ∀ {env : List S} {i : Nat} {s : S}, sat env i = s → s ≠ .un → env[i]? = some s
  | [], _, _, h, n => absurd h.symm n
  | s :: _, 0, _, h, _ => by rw [← h]; rfl
  | _ :: r, i + 1, _, h, n => by
    rw [List.getElem?_cons_succ]
    exact sat_some (env := r) h n
/-- a name looked at | taken as data | taken as it is -/
def vN (i : Nat) : ED := fun env k => match sat env i with
  | .sh d => k d
  | .ow ds => k (.list ds)
  | _ => false
def dN (i : Nat) : ED := fun env k => match sat env i with
  | .sh d => k d
  | _ => false
def sN (i : Nat) : ES := fun env k => match sat env i with
  | .sh d => k (.sh d)
  | .tk => k .tk
  | _ => false
section
variable {X : Cx} {e a b : Expr} {pos : Pos}
theorem sv_n (i : Nat) {x : Str} (h : PE X (.Name x pos) (tVar i)) : PE X (.Name x pos) (tV X.K (vN i)) := by
  refine PEc h fun σ H Q q => ?_
  obtain ⟨F, H0, env, k, R, hf, hq⟩ := q
  unfold vN at hf
  cases hs : sat env i with
  | un => simp only [hs] at hf; cases hf
  | tk => simp only [hs] at hf; cases hf
  | sh d =>
    simp only [hs] at hf
    obtain ⟨v, e1, e2⟩ := R.slot i _ (sat_some hs (fun z => by cases z))
    exact ⟨v, e1, hq v d H0 H hf R (.inl e2) .refl⟩
  | ow ds =>
    simp only [hs] at hf
    obtain ⟨p, vs, e1, w, e2⟩ := R.slot i _ (sat_some hs (fun z => by cases z))
    exact ⟨.ref p, e1, hq _ _ H0 H hf R (.inr ⟨p, vs, ds, rfl, rfl, w.at_, w.t, e2⟩) .refl⟩
theorem sd_n (i : Nat) {x : Str} (h : PE X (.Name x pos) (tVar i)) : PE X (.Name x pos) (tD X.K (dN i)) := by
  refine PEc h fun σ H Q q => ?_
  obtain ⟨F, H0, env, k, R, hf, hq⟩ := q
  unfold dN at hf
  cases hs : sat env i with
  | un => simp only [hs] at hf; cases hf
  | tk => simp only [hs] at hf; cases hf
  | ow ds => simp only [hs] at hf; cases hf
  | sh d =>
    simp only [hs] at hf
    obtain ⟨v, e1, e2⟩ := R.slot i _ (sat_some hs (fun z => by cases z))
    exact ⟨v, e1, hq v d H0 H hf R e2 .refl⟩
theorem ss_n (i : Nat) {x : Str} (h : PE X (.Name x pos) (tVar i)) : PE X (.Name x pos) (tS X.K (sN i)) := by
  refine PEc h fun σ H Q q => ?_
  obtain ⟨F, H0, env, k, R, hf, hq⟩ := q
  unfold sN at hf
  cases hs : sat env i with
  | un => simp only [hs] at hf; cases hf
  | ow ds => simp only [hs] at hf; cases hf
  | sh d =>
    simp only [hs] at hf
    obtain ⟨v, e1, e2⟩ := R.slot i _ (sat_some hs (fun z => by cases z))
    exact ⟨v, e1, hq v _ H0 H hf R e2 trivial .refl⟩
  | tk =>
    simp only [hs] at hf
    have e1 := R.slot i _ (sat_some hs (fun z => by cases z))
    exact ⟨.ref F.st, e1, hq _ _ H0 H hf R rfl trivial .refl⟩

/-! ### from one way of asking to another -/
def toD (f : ES) : ED := fun env k => f env fun s => match s with
  | .sh d => k d
  | .ow ds => k (.list ds)
  | _ => false
def toS (f : ED) : ES := fun env k => f env fun d => k (.sh d)
theorem sd_s {f : ES} (h : PE X e (tS X.K f)) : PE X e (tD X.K (toD f)) := by
  refine PEc h fun σ H Q q => ?_
  obtain ⟨F, H0, env, k, R, hf, hq⟩ := q
  refine ⟨F, H0, env, _, R, hf, fun v s H0' H' hk R' hv hn g => ?_⟩
  cases s with
  | un => cases hk
  | tk => cases hk
  | sh d => exact hq v d H0' H' hk R' hv g
  | ow ds =>
    obtain ⟨p, vs, e1, w, r, ne⟩ := hv
    subst e1
    obtain ⟨R2, hr⟩ := R'.freeze w r ne
    exact hq _ _ _ _ hk R2 hr (g.fz w.f (hn p rfl))
theorem sv_s {f : ES} (h : PE X e (tS X.K f)) : PE X e (tV X.K (toD f)) := by
  refine PEc h fun σ H Q q => ?_
  obtain ⟨F, H0, env, k, R, hf, hq⟩ := q
  refine ⟨F, H0, env, _, R, hf, fun v s H0' H' hk R' hv hn g => ?_⟩
  cases s with
  | un => cases hk
  | tk => cases hk
  | sh d => exact hq v d H0' H' hk R' (.inl hv) g
  | ow ds =>
    obtain ⟨p, vs, e1, w, r, ne⟩ := hv
    exact hq v _ H0' H' hk R' (.inr ⟨p, vs, ds, rfl, e1, w.at_, w.t, r⟩) g
theorem sv_d {f : ED} (h : PE X e (tD X.K f)) : PE X e (tV X.K f) := by
  refine PEc h fun σ H Q q => ?_
  obtain ⟨F, H0, env, k, R, hf, hq⟩ := q
  exact ⟨F, H0, env, k, R, hf, fun v d H0' H' hk R' hv g => hq v d H0' H' hk R' (.inl hv) g⟩
theorem ss_d {f : ED} (h : PE X e (tD X.K f)) : PE X e (tS X.K (toS f)) := by
  refine PEc h fun σ H Q q => ?_
  obtain ⟨F, H0, env, k, R, hf, hq⟩ := q
  exact ⟨F, H0, env, _, R, hf, fun v d H0' H' hk R' hv g => hq v (.sh d) H0' H' hk R' hv trivial g⟩

/-! ### constants -/
def dC (d : D) : ED := fun _ k => k d
theorem sd_c {v : V} {d : D} (h : PE X e (tC v)) (r : ∀ K H, Rp K H d v := by intro _ _; rfl) : PE X e (tD X.K (dC d)) := by
  refine PEc h fun σ H Q q => ?_
  obtain ⟨F, H0, env, k, R, hf, hq⟩ := q
  exact hq v d H0 H hf R (r _ _) .refl
theorem sd_int {i : Int} {j : Nat} : PE X (.Constant (.int i) j pos) (tD X.K (dC (.int i))) := sd_c pe_int
theorem sd_bl {i : Bool} {j : Nat} : PE X (.Constant (.bool i) j pos) (tD X.K (dC (.bool i))) := sd_c pe_bl
theorem sd_non {j : Nat} : PE X (.Constant .none j pos) (tD X.K (dC .none)) := sd_c pe_non
theorem sd_str {x : Str} {j : Nat} : PE X (.Constant (.str x) j pos) (tD X.K (dC (.str x))) := sd_c pe_str
/-- a constant of the module -/
theorem sd_glob {v : V} {d : D} (h : PE X e (tC v)) (r : ∀ H, Rp X.K H d v) : PE X e (tD X.K (dC d)) := by
  refine PEc h fun σ H Q q => ?_
  obtain ⟨F, H0, env, k, R, hf, hq⟩ := q
  exact hq v d H0 H hf R (r _) .refl

/-! ### operations of two values -/
def rD (K : PySem.W.Frag) (g : D → D → (D → Bool) → Bool) : R2 := fun x y H Q => ∃ F H0 σ env d e k, StR K F H0 σ H env ∧ Vw K F H0 H d x ∧ Vw K F H0 H e y ∧ g d e k = true ∧ PostD K F H0 σ H env k Q
def rS (K : PySem.W.Frag) (g : D → D → (S → Bool) → Bool) : R2 := fun x y H Q => ∃ F H0 σ env d e k, StR K F H0 σ H env ∧ Vw K F H0 H d x ∧ Vw K F H0 H e y ∧ g d e k = true ∧ PostS K F H0 σ H env k Q
def dOp (g : D → D → (D → Bool) → Bool) (fa fb : ED) : ED := fun env k => fa env fun d => fb env fun e => g d e k
def sOp (g : D → D → (S → Bool) → Bool) (fa fb : ED) : ES := fun env k => fa env fun d => fb env fun e => g d e k
theorem op_d {g : D → D → (D → Bool) → Bool} {fa fb : ED} (ha : PE X a (tV X.K fa)) (hb : PE X b (tV X.K fb)) {te : TE} (h : te = tOp (rD X.K g) (tV X.K fa) (tV X.K fb)) (hp : PE X e te) : PE X e (tD X.K (dOp g fa fb)) := by
  refine PEc hp fun σ H Q q => ?_
  rw [h]
  obtain ⟨F, H0, env, k, R, hf, hq⟩ := q
  refine ⟨F, H0, env, _, R, hf, fun x d H1 G1 hk R1 w1 g1 => ⟨F, H1, env, _, R1, hk, fun y z H2 G2 hk2 R2 w2 g2 => ?_⟩⟩
  exact ⟨F, H2, σ, env, d, z, k, R2, w1.mono g2, w2, hk2, fun v u H3 G3 h3 R3 w3 g3 => hq v u H3 G3 h3 R3 w3 ((g1.trans g2).trans g3)⟩
theorem op_s {g : D → D → (S → Bool) → Bool} {fa fb : ED} (ha : PE X a (tV X.K fa)) (hb : PE X b (tV X.K fb)) {te : TE} (h : te = tOp (rS X.K g) (tV X.K fa) (tV X.K fb)) (hp : PE X e te) : PE X e (tS X.K (sOp g fa fb)) := by
  refine PEc hp fun σ H Q q => ?_
  rw [h]
  obtain ⟨F, H0, env, k, R, hf, hq⟩ := q
  refine ⟨F, H0, env, _, R, hf, fun x d H1 G1 hk R1 w1 g1 => ⟨F, H1, env, _, R1, hk, fun y z H2 G2 hk2 R2 w2 g2 => ?_⟩⟩
  exact ⟨F, H2, σ, env, d, z, k, R2, w1.mono g2, w2, hk2, fun v u H3 G3 h3 R3 w3 n3 g3 => hq v u H3 G3 h3 R3 w3 (n3.back (g1.trans g2) R2) ((g1.trans g2).trans g3)⟩
theorem sd_op {op : Operator} {g : D → D → (D → Bool) → Bool} {fa fb : ED} (ho : OpR X (binaryOp op) (rD X.K g)) (ha : PE X a (tV X.K fa)) (hb : PE X b (tV X.K fb)) : PE X (.BinOp a op b pos) (tD X.K (dOp g fa fb)) := op_d ha hb rfl (pe_op ho ha hb)
theorem ss_op {op : Operator} {g : D → D → (S → Bool) → Bool} {fa fb : ED} (ho : OpR X (binaryOp op) (rS X.K g)) (ha : PE X a (tV X.K fa)) (hb : PE X b (tV X.K fb)) : PE X (.BinOp a op b pos) (tS X.K (sOp g fa fb)) := op_s ha hb rfl (pe_op ho ha hb)
theorem sd_cmp {op : CmpOp} {g : D → D → (D → Bool) → Bool} {fa fb : ED} (ho : OpR X (compareOp op) (rD X.K g)) (hm : behindInMarks op b = false) (ha : PE X a (tV X.K fa)) (hb : PE X b (tV X.K fb)) : PE X (.Compare a [op] [b] pos) (tD X.K (dOp g fa fb)) := op_d ha hb rfl (pe_cmpR ho ha hb hm)
theorem sd_ix {g : D → D → (D → Bool) → Bool} {fa fb : ED} (ho : IxR X (rD X.K g)) (ha : PE X a (tV X.K fa)) (hb : PE X b (tV X.K fb)) (hs : PlainIx b := by exact fun _ _ => rfl) : PE X (.Subscript a b pos) (tD X.K (dOp g fa fb)) := op_d ha hb rfl (pe_ix ho ha hb hs)
/-- operations of one value -/
def rD1 (K : PySem.W.Frag) (g : D → (D → Bool) → Bool) : V → Hp → VK → Prop := fun x H Q => ∃ F H0 σ env d k, StR K F H0 σ H env ∧ Vw K F H0 H d x ∧ g d k = true ∧ PostD K F H0 σ H env k Q
def dUn (g : D → (D → Bool) → Bool) (fa : ED) : ED := fun env k => fa env fun d => g d k
theorem sd_un {op : UnaryOp} {g : D → (D → Bool) → Bool} {fa : ED} (ho : UnR X (unaryOp op) (rD1 X.K g)) (ha : PE X a (tV X.K fa)) : PE X (.UnaryOp op a pos) (tD X.K (dUn g fa)) := by
  refine PEc (pe_un ho ha) fun σ H Q q => ?_
  obtain ⟨F, H0, env, k, R, hf, hq⟩ := q
  refine ⟨F, H0, env, _, R, hf, fun x d H1 G1 hk R1 w1 g1 => ?_⟩
  exact ⟨F, H1, σ, env, d, k, R1, w1, hk, fun v u H3 G3 h3 R3 w3 g3 => hq v u H3 G3 h3 R3 w3 (g1.trans g3)⟩
end

/-! ### ints: a number is reckoned before it is handed on -/
def frcN (n : Nat) (k : Nat → Bool) : Bool := Nat.rec (motive := fun _ => Bool) (k 0) (fun m _ => k (Nat.succ m)) n
theorem frcN_eq (n : Nat) (k : Nat → Bool) : frcN n k = k n := by cases n <;> rfl
def frc (i : Int) (k : Int → Bool) : Bool := match i with
  | .ofNat n => frcN n fun m => k (.ofNat m)
  | .negSucc n => frcN n fun m => k (.negSucc m)
theorem frc_eq (i : Int) (k : Int → Bool) : frc i k = k i := by
  cases i with
  | ofNat n => exact frcN_eq n fun m => k (.ofNat m)
  | negSucc n => exact frcN_eq n fun m => k (.negSucc m)

def kInt (z : Int) (k : D → Bool) : Bool := frc z fun i => k (.int i)
theorem kInt_eq (z : Int) (k : D → Bool) : kInt z k = k (.int z) := frc_eq _ _
def kBl (b : Bool) (k : D → Bool) : Bool := match b with
  | true => k (.bool true)
  | false => k (.bool false)
theorem kBl_eq (b : Bool) (k : D → Bool) : kBl b k = k (.bool b) := by cases b <;> rfl

def mulOk (i j : Int) : Bool := Nat.blt (Nat.add (Nat.log2 i.natAbs) (Nat.log2 j.natAbs)) 1000000
def gSubI : D → D → (D → Bool) → Bool
  | .int i, .int j, k => kInt (i - j) k
  | _, _, _ => false
def gMul : D → D → (D → Bool) → Bool
  | .int i, .int j, k => if mulOk i j = true then kInt (i * j) k else false
  | _, _, _ => false
def gAdd : D → D → (D → Bool) → Bool
  | .int i, .int j, k => kInt (i + j) k
  | .str x, .str y, k => if x.length + y.length ≤ 100000 then k (.str (x ++ y)) else false
  | .tuple xs, .tuple ys, k => if xs.length + ys.length ≤ 100000 then k (.tuple (xs ++ ys)) else false
  | _, _, _ => false
def gDiv : D → D → (D → Bool) → Bool
  | .int i, .int j, k => if 0 < j then (if j.natAbs.log2 < 9000 then kInt (i / j) k else false) else if j < 0 then (if j.natAbs < 1073741824 then kInt (i.fdiv j) k else false) else false
  | _, _, _ => false
def gMod : D → D → (D → Bool) → Bool
  | .int i, .int j, k => if 0 < j then kInt (i % j) k else if j < 0 then kInt (i.fmod j) k else false
  | _, _, _ => false
def gPow : D → D → (D → Bool) → Bool
  | .int i, .int j, k => if 0 ≤ j ∧ j ≤ 1000000 ∧ i.natAbs < 2 ^ 64 then kInt (i ^ j.toNat) k else false
  | _, _, _ => false
def gShl : D → D → (D → Bool) → Bool
  | .int i, .int j, k => if 0 ≤ j ∧ j ≤ 1000000 ∧ i.natAbs < 2 ^ 64 then kInt (i * 2 ^ j.toNat) k else false
  | _, _, _ => false
def gNeg : D → (D → Bool) → Bool
  | .int i, k => kInt (-i) k
  | _, _ => false
def gLt : D → D → (D → Bool) → Bool
  | .int i, .int j, k => kBl (decide (i < j)) k
  | _, _, _ => false
def gLe : D → D → (D → Bool) → Bool
  | .int i, .int j, k => kBl (decide (i ≤ j)) k
  | _, _, _ => false
def gGt : D → D → (D → Bool) → Bool
  | .int i, .int j, k => kBl (decide (j < i)) k
  | _, _, _ => false
def gGe : D → D → (D → Bool) → Bool
  | .int i, .int j, k => kBl (decide (j ≤ i)) k
  | _, _, _ => false
def gEq : D → D → (D → Bool) → Bool
  | .int i, .int j, k => kBl (decide (i = j)) k
  | d, e, k => if (SeqAt.shaped d && SeqAt.shaped e) = true then kBl (PyData.eqv d e) k else false
def gNe : D → D → (D → Bool) → Bool
  | .int i, .int j, k => kBl (!decide (i = j)) k
  | d, e, k => if (SeqAt.shaped d && SeqAt.shaped e) = true then kBl (!PyData.eqv d e) k else false
/-- x is None -/
def gIsN : D → D → (D → Bool) → Bool
  | .none, .none, k => k (.bool true)
  | .bool _, .none, k => k (.bool false)
  | .int _, .none, k => k (.bool false)
  | .str _, .none, k => k (.bool false)
  | .list _, .none, k => k (.bool false)
  | .tuple _, .none, k => k (.bool false)
  | .bool a, .bool b, k => kBl (a == b) k
  | _, _, _ => false
def gNotN : D → D → (D → Bool) → Bool
  | .none, .none, k => k (.bool false)
  | .bool _, .none, k => k (.bool true)
  | .int _, .none, k => k (.bool true)
  | .str _, .none, k => k (.bool true)
  | .list _, .none, k => k (.bool true)
  | .tuple _, .none, k => k (.bool true)
  | .bool a, .bool b, k => kBl (!(a == b)) k
  | _, _, _ => false

section
variable {X : Cx}
theorem opi {f : Value → Value → Sem Value} {r r' : R2} (h : OpR X f r) (w : ∀ x y H Q, r' x y H Q → r x y H Q) : OpR X f r' := fun pins s σ H x y v u Q I rx ry q => h pins s σ H x y v u Q I rx ry (w _ _ _ _ q)
theorem uni {f : Value → Sem Value} {r r' : V → Hp → VK → Prop} (h : UnR X f r) (w : ∀ x H Q, r' x H Q → r x H Q) : UnR X f r' := fun pins s σ H x v Q I rx q => h pins s σ H x v Q I rx (w _ _ _ q)
/-- ints in, an int or a truth value out -/
theorem ro_int {K : PySem.W.Frag} {C : Int → Int → Prop} {h : Int → Int → V} {g : D → D → (D → Bool) → Bool} (hg : ∀ d e k, g d e k = true → ∃ i j z, d = .int i ∧ e = .int j ∧ C i j ∧ k z = true ∧ (∀ K H, Rp K H z (h i j))) :
    ∀ x y H Q, rD K g x y H Q → rI C h x y H Q := fun x y H Q q => by
  obtain ⟨F, H0, σ, env, d, e, k, R, w1, w2, hk, hq⟩ := q
  obtain ⟨i, j, z, rfl, rfl, c, kz, r⟩ := hg d e k hk
  exact ⟨i, j, w1.int, w2.int, c, hq _ _ H0 H kz R (r _ _) .refl⟩
theorem ro_int0 {K : PySem.W.Frag} {h : Int → Int → V} {g : D → D → (D → Bool) → Bool} (hg : ∀ d e k, g d e k = true → ∃ i j z, d = .int i ∧ e = .int j ∧ k z = true ∧ (∀ K H, Rp K H z (h i j))) :
    ∀ x y H Q, rD K g x y H Q → rI0 h x y H Q := fun x y H Q q => by
  obtain ⟨F, H0, σ, env, d, e, k, R, w1, w2, hk, hq⟩ := q
  obtain ⟨i, j, z, rfl, rfl, kz, r⟩ := hg d e k hk
  exact ⟨i, j, w1.int, w2.int, hq _ _ H0 H kz R (r _ _) .refl⟩
theorem oSub : OpR X (binaryOp .Sub) (rD X.K gSubI) := opi op_sub (ro_int0 fun d e k h => by
  cases d <;> cases e <;> first | (cases h; done) | skip
  rename_i i j
  rw [show gSubI (.int i) (.int j) k = kInt (i - j) k from rfl, kInt_eq] at h
  exact ⟨i, j, _, rfl, rfl, h, fun _ _ => rfl⟩)
theorem oMul : OpR X (binaryOp .Mult) (rD X.K gMul) := opi op_mulW (ro_int fun d e k h => by
  cases d <;> cases e <;> first | (cases h; done) | skip
  rename_i i j
  have h : (if mulOk i j = true then kInt (i * j) k else false) = true := h
  split at h
  · rename_i c
    rw [kInt_eq] at h
    exact ⟨i, j, _, rfl, rfl, by unfold mulOk at c; exact Nat.blt_eq.mp c, h, fun _ _ => rfl⟩
  · cases h)
theorem oDiv : OpR X (binaryOp .FloorDiv) (rD X.K gDiv) := by
  refine opi (OpR.or op_fdivW op_fdivN) fun x y H Q q => ?_
  obtain ⟨F, H0, σ, env, d, e, k, R, w1, w2, h, hq⟩ := q
  cases d <;> cases e <;> first | (cases h; done) | skip
  rename_i i j
  have h : (if 0 < j then (if j.natAbs.log2 < 9000 then kInt (i / j) k else false) else if j < 0 then (if j.natAbs < 1073741824 then kInt (i.fdiv j) k else false) else false) = true := h
  split at h
  · rename_i c
    split at h
    · rename_i c2
      rw [kInt_eq] at h
      exact .inl ⟨i, j, w1.int, w2.int, ⟨c, c2⟩, hq _ _ H0 H h R rfl .refl⟩
    · cases h
  · split at h
    · rename_i c
      split at h
      · rename_i c2
        rw [kInt_eq] at h
        exact .inr ⟨i, j, w1.int, w2.int, ⟨by omega, c2⟩, hq _ _ H0 H h R rfl .refl⟩
      · cases h
    · cases h
theorem oMod : OpR X (binaryOp .Mod) (rD X.K gMod) := by
  refine opi (OpR.or op_mod op_modN) fun x y H Q q => ?_
  obtain ⟨F, H0, σ, env, d, e, k, R, w1, w2, h, hq⟩ := q
  cases d <;> cases e <;> first | (cases h; done) | skip
  rename_i i j
  have h : (if 0 < j then kInt (i % j) k else if j < 0 then kInt (i.fmod j) k else false) = true := h
  split at h
  · rename_i c
    rw [kInt_eq] at h
    exact .inl ⟨i, j, w1.int, w2.int, c, hq _ _ H0 H h R rfl .refl⟩
  · split at h
    · rename_i c
      rw [kInt_eq] at h
      exact .inr ⟨i, j, w1.int, w2.int, (by omega : j ≠ 0), hq _ _ H0 H h R rfl .refl⟩
    · cases h
theorem oPow : OpR X (binaryOp .Pow) (rD X.K gPow) := opi op_pow (ro_int fun d e k h => by
  cases d <;> cases e <;> first | (cases h; done) | skip
  rename_i i j
  have h : (if 0 ≤ j ∧ j ≤ 1000000 ∧ i.natAbs < 2 ^ 64 then kInt (i ^ j.toNat) k else false) = true := h
  split at h
  · rename_i c
    rw [kInt_eq] at h
    exact ⟨i, j, _, rfl, rfl, c, h, fun _ _ => rfl⟩
  · cases h)
theorem oShl : OpR X (binaryOp .LShift) (rD X.K gShl) := opi op_shl (ro_int fun d e k h => by
  cases d <;> cases e <;> first | (cases h; done) | skip
  rename_i i j
  have h : (if 0 ≤ j ∧ j ≤ 1000000 ∧ i.natAbs < 2 ^ 64 then kInt (i * 2 ^ j.toNat) k else false) = true := h
  split at h
  · rename_i c
    rw [kInt_eq] at h
    exact ⟨i, j, _, rfl, rfl, c, h, fun _ _ => rfl⟩
  · cases h)
theorem oNeg : UnR X (unaryOp .USub) (rD1 X.K gNeg) := uni un_neg fun x H Q q => by
  obtain ⟨F, H0, σ, env, d, k, R, w1, h, hq⟩ := q
  cases d <;> first | (cases h; done) | skip
  rename_i i
  rw [show gNeg (.int i) k = kInt (-i) k from rfl, kInt_eq] at h
  exact ⟨i, w1.int, hq _ _ H0 H h R rfl .refl⟩
theorem oLt : OpR X (compareOp .Lt) (rD X.K gLt) := opi op_lt (ro_int0 fun d e k h => by
  cases d <;> cases e <;> first | (cases h; done) | skip
  rename_i i j
  rw [show gLt (.int i) (.int j) k = kBl (decide (i < j)) k from rfl, kBl_eq] at h
  exact ⟨i, j, _, rfl, rfl, h, fun _ _ => rfl⟩)
theorem oLe : OpR X (compareOp .LtE) (rD X.K gLe) := opi op_le (ro_int0 fun d e k h => by
  cases d <;> cases e <;> first | (cases h; done) | skip
  rename_i i j
  rw [show gLe (.int i) (.int j) k = kBl (decide (i ≤ j)) k from rfl, kBl_eq] at h
  exact ⟨i, j, _, rfl, rfl, h, fun _ _ => rfl⟩)
theorem oGt : OpR X (compareOp .Gt) (rD X.K gGt) := opi op_gt (ro_int0 fun d e k h => by
  cases d <;> cases e <;> first | (cases h; done) | skip
  rename_i i j
  rw [show gGt (.int i) (.int j) k = kBl (decide (j < i)) k from rfl, kBl_eq] at h
  exact ⟨i, j, _, rfl, rfl, h, fun _ _ => rfl⟩)
theorem oGe : OpR X (compareOp .GtE) (rD X.K gGe) := opi op_ge (ro_int0 fun d e k h => by
  cases d <;> cases e <;> first | (cases h; done) | skip
  rename_i i j
  rw [show gGe (.int i) (.int j) k = kBl (decide (j ≤ i)) k from rfl, kBl_eq] at h
  exact ⟨i, j, _, rfl, rfl, h, fun _ _ => rfl⟩)
theorem gEq_cases {d e : D} {k : D → Bool} (h : gEq d e k = true) : (∃ i j, d = .int i ∧ e = .int j ∧ k (.bool (decide (i = j))) = true) ∨ (SeqAt.shaped d = true ∧ SeqAt.shaped e = true ∧ k (.bool (PyData.eqv d e)) = true) := by
  unfold gEq at h
  split at h
  · rw [kBl_eq] at h; exact .inl ⟨_, _, rfl, rfl, h⟩
  · split at h
    · rename_i c
      rw [kBl_eq] at h
      rw [Bool.and_eq_true] at c
      exact .inr ⟨c.1, c.2, h⟩
    · cases h
theorem gNe_cases {d e : D} {k : D → Bool} (h : gNe d e k = true) : (∃ i j, d = .int i ∧ e = .int j ∧ k (.bool (!decide (i = j))) = true) ∨ (SeqAt.shaped d = true ∧ SeqAt.shaped e = true ∧ k (.bool (!PyData.eqv d e)) = true) := by
  unfold gNe at h
  split at h
  · rw [kBl_eq] at h; exact .inl ⟨_, _, rfl, rfl, h⟩
  · split at h
    · rename_i c
      rw [kBl_eq] at h
      rw [Bool.and_eq_true] at c
      exact .inr ⟨c.1, c.2, h⟩
    · cases h
theorem oEq (hu : X.A.units + 64 < cLine) : OpR X (compareOp .Eq) (rD X.K gEq) := by
  refine opi (OpR.or op_eq (op_eqD hu)) fun x y H Q q => ?_
  obtain ⟨F, H0, σ, env, d, e, k, R, w1, w2, h, hq⟩ := q
  rcases gEq_cases h with ⟨i, j, rfl, rfl, h'⟩ | ⟨s1, s2, h⟩
  · refine .inl ?_
    rw [w1.int, w2.int]
    have e : (.bl (decide (V.int i = V.int j)) : V) = .bl (decide (i = j)) := by
      by_cases c : i = j
      · subst c; simp
      · rw [decide_eq_false c, decide_eq_false (fun z => c (V.int.inj z))]
    exact ⟨rfl, by rw [e]; exact hq _ _ H0 H h' R rfl .refl⟩
  · exact .inr ⟨d, e, Rp.dp _ _ (w1.rp R), Rp.dp _ _ (w2.rp R), s1, s2, hq _ _ H0 H h R rfl .refl⟩
theorem oNe (hu : X.A.units + 64 < cLine) : OpR X (compareOp .NotEq) (rD X.K gNe) := by
  refine opi (OpR.or op_ne (op_neD hu)) fun x y H Q q => ?_
  obtain ⟨F, H0, σ, env, d, e, k, R, w1, w2, h, hq⟩ := q
  rcases gNe_cases h with ⟨i, j, rfl, rfl, h'⟩ | ⟨s1, s2, h⟩
  · refine .inl ?_
    rw [w1.int, w2.int]
    have e : (.bl (!decide (V.int i = V.int j)) : V) = .bl (!decide (i = j)) := by
      by_cases c : i = j
      · subst c; simp
      · rw [decide_eq_false c, decide_eq_false (fun z => c (V.int.inj z))]
    exact ⟨rfl, by rw [e]; exact hq _ _ H0 H h' R rfl .refl⟩
  · exact .inr ⟨d, e, Rp.dp _ _ (w1.rp R), Rp.dp _ _ (w2.rp R), s1, s2, hq _ _ H0 H h R rfl .refl⟩
theorem Vw.notNone {K : PySem.W.Frag} {F : Fr} {H0 H : Hp} {d : D} {v : V} (h : Vw K F H0 H d v) (n : d ≠ .none) : v ≠ .non := by
  rcases h with h | ⟨p, vs, ds, e1, e2, _⟩
  · cases d with
    | none => exact absurd rfl n
    | bool b => intro z; rw [h] at z; cases z
    | int i => intro z; rw [h] at z; cases z
    | str x => intro z; rw [h] at z; cases z
    | list ds => obtain ⟨a, xs, e1, _⟩ := h; intro z; rw [e1] at z; cases z
    | tuple ds => obtain ⟨a, xs, e1, _⟩ := h; intro z; rw [e1] at z; cases z
    | dict kvs => exact h.elim
  · intro z; rw [e2] at z; cases z
theorem oIsN : OpR X (compareOp .Is) (rD X.K gIsN) := by
  refine opi (OpR.or op_isN op_is_bl) fun x y H Q q => ?_
  obtain ⟨F, H0, σ, env, d, e, k, R, w1, w2, h, hq⟩ := q
  cases e <;> first | (cases d <;> (cases h; done)) | skip
  · refine .inl ⟨w2.none, ?_⟩
    cases d with
    | none => rw [w1.none]; exact hq _ _ H0 H h R rfl .refl
    | dict _ => cases h
    | bool b => rw [decide_eq_false (w1.notNone (fun z => by cases z))]; exact hq _ _ H0 H h R rfl .refl
    | int b => rw [decide_eq_false (w1.notNone (fun z => by cases z))]; exact hq _ _ H0 H h R rfl .refl
    | str b => rw [decide_eq_false (w1.notNone (fun z => by cases z))]; exact hq _ _ H0 H h R rfl .refl
    | list b => rw [decide_eq_false (w1.notNone (fun z => by cases z))]; exact hq _ _ H0 H h R rfl .refl
    | tuple b => rw [decide_eq_false (w1.notNone (fun z => by cases z))]; exact hq _ _ H0 H h R rfl .refl
  · rename_i b
    cases d <;> first | (cases h; done) | skip
    rename_i a
    have h : kBl (a == b) k = true := h
    rw [kBl_eq] at h
    refine .inr ⟨a, b, w1.bool, w2.bool, ?_⟩
    have e : decide (a = b) = (a == b) := by cases a <;> cases b <;> rfl
    rw [e]
    exact hq _ _ H0 H h R rfl .refl
theorem oNotN : OpR X (compareOp .IsNot) (rD X.K gNotN) := by
  refine opi (OpR.or op_notN op_isnot_bl) fun x y H Q q => ?_
  obtain ⟨F, H0, σ, env, d, e, k, R, w1, w2, h, hq⟩ := q
  cases e <;> first | (cases d <;> (cases h; done)) | skip
  · refine .inl ⟨w2.none, ?_⟩
    cases d with
    | none => rw [w1.none]; exact hq _ _ H0 H h R rfl .refl
    | dict _ => cases h
    | bool b => rw [decide_eq_false (w1.notNone (fun z => by cases z))]; exact hq _ _ H0 H h R rfl .refl
    | int b => rw [decide_eq_false (w1.notNone (fun z => by cases z))]; exact hq _ _ H0 H h R rfl .refl
    | str b => rw [decide_eq_false (w1.notNone (fun z => by cases z))]; exact hq _ _ H0 H h R rfl .refl
    | list b => rw [decide_eq_false (w1.notNone (fun z => by cases z))]; exact hq _ _ H0 H h R rfl .refl
    | tuple b => rw [decide_eq_false (w1.notNone (fun z => by cases z))]; exact hq _ _ H0 H h R rfl .refl
  · rename_i b
    cases d <;> first | (cases h; done) | skip
    rename_i a
    have h : kBl (!(a == b)) k = true := h
    rw [kBl_eq] at h
    refine .inr ⟨a, b, w1.bool, w2.bool, ?_⟩
    have e : (!decide (a = b)) = (!(a == b)) := by cases a <;> cases b <;> rfl
    rw [e]
    exact hq _ _ H0 H h R rfl .refl
end
end Orn

set_option Elab.async false
set_option linter.all false
set_option maxRecDepth 100000
set_option maxHeartbeats 4000000
namespace Orn
open PySem PySem.Spec L2

section
variable {K : PySem.W.Frag} {F : Fr} {H0 H H0' H' : Hp} {σ : L2.St} {env : List S}
/-- a new tuple of what is frozen -/
theorem new_tup {k : D → Bool} {Q : VK} {ds : List D} {vs : List V} (R : StR K F H0 σ H env) (hq : PostD K F H0 σ H env k Q) (r : RpL K H0 ds vs) (hk : k (.tuple ds) = true) : ∀ p, H p = none → Q (.ref p) (upd H p (.tup vs)) := fun p hp =>
  hq _ _ _ _ hk (R.new hp) ⟨p, vs, rfl, SqT.of upd_same, RpL.mono (Ex.new (R.ex.free hp)) ds vs r⟩ (Grow.new R hp)
/-- a new list of what is frozen -/
theorem new_lst {k : S → Bool} {Q : VK} {ds : List D} {vs : List V} (R : StR K F H0 σ H env) (hq : PostS K F H0 σ H env k Q) (r : RpL K H0 ds vs) (hk : k (.ow ds) = true) : ∀ p, H p = none → Q (.ref p) (upd H p (.lst vs)) := fun p hp =>
  hq _ _ _ _ hk (R.newL hp) (R.valNew hp r) (fun q e => by cases e; exact hp) (Grow.newL hp)
theorem sz5 {n : Nat} (h : n ≤ 100000) : n ≤ sizeLine := Nat.le_trans h (by decide)
theorem RpL.nil_iff {ds : List D} {vs : List V} (r : RpL K H ds vs) : vs = [] ↔ ds = [] := by
  have := r.length
  constructor
  · intro e; subst e; exact List.length_eq_zero_iff.mp this.symm
  · intro e; subst e; exact r
end

section
variable {X : Cx}
theorem oAdd : OpR X (binaryOp .Add) (rD X.K gAdd) := by
  refine opi (OpR.or op_add (OpR.or op_add_str op_catA)) fun x y H Q q => ?_
  obtain ⟨F, H0, σ, env, d, e, k, R, w1, w2, h, hq⟩ := q
  unfold gAdd at h
  split at h
  · rw [kInt_eq] at h
    exact .inl ⟨_, _, w1.int, w2.int, hq _ _ H0 H h R rfl .refl⟩
  · split at h
    · rename_i c
      exact .inr (.inl ⟨_, _, w1.str, w2.str, sz5 c, hq _ _ H0 H h R rfl .refl⟩)
    · cases h
  · split at h
    · rename_i c
      obtain ⟨a, xs, rfl, ha, ra⟩ := w1.tup
      obtain ⟨b, ys, rfl, hb, rb⟩ := w2.tup
      refine .inr (.inr ⟨a, b, xs, ys, rfl, rfl, ex_t R.ex ha, ex_t R.ex hb, by rw [ra.length, rb.length]; exact sz5 c, fun e => ?_, fun e1 e2 => ?_, fun e1 e2 => ?_⟩)
      · have := ra.nil_iff.mp e
        subst this
        rw [List.nil_append] at h
        exact hq _ _ H0 H h R ⟨b, ys, rfl, hb, rb⟩ .refl
      · have := rb.nil_iff.mp e2
        subst this
        rw [List.append_nil] at h
        exact hq _ _ H0 H h R ⟨a, xs, rfl, ha, ra⟩ .refl
      · exact new_tup R hq (ra.append rb) h
    · cases h
  · cases h
/-- lists put together: a new one -/
def gCat : D → D → (S → Bool) → Bool
  | .list xs, .list ys, k => if xs.length + ys.length ≤ 100000 then k (.ow (xs ++ ys)) else false
  | _, _, _ => false
theorem oCat : OpR X (binaryOp .Add) (rS X.K gCat) := by
  refine opi op_cat fun x y H Q q => ?_
  obtain ⟨F, H0, σ, env, d, e, k, R, w1, w2, h, hq⟩ := q
  unfold gCat at h
  split at h
  · split at h
    · rename_i c
      obtain ⟨a, xs, rfl, ha, ra⟩ := w1.lst R
      obtain ⟨b, ys, rfl, hb, rb⟩ := w2.lst R
      exact ⟨a, b, xs, ys, rfl, rfl, ha, hb, by rw [ra.length, rb.length]; exact sz5 c, new_lst R hq (ra.append rb) h⟩
    · cases h
  · cases h
theorem RpL.replicate {K : PySem.W.Frag} {H : Hp} {ds : List D} {vs : List V} (r : RpL K H ds vs) : ∀ n : Nat, RpL K H (List.replicate n ds).flatten (List.replicate n vs).flatten
  | 0 => rfl
  | n + 1 => by
    rw [List.replicate_succ, List.replicate_succ, List.flatten_cons, List.flatten_cons]
    exact r.append (RpL.replicate r n)
/-- a list many times -/
def gRep : D → D → (S → Bool) → Bool
  | .list xs, .int n, k => if -(2 ^ 63) ≤ n ∧ n < 2 ^ 63 ∧ xs.length * n.toNat ≤ 100000 then k (.ow (List.replicate n.toNat xs).flatten) else false
  | _, _, _ => false
theorem oRep : OpR X (binaryOp .Mult) (rS X.K gRep) := by
  refine opi op_rep fun x y H Q q => ?_
  obtain ⟨F, H0, σ, env, d, e, k, R, w1, w2, h, hq⟩ := q
  unfold gRep at h
  split at h
  · split at h
    · rename_i c
      obtain ⟨a, xs, rfl, ha, ra⟩ := w1.lst R
      exact ⟨a, _, xs, rfl, w2.int, ha, c.1, c.2.1, by rw [ra.length]; exact sz5 c.2.2, new_lst R hq (ra.replicate _) h⟩
    · cases h
  · cases h

/-! ### subscripts -/
/-- the place that an index means -/
def ixD (ds : List D) (i : Int) (k : D → Bool) : Bool := match atI ds i with
  | some d => k d
  | none => false
def gIx : D → D → (D → Bool) → Bool
  | .tuple ds, .int i, k => ixD ds i k
  | .list ds, .int i, k => ixD ds i k
  | .str z, .int i, k => if z.length ≤ 100000 then (match atI z.cps.toList i with
    | some c => k (.str ⟨#[c]⟩)
    | none => false) else false
  | _, _, _ => false
theorem atI_rp {K : PySem.W.Frag} {H : Hp} {ds : List D} {vs : List V} {i : Int} {d : D} (r : RpL K H ds vs) (h : atI ds i = some d) : ∃ v, atI vs i = some v ∧ Rp K H d v := by
  unfold atI at h ⊢
  rw [r.length]
  cases e : ixN ds.length i with
  | none => rw [e] at h; cases h
  | some j =>
    rw [e] at h
    exact r.get h
theorem oIx : IxR X (rD X.K gIx) := by
  intro value slice pins s σ H x y v u Q I rx ry q hs
  refine ix_seq value slice pins s σ H x y v u Q I rx ry ?_ hs
  obtain ⟨F, H0, σ, env, d, e, k, R, w1, w2, h, hq⟩ := q
  unfold gIx at h
  split at h
  · unfold ixD at h
    split at h
    · rename_i z e
      obtain ⟨a, xs, rfl, ha, ra⟩ := w1.tup
      obtain ⟨w, hw, rw'⟩ := atI_rp ra e
      exact .inr (.inl ⟨a, xs, _, w, rfl, w2.int, ex_t R.ex ha, hw, hq _ _ H0 H h R rw' .refl⟩)
    · cases h
  · unfold ixD at h
    split at h
    · rename_i z e
      obtain ⟨a, xs, rfl, ha, ra⟩ := w1.lst R
      obtain ⟨w, hw, rw'⟩ := atI_rp ra e
      exact .inl ⟨a, xs, _, w, rfl, w2.int, SqL.of ha, hw, hq _ _ H0 H h R rw' .refl⟩
    · cases h
  · split at h
    · rename_i c
      split at h
      · rename_i z e
        exact .inr (.inr ⟨_, _, z, w1.str, w2.int, sz5 c, e, hq _ _ H0 H h R rfl .refl⟩)
      · cases h
    · cases h
  · cases h

end

/-! ### displays -/
def dNil : EL := fun _ k => k []
def dCons (fa : ED) (fr : EL) : EL := fun env k => fa env fun d => fr env fun ds => k (d :: ds)
def wNil : EL := fun _ k => k []
def wCons (fa : ED) (fr : EL) : EL := fun env k => fa env fun d => fr env fun ds => k (d :: ds)
def aNil : EA := fun _ k => k []
def aCons (fa : ES) (fr : EA) : EA := fun env k => fa env fun d => fr env fun ds => k (d :: ds)
def dTup (fl : EL) : ED := fun env k => fl env fun ds => k (.tuple ds)
def sLst (fl : EL) : ES := fun env k => fl env fun ds => k (.ow ds)
section
variable {X : Cx} {e : Expr} {es : List Expr} {pos : Pos} {n : Nat}
theorem dl_nil : PA X [] (tL X.K 0 dNil) := PAc pa_nil fun σ H Q q => by
  obtain ⟨F, H0, env, k, R, hf, hq⟩ := q
  exact hq [] [] H0 H hf R rfl rfl .refl
theorem dl_cons {fa : ED} {fr : EL} (ha : PE X e (tD X.K fa)) (hr : PA X es (tL X.K n fr)) (hs : starEach (e :: es) X.env = (false, eval e X.env) :: starEach es X.env := by exact rfl) : PA X (e :: es) (tL X.K (n + 1) (dCons fa fr)) :=
  PAc (pa_cons ha hr hs) fun σ H Q q => by
    obtain ⟨F, H0, env, k, R, hf, hq⟩ := q
    refine ⟨F, H0, env, _, R, hf, fun v d H1 G1 hk R1 r1 g1 => ⟨F, H1, env, _, R1, hk, fun vs ds H2 G2 hk2 R2 r2 hn g2 => ?_⟩⟩
    exact hq (v :: vs) (d :: ds) H2 G2 hk2 R2 ⟨v, vs, rfl, Rp.mono g2.e0 d v r1, r2⟩ (by rw [List.length_cons, hn]) (g1.trans g2)
theorem wl_nil : PA X [] (tW X.K wNil) := PAc pa_nil fun σ H Q q => by
  obtain ⟨F, H0, env, k, R, hf, hq⟩ := q
  exact hq [] [] H0 H hf R rfl .refl
theorem wl_cons {fa : ED} {fr : EL} (ha : PE X e (tV X.K fa)) (hr : PA X es (tW X.K fr)) (hs : starEach (e :: es) X.env = (false, eval e X.env) :: starEach es X.env := by exact rfl) : PA X (e :: es) (tW X.K (wCons fa fr)) :=
  PAc (pa_cons ha hr hs) fun σ H Q q => by
    obtain ⟨F, H0, env, k, R, hf, hq⟩ := q
    refine ⟨F, H0, env, _, R, hf, fun v d H1 G1 hk R1 r1 g1 => ⟨F, H1, env, _, R1, hk, fun vs ds H2 G2 hk2 R2 r2 g2 => ?_⟩⟩
    exact hq (v :: vs) (d :: ds) H2 G2 hk2 R2 ⟨v, vs, rfl, r1.mono g2, r2⟩ (g1.trans g2)
theorem al_nil : PA X [] (tA X.K 0 aNil) := PAc pa_nil fun σ H Q q => by
  obtain ⟨F, H0, env, k, R, hf, hq⟩ := q
  exact hq [] [] H0 H hf R rfl rfl .refl
/-- an argument: frozen first -/
def aFz (f : ES) : ES := fun env k => f env fun s => match s with
  | .sh d => k (.sh d)
  | .ow ds => k (.sh (.list ds))
  | .tk => k .tk
  | .un => false
def tF (K : PySem.W.Frag) (f : ES) : TE := fun σ H Q => ∃ F H0 env k, StR K F H0 σ H env ∧ f env k = true ∧
  ∀ v s H0' H', k s = true → StR K F H0' σ H' env → ArgR K F H0' s v → Grow F H0 H H0' H' → Q v H'
theorem sf_s {f : ES} (h : PE X e (tS X.K f)) : PE X e (tF X.K (aFz f)) := by
  refine PEc h fun σ H Q q => ?_
  obtain ⟨F, H0, env, k, R, hf, hq⟩ := q
  refine ⟨F, H0, env, _, R, hf, fun v s H0' H' hk R' hv hn g => ?_⟩
  cases s with
  | un => cases hk
  | tk => exact hq v .tk H0' H' hk R' hv g
  | sh d => exact hq v (.sh d) H0' H' hk R' hv g
  | ow ds =>
    obtain ⟨p, vs, e1, w, r, ne⟩ := hv
    subst e1
    obtain ⟨R2, hr⟩ := R'.freeze w r ne
    exact hq _ (.sh (.list ds)) _ _ hk R2 hr (g.fz w.f (hn p rfl))
theorem sf_d {f : ED} (h : PE X e (tD X.K f)) : PE X e (tF X.K (toS f)) := by
  refine PEc h fun σ H Q q => ?_
  obtain ⟨F, H0, env, k, R, hf, hq⟩ := q
  exact ⟨F, H0, env, _, R, hf, fun v d H0' H' hk R' hv g => hq v (.sh d) H0' H' hk R' hv g⟩
theorem sf_n (i : Nat) {x : Str} (h : PE X (.Name x pos) (tVar i)) : PE X (.Name x pos) (tF X.K (sN i)) := by
  refine PEc h fun σ H Q q => ?_
  obtain ⟨F, H0, env, k, R, hf, hq⟩ := q
  unfold sN at hf
  cases hs : sat env i with
  | un => simp only [hs] at hf; cases hf
  | ow ds => simp only [hs] at hf; cases hf
  | sh d =>
    simp only [hs] at hf
    obtain ⟨v, e1, e2⟩ := R.slot i _ (sat_some hs (fun z => by cases z))
    exact ⟨v, e1, hq v _ H0 H hf R e2 .refl⟩
  | tk =>
    simp only [hs] at hf
    have e1 := R.slot i _ (sat_some hs (fun z => by cases z))
    exact ⟨.ref F.st, e1, hq _ _ H0 H hf R rfl .refl⟩
theorem al_cons {fa : ES} {fr : EA} (ha : PE X e (tF X.K fa)) (hr : PA X es (tA X.K n fr)) (hs : starEach (e :: es) X.env = (false, eval e X.env) :: starEach es X.env := by exact rfl) : PA X (e :: es) (tA X.K (n + 1) (aCons fa fr)) :=
  PAc (pa_cons ha hr hs) fun σ H Q q => by
    obtain ⟨F, H0, env, k, R, hf, hq⟩ := q
    refine ⟨F, H0, env, _, R, hf, fun v d H1 G1 hk R1 r1 g1 => ⟨F, H1, env, _, R1, hk, fun vs ds H2 G2 hk2 R2 r2 hn g2 => ?_⟩⟩
    have r3 : ArgR X.K F H2 d v := by
      cases d with
      | sh d => exact Rp.mono g2.e0 d v r1
      | tk => exact r1
      | un => exact r1
      | ow ds => exact r1
    exact hq (v :: vs) (d :: ds) H2 G2 hk2 R2 ⟨v, vs, rfl, r3, r2⟩ (by rw [List.length_cons, hn]) (g1.trans g2)
theorem sd_tup {c : Nat} {fl : EL} (h : PA X es (tL X.K n fl)) (hn : n ≤ 1000 := by decide) : PE X (.Tuple es c pos) (tD X.K (dTup fl)) := by
  refine PEc (pe_tup h) fun σ H Q q => ?_
  obtain ⟨F, H0, env, k, R, hf, hq⟩ := q
  refine ⟨F, H0, env, _, R, hf, fun vs ds H1 G1 hk R1 r1 hl g1 => ⟨by rw [r1.length, hl]; exact sz5 (by omega), ?_⟩⟩
  exact new_tup R1 (fun v d H2 G2 h2 R2 r2 g2 => hq v d H2 G2 h2 R2 r2 (g1.trans g2)) r1 hk
theorem ss_lst {fl : EL} (h : PA X es (tL X.K n fl)) (hn : n ≤ 1000 := by decide) : PE X (.List es pos) (tS X.K (sLst fl)) := by
  refine PEc (pe_lst h) fun σ H Q q => ?_
  obtain ⟨F, H0, env, k, R, hf, hq⟩ := q
  refine ⟨F, H0, env, _, R, hf, fun vs ds H1 G1 hk R1 r1 hl g1 => ⟨by rw [r1.length, hl]; exact sz5 (by omega), ?_⟩⟩
  exact new_lst R1 (fun v d H2 G2 h2 R2 r2 n2 g2 => hq v d H2 G2 h2 R2 r2 (n2.back g1 R1) (g1.trans g2)) r1 hk
end

/-! ### calls of built-in functions, by values that are looked at -/
def rLD (K : PySem.W.Frag) (g : List D → (D → Bool) → Bool) : List V → Hp → VK → Prop := fun xs H Q => ∃ F H0 σ env ds k, StR K F H0 σ H env ∧ VwL K F H0 H ds xs ∧ g ds k = true ∧ PostD K F H0 σ H env k Q
def rLS (K : PySem.W.Frag) (g : List D → (S → Bool) → Bool) : List V → Hp → VK → Prop := fun xs H Q => ∃ F H0 σ env ds k, StR K F H0 σ H env ∧ VwL K F H0 H ds xs ∧ g ds k = true ∧ PostS K F H0 σ H env k Q
def dCall (g : List D → (D → Bool) → Bool) (fl : EL) : ED := fun env k => fl env fun ds => g ds k
def sCall (g : List D → (S → Bool) → Bool) (fl : EL) : ES := fun env k => fl env fun ds => g ds k
section
variable {X : Cx} {e : Expr} {es : List Expr} {pos p : Pos} {x : Str} {id T : String}
theorem cb_d {g : List D → (D → Bool) → Bool} {fl : EL} {ex : Expr} (h : PE X ex (tCB (rLD X.K g) (tW X.K fl))) : PE X ex (tD X.K (dCall g fl)) := by
  refine PEc h fun σ H Q q => ?_
  obtain ⟨F, H0, env, k, R, hf, hq⟩ := q
  refine ⟨F, H0, env, _, R, hf, fun vs ds H1 G1 hk R1 r1 g1 => ?_⟩
  exact ⟨F, H1, σ, env, ds, k, R1, r1, hk, fun v d H2 G2 h2 R2 r2 g2 => hq v d H2 G2 h2 R2 r2 (g1.trans g2)⟩
theorem cb_s {g : List D → (S → Bool) → Bool} {fl : EL} {ex : Expr} (h : PE X ex (tCB (rLS X.K g) (tW X.K fl))) : PE X ex (tS X.K (sCall g fl)) := by
  refine PEc h fun σ H Q q => ?_
  obtain ⟨F, H0, env, k, R, hf, hq⟩ := q
  refine ⟨F, H0, env, _, R, hf, fun vs ds H1 G1 hk R1 r1 g1 => ?_⟩
  exact ⟨F, H1, σ, env, ds, k, R1, r1, hk, fun v d H2 G2 h2 R2 r2 n2 g2 => hq v d H2 G2 h2 R2 r2 (n2.back g1 R1) (g1.trans g2)⟩
theorem cri {f : Value} {r r' : List V → Hp → VK → Prop} (h : CallR X f r) (w : ∀ xs H Q, r' xs H Q → r xs H Q) : CallR X f r' := fun pins s σ H xs us Q I rv q => h pins s σ H xs us Q I rv (w _ _ _ q)
theorem cro {f : Value} {r r' : List V → Hp → VK → Prop} (h : CallR X f r) (h' : CallR X f r') : CallR X f (fun xs H Q => r xs H Q ∨ r' xs H Q) := fun pins s σ H xs us Q I rv q => q.elim (h pins s σ H xs us Q I rv) (h' pins s σ H xs us Q I rv)
end
def gLen : List D → (D → Bool) → Bool
  | [.list ds], k => kInt (ds.length : Int) k
  | [.tuple ds], k => kInt (ds.length : Int) k
  | [.str z], k => if z.length ≤ 100000 then kInt (z.length : Int) k else false
  | _, _ => false
def gAbs : List D → (D → Bool) → Bool
  | [.int i], k => kInt (if i < 0 then -i else i) k
  | _, _ => false
def gInt : List D → (D → Bool) → Bool
  | [.int i], k => k (.int i)
  | [.bool b], k => k (.int (if b then 1 else 0))
  | _, _ => false
def gGcd : List D → (D → Bool) → Bool
  | [.int i, .int j], k => kInt ((Nat.gcd i.natAbs j.natAbs : Nat) : Int) k
  | _, _ => false
def gMax2 : List D → (D → Bool) → Bool
  | [.int i, .int j], k => kInt (if j > i then j else i) k
  | _, _ => false
def gMin2 : List D → (D → Bool) → Bool
  | [.int i, .int j], k => kInt (if j < i then j else i) k
  | _, _ => false
/-- ints in a row -/
def asInts : List D → (List Int → Bool) → Bool
  | [], k => k []
  | .int i :: r, k => asInts r fun is => k (i :: is)
  | _ :: _, _ => false
theorem asInts_eq : ∀ {ds : List D} {k : List Int → Bool}, asInts ds k = true → ∃ ns : List Int, ds = ns.map PyData.int ∧ k ns = true
  | [], k, h => ⟨[], rfl, h⟩
  | d :: r, k, h => by
    cases d <;> first | (cases h; done) | skip
    rename_i i
    obtain ⟨ns, e, h⟩ := asInts_eq (ds := r) h
    exact ⟨i :: ns, by rw [e]; rfl, h⟩
theorem asInts_map (ns : List Int) (k : List Int → Bool) : asInts (ns.map PyData.int) k = k ns := by
  induction ns generalizing k with
  | nil => rfl
  | cons n ns ih => exact ih fun is => k (n :: is)
def sumI : List Int → Int → (Int → Bool) → Bool
  | [], a, k => k a
  | i :: r, a, k => frc (a + i) fun b => sumI r b k
theorem sumI_eq : ∀ (ns : List Int) (a : Int) (k : Int → Bool), sumI ns a k = k (a + ns.sum)
  | [], a, k => by simp [sumI]
  | i :: r, a, k => by
    rw [sumI, frc_eq, sumI_eq r (a + i) k, List.sum_cons, Int.add_assoc]
def gSum : List D → (D → Bool) → Bool
  | [.list ds], k => asInts ds fun is => sumI is 0 fun z => k (.int z)
  | _, _ => false
def maxI : Int → List Int → Int
  | a, [] => a
  | a, i :: r => maxI (if a < i then i else a) r
def minI : Int → List Int → Int
  | a, [] => a
  | a, i :: r => minI (if i < a then i else a) r
theorem maxI_spec : ∀ (l : List Int) (a : Int), (maxI a l = a ∨ maxI a l ∈ l) ∧ a ≤ maxI a l ∧ ∀ y ∈ l, y ≤ maxI a l
  | [], a => ⟨.inl rfl, Int.le_refl _, fun y h => by cases h⟩
  | i :: r, a => by
    obtain ⟨h1, h2, h3⟩ := maxI_spec r (if a < i then i else a)
    have e : maxI a (i :: r) = maxI (if a < i then i else a) r := rfl
    rw [e]
    by_cases c : a < i
    · rw [if_pos c] at h1 h2 h3 ⊢
      refine ⟨?_, by omega, fun y hy => ?_⟩
      · rcases h1 with h | h
        · right; rw [h]; exact List.mem_cons_self
        · right; exact List.mem_cons_of_mem _ h
      · rcases List.mem_cons.mp hy with z | z
        · subst z; exact h2
        · exact h3 y z
    · rw [if_neg c] at h1 h2 h3 ⊢
      refine ⟨?_, h2, fun y hy => ?_⟩
      · rcases h1 with h | h
        · left; exact h
        · right; exact List.mem_cons_of_mem _ h
      · rcases List.mem_cons.mp hy with z | z
        · subst z; omega
        · exact h3 y z
theorem minI_spec : ∀ (l : List Int) (a : Int), (minI a l = a ∨ minI a l ∈ l) ∧ minI a l ≤ a ∧ ∀ y ∈ l, minI a l ≤ y
  | [], a => ⟨.inl rfl, Int.le_refl _, fun y h => by cases h⟩
  | i :: r, a => by
    obtain ⟨h1, h2, h3⟩ := minI_spec r (if i < a then i else a)
    have e : minI a (i :: r) = minI (if i < a then i else a) r := rfl
    rw [e]
    by_cases c : i < a
    · rw [if_pos c] at h1 h2 h3 ⊢
      refine ⟨?_, by omega, fun y hy => ?_⟩
      · rcases h1 with h | h
        · right; rw [h]; exact List.mem_cons_self
        · right; exact List.mem_cons_of_mem _ h
      · rcases List.mem_cons.mp hy with z | z
        · subst z; exact h2
        · exact h3 y z
    · rw [if_neg c] at h1 h2 h3 ⊢
      refine ⟨?_, h2, fun y hy => ?_⟩
      · rcases h1 with h | h
        · left; exact h
        · right; exact List.mem_cons_of_mem _ h
      · rcases List.mem_cons.mp hy with z | z
        · subst z; omega
        · exact h3 y z
def gMax : List D → (D → Bool) → Bool
  | [.list ds], k => asInts ds fun is => match is with
    | [] => false
    | i :: r => kInt (maxI i r) k
  | _, _ => false
def gMin : List D → (D → Bool) → Bool
  | [.list ds], k => asInts ds fun is => match is with
    | [] => false
    | i :: r => kInt (minI i r) k
  | _, _ => false
def asBools : List D → (List Bool → Bool) → Bool
  | [], k => k []
  | .bool b :: r, k => asBools r fun bs => k (b :: bs)
  | _ :: _, _ => false
theorem asBools_eq : ∀ {ds : List D} {k : List Bool → Bool}, asBools ds k = true → ∃ bs : List Bool, ds = bs.map PyData.bool ∧ k bs = true
  | [], k, h => ⟨[], rfl, h⟩
  | d :: r, k, h => by
    cases d <;> first | (cases h; done) | skip
    rename_i i
    obtain ⟨ns, e, h⟩ := asBools_eq (ds := r) h
    exact ⟨i :: ns, by rw [e]; rfl, h⟩
def gAll : List D → (D → Bool) → Bool
  | [.list ds], k => asBools ds fun bs => kBl (bs.all id) k
  | _, _ => false
def gAny : List D → (D → Bool) → Bool
  | [.list ds], k => asBools ds fun bs => kBl (bs.any id) k
  | _, _ => false
/-- tuple(x): data | list(x): a new list -/
def gTuple : List D → (D → Bool) → Bool
  | [.list ds], k => k (.tuple ds)
  | [.tuple ds], k => k (.tuple ds)
  | _, _ => false
def gList : List D → (S → Bool) → Bool
  | [.list ds], k => k (.ow ds)
  | [.tuple ds], k => k (.ow ds)
  | _, _ => false
section
variable {K : PySem.W.Frag} {F : Fr} {H0 H : Hp} {σ : L2.St} {env : List S}
theorem VwL.one {d : D} {vs : List V} (h : VwL K F H0 H [d] vs) : ∃ v, vs = [v] ∧ Vw K F H0 H d v := by
  obtain ⟨v, r, e1, h1, h2⟩ := h
  cases h2
  exact ⟨v, e1, h1⟩
theorem VwL.two {d e : D} {vs : List V} (h : VwL K F H0 H [d, e] vs) : ∃ v u, vs = [v, u] ∧ Vw K F H0 H d v ∧ Vw K F H0 H e u := by
  obtain ⟨v, r, e1, h1, u, r2, e2, h2, h3⟩ := h
  cases h3
  subst e2
  exact ⟨v, u, e1, h1, h2⟩
theorem RpL.bools : ∀ {ns : List Bool} {vs : List V}, RpL K H (ns.map PyData.bool) vs → vs = ns.map V.bl
  | [], _, h => h
  | n :: ns, vs, h => by
    obtain ⟨v, r, e1, h1, h2⟩ := h
    subst e1
    have e : v = .bl n := h1
    rw [e, RpL.bools h2]
    rfl
end
section
variable {X : Cx}
theorem cLen : CallR X (.builtin "len") (rLD X.K gLen) := by
  refine cri (cro call_len_seq call_len) fun xs H Q q => ?_
  obtain ⟨F, H0, σ, env, ds, k, R, wl, h, hq⟩ := q
  unfold gLen at h
  split at h
  · obtain ⟨v, rfl, w⟩ := wl.one
    rw [kInt_eq] at h
    obtain ⟨p, vs, rfl, hp, r⟩ := w.lst R
    refine .inl ⟨p, vs, rfl, .inl (SqL.of hp), ?_⟩
    rw [r.length]
    exact hq _ _ H0 H h R rfl .refl
  · obtain ⟨v, rfl, w⟩ := wl.one
    rw [kInt_eq] at h
    obtain ⟨p, vs, rfl, hp, r⟩ := w.tup
    refine .inl ⟨p, vs, rfl, .inr (ex_t R.ex hp), ?_⟩
    rw [r.length]
    exact hq _ _ H0 H h R rfl .refl
  · split at h
    · rename_i c
      obtain ⟨v, rfl, w⟩ := wl.one
      rw [kInt_eq] at h
      rw [w.str]
      exact .inr ⟨_, _, rfl, ⟨sz5 c, rfl⟩, hq _ _ H0 H h R rfl .refl⟩
    · cases h
  · cases h
theorem cAbs : CallR X (.builtin "abs") (rLD X.K gAbs) := by
  refine cri call_abs fun xs H Q q => ?_
  obtain ⟨F, H0, σ, env, ds, k, R, wl, h, hq⟩ := q
  unfold gAbs at h
  split at h
  · obtain ⟨v, rfl, w⟩ := wl.one
    rw [kInt_eq] at h
    rw [w.int]
    exact ⟨_, rfl, hq _ _ H0 H h R rfl .refl⟩
  · cases h
theorem cInt : CallR X (.type "int") (rLD X.K gInt) := by
  refine cri call_int1 fun xs H Q q => ?_
  obtain ⟨F, H0, σ, env, ds, k, R, wl, h, hq⟩ := q
  unfold gInt at h
  split at h
  · obtain ⟨v, rfl, w⟩ := wl.one
    rw [w.int]
    exact .inl ⟨_, rfl, hq _ _ H0 H h R rfl .refl⟩
  · obtain ⟨v, rfl, w⟩ := wl.one
    rw [w.bool]
    exact .inr ⟨_, rfl, hq _ _ H0 H h R rfl .refl⟩
  · cases h
theorem cGcd : CallR X (.builtin "math.gcd") (rLD X.K gGcd) := by
  refine cri cr_gcd fun xs H Q q => ?_
  obtain ⟨F, H0, σ, env, ds, k, R, wl, h, hq⟩ := q
  unfold gGcd at h
  split at h
  · obtain ⟨v, u, rfl, w1, w2⟩ := wl.two
    rw [kInt_eq] at h
    rw [w1.int, w2.int]
    exact ⟨_, _, rfl, hq _ _ H0 H h R rfl .refl⟩
  · cases h
theorem cMax (hc : X.calm = true) : CallR X (.builtin "max") (rLD X.K gMax) := by
  refine cri (cr_max hc) fun xs H Q q => ?_
  obtain ⟨F, H0, σ, env, ds, k, R, wl, h, hq⟩ := q
  unfold gMax at h
  split at h
  · obtain ⟨v, rfl, w⟩ := wl.one
    obtain ⟨ns, rfl, h'⟩ := asInts_eq h
    obtain ⟨p, vs, rfl, hp, r⟩ := w.lst R
    rw [r.ints] at hp
    split at h'
    · cases h'
    · rename_i i l
      rw [kInt_eq] at h'
      obtain ⟨h1, h2, h3⟩ := maxI_spec l i
      refine ⟨p, _, rfl, SqL.of hp, by simp, fun m hm hle => ?_⟩
      have e : m = maxI i l := by
        have a1 : maxI i l ≤ m := hle _ (by rcases h1 with z | z; rw [z]; exact List.mem_cons_self; exact List.mem_cons_of_mem _ z)
        have a2 : m ≤ maxI i l := by
          rcases List.mem_cons.mp hm with z | z
          · subst z; exact h2
          · exact h3 m z
        omega
      rw [e]
      exact hq _ _ H0 H h' R rfl .refl
  · cases h
theorem cMin (hc : X.calm = true) : CallR X (.builtin "min") (rLD X.K gMin) := by
  refine cri (cr_min hc) fun xs H Q q => ?_
  obtain ⟨F, H0, σ, env, ds, k, R, wl, h, hq⟩ := q
  unfold gMin at h
  split at h
  · obtain ⟨v, rfl, w⟩ := wl.one
    obtain ⟨ns, rfl, h'⟩ := asInts_eq h
    obtain ⟨p, vs, rfl, hp, r⟩ := w.lst R
    rw [r.ints] at hp
    split at h'
    · cases h'
    · rename_i i l
      rw [kInt_eq] at h'
      obtain ⟨h1, h2, h3⟩ := minI_spec l i
      refine ⟨p, _, rfl, SqL.of hp, by simp, fun m hm hle => ?_⟩
      have e : m = minI i l := by
        have a1 : m ≤ minI i l := hle _ (by rcases h1 with z | z; rw [z]; exact List.mem_cons_self; exact List.mem_cons_of_mem _ z)
        have a2 : minI i l ≤ m := by
          rcases List.mem_cons.mp hm with z | z
          · subst z; exact h2
          · exact h3 m z
        omega
      rw [e]
      exact hq _ _ H0 H h' R rfl .refl
  · cases h
theorem cMax2 (hc : X.calm = true) : CallR X (.builtin "max") (rLD X.K gMax2) := by
  refine cri (call_max2 hc) fun xs H Q q => ?_
  obtain ⟨F, H0, σ, env, ds, k, R, wl, h, hq⟩ := q
  unfold gMax2 at h
  split at h
  · obtain ⟨v, u, rfl, w1, w2⟩ := wl.two
    rw [kInt_eq] at h
    rw [w1.int, w2.int]
    exact ⟨_, _, rfl, hq _ _ H0 H h R rfl .refl⟩
  · cases h
theorem cMin2 (hc : X.calm = true) : CallR X (.builtin "min") (rLD X.K gMin2) := by
  refine cri (call_min2 hc) fun xs H Q q => ?_
  obtain ⟨F, H0, σ, env, ds, k, R, wl, h, hq⟩ := q
  unfold gMin2 at h
  split at h
  · obtain ⟨v, u, rfl, w1, w2⟩ := wl.two
    rw [kInt_eq] at h
    rw [w1.int, w2.int]
    exact ⟨_, _, rfl, hq _ _ H0 H h R rfl .refl⟩
  · cases h
theorem cSum (hc : X.calm = true) : CallR X (.builtin "sum") (rLD X.K gSum) := by
  refine cri (cr_sum hc) fun xs H Q q => ?_
  obtain ⟨F, H0, σ, env, ds, k, R, wl, h, hq⟩ := q
  unfold gSum at h
  split at h
  · obtain ⟨v, rfl, w⟩ := wl.one
    obtain ⟨ns, rfl, h'⟩ := asInts_eq h
    obtain ⟨p, vs, rfl, hp, r⟩ := w.lst R
    rw [r.ints] at hp
    rw [sumI_eq, Int.zero_add] at h'
    exact ⟨p, ns, rfl, SqL.of hp, hq _ _ H0 H h' R rfl .refl⟩
  · cases h
theorem cAll (hc : X.calm = true) : CallR X (.builtin "all") (rLD X.K gAll) := by
  refine cri (cr_all hc) fun xs H Q q => ?_
  obtain ⟨F, H0, σ, env, ds, k, R, wl, h, hq⟩ := q
  unfold gAll at h
  split at h
  · obtain ⟨v, rfl, w⟩ := wl.one
    obtain ⟨ns, rfl, h'⟩ := asBools_eq h
    obtain ⟨p, vs, rfl, hp, r⟩ := w.lst R
    rw [r.bools] at hp
    rw [kBl_eq] at h'
    exact ⟨p, ns, rfl, SqL.of hp, hq _ _ H0 H h' R rfl .refl⟩
  · cases h
theorem cAny (hc : X.calm = true) : CallR X (.builtin "any") (rLD X.K gAny) := by
  refine cri (cr_any hc) fun xs H Q q => ?_
  obtain ⟨F, H0, σ, env, ds, k, R, wl, h, hq⟩ := q
  unfold gAny at h
  split at h
  · obtain ⟨v, rfl, w⟩ := wl.one
    obtain ⟨ns, rfl, h'⟩ := asBools_eq h
    obtain ⟨p, vs, rfl, hp, r⟩ := w.lst R
    rw [r.bools] at hp
    rw [kBl_eq] at h'
    exact ⟨p, ns, rfl, SqL.of hp, hq _ _ H0 H h' R rfl .refl⟩
  · cases h
theorem cTuple : CallR X (.type "tuple") (rLD X.K gTuple) := by
  refine cri call_tuple_of fun xs H Q q => ?_
  obtain ⟨F, H0, σ, env, ds, k, R, wl, h, hq⟩ := q
  unfold gTuple at h
  split at h
  · obtain ⟨v, rfl, w⟩ := wl.one
    obtain ⟨p, vs, rfl, hp, r⟩ := w.lst R
    exact ⟨p, vs, rfl, .inl ⟨SqL.of hp, new_tup R hq r h⟩⟩
  · obtain ⟨v, rfl, w⟩ := wl.one
    obtain ⟨p, vs, rfl, hp, r⟩ := w.tup
    exact ⟨p, vs, rfl, .inr ⟨ex_t R.ex hp, hq _ _ H0 H h R ⟨p, vs, rfl, hp, r⟩ .refl⟩⟩
  · cases h
theorem cList : CallR X (.type "list") (rLS X.K gList) := by
  refine cri call_list_of fun xs H Q q => ?_
  obtain ⟨F, H0, σ, env, ds, k, R, wl, h, hq⟩ := q
  unfold gList at h
  split at h
  · obtain ⟨v, rfl, w⟩ := wl.one
    obtain ⟨p, vs, rfl, hp, r⟩ := w.lst R
    exact ⟨p, vs, rfl, .inl (SqL.of hp), new_lst R hq r h⟩
  · obtain ⟨v, rfl, w⟩ := wl.one
    obtain ⟨p, vs, rfl, hp, r⟩ := w.tup
    exact ⟨p, vs, rfl, .inr (ex_t R.ex hp), new_lst R hq r h⟩
  · cases h
end
/-! ### in -/
def gIn : D → D → (D → Bool) → Bool
  | d, .tuple ds, k => if (SeqAt.shaped d && SeqAt.shaped (.tuple ds)) = true then kBl (ds.any fun z => PyData.eqv z d) k else false
  | d, .list ds, k => if (SeqAt.shaped d && SeqAt.shaped (.list ds)) = true then kBl (ds.any fun z => PyData.eqv z d) k else false
  | _, _, _ => false
def gNin : D → D → (D → Bool) → Bool
  | d, .tuple ds, k => if (SeqAt.shaped d && SeqAt.shaped (.tuple ds)) = true then kBl (!ds.any fun z => PyData.eqv z d) k else false
  | d, .list ds, k => if (SeqAt.shaped d && SeqAt.shaped (.list ds)) = true then kBl (!ds.any fun z => PyData.eqv z d) k else false
  | _, _, _ => false
def rInT (K : PySem.W.Frag) : R2 := fun x y H Q => ∃ d ds, Dp K H x d ∧ Dp K H y (.tuple ds) ∧ SeqAt.shaped d = true ∧ SeqAt.shaped (.tuple ds) = true ∧ Q (.bl (ds.any fun z => PyData.eqv z d)) H
def rNinT (K : PySem.W.Frag) : R2 := fun x y H Q => ∃ d ds, Dp K H x d ∧ Dp K H y (.tuple ds) ∧ SeqAt.shaped d = true ∧ SeqAt.shaped (.tuple ds) = true ∧ Q (.bl (!ds.any fun z => PyData.eqv z d)) H
section
variable {X : Cx}
theorem op_inT (hu : X.A.units + 65 < cLine) : OpR X (compareOp .In) (rInT X.K) := by
  intro pins s σ H x y v u Q I rx ry h
  obtain ⟨d, ds, hd, he, sd, se, q⟩ := h
  obtain ⟨as, r1⟩ := Dp.reads I d x v hd rx
  obtain ⟨bs, r2⟩ := Dp.reads I (.tuple ds) y u he ry
  exact SeqAt.in_tuple_reads r2 r1 (SeqAt.canLay_of_shaped se) (SeqAt.canLay_of_shaped sd) (PyProof.Rows.room_in_shaped sd hu) ⟨.bl _, H, I, rfl, q⟩
theorem op_ninT (hu : X.A.units + 65 < cLine) : OpR X (compareOp .NotIn) (rNinT X.K) := by
  intro pins s σ H x y v u Q I rx ry h
  obtain ⟨d, ds, hd, he, sd, se, q⟩ := h
  obtain ⟨as, r1⟩ := Dp.reads I d x v hd rx
  obtain ⟨bs, r2⟩ := Dp.reads I (.tuple ds) y u he ry
  exact SeqAt.notIn_tuple_reads r2 r1 (SeqAt.canLay_of_shaped se) (SeqAt.canLay_of_shaped sd) (PyProof.Rows.room_in_shaped sd hu) ⟨.bl _, H, I, rfl, q⟩
theorem gIn_cases {d e : D} {k : D → Bool} (h : gIn d e k = true) : ∃ ds, (e = .tuple ds ∨ e = .list ds) ∧ SeqAt.shaped d = true ∧ SeqAt.shaped e = true ∧ k (.bool (ds.any fun z => PyData.eqv z d)) = true := by
  unfold gIn at h
  split at h
  · split at h
    · rename_i c
      rw [kBl_eq] at h
      rw [Bool.and_eq_true] at c
      exact ⟨_, .inl rfl, c.1, c.2, h⟩
    · cases h
  · split at h
    · rename_i c
      rw [kBl_eq] at h
      rw [Bool.and_eq_true] at c
      exact ⟨_, .inr rfl, c.1, c.2, h⟩
    · cases h
  · cases h
theorem gNin_cases {d e : D} {k : D → Bool} (h : gNin d e k = true) : ∃ ds, (e = .tuple ds ∨ e = .list ds) ∧ SeqAt.shaped d = true ∧ SeqAt.shaped e = true ∧ k (.bool (!ds.any fun z => PyData.eqv z d)) = true := by
  unfold gNin at h
  split at h
  · split at h
    · rename_i c
      rw [kBl_eq] at h
      rw [Bool.and_eq_true] at c
      exact ⟨_, .inl rfl, c.1, c.2, h⟩
    · cases h
  · split at h
    · rename_i c
      rw [kBl_eq] at h
      rw [Bool.and_eq_true] at c
      exact ⟨_, .inr rfl, c.1, c.2, h⟩
    · cases h
  · cases h
theorem oIn (hu : X.A.units + 65 < cLine) : OpR X (compareOp .In) (rD X.K gIn) := by
  refine opi (OpR.or (op_inT hu) (op_inD hu)) fun x y H Q q => ?_
  obtain ⟨F, H0, σ, env, d, e, k, R, w1, w2, h, hq⟩ := q
  obtain ⟨ds, he, s1, s2, h'⟩ := gIn_cases h
  rcases he with rfl | rfl
  · exact .inl ⟨d, ds, Rp.dp _ _ (w1.rp R), Rp.dp _ _ (w2.rp R), s1, s2, hq _ _ H0 H h' R rfl .refl⟩
  · exact .inr ⟨d, ds, Rp.dp _ _ (w1.rp R), Rp.dp _ _ (w2.rp R), s1, s2, hq _ _ H0 H h' R rfl .refl⟩
theorem oNin (hu : X.A.units + 65 < cLine) : OpR X (compareOp .NotIn) (rD X.K gNin) := by
  refine opi (OpR.or (op_ninT hu) (op_notInD hu)) fun x y H Q q => ?_
  obtain ⟨F, H0, σ, env, d, e, k, R, w1, w2, h, hq⟩ := q
  obtain ⟨ds, he, s1, s2, h'⟩ := gNin_cases h
  rcases he with rfl | rfl
  · exact .inl ⟨d, ds, Rp.dp _ _ (w1.rp R), Rp.dp _ _ (w2.rp R), s1, s2, hq _ _ H0 H h' R rfl .refl⟩
  · exact .inr ⟨d, ds, Rp.dp _ _ (w1.rp R), Rp.dp _ _ (w2.rp R), s1, s2, hq _ _ H0 H h' R rfl .refl⟩
end
end Orn

set_option Elab.async false
set_option linter.all false
set_option maxRecDepth 100000
set_option maxHeartbeats 4000000
namespace Orn
open PySem PySem.Spec L2

/-! ### truth -/
def truD : D → (Bool → Bool) → Bool
  | .none, k => k false
  | .bool b, k => k b
  | .int i, k => k (i != 0)
  | .str z, k => if z.length ≤ 100000 then k ((z.length : Int) != 0) else false
  | .list ds, k => k (!ds.isEmpty)
  | .tuple ds, k => k (!ds.isEmpty)
  | .dict _, _ => false
theorem RpL.isEmpty {K : PySem.W.Frag} {H : Hp} {ds : List D} {vs : List V} (r : RpL K H ds vs) : vs.isEmpty = ds.isEmpty := by
  have := r.length
  cases vs <;> cases ds <;> simp at this <;> rfl
section
variable {K : PySem.W.Frag} {F : Fr} {H0 H : Hp} {σ : L2.St} {env : List S}
theorem tru_of {d : D} {v : V} {k : Bool → Bool} (R : StR K F H0 σ H env) (w : Vw K F H0 H d v) (h : truD d k = true) : ∃ b, TruV K v H b ∧ k b = true := by
  cases d with
  | none => rw [w.none]; exact ⟨false, rfl, h⟩
  | bool b => rw [w.bool]; exact ⟨b, rfl, h⟩
  | int i => rw [w.int]; exact ⟨_, rfl, h⟩
  | str z =>
    rw [w.str]
    have h : (if z.length ≤ 100000 then k ((z.length : Int) != 0) else false) = true := h
    split at h
    · rename_i c; exact ⟨_, ⟨sz5 c, rfl⟩, h⟩
    · cases h
  | list ds =>
    obtain ⟨p, vs, rfl, hp, r⟩ := w.lst R
    refine ⟨_, .inl ⟨vs, SqL.of hp, rfl⟩, ?_⟩
    rw [r.isEmpty]; exact h
  | tuple ds =>
    obtain ⟨p, vs, rfl, hp, r⟩ := w.tup
    refine ⟨_, .inr (.inl ⟨vs, ex_t R.ex hp, rfl⟩), ?_⟩
    rw [r.isEmpty]; exact h
  | dict _ => cases h
end
def bV (f : ED) : EB := fun env k => f env fun d => truD d k
/-- a comparison's answer as a test -/
def bC (f : ED) : EB := fun env k => f env fun d => match d with
  | .bool b => k b
  | _ => false
def bAnd (f g : EB) : EB := fun env k => f env fun b => match b with
  | true => g env k
  | false => k false
def bOr (f g : EB) : EB := fun env k => f env fun b => match b with
  | true => k true
  | false => g env k
def bNot (f : EB) : EB := fun env k => f env fun b => match b with
  | true => k false
  | false => k true
def dAnd (f g : ED) : ED := fun env k => f env fun d => truD d fun b => match b with
  | true => g env k
  | false => k d
def dOr (f g : ED) : ED := fun env k => f env fun d => truD d fun b => match b with
  | true => k d
  | false => g env k
def dNot (f : ED) : ED := fun env k => f env fun d => truD d fun b => match b with
  | true => k (.bool false)
  | false => k (.bool true)
def dIf (t : EB) (f g : ED) : ED := fun env k => t env fun b => match b with
  | true => f env k
  | false => g env k
def sIf (t : EB) (f g : ES) : ES := fun env k => t env fun b => match b with
  | true => f env k
  | false => g env k
section
variable {X : Cx} {a b c e : Expr} {rest : List Expr} {pos : Pos}
theorem st_v {f : ED} (ha : PE X a (tV X.K f)) (he : ∀ whole, isTrue a X.env whole = (do let v ← whole; standAt a.pos; holding [v] (truthy v)) := by exact fun _ => rfl) : PT X a (tT X.K (bV f)) := by
  refine PTc (pt_truth ha he) fun σ H Q q => ?_
  obtain ⟨F, H0, env, k, R, hf, hq⟩ := q
  refine ⟨F, H0, env, _, R, hf, fun v d H1 G1 hk R1 w g => ?_⟩
  obtain ⟨b, hb, kb⟩ := tru_of R1 w hk
  exact ⟨b, hb, hq b H1 G1 kb R1 g⟩
theorem op_t {g : D → D → (D → Bool) → Bool} {fa fb : ED} {te : TT} (h : te = tTest (tOp (rD X.K g) (tV X.K fa) (tV X.K fb))) (hp : PT X e te) : PT X e (tT X.K (bC (dOp g fa fb))) := by
  refine PTc hp fun σ H Q q => ?_
  rw [h]
  obtain ⟨F, H0, env, k, R, hf, hq⟩ := q
  refine ⟨F, H0, env, _, R, hf, fun x d H1 G1 hk R1 w1 g1 => ⟨F, H1, env, _, R1, hk, fun y z H2 G2 hk2 R2 w2 g2 => ?_⟩⟩
  refine ⟨F, H2, σ, env, d, z, _, R2, w1.mono g2, w2, hk2, fun v u H3 G3 h3 R3 w3 g3 => ?_⟩
  cases u <;> first | (cases h3; done) | skip
  rename_i b
  exact ⟨b, w3, hq b H3 G3 h3 R3 ((g1.trans g2).trans g3)⟩
theorem st_cmp {op : CmpOp} {g : D → D → (D → Bool) → Bool} {fa fb : ED} (ho : OpR X (compareOp op) (rD X.K g)) (hm : behindInMarks op b = false) (ha : PE X a (tV X.K fa)) (hb : PE X b (tV X.K fb)) : PT X (.Compare a [op] [b] pos) (tT X.K (bC (dOp g fa fb))) :=
  op_t rfl (pt_cmpR ho ha hb hm)
theorem sw_and1 {f : EB} (h : PT X a (tT X.K f)) : PW X (.BoolOp .And [a] pos) (tT X.K f) := pw_and1 h
theorem sw_or1 {f : EB} (h : PT X a (tT X.K f)) : PW X (.BoolOp .Or [a] pos) (tT X.K f) := pw_or1 h
theorem PWc {X : Cx} {e : Expr} {t t' : TT} (h : PW X e t) (w : ∀ σ H Q, t' σ H Q → t σ H Q) : PW X e t' := ⟨fun whole pins s σ H Q I q => h.run whole pins s σ H Q I (w σ H Q q)⟩
theorem sw_and {f g : EB} (h : PT X a (tT X.K f)) (h2 : PW X (.BoolOp .And (b :: rest) pos) (tT X.K g)) : PW X (.BoolOp .And (a :: b :: rest) pos) (tT X.K (bAnd f g)) := by
  refine PWc (pw_and h h2) fun σ H Q q => ?_
  obtain ⟨F, H0, env, k, R, hf, hq⟩ := q
  refine ⟨F, H0, env, _, R, hf, fun c H1 G1 hk R1 g1 => ?_⟩
  cases c with
  | true => exact iteT ⟨F, H1, env, k, R1, hk, fun b H2 G2 h2 R2 g2 => hq b H2 G2 h2 R2 (g1.trans g2)⟩
  | false => exact iteF (hq false H1 G1 hk R1 g1)
theorem sw_or {f g : EB} (h : PT X a (tT X.K f)) (h2 : PW X (.BoolOp .Or (b :: rest) pos) (tT X.K g)) : PW X (.BoolOp .Or (a :: b :: rest) pos) (tT X.K (bOr f g)) := by
  refine PWc (pw_or h h2) fun σ H Q q => ?_
  obtain ⟨F, H0, env, k, R, hf, hq⟩ := q
  refine ⟨F, H0, env, _, R, hf, fun c H1 G1 hk R1 g1 => ?_⟩
  cases c with
  | true => exact iteT (hq true H1 G1 hk R1 g1)
  | false => exact iteF ⟨F, H1, env, k, R1, hk, fun b H2 G2 h2 R2 g2 => hq b H2 G2 h2 R2 (g1.trans g2)⟩
theorem st_w {f : EB} (h : PW X e (tT X.K f)) : PT X e (tT X.K f) := PW.pt h
theorem st_not {f : EB} (h : PT X a (tT X.K f)) : PT X (.UnaryOp .Not a pos) (tT X.K (bNot f)) := by
  refine PTc (pt_not h) fun σ H Q q => ?_
  obtain ⟨F, H0, env, k, R, hf, hq⟩ := q
  refine ⟨F, H0, env, _, R, hf, fun c H1 G1 hk R1 g1 => ?_⟩
  cases c with
  | true => exact hq false H1 G1 hk R1 g1
  | false => exact hq true H1 G1 hk R1 g1
theorem sd_one {op : PySem.BoolOp} {f : ED} (h : PE X a (tD X.K f)) : PE X (.BoolOp op [a] pos) (tD X.K f) := pe_one h
theorem sd_and {f g : ED} (h : PE X a (tD X.K f)) (h2 : PE X (.BoolOp .And (b :: rest) pos) (tD X.K g)) : PE X (.BoolOp .And (a :: b :: rest) pos) (tD X.K (dAnd f g)) := by
  refine PEc (pe_andT h h2) fun σ H Q q => ?_
  obtain ⟨F, H0, env, k, R, hf, hq⟩ := q
  refine ⟨F, H0, env, _, R, hf, fun v d H1 G1 hk R1 w g1 => ?_⟩
  obtain ⟨c, hc, kc⟩ := tru_of R1 (.inl w) hk
  refine ⟨c, hc, ?_⟩
  cases c with
  | true => exact iteT ⟨F, H1, env, k, R1, kc, fun b z H2 G2 h2 R2 w2 g2 => hq b z H2 G2 h2 R2 w2 (g1.trans g2)⟩
  | false => exact iteF (hq v d H1 G1 kc R1 w g1)
theorem sd_or {f g : ED} (h : PE X a (tD X.K f)) (h2 : PE X (.BoolOp .Or (b :: rest) pos) (tD X.K g)) : PE X (.BoolOp .Or (a :: b :: rest) pos) (tD X.K (dOr f g)) := by
  refine PEc (pe_orT h h2) fun σ H Q q => ?_
  obtain ⟨F, H0, env, k, R, hf, hq⟩ := q
  refine ⟨F, H0, env, _, R, hf, fun v d H1 G1 hk R1 w g1 => ?_⟩
  obtain ⟨c, hc, kc⟩ := tru_of R1 (.inl w) hk
  refine ⟨c, hc, ?_⟩
  cases c with
  | true => exact iteT (hq v d H1 G1 kc R1 w g1)
  | false => exact iteF ⟨F, H1, env, k, R1, kc, fun b z H2 G2 h2 R2 w2 g2 => hq b z H2 G2 h2 R2 w2 (g1.trans g2)⟩
theorem sd_not {f : ED} (h : PE X a (tV X.K f)) : PE X (.UnaryOp .Not a pos) (tD X.K (dNot f)) := by
  refine PEc (pe_notT h) fun σ H Q q => ?_
  obtain ⟨F, H0, env, k, R, hf, hq⟩ := q
  refine ⟨F, H0, env, _, R, hf, fun v d H1 G1 hk R1 w g1 => ?_⟩
  obtain ⟨c, hc, kc⟩ := tru_of R1 w hk
  refine ⟨c, hc, ?_⟩
  cases c with
  | true => exact hq _ _ H1 G1 kc R1 rfl g1
  | false => exact hq _ _ H1 G1 kc R1 rfl g1
theorem sd_if {t : EB} {f g : ED} (h : PT X c (tT X.K t)) (h1 : PE X a (tD X.K f)) (h2 : PE X b (tD X.K g)) : PE X (.IfExp c a b pos) (tD X.K (dIf t f g)) := by
  refine PEc (pe_ifExp h h1 h2) fun σ H Q q => ?_
  obtain ⟨F, H0, env, k, R, hf, hq⟩ := q
  refine ⟨F, H0, env, _, R, hf, fun c H1 G1 hk R1 g1 => ?_⟩
  cases c with
  | true => exact iteT ⟨F, H1, env, k, R1, hk, fun b z H2 G2 h2 R2 w2 g2 => hq b z H2 G2 h2 R2 w2 (g1.trans g2)⟩
  | false => exact iteF ⟨F, H1, env, k, R1, hk, fun b z H2 G2 h2 R2 w2 g2 => hq b z H2 G2 h2 R2 w2 (g1.trans g2)⟩
theorem ss_if {t : EB} {f g : ES} (h : PT X c (tT X.K t)) (h1 : PE X a (tS X.K f)) (h2 : PE X b (tS X.K g)) : PE X (.IfExp c a b pos) (tS X.K (sIf t f g)) := by
  refine PEc (pe_ifExp h h1 h2) fun σ H Q q => ?_
  obtain ⟨F, H0, env, k, R, hf, hq⟩ := q
  refine ⟨F, H0, env, _, R, hf, fun c H1 G1 hk R1 g1 => ?_⟩
  cases c with
  | true => exact iteT ⟨F, H1, env, k, R1, hk, fun b z H2 G2 h2 R2 w2 n2 g2 => hq b z H2 G2 h2 R2 w2 (n2.back g1 R1) (g1.trans g2)⟩
  | false => exact iteF ⟨F, H1, env, k, R1, hk, fun b z H2 G2 h2 R2 w2 n2 g2 => hq b z H2 G2 h2 R2 w2 (n2.back g1 R1) (g1.trans g2)⟩
end

/-! ### slices -/
abbrev EO := List S → (Option Int → Bool) → Bool
def tO (K : PySem.W.Frag) (f : EO) : TO := fun σ H Q => ∃ F H0 env k, StR K F H0 σ H env ∧ f env k = true ∧ ∀ o H0' H', k o = true → StR K F H0' σ H' env → Grow F H0 H H0' H' → Q o H'
def oNo : EO := fun _ k => k none
def oSo (f : ED) : EO := fun env k => f env fun d => match d with
  | .int i => k (some i)
  | _ => false
def cutD (xs : List D) (lo hi : Option Int) : List D := (xs.drop (HT.sIx xs.length 0 lo)).take (HT.sIx xs.length xs.length hi - HT.sIx xs.length 0 lo)
def gSlD (d : D) (lo hi : Option Int) (k : D → Bool) : Bool := match d with
  | .tuple ds => k (.tuple (cutD ds lo hi))
  | .str z => if z.length ≤ 100000 then k (.str (cutS z lo hi)) else false
  | _ => false
def gSlS (d : D) (lo hi : Option Int) (k : S → Bool) : Bool := match d with
  | .list ds => k (.ow (cutD ds lo hi))
  | _ => false
def dSl (f : ED) (l h : EO) : ED := fun env k => f env fun d => l env fun lo => h env fun hi => gSlD d lo hi k
def sSl (f : ED) (l h : EO) : ES := fun env k => f env fun d => l env fun lo => h env fun hi => gSlS d lo hi k
theorem RpL.cut {K : PySem.W.Frag} {H : Hp} {ds : List D} {vs : List V} (r : RpL K H ds vs) (lo hi : Option Int) : RpL K H (cutD ds lo hi) (cutV vs lo hi) := by
  unfold cutD cutV
  rw [r.length]
  exact (r.drop _).take _
section
variable {X : Cx} {e : Expr} {pos p2 : Pos} {lo hi : Option Expr}
theorem POc {X : Cx} {e : Option Expr} {t t' : TO} (h : PO X e t) (w : ∀ σ H Q, t' σ H Q → t σ H Q) : PO X e t' := ⟨fun pins s σ H Q I q => h.run pins s σ H Q I (w σ H Q q)⟩
theorem so_no : PO X none (tO X.K oNo) := POc po_none fun σ H Q q => by
  obtain ⟨F, H0, env, k, R, hf, hq⟩ := q
  exact hq none H0 H hf R .refl
theorem so_so {f : ED} (h : PE X e (tV X.K f)) : PO X (some e) (tO X.K (oSo f)) := POc (po_some h) fun σ H Q q => by
  obtain ⟨F, H0, env, k, R, hf, hq⟩ := q
  refine ⟨F, H0, env, _, R, hf, fun v d H1 G1 hk R1 w g => ?_⟩
  cases d <;> first | (cases hk; done) | skip
  rename_i i
  exact ⟨i, w.int, hq (some i) H1 G1 hk R1 g⟩
theorem sd_sl {f : ED} {l h : EO} (he : PE X e (tV X.K f)) (hl : PO X lo (tO X.K l)) (hh : PO X hi (tO X.K h)) : PE X (.Subscript e (.Slice lo hi none p2) pos) (tD X.K (dSl f l h)) := by
  refine PEc (pe_slice (SlR.or sl_tupA sl_str) he hl hh) fun σ H Q q => ?_
  obtain ⟨F, H0, env, k, R, hf, hq⟩ := q
  refine ⟨F, H0, env, _, R, hf, fun v d H1 G1 hk1 R1 w g1 => ⟨F, H1, env, _, R1, hk1, fun lo H2 G2 hk2 R2 g2 => ⟨F, H2, env, _, R2, hk2, fun hi H3 G3 hk3 R3 g3 => ?_⟩⟩⟩
  have w3 := w.mono (g2.trans g3)
  have hq' : PostD X.K F H3 σ G3 env k Q := fun v d H4 G4 h4 R4 r4 g4 => hq v d H4 G4 h4 R4 r4 (((g1.trans g2).trans g3).trans g4)
  unfold gSlD at hk3
  split at hk3
  · obtain ⟨a, xs, rfl, ha, ra⟩ := w3.tup
    refine .inl ⟨a, xs, rfl, ex_t R3.ex ha, fun hw => ?_, fun _ => new_tup R3 hq' (ra.cut lo hi) hk3⟩
    rename_i ds
    have e : cutD ds lo hi = ds := by
      unfold cutD
      rw [← ra.length, hw.1, hw.2, List.drop_zero, Nat.sub_zero, ra.length, List.take_length]
    rw [e] at hk3
    exact hq' _ _ H3 G3 hk3 R3 ⟨a, xs, rfl, ha, ra⟩ .refl
  · split at hk3
    · rename_i c
      exact .inr ⟨_, w3.str, sz5 c, hq' _ _ H3 G3 hk3 R3 rfl .refl⟩
    · cases hk3
  · cases hk3
theorem ss_sl {f : ED} {l h : EO} (he : PE X e (tV X.K f)) (hl : PO X lo (tO X.K l)) (hh : PO X hi (tO X.K h)) : PE X (.Subscript e (.Slice lo hi none p2) pos) (tS X.K (sSl f l h)) := by
  refine PEc (pe_slice sl_list he hl hh) fun σ H Q q => ?_
  obtain ⟨F, H0, env, k, R, hf, hq⟩ := q
  refine ⟨F, H0, env, _, R, hf, fun v d H1 G1 hk1 R1 w g1 => ⟨F, H1, env, _, R1, hk1, fun lo H2 G2 hk2 R2 g2 => ⟨F, H2, env, _, R2, hk2, fun hi H3 G3 hk3 R3 g3 => ?_⟩⟩⟩
  have w3 := w.mono (g2.trans g3)
  have hq' : PostS X.K F H3 σ G3 env k Q := fun v d H4 G4 h4 R4 r4 n4 g4 => hq v d H4 G4 h4 R4 r4 (n4.back ((g1.trans g2).trans g3) R3) (((g1.trans g2).trans g3).trans g4)
  unfold gSlS at hk3
  split at hk3
  · obtain ⟨a, xs, rfl, ha, ra⟩ := w3.lst R3
    exact ⟨a, xs, rfl, SqL.of ha, new_lst R3 hq' (ra.cut lo hi) hk3⟩
  · cases hk3
/-- xs[::-1] -/
def sRev (f : ED) : ES := fun env k => f env fun d => match d with
  | .list ds => k (.ow ds.reverse)
  | _ => false
theorem ss_rev {f : ED} {k : Nat} {p1 p2 p3 : Pos} (he : PE X e (tV X.K f)) : PE X (.Subscript e (.Slice none none (some (.UnaryOp .USub (.Constant (.int 1) k p1) p2)) p3) pos) (tS X.K (sRev f)) := by
  refine PEc (pe_revL he) fun σ H Q q => ?_
  obtain ⟨F, H0, env, k, R, hf, hq⟩ := q
  refine ⟨F, H0, env, _, R, hf, fun v d H1 G1 hk1 R1 w g1 => ?_⟩
  cases d <;> first | (cases hk1; done) | skip
  obtain ⟨a, xs, rfl, ha, ra⟩ := w.lst R1
  exact ⟨a, xs, rfl, SqL.of ha, new_lst R1 (fun v d H4 G4 h4 R4 r4 n4 g4 => hq v d H4 G4 h4 R4 r4 (n4.back g1 R1) (g1.trans g4)) ra.reverse hk1⟩
end
end Orn

set_option Elab.async false
set_option linter.all false
set_option maxRecDepth 100000
set_option maxHeartbeats 4000000
namespace Orn
open PySem PySem.Spec L2

section
variable {K : PySem.W.Frag} {F : Fr} {H0 H H0' H' : Hp} {σ σ' : L2.St} {env env' : List S}
/-- a slot is stored -/
theorem StR.set {v : V} {s : S} (i : Nat) (R : StR K F H0 σ H env) (hv : ValR K F H0 σ H env v s) : StR K F H0 (σ.set i (some v)) H (env.set i s) := by
  refine ⟨R.ex, R.e0, R.keep, R.newo, R.tok, R.tfr, by rw [List.length_set, List.length_set]; exact R.len, fun j t e => ?_, fun a b p xs ys e1 e2 e3 e4 => ?_⟩
  · by_cases h : i = j
    · subst h
      have hi : i < env.length := by
        have := (List.getElem?_eq_some_iff.mp e).1
        rw [List.length_set] at this
        exact this
      rw [List.getElem?_set_self hi] at e
      cases e
      have hi2 : i < σ.length := Nat.lt_of_lt_of_le hi R.len
      have es : (σ.set i (some v))[i]? = some (some v) := List.getElem?_set_self hi2
      cases s with
      | un => trivial
      | sh d => exact ⟨v, es, hv⟩
      | ow ds =>
        obtain ⟨p, vs, rfl, w, r, _⟩ := hv
        exact ⟨p, vs, es, w, r⟩
      | tk =>
        have hv : v = .ref F.st := hv
        rw [hv] at es ⊢
        exact es
    · rw [List.getElem?_set_ne h] at e
      have q := R.slot j t e
      cases t with
      | un => trivial
      | sh d =>
        obtain ⟨u, e1, e2⟩ := q
        exact ⟨u, by rw [List.getElem?_set_ne h]; exact e1, e2⟩
      | ow ds =>
        obtain ⟨p, vs, e1, w, r⟩ := q
        exact ⟨p, vs, by rw [List.getElem?_set_ne h]; exact e1, w, r⟩
      | tk =>
        show (σ.set i (some v))[j]? = _
        rw [List.getElem?_set_ne h]; exact q
  · have own : ∀ (c : Nat) (zs : List D), (env.set i s)[c]? = some (.ow zs) → (σ.set i (some v))[c]? = some (some (.ref p)) → c ≠ i → env[c]? = some (.ow zs) ∧ σ[c]? = some (some (.ref p)) := fun c zs h1 h2 n => by
      rw [List.getElem?_set_ne (Ne.symm n)] at h1 h2
      exact ⟨h1, h2⟩
    have mine : ∀ (zs : List D), (env.set i s)[i]? = some (.ow zs) → (σ.set i (some v))[i]? = some (some (.ref p)) → s = .ow zs ∧ v = .ref p := fun zs h1 h2 => by
      have hi : i < env.length := by
        have := (List.getElem?_eq_some_iff.mp h1).1
        rw [List.length_set] at this
        exact this
      rw [List.getElem?_set_self hi] at h1
      rw [List.getElem?_set_self (Nat.lt_of_lt_of_le hi R.len)] at h2
      cases h1; cases h2
      exact ⟨rfl, rfl⟩
    by_cases ha : a = i
    · by_cases hb : b = i
      · rw [ha, hb]
      · exfalso
        subst ha
        obtain ⟨rfl, rfl⟩ := mine xs e1 e3
        obtain ⟨o1, o2⟩ := own b ys e2 e4 hb
        obtain ⟨p', vs, e5, w, r, ne⟩ := hv
        cases e5
        exact ne b ys o1 o2
    · by_cases hb : b = i
      · exfalso
        subst hb
        obtain ⟨rfl, rfl⟩ := mine ys e2 e4
        obtain ⟨o1, o2⟩ := own a xs e1 e3 ha
        obtain ⟨p', vs, e5, w, r, ne⟩ := hv
        cases e5
        exact ne a xs o1 o2
      · obtain ⟨a1, a2⟩ := own a xs e1 e3 ha
        obtain ⟨b1, b2⟩ := own b ys e2 e4 hb
        exact R.sep a b p xs ys a1 b1 a2 b2
/-- other slots over the heap that has come -/
theorem StR.regain (R : StR K F H0 σ H env) (R' : StR K F H0' σ' H' env') (g : Grow F H0 H H0' H') (h : ∀ (j : Nat) (xs : List D), env[j]? = some (.ow xs) → env'[j]? = some (.ow xs) ∧ σ'[j]? = σ[j]?) : StR K F H0' σ H' env := by
  refine ⟨R'.ex, R'.e0, R'.keep, R'.newo, R'.tok, R'.tfr, R.len, fun i s e => ?_, R.sep⟩
  have q := R.slot i s e
  cases s with
  | un => trivial
  | sh d =>
    obtain ⟨v, e1, e2⟩ := q
    exact ⟨v, e1, Rp.mono g.e0 d v e2⟩
  | ow ds =>
    obtain ⟨p, vs, e1, w, r⟩ := q
    obtain ⟨h1, h2⟩ := h i ds e
    obtain ⟨p', vs', e1', w', r'⟩ := R'.slot i _ h1
    rw [h2, e1] at e1'
    cases e1'
    exact ⟨p, vs', e1, w', r'⟩
  | tk => exact q
end

/-! ### what is walked -/
structure Walk (K : PySem.W.Frag) (F : Fr) (A0 : Hp) (J : It) (ds : List D) : Prop where
  go : ∀ (i : Nat) (σ : L2.St) (env : List S) (H0 H : Hp) (d : D), StR K F H0 σ H env → Ex A0 H0 → ds[i]? = some d → J.go i H ∧ ∀ x H', J.yld i H x H' → ∃ H0', StR K F H0' σ H' env ∧ Rp K H0' d x ∧ Grow F H0 H H0' H'
  stop : ∀ (i : Nat) (σ : L2.St) (env : List S) (H0 H : Hp), StR K F H0 σ H env → Ex A0 H0 → ds.length ≤ i → J.stop i H
def tI (K : PySem.W.Frag) (f : EL) : TI := fun σ H R => ∃ F H0 env k, StR K F H0 σ H env ∧ f env k = true ∧
  ∀ J ds H0' H', k ds = true → StR K F H0' σ H' env → Walk K F H0' J ds → Grow F H0 H H0' H' → R J H'
def iSeq (f : ED) : EL := fun env k => f env fun d => match d with
  | .list ds => k ds
  | .tuple ds => k ds
  | _ => false
def rngD : Int → Nat → (List D → Bool) → Bool
  | _, 0, k => k []
  | lo, n + 1, k => frc (lo + 1) fun lo' => rngD lo' n fun r => k (.int lo :: r)
def rngL : Int → Nat → List D
  | _, 0 => []
  | lo, n + 1 => .int lo :: rngL (lo + 1) n
theorem rngD_eq : ∀ (lo : Int) (n : Nat) (k : List D → Bool), rngD lo n k = k (rngL lo n)
  | _, 0, _ => rfl
  | lo, n + 1, k => by
    rw [rngD, frc_eq, rngD_eq (lo + 1) n]
    rfl
theorem rngL_get : ∀ (lo : Int) (n i : Nat), (rngL lo n)[i]? = if i < n then some (.int (lo + (i : Int))) else none
  | _, 0, i => by simp [rngL]
  | lo, n + 1, 0 => by simp [rngL]
  | lo, n + 1, i + 1 => by
    rw [rngL, List.getElem?_cons_succ, rngL_get (lo + 1) n i]
    by_cases h : i < n
    · rw [if_pos h, if_pos (by omega)]
      congr 2
      omega
    · rw [if_neg h, if_neg (by omega)]
theorem rngL_len (lo : Int) (n : Nat) : (rngL lo n).length = n := by
  induction n generalizing lo with
  | zero => rfl
  | succ n ih => rw [rngL, List.length_cons, ih]
def iRange1 (f : EL) : EL := fun env k => f env fun ds => match ds with
  | [.int n] => if -(2 ^ 62) ≤ n ∧ n < 2 ^ 62 then rngD 0 n.toNat k else false
  | _ => false
def iRange2 (f : EL) : EL := fun env k => f env fun ds => match ds with
  | [.int lo, .int hi] => if -(2 ^ 62) ≤ lo ∧ lo < 2 ^ 62 ∧ -(2 ^ 62) ≤ hi ∧ hi < 2 ^ 62 then rngD lo (hi - lo).toNat k else false
  | _ => false
section
variable {X : Cx} {tg e a b : Expr} {pos p : Pos}
theorem PIc {t t' : TI} (h : PI X tg e t) (w : ∀ σ H Q, t' σ H Q → t σ H Q) : PI X tg e t' := ⟨fun pins s σ H Q I q => h.run pins s σ H Q I (w σ H Q q)⟩
theorem pi_or {t t' : TI} (h : PI X tg e t) (h' : PI X tg e t') : PI X tg e (fun σ H R => t σ H R ∨ t' σ H R) := ⟨fun pins s σ H Q I q => q.elim (h.run pins s σ H Q I) (h'.run pins s σ H Q I)⟩
/-- an iterator over a list that has come -/
theorem it_list {pins : List (Addr × Obj)} {σ : L2.St} {H : Hp} {s : Shared} {a : Addr} {xs : List V} {R : It → Hp → Prop} (I : Inv X pins σ H s) (hq : SqL X.K H a xs) (q : R (Itl X.K a) H) :
    wpAny (model X.prog X.w) X.A (pyIter (.ref a)) (PIE X pins σ tg R) X.xe s := by
  obtain ⟨its, rv, p, hz⟩ := I.list hq
  refine wpAny_pyIter_list p.isList ?_
  have I1 : ∀ o t', Inv X pins σ H { s with heap := s.heap.push o, toks := t' } := fun o t' => I.kept fun b u e => Heap.get?_push_of_some _ e
  refine ⟨s.heap.objs.size, [s.heap.objs.size], fun i h => h.IsListIter s.heap.objs.size a i, Itl X.K a, H, rfl, I1 _ s.toks, turn_list a _, ⟨_, Heap.get?_push_size _ rfl, rfl, rfl⟩, fun b hb => ?_, q⟩
  rw [List.mem_singleton.mp hb]
  exact I.fpOk (Nat.le_refl _) (I.hok.fresh (Nat.le_refl _))
theorem it_tuple {pins : List (Addr × Obj)} {σ : L2.St} {H : Hp} {s : Shared} {a : Addr} {xs : List V} {R : It → Hp → Prop} (I : Inv X pins σ H s) (hq : SqT X.K H a xs) (q : R (Itt X.K a) H) :
    wpAny (model X.prog X.w) X.A (pyIter (.ref a)) (PIE X pins σ tg R) X.xe s := by
  obtain ⟨its, rv, p, hz⟩ := I.tuple hq
  refine wpAny_pyIter_tuple (show s.heap.IsTuple a its.toArray from p) ?_
  have I1 : ∀ o t', Inv X pins σ H { s with heap := s.heap.push o, toks := t' } := fun o t' => I.kept fun b u e => Heap.get?_push_of_some _ e
  refine ⟨s.heap.objs.size, [s.heap.objs.size], fun i h => h.IsTupleIter s.heap.objs.size a i, Itt X.K a, H, rfl, I1 _ s.toks, turn_tuple a _, ⟨_, Heap.get?_push_size _ rfl, rfl, rfl⟩, fun b hb => ?_, q⟩
  rw [List.mem_singleton.mp hb]
  exact I.fpOk (Nat.le_refl _) (I.hok.fresh (Nat.le_refl _))
theorem walk_list {K : PySem.W.Frag} {F : Fr} {A0 : Hp} {a : Addr} {xs : List V} {ds : List D} (h : A0 a = some (.lst xs)) (r : RpL K A0 ds xs) : Walk K F A0 (Itl K a) ds := by
  refine ⟨fun i σ env H0 H d R e hd => ?_, fun i σ env H0 H R e hd => ?_⟩
  · obtain ⟨v, hv, rv⟩ := r.get hd
    have hH : SqL K H a xs := SqL.of (R.ex a _ (e a _ h))
    refine ⟨⟨xs, v, hH, hv⟩, fun x H' y => ?_⟩
    obtain ⟨e1, y⟩ := y
    subst e1
    have := y xs hH
    rw [hv] at this
    cases this
    exact ⟨H0, R, Rp.mono e d _ rv, .refl⟩
  · exact ⟨xs, SqL.of (R.ex a _ (e a _ h)), by rw [r.length]; exact hd⟩
theorem walk_tuple {K : PySem.W.Frag} {F : Fr} {A0 : Hp} {a : Addr} {xs : List V} {ds : List D} (h : SqT K A0 a xs) (r : RpL K A0 ds xs) : Walk K F A0 (Itt K a) ds := by
  refine ⟨fun i σ env H0 H d R e hd => ?_, fun i σ env H0 H R e hd => ?_⟩
  · obtain ⟨v, hv, rv⟩ := r.get hd
    have hH : SqT K H a xs := ex_t R.ex (ex_t e h)
    refine ⟨⟨xs, v, hH, hv⟩, fun x H' y => ?_⟩
    obtain ⟨e1, y⟩ := y
    subst e1
    have := y xs hH
    rw [hv] at this
    cases this
    exact ⟨H0, R, Rp.mono e d _ rv, .refl⟩
  · exact ⟨xs, ex_t R.ex (ex_t e h), by rw [r.length]; exact hd⟩
/-- a list or a tuple, item by item -/
theorem si_seq {f : ED} (h : PE X e (tD X.K f)) : PI X tg e (tI X.K (iSeq f)) := by
  refine ⟨fun pins s σ H R I q => ?_⟩
  obtain ⟨F, H0, env, k, Rs, hf, hq⟩ := q
  have ht : tD X.K f σ H (fun v H' => ∃ d H0', (match d with | .list ds => k ds | .tuple ds => k ds | _ => false) = true ∧ StR X.K F H0' σ H' env ∧ Rp X.K H0' d v ∧ Grow F H0 H H0' H') :=
    ⟨F, H0, env, _, Rs, hf, fun v d H0' H' hk R' r g => ⟨d, H0', hk, R', r, g⟩⟩
  refine thn (h.run pins s σ H _ I ht) fun u s1 ⟨v, H1, I1, rv, d, H0', hk, R', r, g⟩ => ?_
  cases d <;> first | (cases hk; done) | skip
  · obtain ⟨a, xs, e1, ha, ra⟩ := r
    subst e1
    cases rv
    exact it_list I1 (SqL.of (R'.ex a _ ha)) (hq _ _ H0' H1 hk R' (walk_list ha ra) g)
  · obtain ⟨a, xs, e1, ha, ra⟩ := r
    subst e1
    cases rv
    exact it_tuple I1 (ex_t R'.ex ha) (hq _ _ H0' H1 hk R' (walk_tuple ha ra) g)
theorem walk_range {K : PySem.W.Frag} {F : Fr} {A0 : Hp} (lo : Int) (n : Nat) : Walk K F A0 (Itr lo n) (rngL lo n) := by
  refine ⟨fun i σ env H0 H d R e h => ?_, fun i σ env H0 H R e h => ?_⟩
  · rw [rngL_get] at h
    split at h
    · rename_i c
      cases h
      refine ⟨c, fun x H' y => ?_⟩
      obtain ⟨e1, e2⟩ := y
      subst e1
      exact ⟨H0, R, e2, .refl⟩
    · cases h
  · rw [rngL_len] at h
    exact h
theorem si_range1 {f : EL} (hg : Gl X "range") (hm : X.mg "range" = none) (ha : PA X [a] (tW X.K f)) (hs : starEach [a] X.env = [(false, eval a X.env)] := by exact rfl) : PI X tg (.Call (.Name "range" p) [a] [] pos) (tI X.K (iRange1 f)) := by
  refine PIc (pi_range1 hg hm ha hs) fun σ H Q q => ?_
  obtain ⟨F, H0, env, k, R, hf, hq⟩ := q
  refine ⟨F, H0, env, _, R, hf, fun vs ds H0' H' hk R' wl g => ?_⟩
  split at hk
  · split at hk
    · rename_i n c
      obtain ⟨v, rfl, w⟩ := wl.one
      rw [rngD_eq] at hk
      rw [w.int]
      exact ⟨n, rfl, c.1, c.2, hq _ _ H0' H' hk R' (walk_range 0 _) g⟩
    · cases hk
  · cases hk
theorem si_range2 {f : EL} (hg : Gl X "range") (hm : X.mg "range" = none) (ha : PA X [a, b] (tW X.K f)) (hs : starEach [a, b] X.env = [(false, eval a X.env), (false, eval b X.env)] := by exact rfl) (hs2 : starEach [b] X.env = [(false, eval b X.env)] := by exact rfl) :
    PI X tg (.Call (.Name "range" p) [a, b] [] pos) (tI X.K (iRange2 f)) := by
  refine PIc (pi_range2 hg hm ha hs hs2) fun σ H Q q => ?_
  obtain ⟨F, H0, env, k, R, hf, hq⟩ := q
  refine ⟨F, H0, env, _, R, hf, fun vs ds H0' H' hk R' wl g => ?_⟩
  split at hk
  · split at hk
    · rename_i lo hi c
      obtain ⟨v, u, rfl, w1, w2⟩ := wl.two
      rw [rngD_eq] at hk
      rw [w1.int, w2.int]
      exact ⟨lo, hi, rfl, c, hq _ _ H0' H' hk R' (walk_range lo _) g⟩
    · cases hk
  · cases hk
end

/-! ### targets -/
abbrev EG := D → List S → (List S → Bool) → Bool
def tGt (K : PySem.W.Frag) (is : List Nat) (f : EG) : TG := fun v σ H Q => ∃ F H0 env d k, StR K F H0 σ H env ∧ Rp K H0 d v ∧ f d env k = true ∧
  ∀ σ' env', k env' = true → StR K F H0 σ' H env' → (∀ j, j ∉ is → env'[j]? = env[j]?) → (∀ j, j ∉ is → σ'[j]? = σ[j]?) → σ'.length = σ.length → env'.length = env.length → Q σ' H
abbrev EGs := List D → List S → (List S → Bool) → Bool
def tGs (K : PySem.W.Frag) (is : List Nat) (f : EGs) : TGs := fun vs σ H Q => ∃ F H0 env ds k, StR K F H0 σ H env ∧ RpL K H0 ds vs ∧ f ds env k = true ∧
  ∀ σ' env', k env' = true → StR K F H0 σ' H env' → (∀ j, j ∉ is → env'[j]? = env[j]?) → (∀ j, j ∉ is → σ'[j]? = σ[j]?) → σ'.length = σ.length → env'.length = env.length → Q σ' H
def gN (i : Nat) : EG := fun d env k => k (env.set i (.sh d))
def gsNil : EGs := fun ds env k => match ds with
  | [] => k env
  | _ => false
def gsCons (g : EG) (gs : EGs) : EGs := fun ds env k => match ds with
  | [] => false
  | d :: r => g d env fun env' => gs r env' k
/-- a tuple of n -/
def gTp (n : Nat) (gs : EGs) : EG := fun d env k => match d with
  | .tuple ds => if Nat.beq ds.length n = true then gs ds env k else false
  | _ => false
section
variable {X : Cx} {pos : Pos} {es : List Expr} {e : Expr} {is js : List Nat}
theorem PGc {t t' : TG} (h : PG X e t) (w : ∀ v σ H Q, t' v σ H Q → t v σ H Q) : PG X e t' := ⟨fun pins s σ H v u Q I r q => h.run pins s σ H v u Q I r (w v σ H Q q)⟩
theorem PGsc {t t' : TGs} (h : PGs X es t) (w : ∀ v σ H Q, t' v σ H Q → t v σ H Q) : PGs X es t' := ⟨fun pins s σ H v u Q I r q => h.run pins s σ H v u Q I r (w v σ H Q q)⟩
theorem sg_n (i : Nat) (h : PG X e (gName i)) : PG X e (tGt X.K [i] (gN i)) := PGc h fun v σ H Q q => by
  obtain ⟨F, H0, env, d, k, R, r, hf, hq⟩ := q
  refine hq _ _ hf (R.set (v := v) (s := .sh d) i r) (fun j hj => ?_) (fun j hj => ?_) (List.length_set ..) (List.length_set ..)
  · rw [List.getElem?_set_ne (fun z => hj (by rw [z]; exact List.mem_singleton.mpr rfl))]
  · rw [List.getElem?_set_ne (fun z => hj (by rw [z]; exact List.mem_singleton.mpr rfl))]
theorem sgs_nil : PGs X [] (tGs X.K [] gsNil) := PGsc pgs_nil fun v σ H Q q => by
  obtain ⟨F, H0, env, ds, k, R, r, hf, hq⟩ := q
  cases ds with
  | nil => exact ⟨r, hq _ _ hf R (fun _ _ => rfl) (fun _ _ => rfl) rfl rfl⟩
  | cons d ds => cases hf
theorem sgs_cons {g : EG} {gs : EGs} (h1 : PG X e (tGt X.K is g)) (h2 : PGs X es (tGs X.K js gs)) (hs : (assignEach (e :: es) X.env).map (·.2) = assign e X.env :: (assignEach es X.env).map (·.2) := by exact rfl) : PGs X (e :: es) (tGs X.K (is ++ js) (gsCons g gs)) :=
  PGsc (pgs_cons h1 h2 hs) fun v σ H Q q => by
    obtain ⟨F, H0, env, ds, k, R, r, hf, hq⟩ := q
    cases ds with
    | nil => cases hf
    | cons d ds =>
      obtain ⟨v, vs, rfl, r1, r2⟩ := r
      refine ⟨v, vs, rfl, F, H0, env, d, _, R, r1, hf, fun σ1 env1 hk R1 a1 b1 c1 d1 => ⟨F, H0, env1, ds, k, R1, r2, hk, fun σ2 env2 hk2 R2 a2 b2 c2 d2 => ?_⟩⟩
      refine hq _ _ hk2 R2 (fun j hj => ?_) (fun j hj => ?_) (c2.trans c1) (d2.trans d1)
      · rw [a2 j (fun z => hj (List.mem_append_right _ z)), a1 j (fun z => hj (List.mem_append_left _ z))]
      · rw [b2 j (fun z => hj (List.mem_append_right _ z)), b1 j (fun z => hj (List.mem_append_left _ z))]
theorem sg_tup {k n : Nat} {gs : EGs} (hc : X.calm = true) (h : PGs X es (tGs X.K is gs)) (hn : (assignEach es X.env).length = n := by exact rfl) (hst : (assignEach es X.env).findIdx? (·.1) = none := by exact rfl) : PG X (.Tuple es k pos) (tGt X.K is (gTp n gs)) :=
  PGc (pg_tup hc h hn hst) fun v σ H Q q => by
    obtain ⟨F, H0, env, d, k, R, r, hf, hq⟩ := q
    cases d <;> first | (cases hf; done) | skip
    rename_i ds
    have hf : (if Nat.beq ds.length n = true then gs ds env k else false) = true := hf
    split at hf
    · rename_i c
      obtain ⟨a, xs, rfl, ha, ra⟩ := r
      exact ⟨a, xs, rfl, ex_t R.ex ha, by rw [ra.length]; exact Nat.eq_of_beq_eq_true c, F, H0, env, ds, k, R, ra, hf, hq⟩
    · cases hf
end
end Orn

set_option Elab.async false
set_option linter.all false
set_option maxRecDepth 100000
set_option maxHeartbeats 4000000
namespace Orn
open PySem PySem.Spec L2

/-! ### comprehensions -/
def wipeE (env : List S) : List Nat → List S
  | [] => env
  | v :: vs => (wipeE env vs).set v .un
/-- none of these slots holds a list of its own -/
def noOw (env : List S) : List Nat → Bool
  | [] => true
  | v :: vs => match sat env v with
    | .ow _ => false
    | _ => noOw env vs
theorem noOw_spec : ∀ {vs : List Nat} {env : List S}, noOw env vs = true → ∀ j ∈ vs, ∀ xs, env[j]? ≠ some (.ow xs)
  | [], _, _, j, hj => by cases hj
  | v :: vs, env, h, j, hj => by
    intro xs e
    unfold noOw at h
    have hs : ∀ {l : List S} {i : Nat} {s : S}, l[i]? = some s → sat l i = s := fun {l} => by
      induction l with
      | nil => intro i s h; simp at h
      | cons a l ih =>
        intro i s h
        cases i with
        | zero => simp at h; exact h
        | succ i => rw [List.getElem?_cons_succ] at h; exact ih h
    rcases List.mem_cons.mp hj with z | z
    · subst z
      rw [hs e] at h
      cases h
    · split at h
      · cases h
      · exact noOw_spec h j z xs e
theorem wipeE_get (env : List S) : ∀ (vs : List Nat) (j : Nat), (wipeE env vs)[j]? = if j ∈ vs then (if j < env.length then some .un else none) else env[j]?
  | [], j => by simp [wipeE]
  | v :: vs, j => by
    have hl : ∀ vs : List Nat, (wipeE env vs).length = env.length := fun vs => by
      induction vs with
      | nil => rfl
      | cons v vs ih => rw [wipeE, List.length_set, ih]
    rw [wipeE]
    by_cases h : v = j
    · subst h
      rw [if_pos List.mem_cons_self]
      by_cases c : v < env.length
      · rw [if_pos c, List.getElem?_set_self (by rw [hl]; exact c)]
      · rw [if_neg c, List.getElem?_eq_none (by rw [List.length_set, hl]; omega)]
    · rw [List.getElem?_set_ne h, wipeE_get env vs j]
      by_cases c : j ∈ vs
      · rw [if_pos c, if_pos (List.mem_cons_of_mem _ c)]
      · rw [if_neg c, if_neg (fun z => (List.mem_cons.mp z).elim (fun y => h y.symm) c)]
theorem wipe_get (σ : L2.St) : ∀ (vs : List Nat) (j : Nat), (wipe σ vs)[j]? = if j ∈ vs then (if j < σ.length then some none else none) else σ[j]?
  | [], j => by simp [wipe]
  | v :: vs, j => by
    rw [wipe]
    by_cases h : v = j
    · subst h
      rw [if_pos List.mem_cons_self]
      by_cases c : v < σ.length
      · rw [if_pos c, List.getElem?_set_self (by rw [wipe_length]; exact c)]
      · rw [if_neg c, List.getElem?_eq_none (by rw [List.length_set, wipe_length]; omega)]
    · rw [List.getElem?_set_ne h, wipe_get σ vs j]
      by_cases c : j ∈ vs
      · rw [if_pos c, if_pos (List.mem_cons_of_mem _ c)]
      · rw [if_neg c, if_neg (fun z => (List.mem_cons.mp z).elim (fun y => h y.symm) c)]
theorem wipe_eq {σ σ' : L2.St} {vs is : List Nat} (h : ∀ j, j ∉ is → σ'[j]? = σ[j]?) (hl : σ'.length = σ.length) (hs : ∀ i ∈ is, i ∈ vs) : wipe σ' vs = wipe σ vs := by
  apply List.ext_getElem?
  intro j
  rw [wipe_get, wipe_get, hl]
  by_cases c : j ∈ vs
  · rw [if_pos c, if_pos c]
  · rw [if_neg c, if_neg c, h j (fun z => c (hs j z))]
theorem wipe_wipe (σ : L2.St) (vs : List Nat) : wipe (wipe σ vs) vs = wipe σ vs := by
  apply List.ext_getElem?
  intro j
  rw [wipe_get, wipe_get, wipe_length]
  by_cases c : j ∈ vs
  · rw [if_pos c, if_pos c]
  · rw [if_neg c, if_neg c]
section
variable {K : PySem.W.Frag} {F : Fr} {H0 H H0' H' : Hp} {σ σ' : L2.St} {env env' : List S}
/-- an object that is neither frozen nor a slot's is written -/
theorem StR.mut {p : Addr} {o u : HO} (R : StR K F H0 σ H env) (hp : H p = some u) (h0 : H0 p = none) (hf : F.H p = none) (ht : ¬ F.T p) (ne : ∀ (j : Nat) (xs : List D), env[j]? = some (.ow xs) → σ[j]? ≠ some (some (.ref p))) : StR K F H0 σ (upd H p o) env := by
  refine ⟨R.ex.updB h0, R.e0, fun a u e t => ?_, R.newo, F.ext H _ (fun a t => ?_) R.tok, R.tfr, R.len, fun i s e => ?_, R.sep⟩
  · rw [upd_ne (ne_of_none e hf)]; exact R.keep a u e t
  · have : a ≠ p := fun z => by subst z; exact ht t
    rw [upd_ne this]
  · have q := R.slot i s e
    cases s with
    | un => trivial
    | sh d => exact q
    | ow ds =>
      obtain ⟨q1, vs, e1, w, e2⟩ := q
      have n : q1 ≠ p := fun z => by subst z; exact ne i ds e e1
      exact ⟨q1, vs, e1, ⟨w.e, w.f, by rw [upd_ne n]; exact w.at_, w.t⟩, e2⟩
    | tk => exact q
theorem StR.wipe (R : StR K F H0 σ H env) (vs : List Nat) : StR K F H0 (L2.wipe σ vs) H (wipeE env vs) := by
  have hE : ∀ (i : Nat) (s : S), (wipeE env vs)[i]? = some s → s ≠ .un → env[i]? = some s ∧ (L2.wipe σ vs)[i]? = σ[i]? := fun i s e n => by
    rw [wipeE_get] at e
    split at e
    · split at e
      · cases e; exact absurd rfl n
      · cases e
    · rename_i c
      refine ⟨e, ?_⟩
      rw [wipe_get, if_neg c]
  refine ⟨R.ex, R.e0, R.keep, R.newo, R.tok, R.tfr, ?_, fun i s e => ?_, fun i j p xs ys e1 e2 e3 e4 => ?_⟩
  · have : (wipeE env vs).length = env.length := by
      induction vs with
      | nil => rfl
      | cons v vs ih => rw [wipeE, List.length_set, ih (fun i s e n => by
          rw [wipeE_get] at e
          split at e
          · split at e
            · cases e; exact absurd rfl n
            · cases e
          · rename_i c
            exact ⟨e, by rw [wipe_get, if_neg c]⟩)]
    rw [this, wipe_length]; exact R.len
  · cases s with
    | un => trivial
    | sh d =>
      obtain ⟨h1, h2⟩ := hE i _ e (fun z => by cases z)
      obtain ⟨v, a, b⟩ := R.slot i _ h1
      exact ⟨v, by rw [h2]; exact a, b⟩
    | ow ds =>
      obtain ⟨h1, h2⟩ := hE i _ e (fun z => by cases z)
      obtain ⟨p, us, a, b, c⟩ := R.slot i _ h1
      exact ⟨p, us, by rw [h2]; exact a, b, c⟩
    | tk =>
      obtain ⟨h1, h2⟩ := hE i _ e (fun z => by cases z)
      show (L2.wipe σ vs)[i]? = _
      rw [h2]; exact R.slot i _ h1
  · obtain ⟨a1, b1⟩ := hE i _ e1 (fun z => by cases z)
    obtain ⟨a2, b2⟩ := hE j _ e2 (fun z => by cases z)
    exact R.sep i j p xs ys a1 a2 (by rw [← b1]; exact e3) (by rw [← b2]; exact e4)
theorem StR.regainG {σ' : L2.St} {H0' H' : Hp} {env' : List S} (R : StR K F H0 σ H env) (R' : StR K F H0' σ' H' env') (g : Grow F H0 H H0' H') : StR K F H0' σ H' env := by
  refine ⟨R'.ex, R'.e0, R'.keep, R'.newo, R'.tok, R'.tfr, R.len, fun i s e => ?_, R.sep⟩
  have q := R.slot i s e
  cases s with
  | un => trivial
  | sh d =>
    obtain ⟨v, e1, e2⟩ := q
    exact ⟨v, e1, Rp.mono g.e0 d v e2⟩
  | ow ds =>
    obtain ⟨p, vs, e1, w, r⟩ := q
    exact ⟨p, vs, e1, ⟨w.e, g.nw p (by rw [w.at_]; intro z; cases z) w.t w.f, g.kp p _ w.at_ w.t, w.t⟩, RpL.mono g.e0 ds vs r⟩
  | tk => exact q
theorem wipe_own {vs : List Nat} (hn : noOw env vs = true) (j : Nat) (xs : List D) (e : env[j]? = some (.ow xs)) : (wipeE env vs)[j]? = some (.ow xs) ∧ (L2.wipe σ vs)[j]? = σ[j]? := by
  have c : j ∉ vs := fun z => noOw_spec hn j z xs e
  rw [wipeE_get, wipe_get, if_neg c, if_neg c]
  exact ⟨e, rfl⟩
theorem own_wipe {vs : List Nat} {j : Nat} {xs : List D} (e : (wipeE env vs)[j]? = some (.ow xs)) : j ∉ vs ∧ env[j]? = some (.ow xs) := by
  rw [wipeE_get] at e
  split at e
  · split at e <;> cases e
  · rename_i c; exact ⟨c, e⟩
end
def lcGo (envw : List S) (ft : EG) (fc : EB) (fe : ED) : List D → (List D → Bool) → Bool
  | [], k => k []
  | d :: ds, k => ft d envw fun env1 => fc env1 fun b => match b with
    | true => fe env1 fun z => lcGo envw ft fc fe ds fun r => k (z :: r)
    | false => lcGo envw ft fc fe ds k
def sLc (vs : List Nat) (fi : EL) (ft : EG) (fc : EB) (fe : ED) : ES := fun env k => fi env fun ds => match Nat.ble ds.length 100000 with
    | true => lcGo (wipeE env vs) ft fc fe ds fun out => k (.ow out)
    | false => false
def bYes : EB := fun _ k => k true
section
variable {X : Cx}
theorem st_yes : PTs X [] (tT X.K bYes) := ⟨fun pins s σ H Q I q => pts_nil.run pins s σ H Q I (by
  obtain ⟨F, H0, env, k, R, hf, hq⟩ := q
  exact hq true H0 H hf R .refl)⟩
theorem lc_ok {K : PySem.W.Frag} {vs is : List Nat} {fi : EL} {ft : EG} {fc : EB} {fe : ED} (hs : ∀ i ∈ is, i ∈ vs) {σ : L2.St} {H : Hp} {Q : VK} (q : tS K (sLc vs fi ft fc fe) σ H Q) :
    tLc (tI K fi) (tGt K is ft) (tT K fc) (tD K fe) vs σ H Q := by
  obtain ⟨F, H0, env, k, R, hf, hq⟩ := q
  unfold sLc at hf
  refine ⟨F, H0, env, _, R, hf, fun J ds H1 G1 hk R1 W1 g1 Dl hD => ?_⟩
  have hlen : ds.length ≤ 100000 ∧ (lcGo (wipeE env vs) ft fc fe ds fun out => k (.ow out)) = true := by
    cases hb : Nat.ble ds.length 100000 with
    | false => simp only [hb] at hk; cases hk
    | true => simp only [hb] at hk; exact ⟨Nat.le_of_ble_eq_true hb, hk⟩
  obtain ⟨hz, hk⟩ := hlen
  have hDT := R1.tNew hD
  have hD0 : H1 Dl = none := R1.ex.free hD
  refine ⟨fun i m Hx => ∃ Ha out us, m = ds.length - i ∧ i ≤ ds.length ∧ StR K F Ha (wipe σ vs) Hx (wipeE env vs) ∧ Grow F H1 G1 Ha Hx ∧ Hx Dl = some (.lst us) ∧ Ha Dl = none ∧ RpL K Ha out us ∧ out.length ≤ i ∧
      (lcGo (wipeE env vs) ft fc fe (ds.drop i) fun r => k (.ow (out ++ r))) = true, ⟨ds.length - 0, H1, [], [], rfl, Nat.zero_le _, (R1.newL hD).wipe vs, Grow.newL hD, upd_same, hD0, rfl, Nat.zero_le _, hk⟩, ?_⟩
  rintro i m Hx ⟨Ha, out, us, rfl, hi, Ra, ga, eD, fD, ro, lo, hgo⟩
  have back : StR K F Ha σ Hx env := R1.regainG Ra ga
  by_cases hlt : i < ds.length
  · right
    have hd : ds[i]? = some ds[i] := List.getElem?_eq_getElem hlt
    rw [List.drop_eq_getElem_cons hlt] at hgo
    obtain ⟨jgo, jy⟩ := W1.go i _ _ Ha Hx ds[i] Ra ga.e0 hd
    refine ⟨jgo, fun H' => ∃ Hb out' us', StR K F Hb (wipe σ vs) H' (wipeE env vs) ∧ Grow F H1 G1 Hb H' ∧ H' Dl = some (.lst us') ∧ Hb Dl = none ∧ RpL K Hb out' us' ∧ out'.length ≤ i + 1 ∧
      (lcGo (wipeE env vs) ft fc fe (ds.drop (i + 1)) fun r => k (.ow (out' ++ r))) = true, fun H' h => ?_, fun x H' y => ?_⟩
    · obtain ⟨Hb, out', us', a1, a2, a3, a4, a5, a6, a7⟩ := h
      exact ⟨ds.length - (i + 1), by omega, Hb, out', us', rfl, hlt, a1, a2, a3, a4, a5, a6, a7⟩
    · obtain ⟨Hb, Rb, rx, gb⟩ := jy x H' y
      refine ⟨F, Hb, wipeE env vs, ds[i], _, Rb, rx, hgo, fun σ2 env2 hk2 R2 a2 b2 c2 d2 => ⟨(wipe_eq b2 c2 hs).trans (wipe_wipe σ vs), ?_⟩⟩
      refine ⟨F, Hb, env2, _, R2, hk2, fun b Hc H3 hk3 R3 g3 => ?_⟩
      have re : ∀ {Hd Hy : Hp}, StR K F Hd σ2 Hy env2 → Grow F Ha Hx Hd Hy → StR K F Hd (wipe σ vs) Hy (wipeE env vs) := fun R' g' => Ra.regain R' g' fun j xs e => by
        have c := (own_wipe e).1
        exact ⟨by rw [a2 j (fun z => c (hs j z))]; exact e, b2 j (fun z => c (hs j z))⟩
      have hx : Hx Dl ≠ none := by rw [eD]; intro z; cases z
      have gc := gb.trans g3
      cases b with
      | true =>
        refine iteT ⟨F, Hc, env2, _, R3, hk3, fun yv z Hd H4 hk4 R4 r4 g4 => ?_⟩
        have gd := gc.trans g4
        have e4 : H4 Dl = some (.lst us) := gd.kp Dl _ eD hDT
        have f4 : Hd Dl = none := gd.nw Dl hx hDT fD
        refine ⟨us, e4, by rw [ro.length]; exact Nat.lt_of_lt_of_le (by omega : out.length < 100001) (by decide), Hd, out ++ [z], us ++ [yv], ?_, ⟨(ga.trans gd).e0, fun a o h t => ?_, (ga.trans gd).nw⟩, upd_same, f4, (RpL.mono gd.e0 out us ro).append (RpL.one r4), by rw [List.length_append, List.length_singleton]; omega, ?_⟩
        · refine (re R4 gd).mut e4 f4 (R1.fNew hD) hDT fun j xs e1 e2 => ?_
          obtain ⟨h1, h2⟩ := own_wipe e1
          rw [wipe_get, if_neg h1] at e2
          obtain ⟨p', vs', e5, w, _⟩ := R1.slot j _ h2
          rw [e2] at e5
          cases e5
          have := w.at_
          rw [hD] at this
          cases this
        · rw [upd_ne (ne_of_none h hD)]
          exact (ga.trans gd).kp a o h t
        · have e : (fun r => k (S.ow (out ++ [z] ++ r))) = fun r => k (S.ow (out ++ (z :: r))) := by
            funext r
            rw [List.append_assoc]
            rfl
          rw [e]
          exact hk4
      | false =>
        refine iteF ⟨Hc, out, us, re R3 gc, ga.trans gc, gc.kp Dl _ eD hDT, gc.nw Dl hx hDT fD, RpL.mono gc.e0 out us ro, by omega, hk3⟩
  · left
    have e : i = ds.length := by omega
    subst e
    rw [List.drop_length] at hgo
    have hgo : k (.ow (out ++ [])) = true := hgo
    rw [List.append_nil] at hgo
    refine ⟨?_, hq (.ref Dl) (.ow out) Ha Hx hgo back ⟨Dl, us, rfl, ⟨R1.fNew hD, fD, eD, hDT⟩, ro, fun j xs e1 e2 => ?_⟩ (NewS.back (s := .ow out) (v := .ref Dl) g1 R1 fun p e => by cases e; exact hD) (g1.trans ga)⟩
    · exact W1.stop _ _ _ Ha Hx Ra ga.e0 (Nat.le_refl _)
    · obtain ⟨p', vs', e5, w, _⟩ := R1.slot j _ e1
      rw [e2] at e5
      cases e5
      have := w.at_
      rw [hD] at this
      cases this
variable {elt tg iter : Expr} {ifs : List Expr} {scope : Scope} {own : List (Str × Nat)} {pos : Pos} {fi : EL} {ft : EG} {fc : EB} {fe : ED} {is : List Nat}
theorem ss_lc (hc : X.calm = true) (hN : X.N.Nodup) (hi : PI X tg iter (tI X.K fi)) (ok : BlkOk X.N X.env.scope scope own)
    (hg : ∀ (s : Shared) (H : Hp) (C : Addr) (cl : List (Str × Addr)) (fp : List Addr), PG (X.blk s H scope (compEnvC scope cl C X.env) fp) tg (tGt X.K is ft)) (ht : ∀ (s : Shared) (H : Hp) (C : Addr) (cl : List (Str × Addr)) (fp : List Addr), PTs (X.blk s H scope (compEnvC scope cl C X.env) fp) ifs (tT X.K fc))
    (he : ∀ (s : Shared) (H : Hp) (C : Addr) (cl : List (Str × Addr)) (fp : List Addr), PE (X.blk s H scope (compEnvC scope cl C X.env) fp) elt (tD X.K fe)) (hs : ∀ i ∈ is, i ∈ own.map (·.2) := by decide) (hf : ∀ x, foldedSetIterable iter X.env x = pure x := by exact fun _ => rfl) :
    PE X (.ListComp elt [⟨tg, iter, ifs, 0⟩] scope pos) (tS X.K (sLc (own.map (·.2)) fi ft fc fe)) :=
  PEc (pe_lc hc hN hi ok hg ht he hf) fun _ _ _ q => lc_ok hs q
end
end Orn

set_option Elab.async false
set_option linter.all false
set_option maxRecDepth 100000
set_option maxHeartbeats 4000000
namespace Orn
open PySem PySem.Spec L2

/-! ### statements -/
structure Ks where
  nx : List S → Bool
  rt : S → Bool
  bk : List S → Bool
  ct : List S → Bool
abbrev ST := List S → Ks → Bool
structure EndsR (K : PySem.W.Frag) (F : Fr) (A0 : Hp) (ks : Ks) (D : Ends) : Prop where
  nx : ∀ σ H H0 env, ks.nx env = true → StR K F H0 σ H env → Ex A0 H0 → D.nx σ H
  rt : ∀ v s σ H H0 env, ks.rt s = true → StR K F H0 σ H env → ValR K F H0 σ H env v s → Ex A0 H0 → D.rt v H
  bk : ∀ σ H H0 env, ks.bk env = true → StR K F H0 σ H env → Ex A0 H0 → D.bk σ H
  ct : ∀ σ H H0 env, ks.ct env = true → StR K F H0 σ H env → Ex A0 H0 → D.ct σ H
def tP (K : PySem.W.Frag) (f : ST) : TS := fun D σ H => ∃ F H0 env ks, StR K F H0 σ H env ∧ f env ks = true ∧ EndsR K F H0 ks D
theorem EndsR.mono {K : PySem.W.Frag} {F : Fr} {A0 B0 : Hp} {ks : Ks} {D : Ends} (h : EndsR K F A0 ks D) (e : Ex A0 B0) : EndsR K F B0 ks D :=
  ⟨fun σ H H0 env a b c => h.nx σ H H0 env a b (e.trans c), fun v s σ H H0 env a b c d => h.rt v s σ H H0 env a b c (e.trans d), fun σ H H0 env a b c => h.bk σ H H0 env a b (e.trans c), fun σ H H0 env a b c => h.ct σ H H0 env a b (e.trans c)⟩
def pNil : ST := fun env ks => ks.nx env
def pSeq (f g : ST) : ST := fun env ks => f env { ks with nx := fun e => g e ks }
def pRet (f : ES) : ST := fun env ks => f env ks.rt
def pBrk : ST := fun env ks => ks.bk env
def pCont : ST := fun env ks => ks.ct env
def pIf (t : EB) (f g : ST) : ST := fun env ks => t env fun b => match b with
  | true => f env ks
  | false => g env ks
/-- x = e -/
def pSet (i : Nat) (f : ES) : ST := fun env ks => f env fun s => ks.nx (env.set i s)
/-- targets = e -/
def pAsg (f : ED) (g : EG) : ST := fun env ks => f env fun d => g d env ks.nx
def pAug (i : Nat) (g : D → D → (D → Bool) → Bool) (f : ED) : ST := fun env ks => match sat env i with
  | .sh d => f env fun e => g d e fun z => ks.nx (env.set i (.sh z))
  | _ => false
def pPar (i j : Nat) (f : EL) : ST := fun env ks => f env fun ds => match ds with
  | [a, b] => ks.nx ((env.set i (.sh a)).set j (.sh b))
  | _ => false
def pExpr (f : ED) : ST := fun env ks => f env fun _ => ks.nx env
def pForGo (ft : EG) (fb : ST) : List D → List S → Ks → Bool
  | [], env, ks => ks.nx env
  | d :: ds, env, ks => ft d env fun env1 => fb env1 { nx := fun e => pForGo ft fb ds e ks, rt := ks.rt, bk := ks.nx, ct := fun e => pForGo ft fb ds e ks }
def pFor (fi : EL) (ft : EG) (fb : ST) : ST := fun env ks => fi env fun ds => pForGo ft fb ds env ks
def pWhile (t : EB) (fb : ST) : Nat → ST
  | 0, _, _ => false
  | n + 1, env, ks => t env fun b => match b with
    | true => fb env { nx := fun e => pWhile t fb n e ks, rt := ks.rt, bk := ks.nx, ct := fun e => pWhile t fb n e ks }
    | false => ks.nx env
/-- lists of these slots are let go -/
def fzS : S → S
  | .ow ds => .sh (.list ds)
  | s => s
def fzE (env : List S) : List Nat → List S
  | [] => env
  | i :: is => fzE (env.set i (fzS (sat env i))) is
def pFz (is : List Nat) (f : ST) : ST := fun env ks => f (fzE env is) ks
section
variable {K : PySem.W.Frag} {F : Fr} {H0 H H0' H' : Hp} {σ σ' : L2.St} {env env' : List S}
theorem sat_get : ∀ {env : List S} {i : Nat} {s : S}, env[i]? = some s → sat env i = s
  | [], _, _, h => by simp at h
  | _ :: _, 0, _, h => by simp at h; exact h
  | _ :: r, i + 1, _, h => by rw [List.getElem?_cons_succ] at h; exact sat_get (env := r) h
theorem set_self {α : Type} {l : List α} {i : Nat} {a : α} (h : l[i]? = some a) : l.set i a = l := by
  apply List.ext_getElem?
  intro j
  by_cases c : i = j
  · subst c
    rw [List.getElem?_set_self (List.getElem?_eq_some_iff.mp h).1, h]
  · rw [List.getElem?_set_ne c]
theorem StR.fz1 (R : StR K F H0 σ H env) (i : Nat) : ∃ H0', StR K F H0' σ H (env.set i (fzS (sat env i))) ∧ Ex H0 H0' := by
  by_cases hi : i < env.length
  · have hs : env[i]? = some (sat env i) := by
      have := List.getElem?_eq_getElem hi
      rw [this, sat_get this]
    cases e : sat env i with
    | ow ds =>
      rw [e] at hs
      obtain ⟨p, vs, e1, w, r⟩ := R.slot i _ hs
      have x0 : Ex H0 (upd H0 p (.lst vs)) := Ex.new w.f
      refine ⟨upd H0 p (.lst vs), ⟨fun a o h => ?_, R.e0.trans x0, R.keep, fun a n z => ?_, R.tok, fun a t => ?_, by rw [List.length_set]; exact R.len, fun j s h => ?_, fun a b q xs ys h1 h2 h3 h4 => ?_⟩, x0⟩
      · by_cases c : a = p
        · subst c; rw [upd_same] at h; rw [← h]; exact w.at_
        · rw [upd_ne c] at h; exact R.ex a o h
      · have : a ≠ p := fun c => by subst c; exact n w.e
        rw [upd_ne this]; exact R.newo a n z
      · have : a ≠ p := fun c => by subst c; exact w.t t
        rw [upd_ne this]; exact R.tfr a t
      · by_cases c : i = j
        · subst c
          rw [List.getElem?_set_self hi] at h
          cases h
          exact ⟨.ref p, e1, p, vs, rfl, upd_same, RpL.mono x0 ds vs r⟩
        · rw [List.getElem?_set_ne c] at h
          have q := R.slot j s h
          cases s with
          | un => trivial
          | sh d =>
            obtain ⟨v, a1, a2⟩ := q
            exact ⟨v, a1, Rp.mono x0 d v a2⟩
          | ow es =>
            obtain ⟨q1, us, a1, w1, a2⟩ := q
            have n1 : q1 ≠ p := fun z => by subst z; exact c (R.sep i j q1 ds es hs h e1 a1)
            exact ⟨q1, us, a1, ⟨w1.e, by rw [upd_ne n1]; exact w1.f, w1.at_, w1.t⟩, RpL.mono x0 es us a2⟩
          | tk => exact q
      · have own : ∀ (c : Nat) (zs : List D), (env.set i (fzS (.ow ds)))[c]? = some (.ow zs) → env[c]? = some (.ow zs) := fun c zs h => by
          by_cases c2 : i = c
          · subst c2
            rw [List.getElem?_set_self hi] at h
            cases h
          · rw [List.getElem?_set_ne c2] at h; exact h
        exact R.sep a b q xs ys (own a xs h1) (own b ys h2) h3 h4
    | un => exact ⟨H0, by rw [show fzS S.un = S.un from rfl, ← e, set_self hs]; exact R, Ex.refl _⟩
    | sh d => exact ⟨H0, by rw [show fzS (S.sh d) = S.sh d from rfl, ← e, set_self hs]; exact R, Ex.refl _⟩
    | tk => exact ⟨H0, by rw [show fzS S.tk = S.tk from rfl, ← e, set_self hs]; exact R, Ex.refl _⟩
  · exact ⟨H0, by rw [List.set_eq_of_length_le (by omega)]; exact R, Ex.refl _⟩
theorem StR.fz (is : List Nat) : ∀ {env : List S} {H0 : Hp}, StR K F H0 σ H env → ∃ H0', StR K F H0' σ H (fzE env is) ∧ Ex H0 H0' := by
  induction is with
  | nil => intro env H0 R; exact ⟨H0, R, Ex.refl _⟩
  | cons i is ih =>
    intro env H0 R
    obtain ⟨H1, R1, x1⟩ := R.fz1 i
    obtain ⟨H2, R2, x2⟩ := ih R1
    exact ⟨H2, R2, x1.trans x2⟩
end
section
variable {X : Cx} {st : Stmt} {sts body : List Stmt} {pos : Pos} {e a b c : Expr}
theorem PSc {t t' : TS} (h : PS X st t) (w : ∀ D σ H, t' D σ H → t D σ H) : PS X st t' := ⟨fun pins s σ H D I q => h.run pins s σ H D I (w D σ H q)⟩
theorem PSsc {t t' : TS} (h : PSs X sts t) (w : ∀ D σ H, t' D σ H → t D σ H) : PSs X sts t' := ⟨fun pins s σ H D I q => h.run pins s σ H D I (w D σ H q)⟩
theorem sp_nil : PSs X [] (tP X.K pNil) := PSsc pss_nil fun D σ H q => by
  obtain ⟨F, H0, env, ks, R, hf, E⟩ := q
  exact E.nx σ H H0 env hf R (Ex.refl _)
theorem sp_cons {f g : ST} (h1 : PS X st (tP X.K f)) (h2 : PSs X sts (tP X.K g)) : PSs X (st :: sts) (tP X.K (pSeq f g)) := PSsc (pss_cons h1 h2) fun D σ H q => by
  obtain ⟨F, H0, env, ks, R, hf, E⟩ := q
  exact ⟨F, H0, env, _, R, hf, ⟨fun σ' H' H0' env' a b c => ⟨F, H0', env', ks, b, a, E.mono c⟩, E.rt, E.bk, E.ct⟩⟩
theorem sp_one {f : ST} (h1 : PS X st (tP X.K f)) : PSs X [st] (tP X.K f) := pss_one h1
theorem sp_ret {f : ES} (h : PE X e (tS X.K f)) : PS X (.Return (some e) pos) (tP X.K (pRet f)) := PSc (ps_ret h) fun D σ H q => by
  obtain ⟨F, H0, env, ks, R, hf, E⟩ := q
  exact ⟨F, H0, env, _, R, hf, fun v s H0' H' hk R' hv hn g => E.rt v s σ H' H0' env hk R' hv g.e0⟩
/-- a list of one's own is given out -/
def sTake (i : Nat) : ES := fun env k => match sat env i with
  | .sh d => k (.sh d)
  | .ow ds => k (.ow ds)
  | _ => false
theorem sp_retN (i : Nat) {x : Str} {p : Pos} (h : PE X (.Name x p) (tVar i)) : PS X (.Return (some (.Name x p)) pos) (tP X.K (pRet (sTake i))) := PSc (ps_ret h) fun D σ H q => by
  obtain ⟨F, H0, env, ks, R, hf, E⟩ := q
  have hf : sTake i env ks.rt = true := hf
  unfold sTake at hf
  cases hs : sat env i with
  | un => simp only [hs] at hf; cases hf
  | tk => simp only [hs] at hf; cases hf
  | sh d =>
    simp only [hs] at hf
    obtain ⟨v, e1, e2⟩ := R.slot i _ (sat_some hs (fun z => by cases z))
    exact ⟨v, e1, E.rt v (.sh d) σ H H0 env hf R e2 (Ex.refl _)⟩
  | ow ds =>
    simp only [hs] at hf
    have he := sat_some hs (fun z => by cases z)
    obtain ⟨p, vs, e1, w, e2⟩ := R.slot i _ he
    -- the slots are forgotten: none of them holds it any more
    have R0 : StR X.K F H0 σ H [] := ⟨R.ex, R.e0, R.keep, R.newo, R.tok, R.tfr, Nat.zero_le _, fun j s h => by simp at h, fun a b q xs ys h1 => by simp at h1⟩
    exact ⟨.ref p, e1, E.rt (.ref p) (.ow ds) σ H H0 [] hf R0 ⟨p, vs, rfl, w, e2, fun j xs h => by simp at h⟩ (Ex.refl _)⟩
theorem sp_brk : PS X (.Break pos) (tP X.K pBrk) := PSc ps_break fun D σ H q => by
  obtain ⟨F, H0, env, ks, R, hf, E⟩ := q
  exact E.bk σ H H0 env hf R (Ex.refl _)
theorem sp_cont : PS X (.Continue pos) (tP X.K pCont) := PSc ps_continue fun D σ H q => by
  obtain ⟨F, H0, env, ks, R, hf, E⟩ := q
  exact E.ct σ H H0 env hf R (Ex.refl _)
theorem sp_if {t : EB} {f g : ST} (hc : PT X c (tT X.K t)) (h1 : PSs X sts (tP X.K f)) (h2 : PSs X body (tP X.K g)) : PS X (.If c sts body pos) (tP X.K (pIf t f g)) := PSc (ps_if hc h1 h2) fun D σ H q => by
  obtain ⟨F, H0, env, ks, R, hf, E⟩ := q
  refine ⟨F, H0, env, _, R, hf, fun b H0' H' hk R' g => ?_⟩
  cases b with
  | true => exact iteT ⟨F, H0', env, ks, R', hk, E.mono g.e0⟩
  | false => exact iteF ⟨F, H0', env, ks, R', hk, E.mono g.e0⟩
theorem sp_set (i : Nat) {f : ES} {tg : Expr} {te : TE} (he : PE X e (tS X.K f)) (h : te = tS X.K f → PS X (.Assign [tg] e pos) (tAsg te (gName i))) (hte : te = tS X.K f := by exact rfl) : PS X (.Assign [tg] e pos) (tP X.K (pSet i f)) := PSc (h hte) fun D σ H q => by
  obtain ⟨F, H0, env, ks, R, hf, E⟩ := q
  rw [hte]
  exact ⟨F, H0, env, _, R, hf, fun v s H0' H' hk R' hv hn g => E.nx _ _ _ _ hk (R'.set i hv) g.e0⟩
theorem sp_asg {f : ED} {g : EG} {tg : Expr} {is : List Nat} (he : PE X e (tD X.K f)) (hg : PG X tg (tGt X.K is g)) (hs : swapsWithSole [tg] e pos.line X.env = pure false := by exact rfl) (hw : swappedStores [tg] e X.env = pure none := by exact rfl)
    (h1 : (assignEach [tg] X.env).map (·.2) = [assign tg X.env] := by exact rfl) : PS X (.Assign [tg] e pos) (tP X.K (pAsg f g)) := PSc (ps_asg he hg hs hw h1) fun D σ H q => by
  obtain ⟨F, H0, env, ks, R, hf, E⟩ := q
  refine ⟨F, H0, env, _, R, hf, fun v d H0' H' hk R' r g => ?_⟩
  exact ⟨F, H0', env, d, ks.nx, R', r, hk, fun σ' env' hk2 R2 _ _ _ _ => E.nx _ _ _ _ hk2 R2 g.e0⟩
theorem sp_par (i j : Nat) {f : EL} {tg : Expr} (h : PS X (.Assign [tg] e pos) (tPar i j (tL X.K 2 f))) : PS X (.Assign [tg] e pos) (tP X.K (pPar i j f)) := PSc h fun D σ H q => by
  obtain ⟨F, H0, env, ks, R, hf, E⟩ := q
  refine ⟨F, H0, env, _, R, hf, fun vs ds H0' H' hk R' r _ g => ?_⟩
  cases ds with
  | nil => cases hk
  | cons a ds =>
  cases ds with
  | nil => cases hk
  | cons b ds =>
  cases ds with
  | cons c ds => cases hk
  | nil =>
    obtain ⟨v, vs, rfl, r1, u, us, rfl, r2, r3⟩ := r
    have r3 : us = [] := r3
    subst r3
    have r1 : ValR X.K F H0' σ H' env v (.sh a) := r1
    have r2 : ValR X.K F H0' (σ.set i (some v)) H' (env.set i (.sh a)) u (.sh b) := r2
    exact ⟨v, u, rfl, E.nx _ _ _ _ hk ((R'.set i r1).set j r2) g.e0⟩
/-- in place, by values -/
def PIpD (X : Cx) (op : Operator) (g : D → D → (D → Bool) → Bool) : Prop := PIp X op (rD X.K g)
theorem sp_aug (i : Nat) {op : Operator} {g : D → D → (D → Bool) → Bool} {f : ED} {tg : Expr} (h : PS X (.AugAssign tg op e pos) (tAug i (tV X.K f) (rD X.K g))) : PS X (.AugAssign tg op e pos) (tP X.K (pAug i g f)) := PSc h fun D σ H q => by
  obtain ⟨F, H0, env, ks, R, hf, E⟩ := q
  have hf : (match sat env i with
    | .sh d => f env fun e => g d e fun z => ks.nx (env.set i (.sh z))
    | _ => false) = true := hf
  cases hs : sat env i with
  | un => simp only [hs] at hf; cases hf
  | tk => simp only [hs] at hf; cases hf
  | ow ds => simp only [hs] at hf; cases hf
  | sh d =>
    simp only [hs] at hf
    obtain ⟨v, e1, e2⟩ := R.slot i _ (sat_some hs (fun z => by cases z))
    refine ⟨v, e1, F, H0, env, _, R, hf, fun u z H0' H' hk R' w g => ?_⟩
    refine ⟨F, H0', σ, env, d, z, _, R', .inl (Rp.mono g.e0 d v e2), w, hk, fun y t H2 G2 hk2 R2 r2 g2 => ?_⟩
    have r2 : ValR X.K F H2 σ G2 env y (.sh t) := r2
    exact E.nx _ _ _ _ hk2 (R2.set i r2) (g.trans g2).e0
theorem sp_expr {f : ED} (he : PE X e (tD X.K f)) (hs : swapsWith e none pos.line X.env = pure false := by exact rfl) : PS X (.Expr e pos) (tP X.K (pExpr f)) := PSc (ps_expr he hs) fun D σ H q => by
  obtain ⟨F, H0, env, ks, R, hf, E⟩ := q
  exact ⟨F, H0, env, _, R, hf, fun v d H0' H' hk R' r g => E.nx _ _ _ _ hk R' g.e0⟩
theorem sp_for {iter tg : Expr} {fi : EL} {ft : EG} {fb : ST} {is : List Nat} (hp : PassesOwn (model X.prog X.w) X.A X.env X.xe) (hc : X.calm = true) (hi : PI X tg iter (tI X.K fi)) (hg : PG X tg (tGt X.K is ft)) (hb : PSs X body (tP X.K fb))
    (hs : ∀ x, foldedSetIterable iter X.env x = pure x := by exact fun _ => rfl) : PS X (.For tg iter body [] pos) (tP X.K (pFor fi ft fb)) := PSc (ps_for hp hc hi hg hb hs) fun D σ H q => by
  obtain ⟨F, H0, env, ks, R, hf, E⟩ := q
  refine ⟨F, H0, env, _, R, hf, fun J ds H1 G1 hk R1 W1 g1 => ?_⟩
  refine ⟨fun i m σx Hx => ∃ Ha envx, m = ds.length - i ∧ i ≤ ds.length ∧ StR X.K F Ha σx Hx envx ∧ Ex H1 Ha ∧ pForGo ft fb (ds.drop i) envx ks = true, ⟨ds.length - 0, H1, env, rfl, Nat.zero_le _, R1, Ex.refl _, hk⟩, ?_⟩
  rintro i m σx Hx ⟨Ha, envx, rfl, hi, Ra, xa, hgo⟩
  by_cases hlt : i < ds.length
  · right
    have hd : ds[i]? = some ds[i] := List.getElem?_eq_getElem hlt
    rw [List.drop_eq_getElem_cons hlt] at hgo
    obtain ⟨jgo, jy⟩ := W1.go i _ _ Ha Hx ds[i] Ra xa hd
    refine ⟨jgo, fun σ' H' => ∃ Hb envb, StR X.K F Hb σ' H' envb ∧ Ex H1 Hb ∧ pForGo ft fb (ds.drop (i + 1)) envb ks = true, fun σ' H' h => ?_, fun x H' y => ?_⟩
    · obtain ⟨Hb, envb, a1, a2, a3⟩ := h
      exact ⟨ds.length - (i + 1), by omega, Hb, envb, rfl, hlt, a1, a2, a3⟩
    · obtain ⟨Hb, Rb, rx, gb⟩ := jy x H' y
      refine ⟨F, Hb, envx, ds[i], _, Rb, rx, hgo, fun σ2 env2 hk2 R2 _ _ _ _ => ?_⟩
      have xb : Ex H1 Hb := xa.trans gb.e0
      refine ⟨F, Hb, env2, _, R2, hk2, ⟨fun σ3 H3 H03 env3 a b c => ⟨H03, env3, b, xb.trans c, a⟩, fun v s σ3 H3 H03 env3 a b c d => E.rt v s σ3 H3 H03 env3 a b c ((g1.e0.trans xb).trans d), fun σ3 H3 H03 env3 a b c => E.nx σ3 H3 H03 env3 a b ((g1.e0.trans xb).trans c), fun σ3 H3 H03 env3 a b c => ⟨H03, env3, b, xb.trans c, a⟩⟩⟩
  · left
    have e : i = ds.length := by omega
    subst e
    rw [List.drop_length] at hgo
    exact ⟨W1.stop _ _ _ Ha Hx Ra xa (Nat.le_refl _), E.nx _ _ _ _ hgo Ra (g1.e0.trans xa)⟩
theorem sp_while (n : Nat) {t : EB} {fb : ST} (hp : PassesOwn (model X.prog X.w) X.A X.env X.xe) (hc : PT X c (tT X.K t)) (hb : PSs X body (tP X.K fb)) : PS X (.While c body [] pos) (tP X.K (pWhile t fb n)) := PSc (ps_while hp hc hb) fun D σ H q => by
  obtain ⟨F, H0, env, ks, R, hf, E⟩ := q
  refine ⟨fun m σx Hx => ∃ Ha envx, StR X.K F Ha σx Hx envx ∧ Ex H0 Ha ∧ pWhile t fb m envx ks = true, ⟨n, H0, env, R, Ex.refl _, hf⟩, ?_⟩
  rintro m σx Hx ⟨Ha, envx, Ra, xa, hgo⟩
  cases m with
  | zero => cases hgo
  | succ m =>
    refine ⟨F, Ha, envx, _, Ra, hgo, fun b Hb H' hk Rb gb => ?_⟩
    cases b with
    | true =>
      have xb := xa.trans gb.e0
      refine iteT ⟨fun σ' H' => ∃ Hb envb, StR X.K F Hb σ' H' envb ∧ Ex H0 Hb ∧ pWhile t fb m envb ks = true, fun σ' H' h => ⟨m, Nat.lt_succ_self _, h⟩, ?_⟩
      exact ⟨F, Hb, envx, _, Rb, hk, ⟨fun σ3 H3 H03 env3 a b c => ⟨H03, env3, b, xb.trans c, a⟩, fun v s σ3 H3 H03 env3 a b c d => E.rt v s σ3 H3 H03 env3 a b c (xb.trans d), fun σ3 H3 H03 env3 a b c => E.nx σ3 H3 H03 env3 a b (xb.trans c), fun σ3 H3 H03 env3 a b c => ⟨H03, env3, b, xb.trans c, a⟩⟩⟩
    | false => exact iteF (E.nx _ _ _ _ hk Rb (xa.trans gb.e0))
theorem sp_fz (is : List Nat) {f : ST} (h : PS X st (tP X.K f)) : PS X st (tP X.K (pFz is f)) := PSc h fun D σ H q => by
  obtain ⟨F, H0, env, ks, R, hf, E⟩ := q
  obtain ⟨H1, R1, x1⟩ := R.fz is
  exact ⟨F, H1, _, ks, R1, hf, E.mono x1⟩
end
end Orn

set_option Elab.async false
set_option linter.all false
set_option maxRecDepth 100000
set_option maxHeartbeats 4000000
namespace Orn
open PySem PySem.Spec L2

/-! ### defs -/
abbrev FN := List S → (S → Bool) → Bool
/-- a def as a function of its arguments: n slots, its body -/
def mkFn (n : Nat) (f : ST) : FN := fun as k => f (as ++ List.replicate (n - as.length) .un) { nx := fun _ => k (.sh .none), rt := k, bk := fun _ => false, ct := fun _ => false }
def spF (K : PySem.W.Frag) (n : Nat) (m : FN) : Sp := fun vs H Q _ => ∃ (F : Fr) (as : List S) (k : S → Bool), F.H = H ∧ Ex F.H0 H ∧ F.TR H ∧ (∀ a, F.T a → F.H0 a = none) ∧ ArgL K F F.H0 as vs ∧ as.length = n ∧ m as k = true ∧
  ∀ v s H0' σ' H' env', k s = true → StR K F H0' σ' H' env' → ValR K F H0' σ' H' env' v s → Q v H'
def sFn (m : FN) (fa : EA) : ES := fun env k => fa env fun as => m as k
section
variable {X : Cx} {e : Expr} {es : List Expr} {pos p : Pos} {x : Str}
theorem call_back {K : PySem.W.Frag} {F : Fr} {H1 G1 : Hp} {σ : L2.St} {env : List S} {H0' H' : Hp} {σ' : L2.St} {env' : List S} {v : V} {s : S} (R1 : StR K F H1 σ G1 env) (R' : StR K { F with H0 := H1, H := G1 } H0' σ' H' env') (hv : ValR K { F with H0 := H1, H := G1 } H0' σ' H' env' v s) :
    StR K F H0' σ H' env ∧ ValR K F H0' σ H' env v s ∧ NewS G1 v s ∧ Grow F H1 G1 H0' H' := by
  have gr : Grow F H1 G1 H0' H' := ⟨R'.e0, R'.keep, fun a n _ e => R'.newo a n e⟩
  have R2 : StR K F H0' σ H' env := by
    refine ⟨R'.ex, R1.e0.trans R'.e0, fun a o h t => R'.keep a o (R1.keep a o h t) t, fun a n e => ?_, R'.tok, R'.tfr, R1.len, fun i s h => ?_, R1.sep⟩
    · by_cases t : F.T a
      · exact R'.tfr a t
      · refine R'.newo a ?_ (R1.newo a n e)
        cases q : F.H a with
        | none => exact absurd q n
        | some o =>
          show G1 a ≠ none
          rw [R1.keep a o q t]
          intro z; cases z
    · have q := R1.slot i s h
      cases s with
      | un => trivial
      | sh d =>
        obtain ⟨u, e1, e2⟩ := q
        exact ⟨u, e1, Rp.mono gr.e0 d u e2⟩
      | ow ds =>
        obtain ⟨p, vs, e1, w, r⟩ := q
        have np : G1 p ≠ none := by rw [w.at_]; intro z; cases z
        exact ⟨p, vs, e1, ⟨w.e, gr.nw p np w.t w.f, gr.kp p _ w.at_ w.t, w.t⟩, RpL.mono gr.e0 ds vs r⟩
      | tk => exact q
  refine ⟨R2, ?_, ?_, gr⟩
  · cases s with
    | un => exact hv
    | sh d => exact hv
    | tk => exact hv
    | ow ds =>
      obtain ⟨p, vs, e1, w, r, _⟩ := hv
      have gp : G1 p = none := w.e
      refine ⟨p, vs, e1, ⟨R1.fNew gp, w.f, w.at_, w.t⟩, r, fun i xs h1 h2 => ?_⟩
      obtain ⟨p', vs', e3, w', _⟩ := R1.slot i _ h1
      rw [h2] at e3
      cases e3
      have := w'.at_
      rw [gp] at this
      cases this
  · cases s with
    | un => trivial
    | sh d => trivial
    | tk => trivial
    | ow ds =>
      obtain ⟨p, vs, e1, w, r, _⟩ := hv
      intro q hq
      rw [e1] at hq
      cases hq
      exact w.e
theorem ss_call {j k n : Nat} {f : Addr} {fd : FuncData} {ps : List Str} {m : FN} {fa : EA} (G : FnOk X.prog X.w X.K X.mg X.base CX0 k f fd ps (spF X.K n m)) (hr : Room j X.A) (hj : k ≤ j) (hg : Gl X x) (hm : X.mg x = some (.ref f))
    (hk : PySem.W.keepIn X.K (.ref f) = true) (hb : Binds X.K fd ps []) (ha : PA X (e :: es) (tA X.K n fa)) (hdb : (x == ("__debug__" : Str)) = false := by decide)
    (he : starEach (e :: es) X.env = (false, eval e X.env) :: starEach es X.env := by exact rfl) (hpl : (backTo pos (starEach es X.env)).any (·.1) = false := by exact rfl) : PE X (.Call (.Name x p) (e :: es) [] pos) (tS X.K (sFn m fa)) := by
  refine PEc (pe_call G (hr.mono hj) hg hm hk hb .nil pass0 ha hdb he hpl) fun σ H Q q => ?_
  obtain ⟨F, H0, env, kk, R, hf, hq⟩ := q
  refine ⟨F, H0, env, _, R, hf, fun vs as H1 G1 hk R1 ar hn g1 => ?_⟩
  show spF X.K n m (vs ++ []) G1 Q E0
  rw [List.append_nil]
  refine ⟨{ F with H0 := H1, H := G1 }, as, kk, rfl, R1.ex, R1.tok, R1.tfr, ?_, hn, hk, fun v s H0' σ' H' env' ks R' hv => ?_⟩
  · have go : ∀ {ds : List S} {vs : List V}, ArgL X.K F H1 ds vs → ArgL X.K { F with H0 := H1, H := G1 } H1 ds vs := fun {ds} => by
      induction ds with
      | nil => intro vs h; exact h
      | cons d ds ih =>
        intro vs h
        obtain ⟨v, r, e1, h1, h2⟩ := h
        refine ⟨v, r, e1, ?_, ih h2⟩
        cases d <;> exact h1
    exact go ar
  · obtain ⟨a1, a2, a3, a4⟩ := call_back R1 R' hv
    exact hq v s H0' H' ks a1 a2 (a3.back g1 R1) (g1.trans a4)
/-- f() -/
theorem ss_call0 {j k : Nat} {f : Addr} {fd : FuncData} {ps : List Str} {m : FN} (G : FnOk X.prog X.w X.K X.mg X.base CX0 k f fd ps (spF X.K 0 m)) (hr : Room j X.A) (hj : k ≤ j) (hg : Gl X x) (hm : X.mg x = some (.ref f))
    (hk : PySem.W.keepIn X.K (.ref f) = true) (hb : Binds X.K fd ps []) (hdb : (x == ("__debug__" : Str)) = false := by decide) : PE X (.Call (.Name x p) [] [] pos) (tS X.K (sFn m aNil)) := by
  refine PEc (pe_call0 G (hr.mono hj) hg hm hk hb .nil pass0 hdb) fun σ H Q q => ?_
  obtain ⟨F, H0, env, kk, R, hf, hq⟩ := q
  show spF X.K 0 m [] H Q E0
  refine ⟨{ F with H0 := H0, H := H }, [], kk, rfl, R.ex, R.tok, R.tfr, rfl, rfl, hf, fun v s H0' σ' H' env' ks R' hv => ?_⟩
  obtain ⟨a1, a2, a3, a4⟩ := call_back R R' hv
  exact hq v s H0' H' ks a1 a2 a3 a4
end
/-- a def keeps its promise if its body does what f says -/
theorem fn_ok {P : Program} {w : World} {K : PySem.W.Frag} {mg : Str → Option Value} {base : Heap} {x qual : Str} {st : Stmt} {f : Addr} {fd : FuncData} {N ps : List Str} {k n : Nat} {g : ST} (F : Fun K x qual st f fd) (Sc : FnScope N ps (defScope st)) (hn : ps.length = n)
    (hb : ∀ (cdv : Value) (A : Around) (outer : List Env) (s : Shared) (H : Hp) (E : XK), Room k (A.deeper (PyProof.Rows.envOfC qual (defScope st) s.heap.objs.size f cdv)) →
      PSs (cxOf CX0 P w K mg base N qual (defScope st) f cdv A outer s H E).nox (defBody st) (tP K g)) : FnOk P w K mg base CX0 (k + 1) f fd ps (spF K n (mkFn N.length g)) := by
  have al : ∀ {F : Fr} {H0 : Hp} {as : List S} {vs : List V}, ArgL K F H0 as vs → ∀ (i : Nat) (s : S), as[i]? = some s → ∃ v, vs[i]? = some v ∧ ArgR K F H0 s v := fun {F H0 as} => by
    induction as with
    | nil => intro vs h i s e; simp at e
    | cons a as ih =>
      intro vs h i s e
      obtain ⟨v, r, rfl, h1, h2⟩ := h
      cases i with
      | zero => simp at e; subst e; exact ⟨v, rfl, h1⟩
      | succ i =>
        rw [List.getElem?_cons_succ] at e
        obtain ⟨u, e1, e2⟩ := ih h2 i s e
        exact ⟨u, by rw [List.getElem?_cons_succ]; exact e1, e2⟩
  refine F.ok Sc (fun vs H Q E h => ?_) (fun cdv A outer s H vs Q E hr h => ⟨_, hb cdv A outer s H E hr, ?_⟩)
  · obtain ⟨F', as, k', _, _, _, _, ar, hl, _⟩ := h
    rw [ar.length, hl, hn]
  · obtain ⟨F', as, k', hH, hex, htr, htf, ar, hl, hm, hq⟩ := h
    subst hH
    have vl := ar.length
    have slot : ∀ (i : Nat) (s : S), (as ++ List.replicate (N.length - as.length) S.un)[i]? = some s → s = .un ∨ (as[i]? = some s ∧ ∃ v, (L2.start N vs)[i]? = some (some v) ∧ ArgR K F' F'.H0 s v) := fun i s e => by
      by_cases c : i < as.length
      · rw [List.getElem?_append_left c] at e
        obtain ⟨v, e1, e2⟩ := al ar i s e
        refine .inr ⟨e, v, ?_, e2⟩
        unfold L2.start
        rw [List.getElem?_append_left (by rw [List.length_map, vl]; exact c), List.getElem?_map, e1]
        rfl
      · rw [List.getElem?_append_right (by omega), List.getElem?_replicate] at e
        split at e
        · cases e; exact .inl rfl
        · cases e
    refine ⟨F', F'.H0, as ++ List.replicate (N.length - as.length) S.un, { nx := fun _ => k' (.sh .none), rt := k', bk := fun _ => false, ct := fun _ => false }, ⟨hex, Ex.refl _, fun _ _ e _ => e, fun _ _ e => e, htr, htf, ?_, fun i s e => ?_, fun i j p xs ys e1 _ _ _ => ?_⟩, hm, ⟨fun σ H H0 env a b _ => hq .non (.sh .none) H0 σ H env a b rfl, fun v s σ H H0 env a b c _ => hq v s H0 σ H env a b c, fun _ _ _ _ a => (Bool.noConfusion a), fun _ _ _ _ a => (Bool.noConfusion a)⟩⟩
    · unfold L2.start
      rw [List.length_append, List.length_append, List.length_map, List.length_replicate, List.length_replicate, vl]
      exact Nat.le_refl _
    · rcases slot i s e with rfl | ⟨_, v, e1, e2⟩
      · trivial
      · cases s with
        | un => trivial
        | sh d => exact ⟨v, e1, e2⟩
        | ow ds => exact e2.elim
        | tk =>
          have e2 : v = .ref F'.st := e2
          rw [e2] at e1
          exact e1
    · rcases slot i _ e1 with h | ⟨_, v, _, h⟩
      · cases h
      · exact h.elim
end Orn

set_option Elab.async false
set_option linter.all false
set_option maxRecDepth 100000
set_option maxHeartbeats 4000000
namespace Orn
open PySem PySem.Spec L2

/-! ### draws -/
def allN : Nat → (Int → Bool) → Bool
  | 0, _ => true
  | n + 1, f => match f (.ofNat n) with
    | true => allN n f
    | false => false
theorem allN_iff : ∀ (n : Nat) (f : Int → Bool), allN n f = true ↔ ∀ i : Int, 0 ≤ i → i < (n : Int) → f i = true
  | 0, f => ⟨fun _ i h1 h2 => by omega, fun _ => rfl⟩
  | n + 1, f => by
    have ih := allN_iff n f
    constructor
    · intro h i h1 h2
      unfold allN at h
      split at h
      · rename_i e
        by_cases c : i = (n : Int)
        · rw [c]; exact e
        · exact ih.mp h i h1 (by omega)
      · cases h
    · intro h
      unfold allN
      have e : f (.ofNat n) = true := h (n : Int) (by omega) (by omega)
      rw [e]
      exact ih.mpr fun i h1 h2 => h i h1 (by omega)
def mDraw : FN := fun as k => match as with
  | [.tk, .sh (.int n)] => if 0 < n ∧ n < 1073741824 then allN n.toNat fun r => k (.sh (.int r)) else false
  | _ => false
/-- what the draws' def asks and gives, said of the state -/
theorem draw_in {K : PySem.W.Frag} {vs : List V} {H : Hp} {Q : VK} {E : XK} (h : spF K 2 mDraw vs H Q E) :
    ∃ (st c : Addr) (n : Int), vs = [.ref st, .int n] ∧ TokR st c H ∧ 0 < n ∧ n < 1073741824 ∧ ∀ (r : Int) (H' : Hp), 0 ≤ r → r < n → TokR st c H' → (∀ a, a ≠ st → a ≠ c → H' a = H a) → Q (.int r) H' := by
  obtain ⟨F, as, k, rfl, hex, htr, htf, ar, hl, hm, hq⟩ := h
  unfold mDraw at hm
  split at hm
  · split at hm
    · rename_i n c
      obtain ⟨v, r, rfl, e1, u, r2, rfl, e2, e3⟩ := ar
      have e1 : v = .ref F.st := e1
      have e2 : u = .int n := e2
      have e3 : r2 = [] := e3
      subst e1 e2 e3
      refine ⟨F.st, F.c, n, rfl, htr, c.1, c.2, fun r H' h0 h1 ht hk => ?_⟩
      have ha := (allN_iff _ _).mp hm r h0 (by rw [Int.toNat_of_nonneg (by omega)]; exact h1)
      have nT : ∀ a, ¬ F.T a → H' a = F.H a := fun a t => hk a (fun z => t (.inl z)) (fun z => t (.inr z))
      refine hq (.int r) (.sh (.int r)) F.H0 [] H' [] ha ⟨fun a o e => ?_, Ex.refl _, fun a o e t => by rw [nT a t]; exact e, fun _ _ e => e, ht, htf, Nat.le_refl _, fun i s e => by simp at e, fun i j p xs ys e => by simp at e⟩ rfl
      have t : ¬ F.T a := fun t => by rw [htf a t] at e; cases e
      rw [nT a t]
      exact hex a o e
    · cases hm
  · cases hm
theorem TokR.st_ne {st c : Addr} {H : Hp} (h : TokR st c H) : st ≠ c := h.1
/-- the first number is given up to what is left -/
theorem TokR.setC {st c : Addr} {H : Hp} {ns : List Int} {seed : Int} (hn : st ≠ c) (h1 : H st = some (.lst [.ref c, .int seed])) (hs : 0 ≤ seed ∧ seed < 4294967296) (hz : ∀ n ∈ ns, 0 ≤ n) (hl : ns.length ≤ 63) : TokR st c (upd H c (.lst (ns.map V.int))) :=
  ⟨hn, ns, seed, by rw [upd_ne hn]; exact h1, upd_same, hz, hs.1, hs.2, hl⟩
theorem TokR.setS {st c : Addr} {H : Hp} {ns : List Int} {seed : Int} (hn : st ≠ c) (h2 : H c = some (.lst (ns.map V.int))) (hs : 0 ≤ seed ∧ seed < 4294967296) (hz : ∀ n ∈ ns, 0 ≤ n) (hl : ns.length ≤ 63) : TokR st c (upd H st (.lst [.ref c, .int seed])) :=
  ⟨hn, ns, seed, upd_same, by rw [upd_ne (Ne.symm hn)]; exact h2, hz, hs.1, hs.2, hl⟩
/-- the making of the state -/
def spState (K : PySem.W.Frag) : Sp := fun vs H Q _ => ∃ (a : Addr) (ns : List Int), vs = [.ref a] ∧ SqL K H a (ns.map V.int) ∧ ns.length ≤ 63 ∧ ∀ (st c : Addr) (H' : Hp), TokR st c H' → Q (.ref st) H'
def spLaw (K : PySem.W.Frag) : Sp := fun vs H Q _ => ∃ (a : Addr) (ns : List Int), vs = [.ref a] ∧ SqL K H a (ns.map V.int) ∧ ns.length ≤ 63 ∧ ∀ H', Q (.bl true) H'
/-- what the law's body is asked for: n slots, the rest of its body behind the state -/
def isTrueS : S → Bool
  | .sh (.bool true) => true
  | _ => false
def lawM (n : Nat) (g : ST) : Bool := g (.un :: .tk :: List.replicate (n - 2) .un) { nx := fun _ => false, rt := isTrueS, bk := fun _ => false, ct := fun _ => false }
theorem law_read {K : PySem.W.Frag} {n : Nat} {g : ST} (hg : lawM n g = true) {a st c : Addr} {σ : L2.St} {H : Hp} {Q : VK} (hσ : n ≤ σ.length) (hn : 2 ≤ n) (h1 : σ[1]? = some (some (.ref st))) (ht : TokR st c H) (hq : ∀ H', Q (.bl true) H') :
    tP K g { nx := fun _ H' => Q .non H', rt := Q } σ H := by
  have slot : ∀ (i : Nat) (s : S), (S.un :: S.tk :: List.replicate (n - 2) S.un)[i]? = some s → s = .un ∨ (i = 1 ∧ s = .tk) := fun i s e => by
    match i with
    | 0 => simp at e; exact .inl e.symm
    | 1 => simp at e; exact .inr ⟨rfl, e.symm⟩
    | i + 2 =>
      rw [List.getElem?_cons_succ, List.getElem?_cons_succ, List.getElem?_replicate] at e
      split at e
      · cases e; exact .inl rfl
      · cases e
  refine ⟨⟨fun _ => none, H, st, c⟩, fun _ => none, _, _, ⟨fun a o e => (by cases e), Ex.refl _, fun _ _ e _ => e, fun _ _ e => e, ht, fun _ _ => rfl, ?_, fun i s e => ?_, fun i j p xs ys e1 _ _ _ => ?_⟩, hg, ⟨fun _ _ _ _ a => (Bool.noConfusion a), fun v s σ' H' H0' env a b c _ => ?_, fun _ _ _ _ a => (Bool.noConfusion a), fun _ _ _ _ a => (Bool.noConfusion a)⟩⟩
  · rw [List.length_cons, List.length_cons, List.length_replicate]; omega
  · rcases slot i s e with rfl | ⟨rfl, rfl⟩
    · trivial
    · exact h1
  · rcases slot i _ e1 with h | ⟨_, h⟩ <;> cases h
  · have a : isTrueS s = true := a
    unfold isTrueS at a
    split at a
    · have c : v = .bl true := c
      rw [c]; exact hq H'
    · cases a
end Orn

set_option Elab.async false
set_option linter.all false
set_option maxRecDepth 100000
set_option maxHeartbeats 4000000
namespace Orn
open PySem PySem.Spec L2

theorem hu65 {k : Nat} {A : Around} (r : Room k A) : A.units + 65 < cLine := by have := r.un; omega
section
variable {X : Cx} {e a b c : Expr} {es : List Expr} {pos p : Pos}
/-- a negative number written -/
theorem sd_neg1 {i : Int} {j : Nat} {p2 : Pos} : PE X (.UnaryOp .USub (.Constant (.int i) j p2) pos) (tD X.K (dC (.int (-i)))) := by
  refine PEc (pe_un un_neg pe_int) fun σ H Q q => ?_
  obtain ⟨F, H0, env, k, R, hf, hq⟩ := q
  exact ⟨i, rfl, hq _ _ H0 H hf R rfl .refl⟩
/-- x = e, the reading of the store -/
theorem sp_st (i : Nat) {f : ES} {tg : Expr} (h : PS X (.Assign [tg] e pos) (tAsg (tS X.K f) (gName i))) : PS X (.Assign [tg] e pos) (tP X.K (pSet i f)) := PSc h fun D σ H q => by
  obtain ⟨F, H0, env, ks, R, hf, E⟩ := q
  exact ⟨F, H0, env, _, R, hf, fun v s H0' H' hk R' hv hn g => E.nx _ _ _ _ hk (R'.set i hv) g.e0⟩
/-- x = [.. for ..], x a local -/
theorem sp_stLc (i : Nat) {vs is : List Nat} {fi : EL} {ft : EG} {fc : EB} {fe : ED} {tg : Expr} (h : PS X (.Assign [tg] e pos) (tAsg (tLc (tI X.K fi) (tGt X.K is ft) (tT X.K fc) (tD X.K fe) vs) (gName i))) (hs : ∀ i ∈ is, i ∈ vs := by decide) :
    PS X (.Assign [tg] e pos) (tP X.K (pSet i (sLc vs fi ft fc fe))) := sp_st i (PSc h fun _ _ _ q => lc_ok hs q)
/-- the list of a slot is written, what stands in the slot with it -/
theorem StR.own {K : PySem.W.Frag} {F : Fr} {H0 H : Hp} {σ : L2.St} {env : List S} {i : Nat} {ds es : List D} {p : Addr} {vs us : List V} (R : StR K F H0 σ H env) (hi : env[i]? = some (.ow ds)) (hp : σ[i]? = some (some (.ref p))) (w : Own F H0 H p vs) (r : RpL K H0 es us) :
    StR K F H0 σ (upd H p (.lst us)) (env.set i (.ow es)) := by
  have R1 : StR K F H0 σ H (env.set i .un) := by
    refine ⟨R.ex, R.e0, R.keep, R.newo, R.tok, R.tfr, by rw [List.length_set]; exact R.len, fun j s h => ?_, fun a b q xs ys h1 h2 h3 h4 => ?_⟩
    · by_cases c : i = j
      · subst c
        rw [List.getElem?_set_self (List.getElem?_eq_some_iff.mp hi).1] at h
        cases h; trivial
      · rw [List.getElem?_set_ne c] at h; exact R.slot j s h
    · have f : ∀ (c : Nat) (zs : List D), (env.set i S.un)[c]? = some (.ow zs) → env[c]? = some (.ow zs) := fun c zs h => by
        by_cases z : i = c
        · subst z
          rw [List.getElem?_set_self (List.getElem?_eq_some_iff.mp hi).1] at h
          cases h
        · rw [List.getElem?_set_ne z] at h; exact h
      exact R.sep a b q xs ys (f a xs h1) (f b ys h2) h3 h4
  have ne : ∀ (j : Nat) (xs : List D), (env.set i S.un)[j]? = some (.ow xs) → σ[j]? ≠ some (some (.ref p)) := fun j xs h e => by
    by_cases z : i = j
    · subst z
      rw [List.getElem?_set_self (List.getElem?_eq_some_iff.mp hi).1] at h
      cases h
    · rw [List.getElem?_set_ne z] at h
      exact z (R.sep i j p ds xs hi h hp e)
  have R2 := R1.mut (o := .lst us) w.at_ w.f w.e w.t ne
  have hv : ValR K F H0 σ (upd H p (.lst us)) (env.set i .un) (.ref p) (.ow es) := ⟨p, us, rfl, ⟨w.e, w.f, upd_same, w.t⟩, r, ne⟩
  have R3 := R2.set i hv
  rw [set_self hp, List.set_set] at R3
  exact R3
/-- xs.append(e) -/
def pApp (i : Nat) (f : ED) : ST := fun env ks => match sat env i with
  | .ow ds => f env fun d => match Nat.blt ds.length 100000 with
    | true => ks.nx (env.set i (.ow (ds ++ [d])))
    | false => false
  | _ => false
theorem sp_app (i : Nat) {f : ED} {st : Stmt} (h : PS X st (tDrop (tBM X.K "list" rAppend (tVar i) (tCons (tD X.K f) tNil)))) : PS X st (tP X.K (pApp i f)) := PSc h fun D σ H q => by
  obtain ⟨F, H0, env, ks, R, hf, E⟩ := q
  unfold pApp at hf
  split at hf
  · rename_i ds hs
    have he := sat_some hs (fun z => by cases z)
    obtain ⟨l, vs, e1, w, r⟩ := R.slot i _ he
    refine ⟨.ref l, e1, .inl ⟨rfl, vs, SqL.of w.at_⟩, F, H0, env, _, R, hf, fun v d H0' H' hk R' rd g => ?_⟩
    cases hb : Nat.blt ds.length 100000 with
    | false => rw [hb] at hk; cases hk
    | true =>
      rw [hb] at hk
      obtain ⟨l', vs', e1', w', r'⟩ := R'.slot i _ he
      rw [e1] at e1'
      cases e1'
      refine ⟨l, vs', v, rfl, rfl, w'.at_, ?_, E.nx _ _ _ _ hk (R'.own he e1 w' (r'.append (RpL.one rd))) g.e0⟩
      rw [r'.length]
      exact Nat.lt_of_lt_of_le (Nat.blt_eq.mp hb) (by decide)
  · cases hf
/-- xs.insert(e1, e2) -/
def pIns (i : Nat) (f1 f2 : ED) : ST := fun env ks => match sat env i with
  | .ow ds => f1 env fun a => f2 env fun d => match a with
    | .int z => if ds.length < 100000 ∧ 0 ≤ z ∧ z < 2 ^ 62 then ks.nx (env.set i (.ow (ds.take z.toNat ++ [d] ++ ds.drop z.toNat))) else false
    | _ => false
  | _ => false
theorem sp_ins (i : Nat) {f1 f2 : ED} {st : Stmt} (h : PS X st (tDrop (tBM X.K "list" (fun x vs H Q => ∃ (l : Addr) (xs : List V) (i : Int) (y : V), x = .ref l ∧ vs = [.int i, y] ∧ H l = some (.lst xs) ∧ xs.length < sizeLine ∧ 0 ≤ i ∧ i < 2 ^ 63 ∧
    Q .non (upd H l (.lst (xs.take i.toNat ++ [y] ++ xs.drop i.toNat)))) (tVar i) (tCons (tD X.K f1) (tCons (tD X.K f2) tNil))))) : PS X st (tP X.K (pIns i f1 f2)) := PSc h fun D σ H q => by
  obtain ⟨F, H0, env, ks, R, hf, E⟩ := q
  unfold pIns at hf
  split at hf
  · rename_i ds hs
    have he := sat_some hs (fun z => by cases z)
    obtain ⟨l, vs, e1, w, r⟩ := R.slot i _ he
    refine ⟨.ref l, e1, .inl ⟨rfl, vs, SqL.of w.at_⟩, F, H0, env, _, R, hf, fun u a H1 G1 hk1 R1 ra g1 => ⟨F, H1, env, _, R1, hk1, fun v d H0' H' hk R' rd g => ?_⟩⟩
    cases a <;> first | (cases hk; done) | skip
    rename_i z
    have hk : (if ds.length < 100000 ∧ 0 ≤ z ∧ z < 2 ^ 62 then ks.nx (env.set i (.ow (ds.take z.toNat ++ [d] ++ ds.drop z.toNat))) else false) = true := hk
    split at hk
    · rename_i c
      obtain ⟨l', vs', e1', w', r'⟩ := R'.slot i _ he
      rw [e1] at e1'
      cases e1'
      have ru : u = .int z := ra
      subst ru
      refine ⟨l, vs', z, v, rfl, rfl, w'.at_, ?_, c.2.1, by omega, E.nx _ _ _ _ hk (R'.own he e1 w' (((r'.take _).append (RpL.one rd)).append (r'.drop _))) (g1.trans g).e0⟩
      rw [r'.length]
      exact Nat.lt_of_lt_of_le (by omega : ds.length < 100001) (by decide)
    · cases hk
  · cases hf
theorem RpL.dropLast {K : PySem.W.Frag} {H : Hp} {ds : List D} {vs : List V} (r : RpL K H ds vs) : RpL K H ds.dropLast vs.dropLast := by
  rw [List.dropLast_eq_take, List.dropLast_eq_take, r.length]
  exact r.take _
/-- x = xs.pop() -/
def pPop (j i : Nat) : ST := fun env ks => match sat env i with
  | .ow ds => match ds[ds.length - 1]? with
    | some d => ks.nx ((env.set i (.ow ds.dropLast)).set j (.sh d))
    | none => false
  | _ => false
theorem sp_pop (j i : Nat) {tg : Expr} (h : PS X (.Assign [tg] e pos) (tAsg (tBM0 X.K "list" rPop (tVar i)) (gName j))) : PS X (.Assign [tg] e pos) (tP X.K (pPop j i)) := PSc h fun D σ H q => by
  obtain ⟨F, H0, env, ks, R, hf, E⟩ := q
  unfold pPop at hf
  split at hf
  · rename_i ds hs
    have he := sat_some hs (fun z => by cases z)
    obtain ⟨l, vs, e1, w, r⟩ := R.slot i _ he
    split at hf
    · rename_i d hd
      obtain ⟨v, hv, rv⟩ := r.get hd
      have R2 := R.own he e1 w r.dropLast
      have hv2 : ValR X.K F H0 σ (upd H l (.lst vs.dropLast)) (env.set i (.ow ds.dropLast)) v (.sh d) := rv
      exact ⟨.ref l, e1, .inl ⟨rfl, vs, SqL.of w.at_⟩, l, vs, v, rfl, rfl, w.at_, by rw [r.length]; exact hv, E.nx _ _ _ _ hf (R2.set j hv2) (Ex.refl _)⟩
    · cases hf
  · cases hf
/-- xs[e1] = e -/
def pPut (i : Nat) (f1 f : ED) : ST := fun env ks => f env fun d => match sat env i with
  | .ow ds => f1 env fun a => match a with
    | .int z => match ixN ds.length z with
      | some m => ks.nx (env.set i (.ow (ds.set m d)))
      | none => false
    | _ => false
  | _ => false
theorem sp_put (i : Nat) {f1 f : ED} {st : Stmt} (h : PS X st (tAsg (tD X.K f) (gSub (tVar i) (tV X.K f1) rSetL))) : PS X st (tP X.K (pPut i f1 f)) := PSc h fun D σ H q => by
  obtain ⟨F, H0, env, ks, R, hf, E⟩ := q
  refine ⟨F, H0, env, _, R, hf, fun v d H1 G1 hk R1 rd g1 => ?_⟩
  split at hk
  · rename_i ds hs
    have he := sat_some hs (fun z => by cases z)
    obtain ⟨l, vs, e1, w, r⟩ := R1.slot i _ he
    refine ⟨.ref l, e1, F, H1, env, _, R1, hk, fun u a H2 G2 hk2 R2 wa g2 => ?_⟩
    cases a <;> first | (cases hk2; done) | skip
    rename_i z
    cases hm : ixN ds.length z with
    | none => simp only [hm] at hk2; cases hk2
    | some m =>
      simp only [hm] at hk2
      obtain ⟨l', vs', e1', w', r'⟩ := R2.slot i _ he
      rw [e1] at e1'
      cases e1'
      rw [wa.int]
      exact ⟨l, vs', z, m, rfl, rfl, w'.at_, by rw [r'.length]; exact hm, E.nx _ _ _ _ hk2 (R2.own he e1 w' (RpL.set m r' (Rp.mono g2.e0 d v rd))) (g1.trans g2).e0⟩
  · cases hk

/-! ### in place -/
def gAugAdd : D → D → (D → Bool) → Bool
  | .int i, .int j, k => kInt (i + j) k
  | .str x, .str y, k => if x.length + y.length ≤ 100000 then k (.str (x ++ y)) else false
  | _, _, _ => false
theorem iAdd : PIp X .Add (rD X.K gAugAdd) := by
  refine opi (f := inplaceOp .Add) (OpR.or iop_add iop_add_str) fun x y H Q q => ?_
  obtain ⟨F, H0, σ, env, d, e, k, R, w1, w2, h, hq⟩ := q
  unfold gAugAdd at h
  split at h
  · rw [kInt_eq] at h
    exact .inl ⟨_, _, w1.int, w2.int, hq _ _ H0 H h R rfl .refl⟩
  · split at h
    · rename_i c
      exact .inr ⟨_, _, w1.str, w2.str, sz5 c, hq _ _ H0 H h R rfl .refl⟩
    · cases h
  · cases h
theorem iSub : PIp X .Sub (rD X.K gSubI) := by
  refine opi (f := inplaceOp .Sub) iop_sub fun x y H Q q => ?_
  obtain ⟨F, H0, σ, env, d, e, k, R, w1, w2, h, hq⟩ := q
  cases d <;> cases e <;> first | (cases h; done) | skip
  rename_i i j
  rw [show gSubI (.int i) (.int j) k = kInt (i - j) k from rfl, kInt_eq] at h
  exact ⟨_, _, w1.int, w2.int, hq _ _ H0 H h R rfl .refl⟩

/-! ### isinstance -/
def tyN : D → String
  | .none => "NoneType"
  | .bool _ => "bool"
  | .int _ => "int"
  | .str _ => "str"
  | .list _ => "list"
  | .tuple _ => "tuple"
  | .dict _ => "dict"
/-- T: one of bool, int, str, list, tuple -/
inductive IsT where
  | bool | int | str | list | tuple
def IsT.nm : IsT → String
  | .bool => "bool"
  | .int => "int"
  | .str => "str"
  | .list => "list"
  | .tuple => "tuple"
def IsT.is : IsT → D → Bool
  | .bool, .bool _ => true
  | .int, .bool _ => true
  | .int, .int _ => true
  | .str, .str _ => true
  | .list, .list _ => true
  | .tuple, .tuple _ => true
  | _, _ => false
theorem kit_is (K : PySem.W.Frag) (T : IsT) (d : D) (h : ∀ kvs, d ≠ .dict kvs) : PySem.W.kitOne K (.type (tyN d)) (.type T.nm) = some (T.is d) := by
  cases d <;> first | exact absurd rfl (h _) | (cases T <;> rfl)
theorem ty_of {K : PySem.W.Frag} {F : Fr} {H0 H : Hp} {σ : L2.St} {env : List S} {d : D} {v : V} (R : StR K F H0 σ H env) (w : Vw K F H0 H d v) : TyX K H v (.type (tyN d)) := by
  cases d with
  | none => rw [w.none]; exact .base .non
  | bool b => rw [w.bool]; exact .base (.bl b)
  | int i => rw [w.int]; exact .base (.int i)
  | str x => rw [w.str]; exact .base (.str x)
  | list ds => obtain ⟨p, vs, rfl, hp, _⟩ := w.lst R; exact .base (.lst hp)
  | tuple ds =>
    obtain ⟨p, vs, rfl, hp, _⟩ := w.tup
    rcases ex_t R.ex hp with (h | ⟨o, h⟩) | ⟨o, its, n, h1, h2, _⟩
    · exact .base (.tup h)
    · exact .fTuple h
    · exact .kTuple h1 h2
  | dict kvs =>
    rcases w with h | ⟨_, _, _, e, _⟩
    · exact h.elim
    · cases e
def dIs (T : IsT) (f : ED) : ED := fun env k => f env fun d => kBl (T.is d) k
theorem sd_isi {T : IsT} {f : ED} (h : PE X e (tCB (rIsi X.K) (tCons (tV X.K f) (tCons (tC (.ty T.nm)) tNil)))) : PE X e (tD X.K (dIs T f)) := PEc h fun σ H Q q => by
  obtain ⟨F, H0, env, k, R, hf, hq⟩ := q
  refine ⟨F, H0, env, _, R, hf, fun v d H1 G1 hk R1 w g1 => ?_⟩
  rw [kBl_eq] at hk
  refine ⟨v, .ty T.nm, .type (tyN d), .type T.nm, T.is d, rfl, .ty _, ty_of R1 w, kit_is _ _ _ (fun kvs z => ?_), hq _ _ H1 G1 hk R1 rfl g1⟩
  subst z
  rcases w with h | ⟨_, _, _, e, _⟩
  · exact h.elim
  · cases e

/-! ### a def that the module knows -/
def Cal (P : Program) (w : World) (K : PySem.W.Frag) (mg : Str → Option Value) (base : Heap) (x : Str) (k n : Nat) (m : FN) : Prop :=
  ∃ (f : Addr) (fd : FuncData) (ps : List Str), FnOk P w K mg base CX0 k f fd ps (spF K n m) ∧ mg x = some (.ref f) ∧ PySem.W.keepIn K (.ref f) = true ∧ Binds K fd ps []
theorem ss_c {x : Str} {j k n : Nat} {m : FN} {fa : EA} (G : Cal X.prog X.w X.K X.mg X.base x k n m) (hr : Room j X.A) (hj : k ≤ j) (hg : Gl X x) (ha : PA X (e :: es) (tA X.K n fa)) (hdb : (x == ("__debug__" : Str)) = false := by decide)
    (he : starEach (e :: es) X.env = (false, eval e X.env) :: starEach es X.env := by exact rfl) (hpl : (backTo pos (starEach es X.env)).any (·.1) = false := by exact rfl) : PE X (.Call (.Name x p) (e :: es) [] pos) (tS X.K (sFn m fa)) := by
  obtain ⟨f, fd, ps, G, hm, hk, hb⟩ := G
  exact ss_call G hr hj hg hm hk hb ha hdb he hpl
theorem ss_c0 {x : Str} {j k : Nat} {m : FN} (G : Cal X.prog X.w X.K X.mg X.base x k 0 m) (hr : Room j X.A) (hj : k ≤ j) (hg : Gl X x) (hdb : (x == ("__debug__" : Str)) = false := by decide) : PE X (.Call (.Name x p) [] [] pos) (tS X.K (sFn m aNil)) := by
  obtain ⟨f, fd, ps, G, hm, hk, hb⟩ := G
  exact ss_call0 G hr hj hg hm hk hb hdb
end
end Orn

set_option Elab.async false
set_option linter.all false
set_option maxRecDepth 100000
set_option maxHeartbeats 4000000
namespace Orn
open PySem PySem.Spec L2
section
variable {X : Cx} {e a b c : Expr} {es : List Expr} {pos p : Pos}
/-- x = e, a list let go at once -/
def pSetF (i : Nat) (f : ES) : ST := fun env ks => f env fun s => ks.nx (env.set i (fzS s))
theorem sat_set : ∀ {env : List S} {i : Nat} {s : S}, i < env.length → sat (env.set i s) i = s
  | [], _, _, h => absurd h (Nat.not_lt_zero _)
  | _ :: _, 0, _, _ => rfl
  | _ :: r, i + 1, s, h => sat_set (env := r) (Nat.lt_of_succ_lt_succ h)
theorem sp_stF (i : Nat) {f : ES} {tg : Expr} (h : PS X (.Assign [tg] e pos) (tAsg (tS X.K f) (gName i))) : PS X (.Assign [tg] e pos) (tP X.K (pSetF i f)) := PSc h fun D σ H q => by
  obtain ⟨F, H0, env, ks, R, hf, E⟩ := q
  refine ⟨F, H0, env, _, R, hf, fun v s H0' H' hk R' hv hn g => ?_⟩
  by_cases hi : i < env.length
  · obtain ⟨H1, R1, x1⟩ := (R'.set i hv).fz1 i
    rw [sat_set hi, List.set_set] at R1
    exact E.nx _ _ _ _ hk R1 (g.e0.trans x1)
  · have e : ∀ s, env.set i s = env := fun s => List.set_eq_of_length_le (by omega)
    have R1 := R'.set i hv
    rw [e] at R1
    rw [e] at hk
    exact E.nx _ _ _ _ hk R1 g.e0
theorem sp_stLcF (i : Nat) {vs is : List Nat} {fi : EL} {ft : EG} {fc : EB} {fe : ED} {tg : Expr} (h : PS X (.Assign [tg] e pos) (tAsg (tLc (tI X.K fi) (tGt X.K is ft) (tT X.K fc) (tD X.K fe) vs) (gName i))) (hs : ∀ i ∈ is, i ∈ vs := by decide) :
    PS X (.Assign [tg] e pos) (tP X.K (pSetF i (sLc vs fi ft fc fe))) := sp_stF i (PSc h fun _ _ _ q => lc_ok hs q)
def pPar3 (i j l : Nat) (f : EL) : ST := fun env ks => f env fun ds => match ds with
  | [a, b, c] => ks.nx (((env.set i (.sh a)).set j (.sh b)).set l (.sh c))
  | _ => false
theorem sp_par3 (i j l : Nat) {f : EL} {tg : Expr} (h : PS X (.Assign [tg] e pos) (tPar3 i j l (tL X.K 3 f))) : PS X (.Assign [tg] e pos) (tP X.K (pPar3 i j l f)) := PSc h fun D σ H q => by
  obtain ⟨F, H0, env, ks, R, hf, E⟩ := q
  refine ⟨F, H0, env, _, R, hf, fun vs ds H0' H' hk R' r hn g => ?_⟩
  match ds, hn, hk, r with
  | [a, b, c], _, hk, r =>
    obtain ⟨v, vs, rfl, r1, u, us, rfl, r2, w, ws, rfl, r3, r4⟩ := r
    have r4 : ws = [] := r4
    subst r4
    have r1 : ValR X.K F H0' σ H' env v (.sh a) := r1
    have r2 : ValR X.K F H0' (σ.set i (some v)) H' (env.set i (.sh a)) u (.sh b) := r2
    have r3 : ValR X.K F H0' ((σ.set i (some v)).set j (some u)) H' ((env.set i (.sh a)).set j (.sh b)) w (.sh c) := r3
    exact ⟨v, u, w, rfl, E.nx _ _ _ _ hk (((R'.set i r1).set j r2).set l r3) g.e0⟩
end
end Orn

set_option Elab.async false
set_option linter.all false
set_option maxRecDepth 100000
set_option maxHeartbeats 4000000
/-! What is more known gives no less: functions of slots and of what follows are monotone; a statement changes only the slots that it writes. -/
namespace Orn
open PySem

def leS (a b : S) : Prop := a = .un ∨ a = b
def leE : List S → List S → Prop
  | [], [] => True
  | a :: r, b :: r' => leS a b ∧ leE r r'
  | _, _ => False
theorem leS.refl (a : S) : leS a a := .inr rfl
theorem leE.refl : ∀ e : List S, leE e e
  | [] => trivial
  | a :: r => ⟨.inr rfl, leE.refl r⟩
theorem leS.trans {a b c : S} (h : leS a b) (g : leS b c) : leS a c := by
  rcases h with h | h
  · exact .inl h
  · rcases g with g | g
    · exact .inl (h.trans g)
    · exact .inr (h.trans g)
theorem leE.trans : ∀ {a b c : List S}, leE a b → leE b c → leE a c
  | [], [], [], _, _ => trivial
  | x :: a, y :: b, z :: c, h, g => ⟨h.1.trans g.1, leE.trans h.2 g.2⟩
  | [], [], _ :: _, _, g => g.elim
  | [], _ :: _, _, h, _ => h.elim
  | _ :: _, [], _, h, _ => h.elim
  | _ :: _, _ :: _, [], _, g => g.elim
theorem leE.sat : ∀ {e1 e2 : List S}, leE e1 e2 → ∀ i, leS (sat e1 i) (sat e2 i)
  | [], [], _, _ => .inr rfl
  | _ :: _, _ :: _, h, 0 => h.1
  | _ :: _, _ :: _, h, i + 1 => leE.sat h.2 i
  | [], _ :: _, h, _ => h.elim
  | _ :: _, [], h, _ => h.elim
theorem leE.set : ∀ {e1 e2 : List S} {a b : S}, leE e1 e2 → leS a b → ∀ i, leE (e1.set i a) (e2.set i b)
  | [], [], _, _, _, _, _ => trivial
  | _ :: _, _ :: _, _, _, h, s, 0 => ⟨s, h.2⟩
  | _ :: _, _ :: _, _, _, h, s, i + 1 => ⟨h.1, leE.set h.2 s i⟩
  | [], _ :: _, _, _, h, _, _ => h.elim
  | _ :: _, [], _, _, h, _, _ => h.elim
theorem leE.len : ∀ {e1 e2 : List S}, leE e1 e2 → e1.length = e2.length
  | [], [], _ => rfl
  | _ :: _, _ :: _, h => by rw [List.length_cons, List.length_cons, leE.len h.2]
  | [], _ :: _, h => h.elim
  | _ :: _, [], h => h.elim
def frW (W : List Nat) (e e' : List S) : Prop := e'.length = e.length ∧ ∀ i, i ∉ W → sat e' i = sat e i
theorem frW.refl {W : List Nat} {e : List S} : frW W e e := ⟨rfl, fun _ _ => rfl⟩
theorem frW.trans {W : List Nat} {a b c : List S} (h : frW W a b) (g : frW W b c) : frW W a c := ⟨g.1.trans h.1, fun i n => (g.2 i n).trans (h.2 i n)⟩
theorem frW.mono {W W' : List Nat} {a b : List S} (h : frW W a b) (s : ∀ i ∈ W, i ∈ W') : frW W' a b := ⟨h.1, fun i n => h.2 i fun z => n (s i z)⟩
theorem sat_ne : ∀ {e : List S} {i j : Nat} {s : S}, i ≠ j → sat (e.set i s) j = sat e j
  | [], _, _, _, _ => rfl
  | _ :: _, 0, 0, _, h => absurd rfl h
  | _ :: _, 0, _ + 1, _, _ => rfl
  | _ :: _, _ + 1, 0, _, _ => rfl
  | _ :: r, i + 1, j + 1, _, h => sat_ne (e := r) fun z => h (by rw [z])
theorem frW.set {W : List Nat} {e : List S} {i : Nat} {s : S} (h : i ∈ W) : frW W e (e.set i s) := ⟨List.length_set .., fun j n => sat_ne fun z => n (z ▸ h)⟩
theorem leE.fz {e1 e2 : List S} (h : leE e1 e2) (is : List Nat) : leE (fzE e1 is) (fzE e2 is) := by
  induction is generalizing e1 e2 with
  | nil => exact h
  | cons i is ih =>
    refine ih (h.set ?_ i)
    rcases h.sat i with c | c
    · rw [c]; exact .inl rfl
    · rw [c]; exact .inr rfl
theorem frW.fz {W : List Nat} (is : List Nat) : ∀ {e : List S}, (∀ i ∈ is, i ∈ W) → frW W e (fzE e is) := by
  induction is with
  | nil => intro e _; exact .refl
  | cons i is ih => intro e h; exact (frW.set (h i (List.mem_cons_self))).trans (ih fun j z => h j (List.mem_cons_of_mem _ z))
theorem leE.wipe {e1 e2 : List S} (h : leE e1 e2) : ∀ vs, leE (wipeE e1 vs) (wipeE e2 vs)
  | [] => h
  | v :: vs => (leE.wipe h vs).set (.inl rfl) v

/-! ### expressions -/
class MX {α : Type} (f : List S → (α → Bool) → Bool) : Prop where
  mono : ∀ e1 e2 k1 k2, leE e1 e2 → (∀ x, k1 x = true → k2 x = true) → f e1 k1 = true → f e2 k2 = true
class MC {α β : Type} (g : α → (β → Bool) → Bool) : Prop where
  mono : ∀ a k1 k2, (∀ x, k1 x = true → k2 x = true) → g a k1 = true → g a k2 = true
class M2 {β : Type} (g : D → D → (β → Bool) → Bool) : Prop where
  mono : ∀ a b k1 k2, (∀ x, k1 x = true → k2 x = true) → g a b k1 = true → g a b k2 = true
class MG {α : Type} (g : α → List S → (List S → Bool) → Bool) (W : outParam (List Nat)) : Prop where
  mono : ∀ d e1 e2 k1 k2, leE e1 e2 → (∀ e1' e2', leE e1' e2' → frW W e2 e2' → k1 e1' = true → k2 e2' = true) → g d e1 k1 = true → g d e2 k2 = true
theorem kInt_mono {z : Int} {k1 k2 : D → Bool} (h : ∀ x, k1 x = true → k2 x = true) (q : kInt z k1 = true) : kInt z k2 = true := by
  rw [kInt_eq] at *; exact h _ q
theorem kBl_mono {z : Bool} {k1 k2 : D → Bool} (h : ∀ x, k1 x = true → k2 x = true) (q : kBl z k1 = true) : kBl z k2 = true := by
  rw [kBl_eq] at *; exact h _ q
theorem ite_m {c : Prop} [Decidable c] {a1 a2 b1 b2 : Bool} (ha : a1 = true → a2 = true) (hb : b1 = true → b2 = true) (h : (if c then a1 else b1) = true) : (if c then a2 else b2) = true := by
  by_cases q : c
  · rw [if_pos q] at *; exact ha h
  · rw [if_neg q] at *; exact hb h
instance : M2 gSubI := ⟨fun a b k1 k2 hk h => by cases a <;> cases b <;> first | (cases h; done) | exact kInt_mono hk h⟩
instance : M2 gMul := ⟨fun a b k1 k2 hk h => by cases a <;> cases b <;> first | (cases h; done) | exact ite_m (kInt_mono hk) id h⟩
instance : M2 gAdd := ⟨fun a b k1 k2 hk h => by cases a <;> cases b <;> first | (cases h; done) | exact kInt_mono hk h | exact ite_m (hk _) id h⟩
instance : M2 gDiv := ⟨fun a b k1 k2 hk h => by cases a <;> cases b <;> first | (cases h; done) | exact ite_m (ite_m (kInt_mono hk) id) (ite_m (ite_m (kInt_mono hk) id) id) h⟩
instance : M2 gMod := ⟨fun a b k1 k2 hk h => by cases a <;> cases b <;> first | (cases h; done) | exact ite_m (kInt_mono hk) (ite_m (kInt_mono hk) id) h⟩
instance : M2 gPow := ⟨fun a b k1 k2 hk h => by cases a <;> cases b <;> first | (cases h; done) | exact ite_m (kInt_mono hk) id h⟩
instance : M2 gShl := ⟨fun a b k1 k2 hk h => by cases a <;> cases b <;> first | (cases h; done) | exact ite_m (kInt_mono hk) id h⟩
instance : MC gNeg := ⟨fun a k1 k2 hk h => by cases a <;> first | (cases h; done) | exact kInt_mono hk h⟩
instance : M2 gLt := ⟨fun a b k1 k2 hk h => by cases a <;> cases b <;> first | (cases h; done) | exact kBl_mono hk h⟩
instance : M2 gLe := ⟨fun a b k1 k2 hk h => by cases a <;> cases b <;> first | (cases h; done) | exact kBl_mono hk h⟩
instance : M2 gGt := ⟨fun a b k1 k2 hk h => by cases a <;> cases b <;> first | (cases h; done) | exact kBl_mono hk h⟩
instance : M2 gGe := ⟨fun a b k1 k2 hk h => by cases a <;> cases b <;> first | (cases h; done) | exact kBl_mono hk h⟩
theorem eqv_int (i j : Int) : PyData.eqv (.int i) (.int j) = decide (i = j) := by
  by_cases c : i = j
  · subst c; simp [PyData.eqv]
  · simp [PyData.eqv, c]
theorem gEq_sh {d e : D} {k : D → Bool} (h1 : SeqAt.shaped d = true) (h2 : SeqAt.shaped e = true) (h : k (.bool (PyData.eqv d e)) = true) : gEq d e k = true := by
  unfold gEq
  split
  · rw [kBl_eq, ← eqv_int]; exact h
  · rw [h1, h2]; exact (kBl_eq _ _).trans h
theorem gNe_sh {d e : D} {k : D → Bool} (h1 : SeqAt.shaped d = true) (h2 : SeqAt.shaped e = true) (h : k (.bool (!PyData.eqv d e)) = true) : gNe d e k = true := by
  unfold gNe
  split
  · rw [kBl_eq, ← eqv_int]; exact h
  · rw [h1, h2]; exact (kBl_eq _ _).trans h
instance : M2 gEq := ⟨fun a b k1 k2 hk h => by
  rcases gEq_cases h with ⟨i, j, rfl, rfl, h3⟩ | ⟨h1, h2, h3⟩
  · exact (kBl_eq _ _).trans (hk _ h3)
  · exact gEq_sh h1 h2 (hk _ h3)⟩
instance : M2 gNe := ⟨fun a b k1 k2 hk h => by
  rcases gNe_cases h with ⟨i, j, rfl, rfl, h3⟩ | ⟨h1, h2, h3⟩
  · exact (kBl_eq _ _).trans (hk _ h3)
  · exact gNe_sh h1 h2 (hk _ h3)⟩
instance : M2 gIsN := ⟨fun a b k1 k2 hk h => by cases a <;> cases b <;> first | (cases h; done) | exact kBl_mono hk h | exact hk _ h⟩
instance : M2 gNotN := ⟨fun a b k1 k2 hk h => by cases a <;> cases b <;> first | (cases h; done) | exact kBl_mono hk h | exact hk _ h⟩
instance : M2 gCat := ⟨fun a b k1 k2 hk h => by cases a <;> cases b <;> first | (cases h; done) | exact ite_m (hk _) id h⟩
instance : M2 gRep := ⟨fun a b k1 k2 hk h => by cases a <;> cases b <;> first | (cases h; done) | exact ite_m (hk _) id h⟩
theorem ixD_mono {ds : List D} {i : Int} {k1 k2 : D → Bool} (hk : ∀ x, k1 x = true → k2 x = true) (h : ixD ds i k1 = true) : ixD ds i k2 = true := by
  unfold ixD at *
  cases e : L2.atI ds i <;> simp only [e] at h ⊢
  · cases h
  · exact hk _ h
instance : M2 gIx := ⟨fun a b k1 k2 hk h => by
  cases a <;> cases b <;> first | (cases h; done) | exact ixD_mono hk h | skip
  refine ite_m (fun h => ?_) id h
  split at h
  · exact hk _ h
  · cases h⟩
instance : M2 gIn := ⟨fun a b k1 k2 hk h => by
  cases b <;> first | (unfold gIn at h; cases h; done) | skip
  all_goals (simp only [gIn] at h ⊢; exact ite_m (kBl_mono hk) id h)⟩
instance : M2 gNin := ⟨fun a b k1 k2 hk h => by
  cases b <;> first | (unfold gNin at h; cases h; done) | skip
  all_goals (simp only [gNin] at h ⊢; exact ite_m (kBl_mono hk) id h)⟩
instance : M2 gAugAdd := ⟨fun a b k1 k2 hk h => by cases a <;> cases b <;> first | (cases h; done) | exact kInt_mono hk h | exact ite_m (hk _) id h⟩
instance : MC gLen := ⟨fun a k1 k2 hk h => by
  unfold gLen at *
  split at h
  · exact kInt_mono hk h
  · exact kInt_mono hk h
  · exact ite_m (kInt_mono hk) id h
  · cases h⟩
instance : MC gAbs := ⟨fun a k1 k2 hk h => by
  unfold gAbs at *
  split at h
  · exact kInt_mono hk h
  · cases h⟩
instance : MC gInt := ⟨fun a k1 k2 hk h => by
  unfold gInt at *
  split at h
  · exact hk _ h
  · exact hk _ h
  · cases h⟩
instance : MC gGcd := ⟨fun a k1 k2 hk h => by
  unfold gGcd at *
  split at h
  · exact kInt_mono hk h
  · cases h⟩
instance : MC gMax2 := ⟨fun a k1 k2 hk h => by
  unfold gMax2 at *
  split at h
  · exact kInt_mono hk h
  · cases h⟩
instance : MC gMin2 := ⟨fun a k1 k2 hk h => by
  unfold gMin2 at *
  split at h
  · exact kInt_mono hk h
  · cases h⟩
theorem asInts_mono : ∀ (ds : List D) (k1 k2 : List Int → Bool), (∀ x, k1 x = true → k2 x = true) → asInts ds k1 = true → asInts ds k2 = true
  | [], _, _, hk, h => hk _ h
  | d :: r, k1, k2, hk, h => by
    cases d <;> first | (cases h; done) | skip
    exact asInts_mono r _ _ (fun x q => hk _ q) h
theorem asBools_mono : ∀ (ds : List D) (k1 k2 : List Bool → Bool), (∀ x, k1 x = true → k2 x = true) → asBools ds k1 = true → asBools ds k2 = true
  | [], _, _, hk, h => hk _ h
  | d :: r, k1, k2, hk, h => by
    cases d <;> first | (cases h; done) | skip
    exact asBools_mono r _ _ (fun x q => hk _ q) h
instance : MC gSum := ⟨fun a k1 k2 hk h => by
  unfold gSum at *
  split at h
  · refine asInts_mono _ _ _ (fun x q => ?_) h
    rw [sumI_eq] at *
    exact hk _ q
  · cases h⟩
instance : MC gMax := ⟨fun a k1 k2 hk h => by
  unfold gMax at *
  split at h
  · refine asInts_mono _ _ _ (fun x q => ?_) h
    cases x
    · cases q
    · exact kInt_mono hk q
  · cases h⟩
instance : MC gMin := ⟨fun a k1 k2 hk h => by
  unfold gMin at *
  split at h
  · refine asInts_mono _ _ _ (fun x q => ?_) h
    cases x
    · cases q
    · exact kInt_mono hk q
  · cases h⟩
instance : MC gAll := ⟨fun a k1 k2 hk h => by
  unfold gAll at *
  split at h
  · exact asBools_mono _ _ _ (fun x q => kBl_mono hk q) h
  · cases h⟩
instance : MC gAny := ⟨fun a k1 k2 hk h => by
  unfold gAny at *
  split at h
  · exact asBools_mono _ _ _ (fun x q => kBl_mono hk q) h
  · cases h⟩
instance : MC gTuple := ⟨fun a k1 k2 hk h => by
  unfold gTuple at *
  split at h
  · exact hk _ h
  · exact hk _ h
  · cases h⟩
instance : MC gList := ⟨fun a k1 k2 hk h => by
  unfold gList at *
  split at h
  · exact hk _ h
  · exact hk _ h
  · cases h⟩
theorem truD_mono {d : D} {k1 k2 : Bool → Bool} (hk : ∀ x, k1 x = true → k2 x = true) (h : truD d k1 = true) : truD d k2 = true := by
  cases d with
  | str z => exact ite_m (hk _) id h
  | dict _ => cases h
  | _ => exact hk _ h
theorem allN_mono {n : Nat} {f g : Int → Bool} (h : ∀ i, f i = true → g i = true) (q : allN n f = true) : allN n g = true := (allN_iff n g).mpr fun i a b => h i ((allN_iff n f).mp q i a b)
instance : MC mDraw := ⟨fun a k1 k2 hk h => by
  unfold mDraw at *
  split at h
  · exact ite_m (allN_mono fun i q => hk _ q) id h
  · cases h⟩

section
variable {α β : Type}
instance (i : Nat) : MX (vN i) := ⟨fun e1 e2 k1 k2 h hk hf => by
  unfold vN at *
  rcases h.sat i with c | c
  · rw [c] at hf; cases hf
  · rw [← c]
    cases hs : sat e1 i <;> simp only [hs] at hf ⊢ <;> first | exact hk _ hf | cases hf⟩
instance (i : Nat) : MX (dN i) := ⟨fun e1 e2 k1 k2 h hk hf => by
  unfold dN at *
  rcases h.sat i with c | c
  · rw [c] at hf; cases hf
  · rw [← c]
    cases hs : sat e1 i <;> simp only [hs] at hf ⊢ <;> first | exact hk _ hf | cases hf⟩
instance (i : Nat) : MX (sN i) := ⟨fun e1 e2 k1 k2 h hk hf => by
  unfold sN at *
  rcases h.sat i with c | c
  · rw [c] at hf; cases hf
  · rw [← c]
    cases hs : sat e1 i <;> simp only [hs] at hf ⊢ <;> first | exact hk _ hf | cases hf⟩
instance (i : Nat) : MX (sTake i) := ⟨fun e1 e2 k1 k2 h hk hf => by
  unfold sTake at *
  rcases h.sat i with c | c
  · rw [c] at hf; cases hf
  · rw [← c]
    cases hs : sat e1 i <;> simp only [hs] at hf ⊢ <;> first | exact hk _ hf | cases hf⟩
instance (f : ES) [MX f] : MX (toD f) := ⟨fun e1 e2 k1 k2 h hk hf => MX.mono (f := f) e1 e2 _ _ h (fun s q => by cases s <;> first | exact hk _ q | cases q) hf⟩
instance (f : ED) [MX f] : MX (toS f) := ⟨fun e1 e2 k1 k2 h hk hf => MX.mono (f := f) e1 e2 _ _ h (fun s q => hk _ q) hf⟩
instance (f : ES) [MX f] : MX (aFz f) := ⟨fun e1 e2 k1 k2 h hk hf => MX.mono (f := f) e1 e2 _ _ h (fun s q => by cases s <;> first | exact hk _ q | cases q) hf⟩
instance (d : D) : MX (dC d) := ⟨fun _ _ _ _ _ hk hf => hk _ hf⟩
instance (g : D → D → (D → Bool) → Bool) [M2 g] (f f' : ED) [MX f] [MX f'] : MX (dOp g f f') := ⟨fun e1 e2 k1 k2 h hk hf => MX.mono (f := f) e1 e2 _ _ h (fun d q => MX.mono (f := f') e1 e2 _ _ h (fun e q => M2.mono (g := g) d e _ _ hk q) q) hf⟩
instance (g : D → D → (S → Bool) → Bool) [M2 g] (f f' : ED) [MX f] [MX f'] : MX (sOp g f f') := ⟨fun e1 e2 k1 k2 h hk hf => MX.mono (f := f) e1 e2 _ _ h (fun d q => MX.mono (f := f') e1 e2 _ _ h (fun e q => M2.mono (g := g) d e _ _ hk q) q) hf⟩
instance (g : D → (D → Bool) → Bool) [MC g] (f : ED) [MX f] : MX (dUn g f) := ⟨fun e1 e2 k1 k2 h hk hf => MX.mono (f := f) e1 e2 _ _ h (fun d q => MC.mono (g := g) d _ _ hk q) hf⟩
instance : MX dNil := ⟨fun _ _ _ _ _ hk hf => hk _ hf⟩
instance : MX wNil := ⟨fun _ _ _ _ _ hk hf => hk _ hf⟩
instance : MX aNil := ⟨fun _ _ _ _ _ hk hf => hk _ hf⟩
instance (f : ED) (r : EL) [MX f] [MX r] : MX (dCons f r) := ⟨fun e1 e2 k1 k2 h hk hf => MX.mono (f := f) e1 e2 _ _ h (fun d q => MX.mono (f := r) e1 e2 _ _ h (fun e q => hk _ q) q) hf⟩
instance (f : ED) (r : EL) [MX f] [MX r] : MX (wCons f r) := ⟨fun e1 e2 k1 k2 h hk hf => MX.mono (f := f) e1 e2 _ _ h (fun d q => MX.mono (f := r) e1 e2 _ _ h (fun e q => hk _ q) q) hf⟩
instance (f : ES) (r : EA) [MX f] [MX r] : MX (aCons f r) := ⟨fun e1 e2 k1 k2 h hk hf => MX.mono (f := f) e1 e2 _ _ h (fun d q => MX.mono (f := r) e1 e2 _ _ h (fun e q => hk _ q) q) hf⟩
instance (f : EL) [MX f] : MX (dTup f) := ⟨fun e1 e2 k1 k2 h hk hf => MX.mono (f := f) e1 e2 _ _ h (fun s q => hk _ q) hf⟩
instance (f : EL) [MX f] : MX (sLst f) := ⟨fun e1 e2 k1 k2 h hk hf => MX.mono (f := f) e1 e2 _ _ h (fun s q => hk _ q) hf⟩
instance (g : List D → (D → Bool) → Bool) [MC g] (f : EL) [MX f] : MX (dCall g f) := ⟨fun e1 e2 k1 k2 h hk hf => MX.mono (f := f) e1 e2 _ _ h (fun d q => MC.mono (g := g) d _ _ hk q) hf⟩
instance (g : List D → (S → Bool) → Bool) [MC g] (f : EL) [MX f] : MX (sCall g f) := ⟨fun e1 e2 k1 k2 h hk hf => MX.mono (f := f) e1 e2 _ _ h (fun d q => MC.mono (g := g) d _ _ hk q) hf⟩
instance (f : ED) [MX f] : MX (bV f) := ⟨fun e1 e2 k1 k2 h hk hf => MX.mono (f := f) e1 e2 _ _ h (fun s q => truD_mono hk q) hf⟩
instance (f : ED) [MX f] : MX (bC f) := ⟨fun e1 e2 k1 k2 h hk hf => MX.mono (f := f) e1 e2 _ _ h (fun s q => by cases s <;> first | exact hk _ q | cases q) hf⟩
instance (f g : EB) [MX f] [MX g] : MX (bAnd f g) := ⟨fun e1 e2 k1 k2 h hk hf => MX.mono (f := f) e1 e2 _ _ h (fun s q => by cases s with | true => exact MX.mono (f := g) e1 e2 _ _ h hk q | false => exact hk _ q) hf⟩
instance (f g : EB) [MX f] [MX g] : MX (bOr f g) := ⟨fun e1 e2 k1 k2 h hk hf => MX.mono (f := f) e1 e2 _ _ h (fun s q => by cases s with | false => exact MX.mono (f := g) e1 e2 _ _ h hk q | true => exact hk _ q) hf⟩
instance (f : EB) [MX f] : MX (bNot f) := ⟨fun e1 e2 k1 k2 h hk hf => MX.mono (f := f) e1 e2 _ _ h (fun s q => by cases s <;> exact hk _ q) hf⟩
instance (f g : ED) [MX f] [MX g] : MX (dAnd f g) := ⟨fun e1 e2 k1 k2 h hk hf => MX.mono (f := f) e1 e2 _ _ h (fun s q => truD_mono (fun b q => by cases b with | true => exact MX.mono (f := g) e1 e2 _ _ h hk q | false => exact hk _ q) q) hf⟩
instance (f g : ED) [MX f] [MX g] : MX (dOr f g) := ⟨fun e1 e2 k1 k2 h hk hf => MX.mono (f := f) e1 e2 _ _ h (fun s q => truD_mono (fun b q => by cases b with | false => exact MX.mono (f := g) e1 e2 _ _ h hk q | true => exact hk _ q) q) hf⟩
instance (f : ED) [MX f] : MX (dNot f) := ⟨fun e1 e2 k1 k2 h hk hf => MX.mono (f := f) e1 e2 _ _ h (fun s q => truD_mono (fun b q => by cases b <;> exact hk _ q) q) hf⟩
instance (t : EB) (f g : ED) [MX t] [MX f] [MX g] : MX (dIf t f g) := ⟨fun e1 e2 k1 k2 h hk hf => MX.mono (f := t) e1 e2 _ _ h (fun b q => by cases b with | true => exact MX.mono (f := f) e1 e2 _ _ h hk q | false => exact MX.mono (f := g) e1 e2 _ _ h hk q) hf⟩
instance (t : EB) (f g : ES) [MX t] [MX f] [MX g] : MX (sIf t f g) := ⟨fun e1 e2 k1 k2 h hk hf => MX.mono (f := t) e1 e2 _ _ h (fun b q => by cases b with | true => exact MX.mono (f := f) e1 e2 _ _ h hk q | false => exact MX.mono (f := g) e1 e2 _ _ h hk q) hf⟩
instance : MX oNo := ⟨fun _ _ _ _ _ hk hf => hk _ hf⟩
instance (f : ED) [MX f] : MX (oSo f) := ⟨fun e1 e2 k1 k2 h hk hf => MX.mono (f := f) e1 e2 _ _ h (fun s q => by cases s <;> first | exact hk _ q | cases q) hf⟩
theorem gSlD_mono {d : D} {lo hi : Option Int} {k1 k2 : D → Bool} (hk : ∀ x, k1 x = true → k2 x = true) (h : gSlD d lo hi k1 = true) : gSlD d lo hi k2 = true := by
  cases d <;> first | (cases h; done) | skip
  · exact ite_m (hk _) id h
  · exact hk _ h
theorem gSlS_mono {d : D} {lo hi : Option Int} {k1 k2 : S → Bool} (hk : ∀ x, k1 x = true → k2 x = true) (h : gSlS d lo hi k1 = true) : gSlS d lo hi k2 = true := by
  cases d <;> first | (cases h; done) | exact hk _ h
instance (f : ED) (l u : EO) [MX f] [MX l] [MX u] : MX (dSl f l u) := ⟨fun e1 e2 k1 k2 h hk hf => MX.mono (f := f) e1 e2 _ _ h (fun d q => MX.mono (f := l) e1 e2 _ _ h (fun a q => MX.mono (f := u) e1 e2 _ _ h (fun b q => gSlD_mono hk q) q) q) hf⟩
instance (f : ED) (l u : EO) [MX f] [MX l] [MX u] : MX (sSl f l u) := ⟨fun e1 e2 k1 k2 h hk hf => MX.mono (f := f) e1 e2 _ _ h (fun d q => MX.mono (f := l) e1 e2 _ _ h (fun a q => MX.mono (f := u) e1 e2 _ _ h (fun b q => gSlS_mono hk q) q) q) hf⟩
instance (f : ED) [MX f] : MX (sRev f) := ⟨fun e1 e2 k1 k2 h hk hf => MX.mono (f := f) e1 e2 _ _ h (fun s q => by cases s <;> first | exact hk _ q | cases q) hf⟩
instance (f : ED) [MX f] : MX (iSeq f) := ⟨fun e1 e2 k1 k2 h hk hf => MX.mono (f := f) e1 e2 _ _ h (fun s q => by cases s <;> first | exact hk _ q | cases q) hf⟩
instance (f : EL) [MX f] : MX (iRange1 f) := ⟨fun e1 e2 k1 k2 h hk hf => MX.mono (f := f) e1 e2 _ _ h (fun s q => by
  split at q
  · split at q
    · rename_i c; simp only [c, and_self, ite_true]; rw [rngD_eq] at *; exact hk _ q
    · cases q
  · cases q) hf⟩
instance (f : EL) [MX f] : MX (iRange2 f) := ⟨fun e1 e2 k1 k2 h hk hf => MX.mono (f := f) e1 e2 _ _ h (fun s q => by
  split at q
  · split at q
    · rename_i c; simp only [c, and_self, ite_true]; rw [rngD_eq] at *; exact hk _ q
    · cases q
  · cases q) hf⟩
instance : MX bYes := ⟨fun _ _ _ _ _ hk hf => hk _ hf⟩
instance (T : IsT) (f : ED) [MX f] : MX (dIs T f) := ⟨fun e1 e2 k1 k2 h hk hf => MX.mono (f := f) e1 e2 _ _ h (fun s q => kBl_mono hk q) hf⟩
instance (m : FN) (fa : EA) [MC m] [MX fa] : MX (sFn m fa) := ⟨fun e1 e2 k1 k2 h hk hf => MX.mono (f := fa) e1 e2 _ _ h (fun a q => MC.mono (g := m) a _ _ hk q) hf⟩
/-! ### targets -/
instance (i : Nat) : MG (gN i) [i] := ⟨fun d e1 e2 k1 k2 h hk hf => hk _ _ (h.set (.inr rfl) i) (frW.set (List.mem_singleton.mpr rfl)) hf⟩
instance : MG gsNil [] := ⟨fun d e1 e2 k1 k2 h hk hf => by
  cases d
  · exact hk _ _ h .refl hf
  · cases hf⟩
instance (g : EG) (gs : EGs) (W1 W2 : List Nat) [MG g W1] [MG gs W2] : MG (gsCons g gs) (W1 ++ W2) := ⟨fun d e1 e2 k1 k2 h hk hf => by
  cases d with
  | nil => cases hf
  | cons d ds =>
    exact MG.mono (g := g) d e1 e2 _ _ h (fun a b l f1 q => MG.mono (g := gs) ds a b _ _ l (fun a' b' l' f2 q => hk _ _ l' ((f1.mono fun i z => List.mem_append_left _ z).trans (f2.mono fun i z => List.mem_append_right _ z)) q) q) hf⟩
instance (n : Nat) (gs : EGs) (W : List Nat) [MG gs W] : MG (gTp n gs) W := ⟨fun d e1 e2 k1 k2 h hk hf => by
  cases d <;> first | (cases hf; done) | skip
  exact ite_m (MG.mono (g := gs) _ e1 e2 _ _ h hk) id hf⟩
theorem lcGo_mono (ft : EG) (fc : EB) (fe : ED) (W : List Nat) [MG ft W] [MX fc] [MX fe] {w1 w2 : List S} (h : leE w1 w2) : ∀ (ds : List D) (k1 k2 : List D → Bool), (∀ x, k1 x = true → k2 x = true) → lcGo w1 ft fc fe ds k1 = true → lcGo w2 ft fc fe ds k2 = true
  | [], _, _, hk, q => hk _ q
  | d :: ds, k1, k2, hk, q => MG.mono (g := ft) d w1 w2 _ _ h (fun a b l _ q => MX.mono (f := fc) a b _ _ l (fun c q => by
      cases c with
      | true => exact MX.mono (f := fe) a b _ _ l (fun z q => lcGo_mono ft fc fe W h ds _ _ (fun x q => hk _ q) q) q
      | false => exact lcGo_mono ft fc fe W h ds _ _ hk q) q) q
instance (vs : List Nat) (fi : EL) (ft : EG) (fc : EB) (fe : ED) (W : List Nat) [MX fi] [MG ft W] [MX fc] [MX fe] : MX (sLc vs fi ft fc fe) := ⟨fun e1 e2 k1 k2 h hk hf => MX.mono (f := fi) e1 e2 _ _ h (fun ds q => by
  cases hb : Nat.ble ds.length 100000 with
  | false => simp only [hb] at q; cases q
  | true =>
    simp only [hb] at q ⊢
    exact lcGo_mono ft fc fe W (h.wipe vs) ds _ _ (fun x q => hk _ q) q) hf⟩
end

/-! ### statements -/
structure RK (W : List Nat) (e : List S) (ks1 ks2 : Ks) : Prop where
  nx : ∀ e1 e2, leE e1 e2 → frW W e e2 → ks1.nx e1 = true → ks2.nx e2 = true
  rt : ∀ s, ks1.rt s = true → ks2.rt s = true
  bk : ∀ e1 e2, leE e1 e2 → frW W e e2 → ks1.bk e1 = true → ks2.bk e2 = true
  ct : ∀ e1 e2, leE e1 e2 → frW W e e2 → ks1.ct e1 = true → ks2.ct e2 = true
theorem RK.mono {W W' : List Nat} {e : List S} {ks1 ks2 : Ks} (r : RK W e ks1 ks2) (s : ∀ i ∈ W', i ∈ W) : RK W' e ks1 ks2 :=
  ⟨fun a b l f => r.nx a b l (f.mono s), r.rt, fun a b l f => r.bk a b l (f.mono s), fun a b l f => r.ct a b l (f.mono s)⟩
theorem RK.on {W : List Nat} {e e' : List S} {ks1 ks2 : Ks} (r : RK W e ks1 ks2) (s : frW W e e') : RK W e' ks1 ks2 :=
  ⟨fun a b l f => r.nx a b l (s.trans f), r.rt, fun a b l f => r.bk a b l (s.trans f), fun a b l f => r.ct a b l (s.trans f)⟩
class MP (f : ST) (W : outParam (List Nat)) : Prop where
  mono : ∀ e1 e2 ks1 ks2, leE e1 e2 → RK W e2 ks1 ks2 → f e1 ks1 = true → f e2 ks2 = true
instance : MP pNil [] := ⟨fun e1 e2 ks1 ks2 h r hf => r.nx _ _ h .refl hf⟩
instance : MP pBrk [] := ⟨fun e1 e2 ks1 ks2 h r hf => r.bk _ _ h .refl hf⟩
instance : MP pCont [] := ⟨fun e1 e2 ks1 ks2 h r hf => r.ct _ _ h .refl hf⟩
instance (f g : ST) (W1 W2 : List Nat) [MP f W1] [MP g W2] : MP (pSeq f g) (W1 ++ W2) := ⟨fun e1 e2 ks1 ks2 h r hf => by
  have r1 := r.mono (W' := W1) fun i z => List.mem_append_left _ z
  refine MP.mono (f := f) e1 e2 { ks1 with nx := fun e => g e ks1 } { ks2 with nx := fun e => g e ks2 } h ⟨fun a b l f1 q => ?_, r1.rt, r1.bk, r1.ct⟩ hf
  have r2 := (r.on (f1.mono fun i z => List.mem_append_left _ z)).mono (W' := W2) fun i z => List.mem_append_right _ z
  exact MP.mono (f := g) a b _ _ l r2 q⟩
instance (f : ES) [MX f] : MP (pRet f) [] := ⟨fun e1 e2 ks1 ks2 h r hf => MX.mono (f := f) e1 e2 _ _ h r.rt hf⟩
instance (t : EB) (f g : ST) (W1 W2 : List Nat) [MX t] [MP f W1] [MP g W2] : MP (pIf t f g) (W1 ++ W2) := ⟨fun e1 e2 ks1 ks2 h r hf => MX.mono (f := t) e1 e2 _ _ h (fun b q => by
  cases b with
  | true => exact MP.mono (f := f) e1 e2 _ _ h (r.mono fun i z => List.mem_append_left _ z) q
  | false => exact MP.mono (f := g) e1 e2 _ _ h (r.mono fun i z => List.mem_append_right _ z) q) hf⟩
instance (i : Nat) (f : ES) [MX f] : MP (pSet i f) [i] := ⟨fun e1 e2 ks1 ks2 h r hf => MX.mono (f := f) e1 e2 _ _ h (fun s q => r.nx _ _ (h.set (.inr rfl) i) (frW.set (List.mem_singleton.mpr rfl)) q) hf⟩
instance (i : Nat) (f : ES) [MX f] : MP (pSetF i f) [i] := ⟨fun e1 e2 ks1 ks2 h r hf => MX.mono (f := f) e1 e2 _ _ h (fun s q => r.nx _ _ (h.set (.inr rfl) i) (frW.set (List.mem_singleton.mpr rfl)) q) hf⟩
instance (f : ED) (g : EG) (W : List Nat) [MX f] [MG g W] : MP (pAsg f g) W := ⟨fun e1 e2 ks1 ks2 h r hf => MX.mono (f := f) e1 e2 _ _ h (fun d q => MG.mono (g := g) d e1 e2 _ _ h (fun a b l f1 q => r.nx _ _ l f1 q) q) hf⟩
instance (i : Nat) (g : D → D → (D → Bool) → Bool) (f : ED) [M2 g] [MX f] : MP (pAug i g f) [i] := ⟨fun e1 e2 ks1 ks2 h r hf => by
  unfold pAug at *
  rcases h.sat i with c | c
  · rw [c] at hf; cases hf
  · rw [← c]
    cases hs : sat e1 i <;> simp only [hs] at hf ⊢ <;> first | (cases hf; done) | skip
    exact MX.mono (f := f) e1 e2 _ _ h (fun d q => M2.mono (g := g) _ d _ _ (fun z q => r.nx _ _ (h.set (.inr rfl) i) (frW.set (List.mem_singleton.mpr rfl)) q) q) hf⟩
instance (i j : Nat) (f : EL) [MX f] : MP (pPar i j f) [i, j] := ⟨fun e1 e2 ks1 ks2 h r hf => MX.mono (f := f) e1 e2 _ _ h (fun ds q => by
  match ds, q with
  | [a, b], q => exact r.nx _ _ ((h.set (.inr rfl) i).set (.inr rfl) j) ((frW.set (by simp)).trans (frW.set (by simp))) q) hf⟩
instance (i j l : Nat) (f : EL) [MX f] : MP (pPar3 i j l f) [i, j, l] := ⟨fun e1 e2 ks1 ks2 h r hf => MX.mono (f := f) e1 e2 _ _ h (fun ds q => by
  match ds, q with
  | [a, b, c], q => exact r.nx _ _ (((h.set (.inr rfl) i).set (.inr rfl) j).set (.inr rfl) l) (((frW.set (by simp)).trans (frW.set (by simp))).trans (frW.set (by simp))) q) hf⟩
instance (f : ED) [MX f] : MP (pExpr f) [] := ⟨fun e1 e2 ks1 ks2 h r hf => MX.mono (f := f) e1 e2 _ _ h (fun d q => r.nx _ _ h .refl q) hf⟩
theorem pForGo_mono (ft : EG) (fb : ST) (W1 W2 : List Nat) [MG ft W1] [MP fb W2] : ∀ (ds : List D) (e1 e2 : List S) (ks1 ks2 : Ks), leE e1 e2 → RK (W1 ++ W2) e2 ks1 ks2 → pForGo ft fb ds e1 ks1 = true → pForGo ft fb ds e2 ks2 = true
  | [], _, _, _, _, h, r, hf => r.nx _ _ h .refl hf
  | d :: ds, e1, e2, ks1, ks2, h, r, hf => MG.mono (g := ft) d e1 e2 (fun env1 => fb env1 { nx := fun e => pForGo ft fb ds e ks1, rt := ks1.rt, bk := ks1.nx, ct := fun e => pForGo ft fb ds e ks1 }) (fun env1 => fb env1 { nx := fun e => pForGo ft fb ds e ks2, rt := ks2.rt, bk := ks2.nx, ct := fun e => pForGo ft fb ds e ks2 }) h (fun a b l f1 q => by
      have f1' : frW (W1 ++ W2) e2 b := f1.mono fun i z => List.mem_append_left _ z
      have r' := r.on f1'
      have st : ∀ (a' b' : List S), leE a' b' → frW W2 b b' → pForGo ft fb ds a' ks1 = true → pForGo ft fb ds b' ks2 = true := fun a' b' l' f2 q =>
        pForGo_mono ft fb W1 W2 ds a' b' ks1 ks2 l' (r'.on (f2.mono fun i z => List.mem_append_right _ z)) q
      exact MP.mono (f := fb) a b { nx := fun e => pForGo ft fb ds e ks1, rt := ks1.rt, bk := ks1.nx, ct := fun e => pForGo ft fb ds e ks1 } { nx := fun e => pForGo ft fb ds e ks2, rt := ks2.rt, bk := ks2.nx, ct := fun e => pForGo ft fb ds e ks2 } l ⟨st, r.rt, fun a' b' l' f2 q => r'.nx _ _ l' (f2.mono fun i z => List.mem_append_right _ z) q, st⟩ q) hf
instance (fi : EL) (ft : EG) (fb : ST) (W1 W2 : List Nat) [MX fi] [MG ft W1] [MP fb W2] : MP (pFor fi ft fb) (W1 ++ W2) := ⟨fun e1 e2 ks1 ks2 h r hf => MX.mono (f := fi) e1 e2 _ _ h (fun ds q => pForGo_mono ft fb W1 W2 ds e1 e2 ks1 ks2 h r q) hf⟩
theorem pWhile_mono (t : EB) (fb : ST) (W : List Nat) [MX t] [MP fb W] : ∀ (n : Nat) (e1 e2 : List S) (ks1 ks2 : Ks), leE e1 e2 → RK W e2 ks1 ks2 → pWhile t fb n e1 ks1 = true → pWhile t fb n e2 ks2 = true
  | 0, _, _, _, _, _, _, hf => by cases hf
  | n + 1, e1, e2, ks1, ks2, h, r, hf => MX.mono (f := t) e1 e2 _ _ h (fun b q => by
      cases b with
      | false => exact r.nx _ _ h .refl q
      | true =>
        have st : ∀ (a' b' : List S), leE a' b' → frW W e2 b' → pWhile t fb n a' ks1 = true → pWhile t fb n b' ks2 = true := fun a' b' l' f2 q =>
          pWhile_mono t fb W n a' b' ks1 ks2 l' (r.on f2) q
        exact MP.mono (f := fb) e1 e2 { nx := fun e => pWhile t fb n e ks1, rt := ks1.rt, bk := ks1.nx, ct := fun e => pWhile t fb n e ks1 } { nx := fun e => pWhile t fb n e ks2, rt := ks2.rt, bk := ks2.nx, ct := fun e => pWhile t fb n e ks2 } h ⟨st, r.rt, r.nx, st⟩ q) hf
instance (t : EB) (fb : ST) (n : Nat) (W : List Nat) [MX t] [MP fb W] : MP (pWhile t fb n) W := ⟨pWhile_mono t fb W n⟩
instance (is : List Nat) (f : ST) (W : List Nat) [MP f W] : MP (pFz is f) (is ++ W) := ⟨fun e1 e2 ks1 ks2 h r hf =>
  MP.mono (f := f) _ _ _ _ (h.fz is) ((r.on (frW.fz is fun i z => List.mem_append_left _ z)).mono fun i z => List.mem_append_right _ z) hf⟩
theorem sat_ow {e1 e2 : List S} {i : Nat} (h : leE e1 e2) {α : Type} {P : S → Prop} (hu : ¬ P .un) (q : P (sat e1 i)) : sat e2 i = sat e1 i := by
  rcases h.sat i with c | c
  · rw [c] at q; exact absurd q hu
  · exact c.symm
instance (i : Nat) (f : ED) [MX f] : MP (pApp i f) [i] := ⟨fun e1 e2 ks1 ks2 h r hf => by
  unfold pApp at *
  rcases h.sat i with c | c
  · rw [c] at hf; cases hf
  · rw [← c]
    cases hs : sat e1 i <;> simp only [hs] at hf ⊢ <;> first | (cases hf; done) | skip
    refine MX.mono (f := f) e1 e2 _ _ h (fun d q => ?_) hf
    split at q
    · exact r.nx _ _ (h.set (.inr rfl) i) (frW.set (List.mem_singleton.mpr rfl)) q
    · cases q⟩
instance (i : Nat) (f1 f2 : ED) [MX f1] [MX f2] : MP (pIns i f1 f2) [i] := ⟨fun e1 e2 ks1 ks2 h r hf => by
  unfold pIns at *
  rcases h.sat i with c | c
  · rw [c] at hf; cases hf
  · rw [← c]
    cases hs : sat e1 i <;> simp only [hs] at hf ⊢ <;> first | (cases hf; done) | skip
    refine MX.mono (f := f1) e1 e2 _ _ h (fun a q => MX.mono (f := f2) e1 e2 _ _ h (fun d q => ?_) q) hf
    cases a <;> simp only at q ⊢ <;> first | (cases q; done) | skip
    split at q
    · rename_i c; rw [if_pos c]; exact r.nx _ _ (h.set (.inr rfl) i) (frW.set (List.mem_singleton.mpr rfl)) q
    · cases q⟩
instance (j i : Nat) : MP (pPop j i) [i, j] := ⟨fun e1 e2 ks1 ks2 h r hf => by
  unfold pPop at *
  rcases h.sat i with c | c
  · rw [c] at hf; cases hf
  · rw [← c]
    cases hs : sat e1 i <;> simp only [hs] at hf ⊢ <;> first | (cases hf; done) | skip
    split at hf
    · exact r.nx _ _ ((h.set (.inr rfl) i).set (.inr rfl) j) ((frW.set (by simp)).trans (frW.set (by simp))) hf
    · cases hf⟩
instance (i : Nat) (f1 f : ED) [MX f1] [MX f] : MP (pPut i f1 f) [i] := ⟨fun e1 e2 ks1 ks2 h r hf => by
  unfold pPut at *
  refine MX.mono (f := f) e1 e2 _ _ h (fun d q => ?_) hf
  rcases h.sat i with c | c
  · rw [c] at q; cases q
  · rw [← c]
    cases hs : sat e1 i <;> simp only [hs] at q ⊢ <;> first | (cases q; done) | skip
    refine MX.mono (f := f1) e1 e2 _ _ h (fun a q => ?_) q
    cases a <;> simp only at q ⊢ <;> first | (cases q; done) | skip
    split at q
    · exact r.nx _ _ (h.set (.inr rfl) i) (frW.set (List.mem_singleton.mpr rfl)) q
    · cases q⟩
instance (n : Nat) (f : ST) (W : List Nat) [MP f W] : MC (mkFn n f) := ⟨fun a k1 k2 hk h => MP.mono (f := f) _ _ _ _ (leE.refl _) ⟨fun _ _ _ _ q => hk _ q, hk, fun _ _ _ _ q => Bool.noConfusion q, fun _ _ _ _ q => Bool.noConfusion q⟩ h⟩
end Orn

set_option Elab.async false
set_option linter.all false
set_option maxRecDepth 100000
set_option maxHeartbeats 4000000
namespace Orn
open PySem
mutual
def eqD : D → D → Bool
  | .none, .none => true
  | .bool a, .bool b => a == b
  | .int a, .int b => decide (a = b)
  | .str a, .str b => decide (a = b)
  | .list a, .list b => eqDs a b
  | .tuple a, .tuple b => eqDs a b
  | _, _ => false
def eqDs : List D → List D → Bool
  | [], [] => true
  | a :: r, b :: r' => eqD a b && eqDs r r'
  | _, _ => false
end
mutual
theorem eqD_sound : ∀ (a b : D), eqD a b = true → a = b
  | .none, b, h => by cases b <;> first | rfl | cases h
  | .bool x, b, h => by
    cases b <;> first | (cases h; done) | skip
    rename_i y
    have h : (x == y) = true := h
    rw [eq_of_beq h]
  | .int x, b, h => by
    cases b <;> first | (cases h; done) | skip
    rename_i y
    have h : decide (x = y) = true := h
    rw [of_decide_eq_true h]
  | .str x, b, h => by
    cases b <;> first | (cases h; done) | skip
    rename_i y
    have h : decide (x = y) = true := h
    rw [of_decide_eq_true h]
  | .list x, b, h => by cases b <;> first | (cases h; done) | (rw [eqDs_sound x _ (by simpa [eqD] using h)])
  | .tuple x, b, h => by cases b <;> first | (cases h; done) | (rw [eqDs_sound x _ (by simpa [eqD] using h)])
  | .dict x, b, h => by cases b <;> cases h
theorem eqDs_sound : ∀ (a b : List D), eqDs a b = true → a = b
  | [], [], _ => rfl
  | a :: r, b :: r', h => by
    have h : (eqD a b && eqDs r r') = true := h
    rw [Bool.and_eq_true] at h
    rw [eqD_sound a b h.1, eqDs_sound r r' h.2]
  | [], _ :: _, h => by cases h
  | _ :: _, [], h => by cases h
end
def leSb : S → S → Bool
  | .un, _ => true
  | .sh a, .sh b => eqD a b
  | .ow a, .ow b => eqDs a b
  | .tk, .tk => true
  | _, _ => false
theorem leSb_sound {a b : S} (h : leSb a b = true) : leS a b := by
  cases a with
  | un => exact .inl rfl
  | sh d => cases b <;> first | (cases h; done) | (rw [eqD_sound _ _ h]; exact .inr rfl)
  | ow d => cases b <;> first | (cases h; done) | (rw [eqDs_sound _ _ h]; exact .inr rfl)
  | tk => cases b <;> first | (cases h; done) | exact .inr rfl
/-- e knows all that e0 does -/
def leB : List S → List S → Bool
  | [], [] => true
  | a :: r, b :: r' => match leSb a b with
    | true => leB r r'
    | false => false
  | _, _ => false
theorem leB_sound : ∀ {a b : List S}, leB a b = true → leE a b
  | [], [], _ => trivial
  | a :: r, b :: r', h => by
    unfold leB at h
    split at h
    · rename_i e; exact ⟨leSb_sound e, leB_sound h⟩
    · cases h
  | [], _ :: _, h => by cases h
  | _ :: _, [], h => by cases h
/-- the answers after a statement that may be followed -/
def kOf (e0 : List S) : Ks := { nx := leB e0, rt := fun _ => false, bk := fun _ => false, ct := fun _ => false }
/-- what follows is monotone -/
structure MK (ks : Ks) : Prop where
  nx : ∀ e1 e2, leE e1 e2 → ks.nx e1 = true → ks.nx e2 = true
  bk : ∀ e1 e2, leE e1 e2 → ks.bk e1 = true → ks.bk e2 = true
  ct : ∀ e1 e2, leE e1 e2 → ks.ct e1 = true → ks.ct e2 = true
theorem MK.rk {ks : Ks} (m : MK ks) (W : List Nat) (e : List S) : RK W e ks ks := ⟨fun a b l _ q => m.nx a b l q, fun _ q => q, fun a b l _ q => m.bk a b l q, fun a b l _ q => m.ct a b l q⟩
/-- slots of W are forgotten -/
def forget (W : List Nat) (e : List S) : List S := wipeE e W
theorem forget_le (W : List Nat) (e : List S) : leE (forget W e) e := by
  unfold forget
  induction W with
  | nil => exact leE.refl e
  | cons v vs ih =>
    refine leE.trans (b := (wipeE e vs)) ?_ ih
    have : ∀ (l : List S) (i : Nat), leE (l.set i .un) l := fun l => by
      induction l with
      | nil => intro i; trivial
      | cons a r ih => intro i; cases i with
        | zero => exact ⟨.inl rfl, leE.refl r⟩
        | succ i => exact ⟨.inr rfl, ih i⟩
    exact this _ v
/-- less is known of e: still enough -/
theorem less {f : ST} {W : List Nat} [MP f W] {e0 e : List S} {ks : Ks} (hk : MK ks) (hl : leE e0 e) (h : f e0 ks = true) : f e ks = true := MP.mono (f := f) e0 e ks ks hl (hk.rk _ _) h
/-- a loop whose turns leave what is known of e0 -/
theorem for_inv {ft : EG} {fb : ST} {W1 W2 : List Nat} [MG ft W1] [MP fb W2] {ds : List D} {e0 : List S} {ks : Ks}
    (h : ∀ d ∈ ds, (ft d e0 fun env1 => fb env1 { nx := leB e0, rt := ks.rt, bk := fun _ => false, ct := leB e0 }) = true) (hk : MK ks) (h0 : ks.nx e0 = true) : ∀ {e : List S}, leE e0 e → pForGo ft fb ds e ks = true := by
  induction ds with
  | nil => intro e hl; exact hk.nx e0 e hl h0
  | cons d ds ih =>
    intro e hl
    have ih' : ∀ {e : List S}, leE e0 e → pForGo ft fb ds e ks = true := ih fun d' q => h d' (List.mem_cons_of_mem _ q)
    refine MG.mono (g := ft) d e0 e _ (fun env1 => fb env1 { nx := fun e => pForGo ft fb ds e ks, rt := ks.rt, bk := ks.nx, ct := fun e => pForGo ft fb ds e ks }) hl (fun a b l _ q => ?_) (h d List.mem_cons_self)
    exact MP.mono (f := fb) a b { nx := leB e0, rt := ks.rt, bk := fun _ => false, ct := leB e0 } { nx := fun e => pForGo ft fb ds e ks, rt := ks.rt, bk := ks.nx, ct := fun e => pForGo ft fb ds e ks } l
      ⟨fun a' b' l' _ q => ih' ((leB_sound q).trans l'), fun _ q => q, fun _ _ _ _ q => Bool.noConfusion q, fun a' b' l' _ q => ih' ((leB_sound q).trans l')⟩ q
theorem leSb_refl_tk : leSb .tk .tk = true := rfl
/-- a statement that was reckoned apart -/
theorem seg {f : ST} {W : List Nat} [MP f W] {e0 e1 e : List S} {ks : Ks} (h : f e0 (kOf e1) = true) (hl : leE e0 e) (hk : ∀ e', leE e1 e' → frW W e e' → ks.nx e' = true) : f e ks = true :=
  MP.mono (f := f) e0 e (kOf e1) ks hl ⟨fun a b l fr q => hk b ((leB_sound q).trans l) fr, fun _ q => Bool.noConfusion q, fun _ _ _ _ q => Bool.noConfusion q, fun _ _ _ _ q => Bool.noConfusion q⟩ h
theorem leSb_mono {x a b : S} (l : leS a b) (h : leSb x a = true) : leSb x b = true := by
  rcases l with l | l
  · subst l
    cases x <;> first | rfl | cases h
  · rw [← l]; exact h
theorem leB_mono : ∀ {e a b : List S}, leE a b → leB e a = true → leB e b = true
  | [], [], [], _, _ => rfl
  | x :: e, a :: r, b :: r', l, h => by
    unfold leB at *
    split at h
    · rename_i q
      rw [leSb_mono l.1 q]
      exact leB_mono l.2 h
    · cases h
  | [], [], _ :: _, l, _ => l.elim
  | _, _ :: _, [], l, _ => l.elim
  | [], _ :: _, _, _, h => by cases h
  | _ :: _, [], _, _, h => by cases h
theorem MK.of (e : List S) (rt : S → Bool) : MK { nx := leB e, rt := rt, bk := fun _ => false, ct := leB e } := ⟨fun _ _ l q => leB_mono l q, fun _ _ _ q => Bool.noConfusion q, fun _ _ l q => leB_mono l q⟩
theorem MK.kOf (e : List S) : MK (kOf e) := ⟨fun _ _ l q => leB_mono l q, fun _ _ _ q => Bool.noConfusion q, fun _ _ _ q => Bool.noConfusion q⟩
theorem MK.law (n : Nat) : MK { nx := fun _ => false, rt := isTrueS, bk := fun _ => false, ct := fun _ => false } := ⟨fun _ _ _ q => Bool.noConfusion q, fun _ _ _ q => Bool.noConfusion q, fun _ _ _ q => Bool.noConfusion q⟩
theorem MK.seq {g : ST} {W : List Nat} [MP g W] {ks : Ks} (m : MK ks) : MK { ks with nx := fun e => g e ks } := ⟨fun a b l q => less m l q, m.bk, m.ct⟩
/-- statements, the first of them reckoned apart -/
theorem seg2 {f g : ST} {W W' : List Nat} [MP f W] [MP g W'] {e0 e1 e e2 : List S} {ks : Ks} (h : f e0 (kOf e1) = true) (hl : leE e0 e) (m : MK ks) (h2 : ∀ e', leE e1 e' → frW W e e' → leE e2 e') (hk : g e2 ks = true) : pSeq f g e ks = true :=
  seg (ks := { ks with nx := fun e => g e ks }) h hl fun e' l fr => less m (h2 e' l fr) hk
/-- slots, of which some are known by what they were, some by what is known now: w says which are written -/
def mixE : List Bool → List S → List S → List S
  | true :: w, _ :: e, b :: e1 => b :: mixE w e e1
  | false :: w, a :: e, _ :: e1 => a :: mixE w e e1
  | _, _, _ => []
def inW (W : List Nat) (i : Nat) : Bool := W.any fun j => Nat.beq i j
theorem inW_not {W : List Nat} {i : Nat} (h : inW W i = false) : i ∉ W := fun z => by
  unfold inW at h
  rw [List.any_eq_false] at h
  exact h i z (Nat.beq_refl i)
def flags (W : List Nat) : Nat → Nat → List Bool
  | _, 0 => []
  | i, n + 1 => inW W i :: flags W (i + 1) n
theorem mix_le_aux : ∀ (w : List Bool) (e e1 e' : List S), leE e1 e' → e.length = e'.length → w.length = e'.length → (∀ i, w[i]? = some false → sat e' i = sat e i) → leE (mixE w e e1) e'
  | [], [], [], [], _, _, _, _ => trivial
  | b :: w, a :: e, x :: e1, y :: e', l, h1, h2, h => by
    have ih := mix_le_aux w e e1 e' l.2 (Nat.succ.inj h1) (Nat.succ.inj h2) fun i q => h (i + 1) q
    cases b with
    | true => exact ⟨l.1, ih⟩
    | false => exact ⟨.inr (h 0 rfl).symm, ih⟩
  | _, _, [], _ :: _, l, _, _, _ => l.elim
  | _, _, _ :: _, [], l, _, _, _ => l.elim
  | [], _, _, _ :: _, _, _, h, _ => by cases h
  | _ :: _, _, _, [], _, _, h, _ => by cases h
  | _, [], _, _ :: _, _, h, _, _ => by cases h
  | _, _ :: _, _, [], _, h, _, _ => by cases h
theorem flags_len (W : List Nat) : ∀ (n i : Nat), (flags W i n).length = n
  | 0, _ => rfl
  | n + 1, i => by rw [flags, List.length_cons, flags_len W n]
theorem flags_get (W : List Nat) : ∀ (n i j : Nat), (flags W i n)[j]? = some false → inW W (i + j) = false
  | 0, _, _, h => by simp [flags] at h
  | n + 1, i, 0, h => by simpa [flags] using h
  | n + 1, i, j + 1, h => by
    rw [flags, List.getElem?_cons_succ] at h
    have := flags_get W n (i + 1) j h
    rw [show i + (j + 1) = i + 1 + j by omega]
    exact this
/-- a statement reckoned apart, then what follows on the slots known before and now -/
theorem seg3 {f g : ST} {W W' : List Nat} [MP f W] [MP g W'] {e0 e1 e : List S} {ks : Ks} (h : f e0 (kOf e1) = true) (hl : leE e0 e) (m : MK ks) (hk : g (mixE (flags W 0 e.length) e e1) ks = true) : pSeq f g e ks = true :=
  seg2 h hl m (fun e' l fr => mix_le_aux _ _ _ _ l fr.1.symm (by rw [flags_len]; exact fr.1.symm) fun i q => fr.2 i (inW_not (by have := flags_get W _ 0 i q; rwa [Nat.zero_add] at this))) hk
end Orn

set_option Elab.async false
set_option linter.all false
set_option maxRecDepth 100000
set_option maxHeartbeats 4000000
/-! Equations to reckon with numbers that are not known. -/
namespace Orn
open PySem
section
variable {e : List S} {k : D → Bool} {kS : S → Bool} {kB : Bool → Bool} {kL : List D → Bool} {kA : List S → Bool} {ks : Ks} {s : S} {d : D}
@[simp ↓] theorem q_seq {f g : ST} : pSeq f g e ks = f e { nx := fun e => g e ks, rt := ks.rt, bk := ks.bk, ct := ks.ct } := rfl
@[simp ↓] theorem q_nil : pNil e ks = ks.nx e := rfl
@[simp ↓] theorem q_ret {f : ES} : pRet f e ks = f e ks.rt := rfl
@[simp ↓] theorem q_brk : pBrk e ks = ks.bk e := rfl
@[simp ↓] theorem q_cont : pCont e ks = ks.ct e := rfl
@[simp ↓] theorem q_if {t : EB} {f g : ST} : pIf t f g e ks = t e fun b => cond b (f e ks) (g e ks) := rfl
@[simp ↓] theorem q_set {i : Nat} {f : ES} : pSet i f e ks = f e fun s => ks.nx (e.set i s) := rfl
@[simp ↓] theorem q_setF {i : Nat} {f : ES} : pSetF i f e ks = f e fun s => ks.nx (e.set i (fzS s)) := rfl
@[simp ↓] theorem q_asg {f : ED} {g : EG} : pAsg f g e ks = f e fun d => g d e ks.nx := rfl
@[simp ↓] theorem q_par {i j : Nat} {f : EL} : pPar i j f e ks = f e fun ds => match ds with
  | [a, b] => ks.nx ((e.set i (.sh a)).set j (.sh b))
  | _ => false := rfl
@[simp ↓] theorem q_par3 {i j l : Nat} {f : EL} : pPar3 i j l f e ks = f e fun ds => match ds with
  | [a, b, c] => ks.nx (((e.set i (.sh a)).set j (.sh b)).set l (.sh c))
  | _ => false := rfl
@[simp ↓] theorem q_expr {f : ED} : pExpr f e ks = f e fun _ => ks.nx e := rfl
@[simp ↓] theorem q_for {fi : EL} {ft : EG} {fb : ST} : pFor fi ft fb e ks = fi e fun ds => pForGo ft fb ds e ks := rfl
@[simp ↓] theorem q_vN {i : Nat} : vN i e k = match sat e i with
  | .sh d => k d
  | .ow ds => k (.list ds)
  | _ => false := rfl
@[simp ↓] theorem q_dN {i : Nat} : dN i e k = match sat e i with
  | .sh d => k d
  | _ => false := rfl
@[simp ↓] theorem q_sN {i : Nat} : sN i e kS = match sat e i with
  | .sh d => kS (.sh d)
  | .tk => kS .tk
  | _ => false := rfl
@[simp ↓] theorem q_take {i : Nat} : sTake i e kS = match sat e i with
  | .sh d => kS (.sh d)
  | .ow d => kS (.ow d)
  | _ => false := rfl
@[simp ↓] theorem q_toD {f : ES} : toD f e k = f e fun s => match s with
  | .sh d => k d
  | .ow ds => k (.list ds)
  | _ => false := rfl
@[simp ↓] theorem q_toS {f : ED} : toS f e kS = f e fun d => kS (.sh d) := rfl
@[simp ↓] theorem q_aFz {f : ES} : aFz f e kS = f e fun s => match s with
  | .sh d => kS (.sh d)
  | .ow ds => kS (.sh (.list ds))
  | .tk => kS .tk
  | .un => false := rfl
@[simp ↓] theorem q_dC : dC d e k = k d := rfl
@[simp ↓] theorem q_dOp {g : D → D → (D → Bool) → Bool} {f f' : ED} : dOp g f f' e k = f e fun a => f' e fun b => g a b k := rfl
@[simp ↓] theorem q_sOp {g : D → D → (S → Bool) → Bool} {f f' : ED} : sOp g f f' e kS = f e fun a => f' e fun b => g a b kS := rfl
@[simp ↓] theorem q_dUn {g : D → (D → Bool) → Bool} {f : ED} : dUn g f e k = f e fun a => g a k := rfl
@[simp ↓] theorem q_dNil : dNil e kL = kL [] := rfl
@[simp ↓] theorem q_wNil : wNil e kL = kL [] := rfl
@[simp ↓] theorem q_aNil : aNil e kA = kA [] := rfl
@[simp ↓] theorem q_dCons {f : ED} {r : EL} : dCons f r e kL = f e fun d => r e fun ds => kL (d :: ds) := rfl
@[simp ↓] theorem q_wCons {f : ED} {r : EL} : wCons f r e kL = f e fun d => r e fun ds => kL (d :: ds) := rfl
@[simp ↓] theorem q_aCons {f : ES} {r : EA} : aCons f r e kA = f e fun d => r e fun ds => kA (d :: ds) := rfl
@[simp ↓] theorem q_dTup {f : EL} : dTup f e k = f e fun ds => k (.tuple ds) := rfl
@[simp ↓] theorem q_sLst {f : EL} : sLst f e kS = f e fun ds => kS (.ow ds) := rfl
@[simp ↓] theorem q_dCall {g : List D → (D → Bool) → Bool} {f : EL} : dCall g f e k = f e fun ds => g ds k := rfl
@[simp ↓] theorem q_sCall {g : List D → (S → Bool) → Bool} {f : EL} : sCall g f e kS = f e fun ds => g ds kS := rfl
@[simp ↓] theorem q_sFn {m : FN} {f : EA} : sFn m f e kS = f e fun as => m as kS := rfl
@[simp ↓] theorem q_bV {f : ED} : bV f e kB = f e fun d => truD d kB := rfl
@[simp ↓] theorem q_bC {f : ED} : bC f e kB = f e fun d => match d with
  | .bool b => kB b
  | _ => false := rfl
@[simp ↓] theorem q_bAnd {f g : EB} : bAnd f g e kB = f e fun b => cond b (g e kB) (kB false) := rfl
@[simp ↓] theorem q_bOr {f g : EB} : bOr f g e kB = f e fun b => cond b (kB true) (g e kB) := rfl
@[simp ↓] theorem q_bNot {f : EB} : bNot f e kB = f e fun b => kB (!b) := by
  unfold bNot; congr 1; funext b; cases b <;> rfl
@[simp ↓] theorem q_dIf {t : EB} {f g : ED} : dIf t f g e k = t e fun b => cond b (f e k) (g e k) := rfl
@[simp ↓] theorem q_sIf {t : EB} {f g : ES} : sIf t f g e kS = t e fun b => cond b (f e kS) (g e kS) := rfl
@[simp ↓] theorem q_dAnd {f g : ED} : dAnd f g e k = f e fun d => truD d fun b => cond b (g e k) (k d) := rfl
@[simp ↓] theorem q_dOr {f g : ED} : dOr f g e k = f e fun d => truD d fun b => cond b (k d) (g e k) := rfl
@[simp ↓] theorem q_dNot {f : ED} : dNot f e k = f e fun d => truD d fun b => k (.bool (!b)) := by
  unfold dNot; congr 1; funext d; congr 1; funext b; cases b <;> rfl
@[simp ↓] theorem q_gN {i : Nat} {kE : List S → Bool} : gN i d e kE = kE (e.set i (.sh d)) := rfl
@[simp ↓] theorem q_gsNil {kE : List S → Bool} : gsNil [] e kE = kE e := rfl
@[simp ↓] theorem q_gsCons {g : EG} {gs : EGs} {ds : List D} {kE : List S → Bool} : gsCons g gs (d :: ds) e kE = g d e fun e' => gs ds e' kE := rfl
@[simp ↓] theorem q_gTp {n : Nat} {gs : EGs} {ds : List D} {kE : List S → Bool} : gTp n gs (.tuple ds) e kE = if Nat.beq ds.length n = true then gs ds e kE else false := rfl
@[simp ↓] theorem q_seqT {f : ED} : iSeq f e kL = f e fun d => match d with
  | .list ds => kL ds
  | .tuple ds => kL ds
  | _ => false := rfl
@[simp ↓] theorem q_range1 {f : EL} : iRange1 f e kL = f e fun ds => match ds with
  | [.int n] => if -(2 ^ 62) ≤ n ∧ n < 2 ^ 62 then kL (rngL 0 n.toNat) else false
  | _ => false := by
  unfold iRange1; congr 1; funext ds; split <;> simp [rngD_eq]
@[simp ↓] theorem q_goNil {ft : EG} {fb : ST} : pForGo ft fb [] e ks = ks.nx e := rfl
@[simp ↓] theorem q_goCons {ft : EG} {fb : ST} {ds : List D} : pForGo ft fb (d :: ds) e ks = ft d e fun env1 => fb env1 { nx := fun e => pForGo ft fb ds e ks, rt := ks.rt, bk := ks.nx, ct := fun e => pForGo ft fb ds e ks } := rfl
@[simp ↓] theorem q_lc {vs : List Nat} {fi : EL} {ft : EG} {fc : EB} {fe : ED} : sLc vs fi ft fc fe e kS = fi e fun ds => cond (Nat.ble ds.length 100000) (lcGo (wipeE e vs) ft fc fe ds fun out => kS (.ow out)) false := rfl
@[simp ↓] theorem q_lcNil {ft : EG} {fc : EB} {fe : ED} : lcGo e ft fc fe [] kL = kL [] := rfl
@[simp ↓] theorem q_lcCons {ft : EG} {fc : EB} {fe : ED} {ds : List D} : lcGo e ft fc fe (d :: ds) kL = ft d e fun env1 => fc env1 fun b => cond b (fe env1 fun z => lcGo e ft fc fe ds fun r => kL (z :: r)) (lcGo e ft fc fe ds kL) := rfl
@[simp ↓] theorem q_yes : bYes e kB = kB true := rfl
@[simp ↓] theorem q_sub {i j : Int} : gSubI (.int i) (.int j) k = k (.int (i - j)) := kInt_eq _ _
@[simp ↓] theorem q_add {i j : Int} : gAdd (.int i) (.int j) k = k (.int (i + j)) := kInt_eq _ _
@[simp ↓] theorem q_neg {i : Int} : gNeg (.int i) k = k (.int (-i)) := kInt_eq _ _
theorem q_mul {i j : Int} (h : mulOk i j = true) : gMul (.int i) (.int j) k = k (.int (i * j)) := by
  show (if mulOk i j = true then kInt (i * j) k else false) = _
  rw [if_pos h, kInt_eq]
@[simp ↓] theorem q_lt {i j : Int} : gLt (.int i) (.int j) k = k (.bool (decide (i < j))) := kBl_eq _ _
@[simp ↓] theorem q_le {i j : Int} : gLe (.int i) (.int j) k = k (.bool (decide (i ≤ j))) := kBl_eq _ _
@[simp ↓] theorem q_gt {i j : Int} : gGt (.int i) (.int j) k = k (.bool (decide (j < i))) := kBl_eq _ _
@[simp ↓] theorem q_ge {i j : Int} : gGe (.int i) (.int j) k = k (.bool (decide (j ≤ i))) := kBl_eq _ _
@[simp ↓] theorem q_eq {i j : Int} : gEq (.int i) (.int j) k = k (.bool (decide (i = j))) := kBl_eq _ _
@[simp ↓] theorem q_ne {i j : Int} : gNe (.int i) (.int j) k = k (.bool (!decide (i = j))) := kBl_eq _ _
@[simp ↓] theorem q_abs {i : Int} : gAbs [.int i] k = k (.int (if i < 0 then -i else i)) := kInt_eq _ _
@[simp ↓] theorem q_int {i : Int} : gInt [.int i] k = k (.int i) := rfl
@[simp ↓] theorem q_gcd {i j : Int} : gGcd [.int i, .int j] k = k (.int ((Nat.gcd i.natAbs j.natAbs : Nat) : Int)) := kInt_eq _ _
@[simp ↓] theorem q_tupL {ds : List D} : gTuple [.list ds] k = k (.tuple ds) := rfl
@[simp ↓] theorem q_tupT {ds : List D} : gTuple [.tuple ds] k = k (.tuple ds) := rfl
@[simp ↓] theorem q_app {i : Nat} {f : ED} : pApp i f e ks = match sat e i with
  | .ow ds => f e fun d => cond (Nat.blt ds.length 100000) (ks.nx (e.set i (.ow (ds ++ [d])))) false
  | _ => false := rfl
@[simp ↓] theorem q_is {T : IsT} {f : ED} : dIs T f e k = f e fun d => k (.bool (T.is d)) := by
  unfold dIs; congr 1; funext d; exact kBl_eq _ _
@[simp ↓] theorem q_maxL {a b c d : Int} : gMax [.list [.int a, .int b, .int c, .int d]] k = k (.int (maxI a [b, c, d])) := kInt_eq _ _
@[simp ↓] theorem q_or {b : Bool} : truD (.bool b) kB = kB b := rfl
theorem q_div {i j : Int} (h : 0 < j) (h2 : j.natAbs.log2 < 9000) : gDiv (.int i) (.int j) k = k (.int (i / j)) := by
  show (if 0 < j then (if j.natAbs.log2 < 9000 then kInt (i / j) k else false) else _) = _
  rw [if_pos h, if_pos h2, kInt_eq]
theorem q_mod {i j : Int} (h : 0 < j) : gMod (.int i) (.int j) k = k (.int (i % j)) := by
  show (if 0 < j then kInt (i % j) k else _) = _
  rw [if_pos h, kInt_eq]
@[simp ↓] theorem q_sum2 {i j : Int} : gSum [.list [.int i, .int j]] k = k (.int (i + j)) := by
  show sumI [i, j] 0 (fun z => k (.int z)) = _
  rw [sumI_eq]; simp
theorem q_while {t : EB} {fb : ST} {n : Nat} : pWhile t fb (n + 1) e ks = t e fun b => cond b (fb e { nx := fun e => pWhile t fb n e ks, rt := ks.rt, bk := ks.nx, ct := fun e => pWhile t fb n e ks }) (ks.nx e) := rfl
end
/-- numbers of so many bits -/
def Sz (n : Nat) (z : Int) : Prop := z.natAbs < 2 ^ n
theorem log2_lt {n b : Nat} (h : n < 2 ^ b) (hb : 0 < b) : n.log2 < b := by
  by_cases c : n = 0
  · subst c; simpa using hb
  · exact (Nat.log2_lt c).mpr h
theorem mulOk_of {i j : Int} {a b : Nat} (h1 : Sz a i) (h2 : Sz b j) (ha : a ≤ 100000) (hb : b ≤ 100000) : mulOk i j = true := by
  unfold mulOk
  rw [Nat.blt_eq]
  have x1 : i.natAbs.log2 < 100001 := log2_lt (Nat.lt_of_lt_of_le h1 (Nat.pow_le_pow_right (by decide) (by omega))) (by decide)
  have x2 : j.natAbs.log2 < 100001 := log2_lt (Nat.lt_of_lt_of_le h2 (Nat.pow_le_pow_right (by decide) (by omega))) (by decide)
  show i.natAbs.log2 + j.natAbs.log2 < 1000000
  omega
theorem Sz.mul {a b : Nat} {i j : Int} (h1 : Sz a i) (h2 : Sz b j) : Sz (a + b) (i * j) := by
  unfold Sz at *
  rw [Int.natAbs_mul, Nat.pow_add]
  exact Nat.mul_lt_mul'' h1 h2
theorem Sz.mono {a b : Nat} {i : Int} (h : Sz a i) (l : a ≤ b) : Sz b i := Nat.lt_of_lt_of_le h (Nat.pow_le_pow_right (by decide) l)
theorem Sz.add {a : Nat} {i j : Int} (h1 : Sz a i) (h2 : Sz a j) : Sz (a + 1) (i + j) := by
  unfold Sz at *
  have := Int.natAbs_add_le i j
  rw [Nat.pow_succ]
  omega
theorem Sz.neg {a : Nat} {i : Int} (h : Sz a i) : Sz a (-i) := by unfold Sz at *; rwa [Int.natAbs_neg]
theorem Sz.sub {a : Nat} {i j : Int} (h1 : Sz a i) (h2 : Sz a j) : Sz (a + 1) (i - j) := by
  rw [Int.sub_eq_add_neg]; exact h1.add h2.neg
theorem Sz.log {a : Nat} {i : Int} (h : Sz a i) (ha : a ≤ 8999) : i.natAbs.log2 < 9000 := by
  exact log2_lt (Nat.lt_of_lt_of_le h (Nat.pow_le_pow_right (by decide) (by omega))) (by decide)
/-- a fraction as data -/
def frD (r : Rat) : D := .tuple [.int r.num, .int (r.den : Int)]
/-- its numbers have at most so many bits -/
def Fz (n : Nat) (r : Rat) : Prop := Sz n r.num ∧ Sz n (r.den : Int)
theorem Fz.mono {a b : Nat} {r : Rat} (h : Fz a r) (l : a ≤ b) : Fz b r := ⟨h.1.mono l, h.2.mono l⟩
theorem Sz.ediv {a : Nat} {i : Int} (h : Sz a i) (g : Nat) : Sz a (i / (g : Int)) := by
  unfold Sz at *
  exact Nat.lt_of_le_of_lt (Int.natAbs_ediv_le_natAbs i g) h
theorem Fz.divInt {a b : Nat} {p q : Int} (h1 : Sz a p) (h2 : Sz b q) (hq : 0 < q) (ha : a ≤ b) : Fz b (Rat.divInt p q) := by
  refine ⟨?_, ?_⟩
  · rw [Rat.num_divInt, Int.sign_eq_one_of_pos hq, Int.one_mul]
    exact (h1.mono ha).ediv _
  · rw [Rat.den_divInt, if_neg (by omega)]
    unfold Sz at *
    exact Nat.lt_of_le_of_lt (Nat.div_le_self _ _) h2
theorem add_divInt (x y : Rat) : Rat.divInt (x.num * (y.den : Int) + y.num * (x.den : Int)) ((x.den : Int) * (y.den : Int)) = x + y := by
  rw [Rat.add_def', Rat.mkRat_eq_div, Rat.divInt_eq_div]
  norm_cast
mutual
def noDict : D → Bool
  | .list ds => noDicts ds
  | .tuple ds => noDicts ds
  | .dict _ => false
  | _ => true
def noDicts : List D → Bool
  | [] => true
  | d :: r => noDict d && noDicts r
end
mutual
theorem eqv_self : ∀ (d : D), noDict d = true → PyData.eqv d d = true
  | .none, _ => rfl
  | .bool b, _ => by simp [PyData.eqv]
  | .int i, _ => by simp [PyData.eqv]
  | .str x, _ => by simp [PyData.eqv]
  | .list ds, h => by
    have h : noDicts ds = true := h
    simp only [PyData.eqv]; exact eqvs_self ds h
  | .tuple ds, h => by
    have h : noDicts ds = true := h
    simp only [PyData.eqv]; exact eqvs_self ds h
  | .dict _, h => by cases h
theorem eqvs_self : ∀ (ds : List D), noDicts ds = true → PyData.eqvAll ds ds = true
  | [], _ => rfl
  | d :: r, h => by
    have h : (noDict d && noDicts r) = true := h
    rw [Bool.and_eq_true] at h
    simp only [PyData.eqvAll, eqv_self d h.1, eqvs_self r h.2, Bool.and_self]
end
theorem gEq_val {d e : D} {k : D → Bool} (h1 : SeqAt.shaped d = true) (h2 : SeqAt.shaped e = true) : gEq d e k = k (.bool (PyData.eqv d e)) := by
  unfold gEq
  split
  · rw [kBl_eq, ← eqv_int]
  · rw [h1, h2]; exact kBl_eq _ _
theorem gNe_val {d e : D} {k : D → Bool} (h1 : SeqAt.shaped d = true) (h2 : SeqAt.shaped e = true) : gNe d e k = k (.bool (!PyData.eqv d e)) := by
  unfold gNe
  split
  · rw [kBl_eq, ← eqv_int]
  · rw [h1, h2]; exact kBl_eq _ _
theorem ne_self {d : D} {k : D → Bool} (h1 : SeqAt.shaped d = true) (h2 : noDict d = true) : gNe d d k = k (.bool false) := by
  rw [gNe_val h1 h1, eqv_self d h2]; rfl
theorem eq_self' {d : D} {k : D → Bool} (h1 : SeqAt.shaped d = true) (h2 : noDict d = true) : gEq d d k = k (.bool true) := by
  rw [gEq_val h1 h1, eqv_self d h2]
end Orn

set_option Elab.async false
set_option linter.all false
set_option maxRecDepth 100000
set_option maxHeartbeats 4000000
/-! Order of data (tuples, texts), place by place. -/
namespace Orn
open PySem PySem.Spec L2

def ordOk (d e : D) : Bool := PySem.W.alike d e && (match d with | .none => false | _ => true) && decide (d.depth ≤ 64)
def gLtT : D → D → (D → Bool) → Bool := fun d e k => if ordOk d e = true then kBl (PySem.W.dataLt d e) k else false
def gGtT : D → D → (D → Bool) → Bool := fun d e k => if ordOk d e = true then kBl (PySem.W.dataLt e d) k else false
def gLeT : D → D → (D → Bool) → Bool := fun d e k => if ordOk d e = true then kBl (!PySem.W.dataLt e d) k else false
def gGeT : D → D → (D → Bool) → Bool := fun d e k => if ordOk d e = true then kBl (!PySem.W.dataLt d e) k else false

theorem ordOk_iff {d e : D} (h : ordOk d e = true) : PySem.W.alike d e = true ∧ d ≠ .none ∧ min d.depth e.depth ≤ 64 := by
  unfold ordOk at h
  rw [Bool.and_eq_true, Bool.and_eq_true] at h
  obtain ⟨⟨h1, h2⟩, h3⟩ := h
  refine ⟨h1, ?_, Nat.le_trans (Nat.min_le_left _ _) (of_decide_eq_true h3)⟩
  rintro rfl
  cases h2
section
variable {X : Cx}
def rOrd (K : PySem.W.Frag) (f : D → D → Bool) : R2 := fun x y H Q => ∃ d e, Dp K H x d ∧ Dp K H y e ∧ ordOk d e = true ∧ Q (.bl (f d e)) H
theorem room_of {a b : Nat} (hu : a + 64 < cLine) (h : b ≤ 64) : a + b < cLine := by omega
theorem op_ltT (hu : X.A.units + 64 < cLine) : OpR X (compareOp .Lt) (rOrd X.K fun d e => PySem.W.dataLt d e) := by
  intro pins s σ H x y v u Q I rx ry h
  obtain ⟨d, e, hd, he, c, q⟩ := h
  obtain ⟨c1, c2, c3⟩ := ordOk_iff c
  obtain ⟨as, r1⟩ := Dp.reads I d x v hd rx
  obtain ⟨bs, r2⟩ := Dp.reads I e y u he ry
  exact PySem.W.lt_data r1 r2 c1 c2 (room_of hu c3) ⟨.bl _, H, I, rfl, q⟩
theorem op_gtT (hu : X.A.units + 64 < cLine) : OpR X (compareOp .Gt) (rOrd X.K fun d e => PySem.W.dataLt e d) := by
  intro pins s σ H x y v u Q I rx ry h
  obtain ⟨d, e, hd, he, c, q⟩ := h
  obtain ⟨c1, c2, c3⟩ := ordOk_iff c
  obtain ⟨as, r1⟩ := Dp.reads I d x v hd rx
  obtain ⟨bs, r2⟩ := Dp.reads I e y u he ry
  exact PySem.W.gt_data r1 r2 c1 c2 (room_of hu c3) ⟨.bl _, H, I, rfl, q⟩
theorem op_leT (hu : X.A.units + 64 < cLine) : OpR X (compareOp .LtE) (rOrd X.K fun d e => !PySem.W.dataLt e d) := by
  intro pins s σ H x y v u Q I rx ry h
  obtain ⟨d, e, hd, he, c, q⟩ := h
  obtain ⟨c1, c2, c3⟩ := ordOk_iff c
  obtain ⟨as, r1⟩ := Dp.reads I d x v hd rx
  obtain ⟨bs, r2⟩ := Dp.reads I e y u he ry
  exact PySem.W.le_data r1 r2 c1 c2 (room_of hu c3) ⟨.bl _, H, I, rfl, q⟩
theorem op_geT (hu : X.A.units + 64 < cLine) : OpR X (compareOp .GtE) (rOrd X.K fun d e => !PySem.W.dataLt d e) := by
  intro pins s σ H x y v u Q I rx ry h
  obtain ⟨d, e, hd, he, c, q⟩ := h
  obtain ⟨c1, c2, c3⟩ := ordOk_iff c
  obtain ⟨as, r1⟩ := Dp.reads I d x v hd rx
  obtain ⟨bs, r2⟩ := Dp.reads I e y u he ry
  exact PySem.W.ge_data r1 r2 c1 c2 (room_of hu c3) ⟨.bl _, H, I, rfl, q⟩
theorem ord_ite {d e : D} {z : Bool} {k : D → Bool} (h : (if ordOk d e = true then kBl z k else false) = true) : ordOk d e = true ∧ k (.bool z) = true := by
  by_cases c : ordOk d e = true
  · rw [if_pos c, kBl_eq] at h; exact ⟨c, h⟩
  · rw [if_neg c] at h; cases h
theorem oLtT (hu : X.A.units + 64 < cLine) : OpR X (compareOp .Lt) (rD X.K gLtT) := opi (op_ltT hu) fun x y H Q q => by
  obtain ⟨F, H0, σ, env, d, e, k, R, w1, w2, h, hq⟩ := q
  obtain ⟨c, h'⟩ := ord_ite (z := PySem.W.dataLt d e) h
  exact ⟨d, e, Rp.dp _ _ (w1.rp R), Rp.dp _ _ (w2.rp R), c, hq _ _ H0 H h' R rfl .refl⟩
theorem oGtT (hu : X.A.units + 64 < cLine) : OpR X (compareOp .Gt) (rD X.K gGtT) := opi (op_gtT hu) fun x y H Q q => by
  obtain ⟨F, H0, σ, env, d, e, k, R, w1, w2, h, hq⟩ := q
  obtain ⟨c, h'⟩ := ord_ite (z := PySem.W.dataLt e d) h
  exact ⟨d, e, Rp.dp _ _ (w1.rp R), Rp.dp _ _ (w2.rp R), c, hq _ _ H0 H h' R rfl .refl⟩
theorem oLeT (hu : X.A.units + 64 < cLine) : OpR X (compareOp .LtE) (rD X.K gLeT) := opi (op_leT hu) fun x y H Q q => by
  obtain ⟨F, H0, σ, env, d, e, k, R, w1, w2, h, hq⟩ := q
  obtain ⟨c, h'⟩ := ord_ite (z := !PySem.W.dataLt e d) h
  exact ⟨d, e, Rp.dp _ _ (w1.rp R), Rp.dp _ _ (w2.rp R), c, hq _ _ H0 H h' R rfl .refl⟩
theorem oGeT (hu : X.A.units + 64 < cLine) : OpR X (compareOp .GtE) (rD X.K gGeT) := opi (op_geT hu) fun x y H Q q => by
  obtain ⟨F, H0, σ, env, d, e, k, R, w1, w2, h, hq⟩ := q
  obtain ⟨c, h'⟩ := ord_ite (z := !PySem.W.dataLt d e) h
  exact ⟨d, e, Rp.dp _ _ (w1.rp R), Rp.dp _ _ (w2.rp R), c, hq _ _ H0 H h' R rfl .refl⟩
end
instance : M2 gLtT := ⟨fun a b k1 k2 hk h => ite_m (kBl_mono hk) id h⟩
instance : M2 gGtT := ⟨fun a b k1 k2 hk h => ite_m (kBl_mono hk) id h⟩
instance : M2 gLeT := ⟨fun a b k1 k2 hk h => ite_m (kBl_mono hk) id h⟩
instance : M2 gGeT := ⟨fun a b k1 k2 hk h => ite_m (kBl_mono hk) id h⟩
/-! pairs of whole numbers -/
theorem lt_pair (a b c d : Int) : PySem.W.dataLt (.tuple [.int a, .int b]) (.tuple [.int c, .int d]) = decide (a < c ∨ (a = c ∧ b < d)) := by
  simp only [PySem.W.dataLt, PySem.W.keyToks, PySem.W.keyToksAll, List.cons_append, List.nil_append, PyProof.Rows.lexLt, PyProof.Rows.itemLt]
  rw [Bool.eq_iff_iff]
  simp
  omega
theorem ok_pair (a b c d : Int) : ordOk (.tuple [.int a, .int b]) (.tuple [.int c, .int d]) = true := rfl
@[simp ↓] theorem q_gtT {a b c d : Int} {k : D → Bool} : gGtT (.tuple [.int a, .int b]) (.tuple [.int c, .int d]) k = k (.bool (decide (c < a ∨ (c = a ∧ d < b)))) := by
  unfold gGtT; rw [if_pos (ok_pair a b c d), kBl_eq, lt_pair]
@[simp ↓] theorem q_ltT {a b c d : Int} {k : D → Bool} : gLtT (.tuple [.int a, .int b]) (.tuple [.int c, .int d]) k = k (.bool (decide (a < c ∨ (a = c ∧ b < d)))) := by
  unfold gLtT; rw [if_pos (ok_pair a b c d), kBl_eq, lt_pair]
@[simp ↓] theorem q_leT {a b c d : Int} {k : D → Bool} : gLeT (.tuple [.int a, .int b]) (.tuple [.int c, .int d]) k = k (.bool (!decide (c < a ∨ (c = a ∧ d < b)))) := by
  unfold gLeT; rw [if_pos (ok_pair a b c d), kBl_eq, lt_pair]
@[simp ↓] theorem q_geT {a b c d : Int} {k : D → Bool} : gGeT (.tuple [.int a, .int b]) (.tuple [.int c, .int d]) k = k (.bool (!decide (a < c ∨ (a = c ∧ b < d)))) := by
  unfold gGeT; rw [if_pos (ok_pair a b c d), kBl_eq, lt_pair]
theorem b2 : Nat.beq (0 + 1 + 1) 2 = true := rfl
theorem b3 : Nat.beq (0 + 1 + 1 + 1) 3 = true := rfl
theorem b4 : Nat.beq (0 + 1 + 1 + 1 + 1) 4 = true := rfl
end Orn

set_option Elab.async false
set_option linter.all false
set_option maxRecDepth 100000
set_option maxHeartbeats 4000000
set_option synthInstance.maxHeartbeats 0
set_option synthInstance.maxSize 100000
/-! Defs that call themselves, by levels; the laws' own deep equality. -/
namespace Orn
open PySem PySem.Spec L2
theorem pss_false {X : Cx} {K : PySem.W.Frag} (b : List Stmt) : PSs X b (tP K fun _ _ => false) := ⟨fun pins s σ H D I h => by
  obtain ⟨F, H0, env, ks, R, hf, _⟩ := h
  cases hf⟩
def b__law_eq (m__law_eq : FN) : ST := (pSeq (pIf (bOr (bV (dIs .list (vN 1))) (bV (dIs .tuple (vN 1))))
  (pSeq (pIf (bOr (bC (dOp gNe (dIs .list (vN 0)) (dIs .list (vN 1)))) (bC (dOp gNe (dIs .tuple (vN 0)) (dIs .tuple (vN 1)))))
  (pRet (toS (dC (.bool false))))
  pNil)
  (pSeq (pIf (bC (dOp gNe (dCall gLen (wCons (vN 0) wNil)) (dCall gLen (wCons (vN 1) wNil))))
  (pRet (toS (dC (.bool false))))
  pNil)
  (pRet (toS (dOp gEq (toD (sLc [2] (iRange1 (wCons (dCall gLen (wCons (vN 1) wNil)) wNil)) (gN 2) (bNot (bV (toD (sFn m__law_eq (aCons (toS (dOp gIx (vN 0) (vN 2))) (aCons (toS (dOp gIx (vN 1) (vN 2))) aNil)))))) (dN 2))) (toD (sLst dNil)))))))
  pNil)
  (pSeq (pIf (bC (dOp gIsN (vN 1) (dC .none)))
  (pRet (toS (dOp gIsN (vN 0) (dC .none))))
  pNil)
  (pSeq (pIf (bV (dIs .str (vN 1)))
  (pRet (toS (dAnd (dIs .str (vN 0)) (dOp gEq (vN 0) (vN 1)))))
  pNil)
  (pSeq (pIf (bV (dIs .bool (vN 1)))
  (pRet (toS (dAnd (dIs .bool (vN 0)) (dOp gEq (vN 0) (vN 1)))))
  pNil)
  (pRet (toS (dAnd (dIs .int (vN 0)) (dAnd (dNot (dIs .bool (vN 0))) (dOp gEq (vN 0) (vN 1))))))))))
def q__law_eq : Nat → FN
  | 0 => mkFn 3 (fun _ _ => false)
  | n + 1 => mkFn 3 (b__law_eq (q__law_eq n))
instance mc__law_eq : ∀ n, MC (q__law_eq n)
  | 0 => ⟨fun _ _ _ _ h => Bool.noConfusion h⟩
  | n + 1 => by
    haveI := mc__law_eq n
    unfold q__law_eq b__law_eq; infer_instance
theorem atI_nat {α : Type} (xs : List α) (j : Nat) : atI xs (j : Int) = xs[j]? := by
  unfold atI ixN
  rw [if_pos (by omega : (0 : Int) ≤ (j : Int))]
  by_cases h : j < xs.length
  · rw [if_pos (by omega : (j : Int) < (xs.length : Int))]
    simp
  · rw [if_neg (by omega : ¬ (j : Int) < (xs.length : Int))]
    simp [List.getElem?_eq_none (by omega : xs.length ≤ j)]
theorem ix_tup {ds : List D} {j : Nat} {x : D} (h : ds[j]? = some x) {k : D → Bool} : gIx (.tuple ds) (.int (j : Int)) k = k x := by
  show ixD ds j k = k x
  unfold ixD
  rw [atI_nat, h]
theorem ix_lst {ds : List D} {j : Nat} {x : D} (h : ds[j]? = some x) {k : D → Bool} : gIx (.list ds) (.int (j : Int)) k = k x := by
  show ixD ds j k = k x
  unfold ixD
  rw [atI_nat, h]
/-- data of few levels that the deep equality reads -/
def okD : Nat → D → Prop
  | n + 1, .list ds => ds.length ≤ 1000 ∧ ∀ x ∈ ds, okD n x
  | n + 1, .tuple ds => ds.length ≤ 1000 ∧ ∀ x ∈ ds, okD n x
  | _ + 1, .str s => SeqAt.shaped (.str s) = true
  | _ + 1, .dict _ => False
  | _ + 1, _ => True
  | 0, _ => False
theorem nBool {a b : Bool} {k : D → Bool} : gNe (.bool a) (.bool b) k = k (.bool (!(a == b))) := by
  rw [gNe_val (by cases a <;> rfl) (by cases b <;> rfl)]
  cases a <;> cases b <;> rfl
theorem eBool {a b : Bool} {k : D → Bool} : gEq (.bool a) (.bool b) k = k (.bool (a == b)) := by
  rw [gEq_val (by cases a <;> rfl) (by cases b <;> rfl)]
  cases a <;> cases b <;> rfl
theorem eNil {k : D → Bool} : gEq (.list []) (.list []) k = k (.bool true) := rfl
theorem isE {T : IsT} {d : D} {k : D → Bool} : kBl (T.is d) k = k (.bool (T.is d)) := kBl_eq _ _
theorem leq_row {m : FN} {d : D} {ds : List D} (hx : ∀ j x, ds[j]? = some x → ∀ k : D → Bool, gIx d (.int ((j : Nat) : Int)) k = k x) (hm : ∀ x ∈ ds, ∀ k, m [.sh x, .sh x] k = k (.sh (.bool true))) {kL : List D → Bool} :
    ∀ (cnt i : Nat), i + cnt = ds.length → lcGo [.sh d, .sh d, .un] (gN 2) (bNot (bV (toD (sFn m (aCons (toS (dOp gIx (vN 0) (vN 2))) (aCons (toS (dOp gIx (vN 1) (vN 2))) aNil)))))) (dN 2) (rngL (i : Int) cnt) kL = kL []
  | 0, _, _ => rfl
  | cnt + 1, i, h => by
    obtain ⟨x, e⟩ : ∃ x, ds[i]? = some x := ⟨ds[i]'(by omega), List.getElem?_eq_getElem _⟩
    have e1 := hx i x e
    have e2 := hm x (List.mem_of_getElem? e)
    have ih := leq_row hx hm (kL := kL) cnt (i + 1) (by omega)
    rw [rngL]
    simp -implicitDefEqProofs only [↓q_seq, ↓q_nil, ↓q_ret, ↓q_brk, ↓q_cont, ↓q_if, ↓q_set, ↓q_setF, ↓q_asg, ↓q_par, ↓q_par3, ↓q_expr, ↓q_for, ↓q_vN, ↓q_dN, ↓q_sN, ↓q_take, ↓q_toD, ↓q_toS, ↓q_aFz, ↓q_dC, ↓q_dOp, ↓q_sOp, ↓q_dUn, ↓q_dNil, ↓q_wNil, ↓q_aNil, ↓q_dCons, ↓q_wCons, ↓q_aCons, ↓q_dTup, ↓q_sLst, ↓q_dCall, ↓q_sCall, ↓q_sFn, ↓q_bV, ↓q_bC, ↓q_bAnd, ↓q_bOr, ↓q_bNot, ↓q_dIf, ↓q_sIf, ↓q_dAnd, ↓q_dOr, ↓q_dNot, ↓q_gN, ↓q_gsNil, ↓q_gsCons, ↓q_gTp, ↓q_seqT, ↓q_range1, ↓q_goNil, ↓q_goCons, ↓q_lc, ↓q_lcNil, ↓q_lcCons, ↓q_yes, ↓q_sub, ↓q_add, ↓q_neg, ↓q_lt, ↓q_le, ↓q_gt, ↓q_ge, ↓q_eq, ↓q_ne, ↓q_abs, ↓q_int, ↓q_gcd, ↓q_tupL, ↓q_tupT, ↓q_app, ↓q_is, ↓q_maxL, ↓q_or, ↓q_sum2, ↓q_gtT, ↓q_ltT, ↓q_leT, ↓q_geT, sat, List.cons_append, List.nil_append, List.append_nil, List.length_cons, List.length_nil, List.set_cons_succ, List.set_cons_zero, List.replicate, cond_true, cond_false, fzS, wipeE, Nat.blt, Nat.ble, eq_self, decide_true, decide_false, Bool.not_true, Bool.not_false, b2, b3, b4, if_true, ↓e1, ↓e2]
    exact ih
theorem law_eq_self : ∀ (n : Nat) (d : D), okD n d → ∀ {k : S → Bool}, q__law_eq n [.sh d, .sh d] k = k (.sh (.bool true))
  | 0, d, h, _ => h.elim
  | n + 1, .none, _, _ => rfl
  | n + 1, .bool b, _, k => by
    unfold q__law_eq mkFn b__law_eq
    simp -implicitDefEqProofs only [↓q_seq, ↓q_nil, ↓q_ret, ↓q_brk, ↓q_cont, ↓q_if, ↓q_set, ↓q_setF, ↓q_asg, ↓q_par, ↓q_par3, ↓q_expr, ↓q_for, ↓q_vN, ↓q_dN, ↓q_sN, ↓q_take, ↓q_toD, ↓q_toS, ↓q_aFz, ↓q_dC, ↓q_dOp, ↓q_sOp, ↓q_dUn, ↓q_dNil, ↓q_wNil, ↓q_aNil, ↓q_dCons, ↓q_wCons, ↓q_aCons, ↓q_dTup, ↓q_sLst, ↓q_dCall, ↓q_sCall, ↓q_sFn, ↓q_bV, ↓q_bC, ↓q_bAnd, ↓q_bOr, ↓q_bNot, ↓q_dIf, ↓q_sIf, ↓q_dAnd, ↓q_dOr, ↓q_dNot, ↓q_gN, ↓q_gsNil, ↓q_gsCons, ↓q_gTp, ↓q_seqT, ↓q_range1, ↓q_goNil, ↓q_goCons, ↓q_lc, ↓q_lcNil, ↓q_lcCons, ↓q_yes, ↓q_sub, ↓q_add, ↓q_neg, ↓q_lt, ↓q_le, ↓q_gt, ↓q_ge, ↓q_eq, ↓q_ne, ↓q_abs, ↓q_int, ↓q_gcd, ↓q_tupL, ↓q_tupT, ↓q_app, ↓q_is, ↓q_maxL, ↓q_or, ↓q_sum2, ↓q_gtT, ↓q_ltT, ↓q_leT, ↓q_geT, sat, List.cons_append, List.nil_append, List.append_nil, List.length_cons, List.length_nil, List.set_cons_succ, List.set_cons_zero, List.replicate, cond_true, cond_false, fzS, wipeE, Nat.blt, Nat.ble, eq_self, decide_true, decide_false, Bool.not_true, Bool.not_false, b2, b3, b4, if_true, IsT.is, gIsN, eBool, beq_self_eq_true, kBl_eq]
  | n + 1, .int i, _, k => by
    unfold q__law_eq mkFn b__law_eq
    simp -implicitDefEqProofs only [↓q_seq, ↓q_nil, ↓q_ret, ↓q_brk, ↓q_cont, ↓q_if, ↓q_set, ↓q_setF, ↓q_asg, ↓q_par, ↓q_par3, ↓q_expr, ↓q_for, ↓q_vN, ↓q_dN, ↓q_sN, ↓q_take, ↓q_toD, ↓q_toS, ↓q_aFz, ↓q_dC, ↓q_dOp, ↓q_sOp, ↓q_dUn, ↓q_dNil, ↓q_wNil, ↓q_aNil, ↓q_dCons, ↓q_wCons, ↓q_aCons, ↓q_dTup, ↓q_sLst, ↓q_dCall, ↓q_sCall, ↓q_sFn, ↓q_bV, ↓q_bC, ↓q_bAnd, ↓q_bOr, ↓q_bNot, ↓q_dIf, ↓q_sIf, ↓q_dAnd, ↓q_dOr, ↓q_dNot, ↓q_gN, ↓q_gsNil, ↓q_gsCons, ↓q_gTp, ↓q_seqT, ↓q_range1, ↓q_goNil, ↓q_goCons, ↓q_lc, ↓q_lcNil, ↓q_lcCons, ↓q_yes, ↓q_sub, ↓q_add, ↓q_neg, ↓q_lt, ↓q_le, ↓q_gt, ↓q_ge, ↓q_eq, ↓q_ne, ↓q_abs, ↓q_int, ↓q_gcd, ↓q_tupL, ↓q_tupT, ↓q_app, ↓q_is, ↓q_maxL, ↓q_or, ↓q_sum2, ↓q_gtT, ↓q_ltT, ↓q_leT, ↓q_geT, sat, List.cons_append, List.nil_append, List.append_nil, List.length_cons, List.length_nil, List.set_cons_succ, List.set_cons_zero, List.replicate, cond_true, cond_false, fzS, wipeE, Nat.blt, Nat.ble, eq_self, decide_true, decide_false, Bool.not_true, Bool.not_false, b2, b3, b4, if_true, IsT.is, gIsN]
  | n + 1, .str s, h, k => by
    have h : SeqAt.shaped (.str s) = true := h
    have e := fun k => eq_self' (k := k) h rfl
    unfold q__law_eq mkFn b__law_eq
    simp -implicitDefEqProofs only [↓q_seq, ↓q_nil, ↓q_ret, ↓q_brk, ↓q_cont, ↓q_if, ↓q_set, ↓q_setF, ↓q_asg, ↓q_par, ↓q_par3, ↓q_expr, ↓q_for, ↓q_vN, ↓q_dN, ↓q_sN, ↓q_take, ↓q_toD, ↓q_toS, ↓q_aFz, ↓q_dC, ↓q_dOp, ↓q_sOp, ↓q_dUn, ↓q_dNil, ↓q_wNil, ↓q_aNil, ↓q_dCons, ↓q_wCons, ↓q_aCons, ↓q_dTup, ↓q_sLst, ↓q_dCall, ↓q_sCall, ↓q_sFn, ↓q_bV, ↓q_bC, ↓q_bAnd, ↓q_bOr, ↓q_bNot, ↓q_dIf, ↓q_sIf, ↓q_dAnd, ↓q_dOr, ↓q_dNot, ↓q_gN, ↓q_gsNil, ↓q_gsCons, ↓q_gTp, ↓q_seqT, ↓q_range1, ↓q_goNil, ↓q_goCons, ↓q_lc, ↓q_lcNil, ↓q_lcCons, ↓q_yes, ↓q_sub, ↓q_add, ↓q_neg, ↓q_lt, ↓q_le, ↓q_gt, ↓q_ge, ↓q_eq, ↓q_ne, ↓q_abs, ↓q_int, ↓q_gcd, ↓q_tupL, ↓q_tupT, ↓q_app, ↓q_is, ↓q_maxL, ↓q_or, ↓q_sum2, ↓q_gtT, ↓q_ltT, ↓q_leT, ↓q_geT, sat, List.cons_append, List.nil_append, List.append_nil, List.length_cons, List.length_nil, List.set_cons_succ, List.set_cons_zero, List.replicate, cond_true, cond_false, fzS, wipeE, Nat.blt, Nat.ble, eq_self, decide_true, decide_false, Bool.not_true, Bool.not_false, b2, b3, b4, if_true, IsT.is, gIsN, e]
  | n + 1, .dict _, h, _ => h.elim
  | n + 1, .list ds, h, k => by
    obtain ⟨h1, h2⟩ := h
    have r := fun kL => leq_row (kL := kL) (m := q__law_eq n) (d := .list ds) (ds := ds) (fun j x e k => ix_lst e) (fun x hx k => law_eq_self n x (h2 x hx))
    have l : ∀ k, gLen [.list ds] k = k (.int (ds.length : Int)) := fun k => kInt_eq _ _
    have b1 : Nat.ble (rngL 0 ds.length).length 100000 = true := by rw [Nat.ble_eq, rngL_len]; omega
    have b2' : (-(2 ^ 62) ≤ ((ds.length : Nat) : Int) ∧ ((ds.length : Nat) : Int) < 2 ^ 62) := by omega
    unfold q__law_eq mkFn b__law_eq
    simp -implicitDefEqProofs only [↓q_seq, ↓q_nil, ↓q_ret, ↓q_brk, ↓q_cont, ↓q_if, ↓q_set, ↓q_setF, ↓q_asg, ↓q_par, ↓q_par3, ↓q_expr, ↓q_for, ↓q_vN, ↓q_dN, ↓q_sN, ↓q_take, ↓q_toD, ↓q_toS, ↓q_aFz, ↓q_dC, ↓q_dOp, ↓q_sOp, ↓q_dUn, ↓q_dNil, ↓q_wNil, ↓q_aNil, ↓q_dCons, ↓q_wCons, ↓q_aCons, ↓q_dTup, ↓q_sLst, ↓q_dCall, ↓q_sCall, ↓q_sFn, ↓q_bV, ↓q_bC, ↓q_bAnd, ↓q_bOr, ↓q_bNot, ↓q_dIf, ↓q_sIf, ↓q_dAnd, ↓q_dOr, ↓q_dNot, ↓q_gN, ↓q_gsNil, ↓q_gsCons, ↓q_gTp, ↓q_seqT, ↓q_range1, ↓q_goNil, ↓q_goCons, ↓q_lc, ↓q_lcNil, ↓q_lcCons, ↓q_yes, ↓q_sub, ↓q_add, ↓q_neg, ↓q_lt, ↓q_le, ↓q_gt, ↓q_ge, ↓q_eq, ↓q_ne, ↓q_abs, ↓q_int, ↓q_gcd, ↓q_tupL, ↓q_tupT, ↓q_app, ↓q_is, ↓q_maxL, ↓q_or, ↓q_sum2, ↓q_gtT, ↓q_ltT, ↓q_leT, ↓q_geT, sat, List.cons_append, List.nil_append, List.append_nil, List.length_cons, List.length_nil, List.set_cons_succ, List.set_cons_zero, List.replicate, cond_true, cond_false, fzS, wipeE, Nat.blt, Nat.ble, eq_self, decide_true, decide_false, Bool.not_true, Bool.not_false, b2, b3, b4, if_true, IsT.is, nBool, beq_self_eq_true, ↓l, if_pos b2', Int.toNat_natCast, b1]
    exact (r _ ds.length 0 (by omega)).trans rfl
  | n + 1, .tuple ds, h, k => by
    obtain ⟨h1, h2⟩ := h
    have r := fun kL => leq_row (kL := kL) (m := q__law_eq n) (d := .tuple ds) (ds := ds) (fun j x e k => ix_tup e) (fun x hx k => law_eq_self n x (h2 x hx))
    have l : ∀ k, gLen [.tuple ds] k = k (.int (ds.length : Int)) := fun k => kInt_eq _ _
    have b1 : Nat.ble (rngL 0 ds.length).length 100000 = true := by rw [Nat.ble_eq, rngL_len]; omega
    have b2' : (-(2 ^ 62) ≤ ((ds.length : Nat) : Int) ∧ ((ds.length : Nat) : Int) < 2 ^ 62) := by omega
    unfold q__law_eq mkFn b__law_eq
    simp -implicitDefEqProofs only [↓q_seq, ↓q_nil, ↓q_ret, ↓q_brk, ↓q_cont, ↓q_if, ↓q_set, ↓q_setF, ↓q_asg, ↓q_par, ↓q_par3, ↓q_expr, ↓q_for, ↓q_vN, ↓q_dN, ↓q_sN, ↓q_take, ↓q_toD, ↓q_toS, ↓q_aFz, ↓q_dC, ↓q_dOp, ↓q_sOp, ↓q_dUn, ↓q_dNil, ↓q_wNil, ↓q_aNil, ↓q_dCons, ↓q_wCons, ↓q_aCons, ↓q_dTup, ↓q_sLst, ↓q_dCall, ↓q_sCall, ↓q_sFn, ↓q_bV, ↓q_bC, ↓q_bAnd, ↓q_bOr, ↓q_bNot, ↓q_dIf, ↓q_sIf, ↓q_dAnd, ↓q_dOr, ↓q_dNot, ↓q_gN, ↓q_gsNil, ↓q_gsCons, ↓q_gTp, ↓q_seqT, ↓q_range1, ↓q_goNil, ↓q_goCons, ↓q_lc, ↓q_lcNil, ↓q_lcCons, ↓q_yes, ↓q_sub, ↓q_add, ↓q_neg, ↓q_lt, ↓q_le, ↓q_gt, ↓q_ge, ↓q_eq, ↓q_ne, ↓q_abs, ↓q_int, ↓q_gcd, ↓q_tupL, ↓q_tupT, ↓q_app, ↓q_is, ↓q_maxL, ↓q_or, ↓q_sum2, ↓q_gtT, ↓q_ltT, ↓q_leT, ↓q_geT, sat, List.cons_append, List.nil_append, List.append_nil, List.length_cons, List.length_nil, List.set_cons_succ, List.set_cons_zero, List.replicate, cond_true, cond_false, fzS, wipeE, Nat.blt, Nat.ble, eq_self, decide_true, decide_false, Bool.not_true, Bool.not_false, b2, b3, b4, if_true, IsT.is, nBool, beq_self_eq_true, ↓l, if_pos b2', Int.toNat_natCast, b1]
    exact (r _ ds.length 0 (by omega)).trans rfl
theorem law_eq_bool {n : Nat} {a b : Bool} {k : S → Bool} : q__law_eq (n + 1) [.sh (.bool a), .sh (.bool b)] k = k (.sh (.bool (a == b))) := by
  unfold q__law_eq mkFn b__law_eq
  simp -implicitDefEqProofs only [↓q_seq, ↓q_nil, ↓q_ret, ↓q_brk, ↓q_cont, ↓q_if, ↓q_set, ↓q_setF, ↓q_asg, ↓q_par, ↓q_par3, ↓q_expr, ↓q_for, ↓q_vN, ↓q_dN, ↓q_sN, ↓q_take, ↓q_toD, ↓q_toS, ↓q_aFz, ↓q_dC, ↓q_dOp, ↓q_sOp, ↓q_dUn, ↓q_dNil, ↓q_wNil, ↓q_aNil, ↓q_dCons, ↓q_wCons, ↓q_aCons, ↓q_dTup, ↓q_sLst, ↓q_dCall, ↓q_sCall, ↓q_sFn, ↓q_bV, ↓q_bC, ↓q_bAnd, ↓q_bOr, ↓q_bNot, ↓q_dIf, ↓q_sIf, ↓q_dAnd, ↓q_dOr, ↓q_dNot, ↓q_gN, ↓q_gsNil, ↓q_gsCons, ↓q_gTp, ↓q_seqT, ↓q_range1, ↓q_goNil, ↓q_goCons, ↓q_lc, ↓q_lcNil, ↓q_lcCons, ↓q_yes, ↓q_sub, ↓q_add, ↓q_neg, ↓q_lt, ↓q_le, ↓q_gt, ↓q_ge, ↓q_eq, ↓q_ne, ↓q_abs, ↓q_int, ↓q_gcd, ↓q_tupL, ↓q_tupT, ↓q_app, ↓q_is, ↓q_maxL, ↓q_or, ↓q_sum2, ↓q_gtT, ↓q_ltT, ↓q_leT, ↓q_geT, sat, List.cons_append, List.nil_append, List.append_nil, List.length_cons, List.length_nil, List.set_cons_succ, List.set_cons_zero, List.replicate, cond_true, cond_false, fzS, wipeE, Nat.blt, Nat.ble, eq_self, decide_true, decide_false, Bool.not_true, Bool.not_false, b2, b3, b4, if_true, IsT.is, gIsN, eBool, kBl_eq]
end Orn

set_option Elab.async false
set_option linter.all false
set_option maxRecDepth 100000
set_option maxHeartbeats 4000000
/-! x[::-1] of a tuple and of a list; tuple * int. -/
namespace Orn
open PySem PySem.Spec L2 PyProof.Rows
section
variable {prog : Program} {w : World} {A : Around} {E : Value → Shared → Prop} {s : Shared}
theorem adjust_rev (n : Nat) : Builtin.Slice.sliceAdjust none none (-1) (n : Int) = ((n : Int) - 1, -1) := by
  unfold Builtin.Slice.sliceAdjust
  simp
theorem places_rev (n : Nat) : Builtin.Slice.slicePlaces ((n : Int) - 1) (-1) (-1) = n := by
  unfold Builtin.Slice.slicePlaces
  simp
  omega
theorem applied_rev {sl : Addr} {vl vu vs : Value} {n : Nat} {Q : Int × Int × Nat → Shared → Prop} (hs : s.heap.IsSliceOf sl vl vu vs) (pl : IsPart vl none) (pu : IsPart vu none) (ps : IsPart vs (some (-1)))
    (h : Q ((n : Int) - 1, -1, n) s) : wpAny (model prog w) A (Builtin.Slice.sliceApplied (.ref sl) (pure (n : Int))) Q E s := by
  obtain ⟨os, hos, hcs, hds⟩ := id hs
  unfold Builtin.Slice.sliceApplied Builtin.Slice.sliceFields
  refine wpAny_bind (wpAny_bind (wpAny_field hos hds (x := vl) rfl (wpAny_bind (wpAny_field hos hds (x := vu) rfl (wpAny_bind (wpAny_field hos hds (x := vs) rfl (wpAny_pure ?_)))))))
  refine wpAny_bind (HT.slicePart_ ps ?_)
  show wpAny _ _ (if ((-1 : Int) == 0) = true then _ else _) _ _ s
  rw [if_neg (by decide)]
  refine wpAny_bind (HT.slicePart_ pl (wpAny_bind (HT.slicePart_ pu (wpAny_bind (wpAny_pure ?_)))))
  show wpAny _ _ (match Builtin.Slice.sliceAdjust none none (-1) (n : Int) with | (lo, hi) => pure (lo, (-1 : Int), Builtin.Slice.slicePlaces lo hi (-1))) _ _ s
  rw [adjust_rev n]
  show wpAny _ _ (pure ((n : Int) - 1, (-1 : Int), Builtin.Slice.slicePlaces ((n : Int) - 1) (-1) (-1))) _ _ s
  rw [places_rev]
  exact wpAny_pure h
theorem fm_map {α β : Type} (f : α → Option β) (g : α → β) : ∀ l : List α, (∀ m ∈ l, f m = some (g m)) → l.filterMap f = l.map g
  | [], _ => rfl
  | a :: l, h => by
    rw [List.filterMap_cons, h a List.mem_cons_self, List.map_cons, fm_map f g l fun m hm => h m (List.mem_cons_of_mem _ hm)]
theorem pick_rev (xs : Array Value) : ((List.range xs.size).filterMap fun (m : Nat) => xs[(((xs.size : Nat) : Int) - 1 + (m : Int) * -1).toNat]?).toArray = xs.toList.reverse.toArray := by
  congr 1
  apply List.ext_getElem?
  intro i
  have e : (List.range xs.size).filterMap (fun (m : Nat) => xs[(((xs.size : Nat) : Int) - 1 + (m : Int) * -1).toNat]?) = (List.range xs.size).map (fun m => xs.getD (xs.size - 1 - m) .none) := by
    refine fm_map _ _ _ fun m hm => ?_
    have hm := List.mem_range.mp hm
    have e1 : (((xs.size : Nat) : Int) - 1 + (m : Int) * -1).toNat = xs.size - 1 - m := by omega
    rw [e1]
    show xs[xs.size - 1 - m]? = some (xs.getD (xs.size - 1 - m) .none)
    rw [Array.getD_eq_getD_getElem?, Array.getElem?_eq_getElem (by omega)]
    rfl
  rw [e, List.getElem?_map]
  by_cases h : i < xs.size
  · rw [List.getElem?_range h, List.getElem?_reverse (by simpa using h)]
    simp only [Option.map_some, Array.length_toList]
    rw [Array.getElem?_toList, Array.getD_eq_getD_getElem?, Array.getElem?_eq_getElem (by omega)]
    rfl
  · rw [List.getElem?_eq_none (by simpa using h), List.getElem?_eq_none (by simpa using h)]
    rfl
theorem getItem_tuple_rev {t sl : Addr} {items : Array Value} {vl vu vs : Value} {Q : Value → Shared → Prop} (ht : IsTup s.heap t items) (hs : s.heap.IsSliceOf sl vl vu vs) (pl : IsPart vl none) (pu : IsPart vu none) (ps : IsPart vs (some (-1)))
    (h : Q (.ref s.heap.objs.size) { s with heap := s.heap.push { cls := .type "tuple", data := .seq items.toList.reverse.toArray } })
    (hsz : items.size ≤ sizeLine) : wpAny (model prog w) A (getItem (.ref t) (.ref sl)) Q E s := by
  have htake : sizeOk (.seq items.toList.reverse.toArray) := by
    show (items.toList.reverse.toArray).size ≤ sizeLine
    rw [List.size_toArray, List.length_reverse, Array.length_toList]
    exact hsz
  obtain ⟨os, hos, hcs, hds⟩ := id hs
  have hTs : s.TypeIs (.ref sl) "slice" := ⟨os, hos, hcs⟩
  unfold getItem
  try with_reducible refine wpAny_holding ?_
  first | refine wpAny_bind (wpAny_pure ?_) | skip
  refine wpAny_bind (wpAny_sequenceKey ht.typeIs (by decide) ?_)
  refine wpAny_bind (wpAny_callSpecial?_slot (name := Str.ofString "__getitem__") ht.typeIs PyProof.Rows.slot_tuple_getitem
    (wpAny_call_entry PyProof.Rows.slot_tuple_getitem ht.typeIs entry_tuple_getitem ?_ (args_tuple_getitem _ _)))
  show wpAny _ _ (Builtin.Tuple.tupleItemsOf (.ref t) >>= _) _ _ s
  refine wpAny_bind (tupleItemsOf_ ht ?_)
  refine wpAny_bind (wpAny_typeOf hTs ?_)
  rw [if_pos (by decide)]
  refine wpAny_bind (applied_rev hs pl pu ps ?_)
  have hno : ¬ ((((items.size : Nat) : Int) - 1 == 0 && (-1 : Int) == 1 && items.size == items.size) = true) := by
    intro q
    rw [Bool.and_eq_true, Bool.and_eq_true] at q
    exact absurd q.1.2 (by decide)
  show wpAny _ _ (if (((items.size : Nat) : Int) - 1 == 0 && (-1 : Int) == 1 && items.size == items.size) = true then _ else _) _ _ s
  rw [if_neg hno, pick_rev]
  first
    | exact wpAny_bind (m := Builtin.Tuple.tupleExact _) (wpAny_newObj_type (wpAny_pure ⟨_, rfl, wpAny_pure h⟩) htake)
    | exact wpAny_bind (m := Builtin.Tuple.tupleExact _) (wpAny_newObj_type (wpAny_bind (wpAny_pure (wpAny_pure ⟨_, rfl, wpAny_pure h⟩))) htake)
    | exact wpAny_bind (wpAny_bind (m := Builtin.Tuple.tupleExact _) (wpAny_newObj_type (wpAny_pure (wpAny_pure ⟨_, rfl, wpAny_pure h⟩)) htake))
    | exact wpAny_bind (wpAny_bind (m := Builtin.Tuple.tupleExact _) (wpAny_newObj_type (wpAny_pure ⟨_, rfl, wpAny_pure h⟩) htake))
end
def tRevT (K : PySem.W.Frag) (te : TE) : TE := fun σ H Q => te σ H fun x H1 => ∃ a xs, x = .ref a ∧ SqT K H1 a xs ∧ ∀ p, H1 p = none → Q (.ref p) (upd H1 p (.tup xs.reverse))
section
variable {X : Cx}
theorem pe_revT {e : Expr} {te : TE} {k : Nat} {p1 p2 p3 pos : Pos} (he : PE X e te) : PE X (.Subscript e (.Slice none none (some (.UnaryOp .USub (.Constant (.int 1) k p1) p2)) p3) pos) (tRevT X.K te) := by
  refine ⟨fun pins s σ H Q I h => ?_⟩
  refine Subscript_ (thn (he.run pins s σ H _ I h) fun v s1 ⟨x, H1, I1, r1, q1⟩ => ?_)
  obtain ⟨a, xs, ex, hx, q⟩ := q1
  subst ex
  cases r1
  have hst : PO X (some (.UnaryOp .USub (.Constant (.int 1) k p1) p2)) (tPart (tUn (rU fun i => .int (-i)) (tC (.int 1)))) := po_some (pe_un un_neg pe_int)
  refine wpAny_Slice (thn (po_none.run pins s1 σ H1 (fun o H2 => o = none ∧ H2 = H1) I1 ⟨rfl, rfl⟩) fun vl s2 ⟨l, H2, I2, pl, el, e2⟩ => ?_)
  subst el e2
  refine thn (po_none.run pins s2 σ H2 (fun o H3 => o = none ∧ H3 = H2) I2 ⟨rfl, rfl⟩) fun vu s3 ⟨u, H3, I3, pu, eu, e3⟩ => ?_
  subst eu e3
  refine thn (hst.run pins s3 σ H3 (fun o H4 => o = some (-1) ∧ H4 = H3) I3 ⟨1, rfl, -1, rfl, rfl, rfl⟩) fun vs s4 ⟨o, H4, I4, ps, eo, e4⟩ => ?_
  subst eo e4
  have I5 : Inv X pins σ H4 { s4 with heap := s4.heap.push { cls := .type "slice", data := .fields #[vl, vu, vs] } } := I4.kept (t' := s4.toks) fun b ob q => Heap.get?_push_of_some _ q
  obtain ⟨its, r, ht, hz⟩ := I5.tuple hx
  have hlen := r.length
  show wpAny (model X.prog X.w) X.A (subscriptTail e (.Slice none none (some (.UnaryOp .USub (.Constant (.int 1) k p1) p2)) p3) (.ref a) (.ref s4.heap.objs.size)) (EP X pins σ Q) X.xe { s4 with heap := s4.heap.push { cls := .type "slice", data := .fields #[vl, vu, vs] } }
  refine tail_any (ops := [.ref a, .ref s4.heap.objs.size]) ht.typeIs (PyProof.Rows.slot_tuple_getitem.lookup) ?_ (by with_unfolding_all rfl)
  refine getItem_tuple_rev ht (Heap.IsSliceOf.new _ vl vu vs) pl pu ps ?_ (by rw [List.size_toArray]; omega)
  refine ⟨.ref _, _, I5.laid (t' := s4.toks) (o := .tup xs.reverse) (fun b ob q => Heap.get?_push_of_some _ q) (Nat.le_refl _) ?_, rfl, q _ (I5.hok.fresh (Nat.le_refl _))⟩
  exact ⟨by rw [List.length_reverse]; exact hz, _, r.reverse, IsTup.new _ _⟩
def dRev (f : ED) : ED := fun env k => f env fun d => match d with
  | .tuple ds => k (.tuple ds.reverse)
  | _ => false
theorem sd_rev {e : Expr} {k : Nat} {p1 p2 p3 pos : Pos} {f : ED} (he : PE X e (tV X.K f)) : PE X (.Subscript e (.Slice none none (some (.UnaryOp .USub (.Constant (.int 1) k p1) p2)) p3) pos) (tD X.K (dRev f)) := by
  refine PEc (pe_revT he) fun σ H Q q => ?_
  obtain ⟨F, H0, env, k, R, hf, hq⟩ := q
  refine ⟨F, H0, env, _, R, hf, fun v d H1 G1 hk R1 w g1 => ?_⟩
  split at hk
  · obtain ⟨a, xs, rfl, ha, ra⟩ := w.tup
    refine ⟨a, xs, rfl, ex_t R1.ex ha, new_tup R1 (fun v d H4 G4 h4 R4 r4 g4 => hq v d H4 G4 h4 R4 r4 (g1.trans g4)) ra.reverse hk⟩
  · cases hk
/-! tuple * int -/
theorem tuple_mul1 (l : Addr) (items : Array Value) (n : Nat) (dd : Option Addr) (sl : Array (Option Value)) (x : Int) (u : Tok) (c0 : (decide (x < -(2 ^ 63)) || decide (x ≥ 2 ^ 63)) = false) (c1 : (items.isEmpty || x == 1) = true) :
    Meets (Builtin.«tuple.__mul__» ⟨[.ref l, .int x u], []⟩) (fun _ R s => s.heap.get? l = some { cls := .type "tuple", dict := dd, data := .seq items n, slots := sl } ∧
      R (.ok (.ret (Value.ref l))) s) :=
  .of_wp fun prog w A R s h => by
    obtain ⟨hp, g, d, tk, os⟩ := s
    obtain ⟨hl, h⟩ := h
    have f1 := AutoSeq1.idx_int
    wp_walk using PySem.AutoSeq1.wpAny_loadPart' hl
    repeat (first
      | (refine wpAny_ite_false (decide_eq_false (by rw [c0]; exact Bool.false_ne_true)) ?_; wp_walk using PySem.AutoSeq1.wpAny_loadPart' hl)
      | (refine wpAny_ite_true (decide_eq_true (by rw [c1])) ?_; wp_walk using PySem.AutoSeq1.wpAny_loadPart' hl))
    exact ⟨_, rfl, h⟩
def rRep1 (K : PySem.W.Frag) : R2 := fun x y H Q => ∃ l k xs, x = .ref l ∧ y = .int k ∧ SqT K H l xs ∧ (xs = [] ∨ k = 1) ∧ 0 ≤ k ∧ k ≤ 1000 ∧ Q (.ref l) H
theorem op_rep1 : OpR X (binaryOp .Mult) (rRep1 X.K) := by
  intro pins s σ H x y v u Q I rx ry h
  obtain ⟨l, k, xs, rfl, rfl, hT, hne, h1, h2, q⟩ := h
  cases rx
  obtain ⟨t, rfl⟩ := ry
  obtain ⟨its, r, ⟨⟨cls, dd, data, sl⟩, ho, hc, n, hd⟩, hs⟩ := I.tuple hT
  simp only at hc hd
  subst hc hd
  have hle : its.length = xs.length := r.length.symm
  have c0 : (decide (k < -(2 ^ 63)) || decide (k ≥ 2 ^ 63)) = false := by
    rw [decide_eq_false (by omega), decide_eq_false (by omega)] <;> rfl
  have c1 : (its.toArray.isEmpty || k == 1) = true := by
    rcases hne with e | e
    · subst e
      cases its with
      | nil => rfl
      | cons _ _ => cases hle
    · subst e
      rw [Bool.or_eq_true]
      exact .inr rfl
  refine wpAny_binaryOp_repeat_ref (T := "tuple") (U := "int") (by decide) ⟨_, ho, rfl⟩ (fun s' => typeIs_int s' k t) noFill_tuple_mul F.fills_int_mul F.slot_int_rmul repeat_tuple F.slot_int_index.lookup
    (call_meets F.slot_int_rmul (typeIs_int s k t) F.entry_int_rmul (F.args_int_rmul_2 _ _) (int_rmul_tuple k t l its.toArray n dd sl)
      ⟨ho, rfl, ⟨_, ho, rfl⟩, call_meets F.slot_tuple_mul ⟨_, ho, rfl⟩ F.entry_tuple_mul (F.args_tuple_mul_2 _ _) (tuple_mul1 l its.toArray n dd sl k t c0 c1) ⟨ho, ?_⟩⟩)
  exact ⟨.ref l, H, I, rfl, q⟩
/-- a tuple many times: none of it only where it is empty -/
def gRepT : D → D → (D → Bool) → Bool
  | .tuple xs, .int n, k => if (1 ≤ n ∨ (xs = [] ∧ 0 ≤ n)) ∧ n ≤ 1000 ∧ xs.length ≤ 1000 then k (.tuple (List.replicate n.toNat xs).flatten) else false
  | _, _, _ => false
theorem rep_nil {α : Type} : ∀ n : Nat, (List.replicate n ([] : List α)).flatten = []
  | 0 => rfl
  | n + 1 => by rw [List.replicate_succ, List.flatten_cons, rep_nil n]; rfl
theorem oRepT : OpR X (binaryOp .Mult) (rD X.K gRepT) := by
  refine opi (OpR.or op_repT op_rep1) fun x y H Q q => ?_
  obtain ⟨F, H0, σ, env, d, e, k, R, w1, w2, h, hq⟩ := q
  unfold gRepT at h
  split at h
  · rename_i ds n
    split at h
    · rename_i c
      obtain ⟨a, xs, rfl, ha, ra⟩ := w1.tup
      have hl := ra.length
      by_cases h1 : ds = [] ∨ n = 1
      · refine .inr ⟨a, _, xs, rfl, w2.int, ex_t R.ex ha, ?_, ?_, c.2.1, ?_⟩
        · rcases h1 with e | e
          · exact .inl (ra.nil_iff.mpr e)
          · exact .inr e
        · rcases c.1 with z | z
          · omega
          · exact z.2
        · have e : (List.replicate n.toNat ds).flatten = ds := by
            rcases h1 with e | e
            · subst e; exact rep_nil _
            · subst e; simp
          rw [e] at h
          exact hq _ _ H0 H h R ⟨a, xs, rfl, ha, ra⟩ .refl
      · have n1 : ds ≠ [] := fun z => h1 (.inl z)
        have n2 : n ≠ 1 := fun z => h1 (.inr z)
        have n3 : 1 ≤ n := by
          rcases c.1 with z | z
          · exact z
          · exact absurd z.1 n1
        refine .inl ⟨a, _, xs, rfl, w2.int, ex_t R.ex ha, fun z => n1 (ra.nil_iff.mp z), by omega, c.2.1, by rw [hl]; exact c.2.2, new_tup R hq (ra.replicate _) h⟩
    · cases h
  · cases h
end
instance (f : ED) [MX f] : MX (dRev f) := ⟨fun e1 e2 k1 k2 h hk hf => MX.mono (f := f) e1 e2 _ _ h (fun s q => by cases s <;> first | exact hk _ q | cases q) hf⟩
instance : M2 gRepT := ⟨fun a b k1 k2 hk h => by cases a <;> cases b <;> first | (cases h; done) | exact ite_m (hk _) id h⟩
@[simp ↓] theorem q_rev {f : ED} {e : List S} {k : D → Bool} : dRev f e k = f e fun d => match d with
  | .tuple ds => k (.tuple ds.reverse)
  | _ => false := rfl
theorem rep_tup {xs : List D} {n : Int} {k : D → Bool} (h : (1 ≤ n ∨ (xs = [] ∧ 0 ≤ n)) ∧ n ≤ 1000 ∧ xs.length ≤ 1000) : gRepT (.tuple xs) (.int n) k = k (.tuple (List.replicate n.toNat xs).flatten) := by
  unfold gRepT
  dsimp only
  rw [if_pos h]
end Orn

set_option Elab.async false
set_option linter.all false
set_option maxRecDepth 100000
set_option maxHeartbeats 4000000
/-! sorted of a list or tuple of alike data (tuples of any length, empty ones too); max of data. -/
namespace Orn
open PySem PySem.Spec L2 PyProof.Rows PySem.W PySem.SeqAt PySem.Calls
section
variable {prog : Program} {w : World} {A : Around} {E : Value → Shared → Prop} {s : Shared}
theorem call_tuple_lt {Q : Value → Shared → Prop} {l b : Addr} {items items2 : Array Value} {e r : Nat → Bool} (hl : s.heap.IsTuple l items) (hb : s.heap.IsTuple b items2)
    (he : ∀ j (h1 : j < items.size) (h2 : j < items2.size), EqAt A.in1 s items[j] items2[j] (e j)) (hr : ∀ j (h1 : j < items.size) (h2 : j < items2.size), e j = false → RcLt A.in1 s items[j] items2[j] (r j))
    (h : Q (.bool (firstLt e r (decide (items.size < items2.size)) (List.range (min items.size items2.size)))) s) : wpAny (model prog w) A (call (.builtin "tuple.__lt__") [.ref l, .ref b]) Q E s := by
  obtain ⟨⟨cls, dd, data, sl⟩, ho, hc, n, hd⟩ := id hl
  obtain ⟨⟨cls2, dd2, data2, sl2⟩, ho2, hc2, n2, hd2⟩ := id hb
  simp only at hc hd hc2 hd2
  subst hc hd hc2 hd2
  exact call_meets F.slot_tuple_lt ⟨_, ho, rfl⟩ F.entry_tuple_lt (F.args_tuple_lt_2 _ _) (tuple_ltAt l b items items2 n n2 dd dd2 sl sl2 e r) ⟨ho, ho2, he, hr, h⟩
theorem oneLt_tuple {xs ys : List PyData} {a b : Value} {as bs : List Addr} {Q : Bool → Shared → Prop} (ra : Reads s.heap a (.tuple xs) as) (rb : Reads s.heap b (.tuple ys) bs) (h : alikeAll xs ys = true)
    (hu : A.units + min (PyData.tuple xs).depth (PyData.tuple ys).depth < cLine) (hq : Q (dataLt (.tuple xs) (.tuple ys)) s) : wpAny (model prog w) A (oneLt' true a b) Q E s := by
  cases ra with
  | @tuple l o vs n _ as₁ h1 h2 h3 h4 =>
    cases rb with
    | @tuple l' o' vs' n' _ bs₁ k1 k2 k3 k4 =>
      have n1 : vs.size = xs.length := by simpa using ReadsAll.length _ _ _ h4
      have n2 : vs'.size = ys.length := by simpa using ReadsAll.length _ _ _ k4
      rw [dataLt_tuple, ← firstLt_toks xs ys h, ← n1, ← n2] at hq
      rw [oneLt'_eq]
      simp only [if_true]
      refine wpAny_bind (wpAny_cRoomFor (room_here hu) ?_)
      refine wpAny_bind (wpAny_callSpecialIfBound?_slot (T := "tuple") ⟨_, h1, h2⟩ F.slot_tuple_lt (call_tuple_lt (e := pairEq xs ys) (r := fun j => dataLt (xs.getD j .none) (ys.getD j .none)) ⟨_, h1, h2, _, h3⟩ ⟨_, k1, k2, _, k3⟩ (fun j j1 j2 => ?_) (fun j j1 j2 hj => ?_) ?_))
      · have := eqAt_alikeAll xs ys A.in1 s vs.toList vs'.toList _ _ h4 k4 h (room_in hu) j (by simpa using j1) (by simpa using j2)
        simpa using this
      · have := rcLt_alikeAll xs ys A.in1 s vs.toList vs'.toList _ _ h4 k4 h (room_in hu) j (by simpa using j1) (by simpa using j2) hj
        simpa using this
      · exact wpAny_truthy_bool hq
/-- the first items of tuples -/
theorem firsts_tups {M : Model} : ∀ (vs : List Value) (ds : List PyData), EachIs (fun v d => ∃ as, Reads s.heap v d as) vs ds → (∀ d ∈ ds, ∃ xs, d = .tuple xs) →
    ∃ ofs : List (Option Value), ofs.map Option.isSome = ds.map (fun d => match d with | .tuple (_ :: _) => true | _ => false) ∧ ∀ {Q : List (Option Value) → Shared → Prop}, Q ofs s → wpAny M A (vs.mapM firstOfTuple') Q E s
  | _, _, .nil, _ => ⟨[], rfl, fun h => by rw [List.mapM_nil]; exact wpAny_pure h⟩
  | v :: vs, d :: ds, .cons ⟨as, r⟩ t, ht => by
    obtain ⟨ofs, h1, h2⟩ := firsts_tups (M := M) vs ds t fun d q => ht d (List.mem_cons_of_mem _ q)
    obtain ⟨xs, rfl⟩ := ht d List.mem_cons_self
    cases r with
    | @tuple l o its n _ as₁ k1 k2 k3 k4 =>
      refine ⟨its[0]? :: ofs, ?_, fun {Q} hq => ?_⟩
      · rw [List.map_cons, List.map_cons, h1]
        congr 1
        cases xs with
        | nil =>
          have n0 : its.toList.length = 0 := by have := ReadsAll.length _ _ _ k4; simpa using this
          rw [← Array.getElem?_toList, List.eq_nil_of_length_eq_zero n0]
          rfl
        | cons x xr =>
          have n0 : its.toList.length = xr.length + 1 := by have := ReadsAll.length _ _ _ k4; simpa using this
          rw [← Array.getElem?_toList, List.getElem?_eq_getElem (by omega)]
          rfl
      · rw [List.mapM_cons]
        refine wpAny_bind ?_
        rw [kas_first_eq]
        refine wpAny_bind (Looks.here (show Looks M s.heap (typeOf (.ref l)) o.cls from (Looks.ld k1).andThen .now) ?_)
        rw [k2, if_neg (by first | decide | simp)]
        refine wpAny_bind (listItems_at k1 k3 (wpAny_pure ?_))
        exact wpAny_bind (h2 (Q := fun bs s' => wpAny M A (pure (its[0]? :: bs)) Q E s') (wpAny_pure hq))
/-- tuples of which one is empty -/
theorem SortsAt_tups {vs : List Value} {ds : List PyData} (e : EachIs (fun v d => ∃ as, Reads s.heap v d as) vs ds) (hal : AllAlike ds) (ht : ∀ d ∈ ds, ∃ xs, d = .tuple xs) (hn : PyData.tuple [] ∈ ds) (hu : ∀ d, d ∈ ds → A.units + d.depth < cLine) : SortsAt prog w A s (dataKind s.heap ds) vs := by
  have room : ∀ {d d' : PyData}, d ∈ ds → A.units + min d.depth d'.depth < cLine := fun {d d'} hd => Nat.lt_of_le_of_lt (Nat.add_le_add_left (Nat.min_le_left _ _) _) (hu d hd)
  refine ⟨fun v hv => ?_, ?_⟩
  · obtain ⟨d, hd, as, r⟩ := e.left v hv
    exact ⟨_, dataKind_some hal hd r⟩
  have g1 : H.LtAt prog w A s (dataKind s.heap ds) general' := by
    intro E x y a b Q ha hb hq
    obtain ⟨d, as, hd, ra, rfl⟩ := dataKind_inv ha
    obtain ⟨d', as', hd', rb, rfl⟩ := dataKind_inv hb
    obtain ⟨xs, rfl⟩ := ht d hd
    exact oneLt_alike (f := false) (fun z => by cases z) ra rb (hal _ hd d' hd') (by intro z; cases z) (room hd) hq
  have g2 : H.LtAt prog w A s (dataKind s.heap ds) oneType' := by
    intro E x y a b Q ha hb hq
    obtain ⟨d, as, hd, ra, rfl⟩ := dataKind_inv ha
    obtain ⟨d', as', hd', rb, rfl⟩ := dataKind_inv hb
    obtain ⟨xs, rfl⟩ := ht d hd
    obtain ⟨ys, rfl⟩ := ht d' hd'
    rw [keyLt'_oneType]
    exact oneLt_tuple ra rb (by simpa [alike] using hal _ hd _ hd') (room hd) hq
  have hall : ∀ ofs : List (Option Value), ofs.map Option.isSome = ds.map (fun d => match d with | .tuple (_ :: _) => true | _ => false) → (ofs.toArray.all fun x => x.isSome) = false := fun ofs ho => by
    rw [List.all_toArray, List.all_eq_false]
    have m : false ∈ ofs.map Option.isSome := by
      rw [ho]
      exact List.mem_map.mpr ⟨_, hn, rfl⟩
    obtain ⟨o, m1, m2⟩ := List.mem_map.mp m
    exact ⟨o, m1, by rw [m2]; exact Bool.false_ne_true⟩
  have key : ∃ kd, H.LtAt prog w A s (dataKind s.heap ds) kd ∧ ∀ (E : Value → Shared → Prop) {Q : SortKind → Shared → Prop}, Q kd s → wpAny (model prog w) A (keyKind' vs.toArray) Q E s := by
    obtain ⟨ofs, h1, _⟩ := firsts_tups (M := model prog w) (A := A) (E := fun _ _ => True) vs ds e ht
    have h2 : ∀ (E : Value → Shared → Prop), ∃ ofs : List (Option Value), ofs.map Option.isSome = ds.map (fun d => match d with | .tuple (_ :: _) => true | _ => false) ∧ ∀ {Q : List (Option Value) → Shared → Prop}, Q ofs s → wpAny (model prog w) A (vs.mapM firstOfTuple') Q E s :=
      fun E => firsts_tups (M := model prog w) (A := A) (E := E) vs ds e ht
    have b0 : ∀ ofs : List (Option Value), ofs.map Option.isSome = ds.map (fun d => match d with | .tuple (_ :: _) => true | _ => false) → ((ofs.toArray)[0]?.bind id).isSome = (match ds with | .tuple (_ :: _) :: _ => true | _ => false) := fun ofs ho => by
      cases ds with
      | nil => cases hn
      | cons d ds =>
        cases ofs with
        | nil => cases ho
        | cons o ofs =>
          rw [List.map_cons, List.map_cons] at ho
          have e := (List.cons.inj ho).1
          rw [show ((o :: ofs).toArray)[0]? = some o by simp]
          show o.isSome = _
          rw [e]
          split <;> split <;> first | rfl | simp_all
    cases hb : (match ds with | .tuple (_ :: _) :: _ => true | _ => false) with
    | true =>
      refine ⟨general', g1, fun E Q hq => ?_⟩
      obtain ⟨ofs, h1, h3⟩ := h2 E
      rw [kat_kind_eq, List.mapM_toArray, map_eq_pure_bind]
      refine wpAny_bind (wpAny_bind (h3 (wpAny_pure ?_)))
      rw [if_neg (by rw [hall ofs h1]; exact Bool.false_ne_true), if_pos (by rw [b0 ofs h1, hb])]
      exact wpAny_pure hq
    | false =>
      refine ⟨oneType', g2, fun E Q hq => ?_⟩
      obtain ⟨ofs, h1, h3⟩ := h2 E
      rw [kat_kind_eq, List.mapM_toArray, map_eq_pure_bind]
      refine wpAny_bind (wpAny_bind (h3 (wpAny_pure ?_)))
      rw [if_neg (by rw [hall ofs h1]; exact Bool.false_ne_true), if_neg (by rw [b0 ofs h1, hb]; exact Bool.false_ne_true)]
      obtain ⟨v₀, vr, rfl⟩ : ∃ v₀ vr, vs = v₀ :: vr := by
        cases e with
        | nil => cases hn
        | cons _ _ => exact ⟨_, _, rfl⟩
      rw [oneTypeOnly'_eq, List.mapM_toArray, map_eq_pure_bind]
      refine wpAny_bind (wpAny_bind (wpAny_bind (kas_mapM (r := Value.type "tuple") _ (fun v hv Q' hq' => ?_) (wpAny_pure ?_))))
      · obtain ⟨d, hd, as, r⟩ := e.left v hv
        obtain ⟨xs, rfl⟩ := ht d hd
        exact (looks_reads r).here hq'
      · have hall2 : ((List.map (fun _ => Value.type "tuple") (v₀ :: vr)).toArray.all fun x => x == Value.type "tuple") = true := by
          simp only [List.all_toArray, List.all_map, List.all_eq_true]
          intro _ _
          rfl
        have h0 : (List.map (fun _ => Value.type "tuple") (v₀ :: vr)).toArray[0]? = some (Value.type "tuple") := by simp
        rw [h0]
        simp only [hall2, if_true]
        exact wpAny_pure (wpAny_pure hq)
  obtain ⟨kd, k1, k2⟩ := key
  exact ⟨kd, k1, fun _ => k2⟩
/-- data that sorted takes here -/
def Sort2 (ds : List PyData) : Prop := (∀ d ∈ ds, ∃ xs, d = .tuple xs) ∨ ∀ d, d ∈ ds → d ≠ .none ∧ ∀ xs, d ≠ .tuple xs
theorem SortsAt_two {vs : List Value} {ds : List PyData} (e : EachIs (fun v d => ∃ as, Reads s.heap v d as) vs ds) (hal : AllAlike ds) (hk : Sort2 ds) (hu : ∀ d, d ∈ ds → A.units + d.depth < cLine) : SortsAt prog w A s (dataKind s.heap ds) vs := by
  rcases hk with ht | hn
  · by_cases hm : PyData.tuple [] ∈ ds
    · exact SortsAt_tups e hal ht hm hu
    · refine SortsAt.data e hal (.inl fun d hd => ?_) hu
      obtain ⟨xs, rfl⟩ := ht d hd
      cases xs with
      | nil => exact absurd hd hm
      | cons x r => exact ⟨x, r, rfl⟩
  · exact SortsAt.data e hal (.inr hn) hu
theorem collect_tuple {l : Addr} {vs : List Value} {Q : List Value → Shared → Prop} (hl : s.heap.IsTuple l vs.toArray)
    (h : Q vs { s with heap := (s.heap.push (seqObj "list" #[] 0)).update s.heap.objs.size (Obj.mapSeq (· ++ vs.toArray)) }) (hsz : vs.length ≤ sizeLine) :
    wpAny (model prog w) A (collect (.ref l)) Q E s := by
  obtain ⟨o, ho, hc, n, hd⟩ := id hl
  unfold collect
  refine wpAny_bind (wpAny_runValue (codeAny_builtin entry_proto_collect' ?_))
  show wpAny _ _ (do again (.builtin "list.__iadd__" ⟨[← newList [], .ref l], []⟩)) _ _ s
  refine wpAny_bind (wpAny_newList (wpAny_pure ⟨Code.quiet_builtin _ (by decide +kernel), codeAny_builtin entry_list_iadd' ?_⟩))
  show wpAny _ _ (Builtin.List.listExtendWith (.ref s.heap.objs.size) (.ref l) (.ref s.heap.objs.size)) _ _ { s with heap := s.heap.push (seqObj "list" #[] 0) }
  unfold Builtin.List.listExtendWith
  have ho' : (s.heap.push (seqObj "list" #[] 0)).get? l = some o := Heap.get?_push_of_some _ ho
  refine wpAny_bind (wpAny_typeOf (T := "tuple") ⟨o, ho', hc⟩ ?_)
  have ht : (Value.type "tuple" == Value.type "tuple") = true := by rfl
  rw [if_pos (by rw [ht]; simp)]
  refine wpAny_bind (listItems_at ho' hd ?_)
  refine wpAny_bind (listItems_at (xs := #[]) (n := 0) (Heap.get?_push_size _ rfl) rfl ?_)
  rw [if_neg (by simp)]
  refine wpAny_bind (listUpdate_at (xs := #[]) (n := 0) (Heap.get?_push_size _ rfl) rfl ?_ (Nat.zero_le _) (by show (#[] ++ vs.toArray).size ≤ sizeLine + 1; simp only [Array.size_append, List.size_toArray, List.length_nil]; omega))
  refine wpAny_pure ?_
  show wpAny (model prog w) A (do
      let o ← load s.heap.objs.size
      match o.data with
      | .seq xs _ => pure xs.toList
      | _ => unsupported "internal:collect") Q E { s with heap := (s.heap.push (seqObj "list" #[] 0)).update s.heap.objs.size (Obj.mapSeq (· ++ vs.toArray)) }
  refine wpAny_bind (wpAny_load (get?_update_seq (Heap.get?_push_size _ rfl) _) ?_)
  show wpAny _ _ (pure ((#[] : Array Value) ++ vs.toArray).toList) Q E _
  rw [show ((#[] : Array Value) ++ vs.toArray).toList = vs by simp]
  exact wpAny_pure h
theorem sorted_of {l : Addr} {vs : List Value} {Q : Value → Shared → Prop} (hl : s.heap.IsList l vs.toArray ∨ s.heap.IsTuple l vs.toArray) (S : SortsAt prog w A.in1.in1 { s with heap := sortingHeap (copyHeap s.heap vs) (s.heap.objs.size + 1) vs } κ vs) (hL : vs.length ≤ sizeLine)
    (h : Q (.ref (s.heap.objs.size + 1)) { s with heap := sortedAll s.heap vs (sortVals κ false vs vs).toArray }) : wpAny (model prog w) A (call (.builtin "sorted") [.ref l]) Q E s := by
  rcases hl with hl | hl
  · exact sorted_vals hl S hL h
  refine call_function_entry_kw (kw := []) kind_sorted plain_sorted entry_sorted (args_sorted1 _) ?_
  unfold Builtin.«sorted»
  refine wpAny_bind (m := checkCount "sorted" 1 1 _) (wpAny_pure ?_)
  refine wpAny_bind (collect_tuple hl ?_ hL)
  refine wpAny_bind (wpAny_newList ?_ hL)
  have hsz : ((s.heap.push (seqObj "list" #[] 0)).update s.heap.objs.size (Obj.mapSeq (· ++ vs.toArray))).objs.size = s.heap.objs.size + 1 := by
    rw [Heap.size_update, size_push']
  show wpAny _ _ _ _ _ { s with heap := copyHeap s.heap vs }
  rw [hsz]
  refine wpAny_bind (wpAny_holding (wpAny_call_entry_kw slot_list_sort ⟨_, copyHeap_at s.heap vs, rfl⟩ entry_list_sort ?body (args_list_sort _)))
  case body =>
    show wpAny (model prog w) A.in1.in1 (Builtin.«list.sort» ⟨[.ref (s.heap.objs.size + 1)], []⟩) _ _ _
    refine wpAny_mono (list_sort_vals (P := fun f s' => f = .done (.ret .none) ∧ Q (.ref (s.heap.objs.size + 1)) s') (s := { s with heap := copyHeap s.heap vs }) (copyHeap_at s.heap vs) S hL ⟨rfl, h⟩) (fun f s' hf => ?_) fun _ _ e => e
    obtain ⟨rfl, hq⟩ := hf
    exact ⟨_, rfl, wpAny_pure ⟨_, rfl, hq⟩⟩
theorem sorted_two {R : Value → PyData → Prop} {vs : List Value} {ds : List PyData} {l : Addr} {Q : Value → Shared → Prop} (hl : s.heap.IsList l vs.toArray ∨ s.heap.IsTuple l vs.toArray) (e : EachIs R vs ds) (er : EachIs (fun v b => ∃ as, Reads s.heap v b as) vs ds) (hal : AllAlike ds) (hk : Sort2 ds) (hL : ds.length ≤ sizeLine)
    (hu : ∀ b, b ∈ ds → A.units + 2 + b.depth < cLine) (h : ∀ out, out.length = ds.length → EachIs R out (ds.mergeSort (fun a b => !dataLt b a)) → Q (.ref (s.heap.objs.size + 1)) { s with heap := sortedAll s.heap vs (List.toArray out) }) :
    wpAny (model prog w) A (call (.builtin "sorted") [.ref l]) Q E s := by
  have er' : EachIs (fun v b => ∃ as, Reads (sortingHeap (copyHeap s.heap vs) (s.heap.objs.size + 1) vs) v b as) vs ds := er.mono fun _ _ ⟨as, r⟩ => ⟨as, PyProof.Rows.Reads.keeps (fun _ _ => sorting_copy_old) r⟩
  have m := sortVals_data (enc := fun d => d) (h' := sortingHeap (copyHeap s.heap vs) (s.heap.objs.size + 1) vs) false e er' (by rw [List.map_id']; exact hal)
  rw [List.map_id'] at m
  exact sorted_of hl (SortsAt_two (s := { s with heap := sortingHeap (copyHeap s.heap vs) (s.heap.objs.size + 1) vs }) er' hal hk hu) (by rw [e.length]; exact hL)
    (h _ (by rw [sortVals_length false rfl]; exact e.length) m)
end
end Orn

set_option Elab.async false
set_option linter.all false
set_option maxRecDepth 100000
set_option maxHeartbeats 4000000
/-! sorted, max of data, as the texts call them. -/
namespace Orn
open PySem PySem.Spec L2 PyProof.Rows PySem.W PySem.SeqAt PySem.Calls
/-! ### the order -/
theorem le_trans' (a b c : PyData) (h1 : (!dataLt b a) = true) (h2 : (!dataLt c b) = true) : (!dataLt c a) = true := (sortLe_total (listOrd itemOrd) false fun d : PyData => keyToks d).trans a b c h1 h2
theorem le_total' (a b : PyData) : (!dataLt b a || !dataLt a b) = true := Bool.or_eq_true_iff.mpr ((sortLe_total (listOrd itemOrd) false fun d : PyData => keyToks d).total a b)
def insD (a : D) : List D → List D
  | [] => [a]
  | b :: r => match dataLt b a with
    | false => a :: b :: r
    | true => b :: insD a r
def insS : List D → List D
  | [] => []
  | a :: r => insD a (insS r)
theorem insD_app (a : D) : ∀ (l₁ l₂ : List D), (∀ b ∈ l₁, (!(!dataLt b a)) = true) → (∀ b r, l₂ = b :: r → (!dataLt b a) = true) → insD a (l₁ ++ l₂) = l₁ ++ a :: l₂
  | [], l₂, _, h2 => by
    cases l₂ with
    | nil => rfl
    | cons b r =>
      have e := h2 b r rfl
      rw [Bool.not_eq_true'] at e
      show insD a (b :: r) = _
      unfold insD
      rw [e]
      rfl
  | c :: l₁, l₂, h1, h2 => by
    have e := h1 c List.mem_cons_self
    rw [Bool.not_not] at e
    show insD a (c :: (l₁ ++ l₂)) = _
    unfold insD
    rw [e]
    show c :: insD a (l₁ ++ l₂) = _
    rw [insD_app a l₁ l₂ (fun b q => h1 b (List.mem_cons_of_mem _ q)) h2]
    rfl
theorem insS_eq : ∀ ds : List D, insS ds = ds.mergeSort (fun a b => !dataLt b a)
  | [] => by rw [List.mergeSort_nil]; rfl
  | a :: r => by
    obtain ⟨l₁, l₂, e1, e2, h⟩ := List.mergeSort_cons (le := fun a b : PyData => !dataLt b a) le_trans' le_total' a r
    have p := List.pairwise_mergeSort (le := fun a b : PyData => !dataLt b a) le_trans' le_total' (a :: r)
    rw [e1] at p ⊢
    show insD a (insS r) = _
    rw [insS_eq r, e2]
    refine insD_app a l₁ l₂ h fun b q e => ?_
    subst e
    exact (List.pairwise_cons.mp (List.pairwise_append.mp p).2.1).1 b List.mem_cons_self
/-! ### what stands for what -/
theorem each_vals {R : V → D → Prop} : ∀ {xs : List V} {its : List Value} {ds : List D}, Vals xs its → EachIs R xs ds → EachIs (fun v d => ∃ x, RelV x v ∧ R x d) its ds
  | _, _, _, .nil, .nil => .nil
  | _, _, _, .cons r t, .cons q u => .cons ⟨_, r, q⟩ (each_vals t u)
theorem vals_each {R : V → D → Prop} : ∀ {its : List Value} {ds : List D}, EachIs (fun v d => ∃ x, RelV x v ∧ R x d) its ds → ∃ ys, Vals ys its ∧ EachIs R ys ds
  | _, _, .nil => ⟨[], .nil, .nil⟩
  | _, _, .cons ⟨x, r, q⟩ t => by
    obtain ⟨ys, h1, h2⟩ := vals_each t
    exact ⟨x :: ys, .cons r h1, .cons q h2⟩
theorem RpL.each {K : PySem.W.Frag} {H : Hp} : ∀ {ds : List D} {vs : List V}, RpL K H ds vs → EachIs (fun x d => Rp K H d x) vs ds
  | [], _, h => by cases h; exact .nil
  | d :: ds, _, h => by
    obtain ⟨v, r, rfl, h1, h2⟩ := h
    exact .cons h1 (RpL.each h2)
theorem RpL.of_each {K : PySem.W.Frag} {H : Hp} : ∀ {ds : List D} {vs : List V}, EachIs (fun x d => Rp K H d x) vs ds → RpL K H ds vs
  | _, _, .nil => rfl
  | _, _, .cons h t => ⟨_, _, rfl, h, RpL.of_each t⟩
def leD (a b : D) : Bool := !dataLt b a
section
variable {X : Cx}
def rSort2 (K : PySem.W.Frag) : List V → Hp → VK → Prop := fun vs H Q => ∃ (a : Addr) (xs : List V) (ds : List D) (R : V → D → Prop), vs = [V.ref a] ∧ (SqL K H a xs ∨ SqT K H a xs) ∧ EachIs R xs ds ∧ (∀ x d, R x d → Dp K H x d) ∧ AllAlike ds ∧ Sort2 ds ∧ (∀ d ∈ ds, d.depth ≤ 60) ∧ ds.length ≤ 100000 ∧
  ∀ (ys : List V) (p : Addr), EachIs R ys (insS ds) → H p = none → Q (.ref p) (upd H p (.lst ys))
theorem cr_sort2 (hu : X.A.units + 64 < cLine) : CallR X (.builtin "sorted") (rSort2 X.K) := by
  intro pins s σ H vs us Q I r h
  obtain ⟨a, xs, ds, R, rfl, hs, he, hD, hal, hk, hd, hn, q⟩ := h
  have go : ∃ its, Vals xs its ∧ (s.heap.IsList a its.toArray ∨ s.heap.IsTuple a its.toArray) := by
    rcases hs with hs | hs
    · obtain ⟨its, rv, hl, _⟩ := I.list hs
      exact ⟨its, rv, .inl hl.isList⟩
    · obtain ⟨its, rv, hl, _⟩ := I.tuple hs
      exact ⟨its, rv, .inr hl⟩
  obtain ⟨its, rv, hl⟩ := go
  rw [Vals.ref1 r]
  have e := each_vals rv he
  have er : EachIs (fun v b => ∃ as, Reads s.heap v b as) its ds := e.mono fun v d ⟨x, r1, r2⟩ => Dp.reads I d x v (hD x d r2) r1
  have hz : ds.length ≤ sizeLine := sz5 hn
  refine sorted_two hl e er hal hk hz (fun b hb => by have := hd b hb; omega) fun out ho hm => ?_
  rw [← insS_eq] at hm
  obtain ⟨ys, hv, hy⟩ := vals_each hm
  obtain ⟨ep, he'⟩ := PyProof.Rows.sortedAll_at s.heap its out.toArray
  have hlen : ys.length ≤ sizeLine := by
    rw [hv.length, ho]; exact hz
  refine ⟨.ref _, upd H (s.heap.objs.size + 1) (.lst ys), I.laid (t' := s.toks) (fun _ _ => PyProof.Rows.sortedAll_old) (Nat.le_succ _) ⟨hlen, out, ep, hv, he'⟩, rfl, q ys _ hy (I.hok.fresh (Nat.le_succ _))⟩
def rMaxD (K : PySem.W.Frag) : List V → Hp → VK → Prop := fun vs H Q => ∃ (a : Addr) (xs : List V) (d : D) (ds : List D) (R : V → D → Prop), vs = [V.ref a] ∧ (SqL K H a xs ∨ SqT K H a xs) ∧ EachIs R xs (d :: ds) ∧ (∀ x d, R x d → Dp K H x d) ∧ AlikeAll (d :: ds) ∧ PyData.depthAll (d :: ds) ≤ 60 ∧
  ∀ x, R x (maxD d ds) → Q x H
theorem maxD_mem (d : D) (ds : List D) : maxD d ds ∈ d :: ds := by
  unfold maxD
  induction ds generalizing d with
  | nil => exact List.mem_cons_self
  | cons e r ih =>
    rw [List.foldl_cons]
    by_cases c : dataLt d e = true
    · rw [if_pos c]
      exact List.mem_cons_of_mem _ (ih e)
    · rw [if_neg c]
      rcases List.mem_cons.mp (ih d) with z | z
      · rw [z]; exact List.mem_cons_self
      · exact List.mem_cons_of_mem _ (List.mem_cons_of_mem _ z)
theorem each_at {R : Value → D → Prop} : ∀ {its : List Value} {ds : List D}, EachIs R its ds → ∀ (i : Nat) v, its[i]? = some v → ∃ d, d ∈ ds ∧ R v d
  | _, _, .nil, i, v, h => by cases i <;> cases h
  | _, _, .cons q t, 0, v, h => by cases h; exact ⟨_, List.mem_cons_self, q⟩
  | _, _, .cons q t, i + 1, v, h => by
    obtain ⟨d, h1, h2⟩ := each_at t i v h
    exact ⟨d, List.mem_cons_of_mem _ h1, h2⟩
theorem each_reads {h : Heap} : ∀ {its : List Value} {ds : List D}, EachIs (fun v b => ∃ as, Reads h v b as) its ds → ∃ as, ReadsAll h its ds as
  | _, _, .nil => ⟨_, .nil⟩
  | _, _, .cons ⟨as, r⟩ t => by
    obtain ⟨bs, q⟩ := each_reads t
    exact ⟨_, .cons r q⟩
theorem cr_maxD (hc : X.calm = true) (hu : X.A.units + 64 < cLine) : CallR X (.builtin "max") (rMaxD X.K) := by
  intro pins s σ H vs us Q I r h
  obtain ⟨a, xs, d, ds, R, rfl, hs, he, hD, hal, hd, q⟩ := h
  have go : ∃ its, Vals xs its ∧ (s.heap.IsList a its.toArray ∨ s.heap.IsTuple a its.toArray) := by
    rcases hs with hs | hs
    · obtain ⟨its, rv, hl, _⟩ := I.list hs
      exact ⟨its, rv, .inl hl.isList⟩
    · obtain ⟨its, rv, hl, _⟩ := I.tuple hs
      exact ⟨its, rv, .inr hl⟩
  obtain ⟨its, rv, hl⟩ := go
  rw [Vals.ref1 r]
  have e := each_vals rv he
  have er : EachIs (fun v b => ∃ as, Reads s.heap v b as) its (d :: ds) := e.mono fun v d ⟨x, r1, r2⟩ => Dp.reads I d x v (hD x d r2) r1
  obtain ⟨as, ra⟩ := each_reads er
  have fin : ∀ (i : Nat) v h' tk bs, (its.toArray)[i]? = some v → Reads h' v (maxD d ds) bs → (∀ b o, s.heap.get? b = some o → h'.get? b = some o) → EP X pins σ Q v { s with heap := h', toks := tk } := fun i v h' tk bs hi hr hk => by
    obtain ⟨d', m, x, r1, r2⟩ := each_at e i v (by simpa using hi)
    obtain ⟨cs, rc⟩ := Dp.reads I d' x v (hD x d' r2) r1
    have e2 := alike_unique _ _ _ _ _ (hal.1 _ m _ (maxD_mem d ds)) (PyProof.Rows.Reads.keeps hk rc) hr
    rw [e2] at r2
    exact ⟨x, H, I.kept hk, r1, q x r2⟩
  rcases hl with hl | hl
  · exact max_list_data (I.ok.hd hc) hl (by simpa using ra) hal (by omega) fin
  · exact max_tuple_data (I.ok.hd hc) hl (by simpa using ra) hal (by omega) fin
theorem args_max3 (a b c : Value) : argsOk "max" ⟨[a, b, c], []⟩ := by unfold argsOk; kernel_rfl
end
section
variable {prog : Program} {w : World} {A : Around} {E : Value → Shared → Prop} {s : Shared}
/-- max(a, b, c) of alike data -/
theorem max_three {a b c : Value} {x : PyData} {xs : List PyData} {as : List Addr} {Q : Value → Shared → Prop} (hh : A.handled = none) (hr : ReadsAll s.heap [a, b, c] (x :: xs) as) (ha : AlikeAll (x :: xs)) (hu : A.units + 1 + PyData.depthAll (x :: xs) < cLine)
    (h : ∀ (i : Nat) v h' tk bs, [a, b, c][i]? = some v → Reads h' v (maxD x xs) bs → (∀ b o, s.heap.get? b = some o → h'.get? b = some o) → Q v { s with heap := h', toks := tk }) :
    wpAny (model prog w) A (call (.builtin "max") [a, b, c]) Q E s := by
  have hname : (toString "max" ++ toString ".loop" : String) = "max.loop" := by decide
  refine call_function_tree F.kind_max F.plain_max F.entry_max (args_max3 _ _ _) ?_
  show wpAny _ A.in1 (Builtin.Builtins.bindParams "max" ["key", "default"] 0 ⟨[], []⟩ >>= _) _ _ s
  refine wpAny_bind (wpAny_of_eq (show Builtin.Builtins.bindParams "max" ["key", "default"] 0 ⟨[], []⟩ = pure [none, none] from rfl) ?_)
  show wpAny _ A.in1 (newTuple [a, b, c] >>= _) _ _ s
  refine wpAny_bind (wpAny_newObj_type ?_)
  have k0 : ∀ b' o, s.heap.get? b' = some o → (s.heap.push { cls := .type "tuple", data := .seq #[a, b, c] }).get? b' = some o := fun b' o e => Heap.get?_push_of_some _ e
  have hl : (s.heap.push { cls := .type "tuple", data := .seq #[a, b, c] }).IsTuple s.heap.objs.size #[a, b, c] := ⟨_, Heap.get?_push_size _ rfl, rfl, _, rfl⟩
  have hr' : ReadsAll (s.heap.push { cls := .type "tuple", data := .seq #[a, b, c] }) (#[a, b, c] : Array Value).toList (x :: xs) as := ReadsAll.keeps k0 hr
  have hn : (#[a, b, c] : Array Value).size = xs.length + 1 := readsAll_len hr'
  refine wpAny_bind (wpAny_mono (iter_tupleW (s := { s with heap := s.heap.push { cls := .type "tuple", data := .seq #[a, b, c] } }) (A := A.in1) (E := E) (Q := fun it s₂ => ∃ I fp wr G n P St H bt, it = .ref I ∧ WalksS prog w A.in1 I fp wr G n P St ∧ St 0 s₂ ∧ (∀ b ∈ fp, b < s₂.heap.objs.size) ∧ 0 < n ∧
      (∀ b o, H.get? b = some o → b ∉ wr) ∧ (∀ b o, H.get? b = some o → s₂.heap.get? b = some o) ∧ CmpIn prog w A.in1 .Gt H P bt ∧ ∀ v s', P (argBest bt (n - 1)) v → Moved wr G s₂ s' → Q v s') hh hl fun s₂ e W st hfp hw hk => ?_) (fun it s₂ h₂ => ?_) fun _ _ e => e)
  · refine ⟨_, _, _, _, _, _, _, (s.heap.push { cls := .type "tuple", data := .seq #[a, b, c] }), _, rfl, W, st, hfp, by omega, hw, hk, cmpIn_gt (A := A.in1) (s := { s with heap := s.heap.push { cls := .type "tuple", data := .seq #[a, b, c] } }) hr' ha (by show A.units + 1 + _ < _; exact hu), fun v s' hP m => ?_⟩
    obtain ⟨h', tk, rfl, hk'⟩ := moved_old e rfl m
    obtain ⟨bs, r, _, _, _⟩ := readsAll_atA hr' _ v hP
    have e1 : (#[a, b, c] : Array Value).size - 1 = xs.length := by omega
    have e2 := (argBest_fold (fun a b => dataLt b a) PyData.none x xs xs.length (Nat.le_refl _)).2
    rw [List.take_length] at e2
    rw [e1] at r
    exact h _ v h' tk bs (by simpa using hP) (reads_keeps hk' (by unfold maxD; rw [← e2]; exact r)) fun b' o q => hk' b' o (k0 b' o q)
  · obtain ⟨I, fp, wr, G, n, P, St, H, bt, rfl, W, hst, hfp, hn, hw, hkeep, hcmp, hQ⟩ := h₂
    refine wpAny_bind (wpAny_newObj_type ?_)
    have hSf : s₂.heap.objs.size ∉ fp := fun hm => Nat.lt_irrefl _ (hfp _ hm)
    rw [hname]
    refine wpAny_pure ⟨plainId_quiet F.plain_max_loop _, codeAny_max_loop_firstH W H hw bt hcmp s₂.heap.objs.size hSf (fresh_in hkeep) _ hn (fun b o e => Heap.get?_push_of_some _ (hkeep b o e)) (W.frame 0 s₂ _ s₂.toks hst (Nat.le_refl _) fun b _ o e => Heap.get?_push_of_some _ e) (Heap.get?_push_size _ rfl) fun v s' hP hm => ?_⟩
    exact hQ v s' hP (Moved.drop_new (tk := s₂.toks) hm (Nat.le_refl _))
end
section
variable {X : Cx}
def rMax3 (K : PySem.W.Frag) : List V → Hp → VK → Prop := fun vs H Q => ∃ (d e f : D) (R : V → D → Prop), EachIs R vs [d, e, f] ∧ (∀ x d, R x d → Dp K H x d) ∧ AlikeAll [d, e, f] ∧ PyData.depthAll [d, e, f] ≤ 60 ∧
  ∀ x, R x (maxD d [e, f]) → Q x H
theorem cr_max3 (hc : X.calm = true) (hu : X.A.units + 64 < cLine) : CallR X (.builtin "max") (rMax3 X.K) := by
  intro pins s σ H vs us Q I r h
  obtain ⟨d, e', f, R, he, hD, hal, hd, q⟩ := h
  have e := each_vals r he
  have er : EachIs (fun v b => ∃ as, Reads s.heap v b as) us [d, e', f] := e.mono fun v d ⟨x, r1, r2⟩ => Dp.reads I d x v (hD x d r2) r1
  obtain ⟨as, ra⟩ := each_reads er
  obtain ⟨a, b, c, rfl⟩ : ∃ a b c, us = [a, b, c] := by
    have hl := e.length
    match us, hl with
    | [a, b, c], _ => exact ⟨a, b, c, rfl⟩
  refine max_three (I.ok.hd hc) ra hal (by omega) fun i v h' tk bs hi hr hk => ?_
  obtain ⟨d', m, x, r1, r2⟩ := each_at e i v hi
  obtain ⟨cs, rc⟩ := Dp.reads I d' x v (hD x d' r2) r1
  have e2 := alike_unique _ _ _ _ _ (hal.1 _ m _ (maxD_mem d [e', f])) (PyProof.Rows.Reads.keeps hk rc) hr
  rw [e2] at r2
  exact ⟨x, H, I.kept hk, r1, q x r2⟩
end
end Orn

set_option Elab.async false
set_option linter.all false
set_option maxRecDepth 100000
set_option maxHeartbeats 4000000
/-! sorted and max of data, as functions of data. -/
namespace Orn
open PySem PySem.Spec L2 PySem.W
def alikeB (ds : List D) : Bool := ds.all fun d => ds.all fun e => alike d e
def tupB : D → Bool
  | .tuple _ => true
  | _ => false
def elsB : D → Bool
  | .tuple _ => false
  | .none => false
  | _ => true
def someB : D → Bool
  | .none => false
  | _ => true
def sortB (ds : List D) : Bool := decide (ds.length ≤ 100000) && (alikeB ds && ((ds.all tupB || ds.all elsB) && ds.all fun d => decide (d.depth ≤ 60)))
def maxB (ds : List D) : Bool := alikeB ds && (ds.all someB && decide (PyData.depthAll ds ≤ 60))
theorem alikeB_iff {ds : List D} (h : alikeB ds = true) : AllAlike ds := fun d hd e he => List.all_eq_true.mp (List.all_eq_true.mp h d hd) e he
theorem sortB_iff {ds : List D} (h : sortB ds = true) : AllAlike ds ∧ Sort2 ds ∧ (∀ d ∈ ds, d.depth ≤ 60) ∧ ds.length ≤ 100000 := by
  unfold sortB at h
  rw [Bool.and_eq_true, Bool.and_eq_true, Bool.and_eq_true, Bool.or_eq_true] at h
  obtain ⟨h1, h2, h3, h4⟩ := h
  refine ⟨alikeB_iff h2, ?_, fun d hd => of_decide_eq_true (List.all_eq_true.mp h4 d hd), of_decide_eq_true h1⟩
  rcases h3 with h3 | h3
  · refine .inl fun d hd => ?_
    have := List.all_eq_true.mp h3 d hd
    cases d <;> first | exact ⟨_, rfl⟩ | cases this
  · refine .inr fun d hd => ?_
    have := List.all_eq_true.mp h3 d hd
    refine ⟨fun z => ?_, fun xs z => ?_⟩
    · subst z; cases this
    · subst z; cases this
theorem maxB_iff {ds : List D} (h : maxB ds = true) : AlikeAll ds ∧ PyData.depthAll ds ≤ 60 := by
  unfold maxB at h
  rw [Bool.and_eq_true, Bool.and_eq_true] at h
  obtain ⟨h2, h3, h4⟩ := h
  refine ⟨⟨alikeB_iff h2, fun d hd z => ?_⟩, of_decide_eq_true h4⟩
  have := List.all_eq_true.mp h3 d hd
  subst z
  cases this
def gSorted : List D → (S → Bool) → Bool
  | [.list ds], k => cond (sortB ds) (k (.ow (insS ds))) false
  | [.tuple ds], k => cond (sortB ds) (k (.ow (insS ds))) false
  | _, _ => false
def gMaxT : List D → (D → Bool) → Bool
  | [.list (d :: ds)], k => cond (maxB (d :: ds)) (k (maxD d ds)) false
  | [.tuple (d :: ds)], k => cond (maxB (d :: ds)) (k (maxD d ds)) false
  | _, _ => false
def gMax3 : List D → (D → Bool) → Bool
  | [a, b, c], k => cond (tupB a && (tupB b && (tupB c && maxB [a, b, c]))) (k (maxD a [b, c])) false
  | _, _ => false
theorem cond_and {b z : Bool} (h : cond b z false = true) : b = true ∧ z = true := by cases b <;> first | exact ⟨rfl, h⟩ | cases h
section
variable {X : Cx}
theorem cSorted (hu : X.A.units + 64 < cLine) : CallR X (.builtin "sorted") (rLS X.K gSorted) := by
  refine cri (cr_sort2 hu) fun xs H Q q => ?_
  obtain ⟨F, H0, σ, env, ds, k, R, wl, h, hq⟩ := q
  unfold gSorted at h
  split at h
  · obtain ⟨hb, hk⟩ := cond_and h
    obtain ⟨c1, c2, c3, c4⟩ := sortB_iff hb
    obtain ⟨v, rfl, w⟩ := wl.one
    obtain ⟨p, vs, rfl, hp, r⟩ := w.lst R
    exact ⟨p, vs, _, fun x d => Rp X.K H0 d x, rfl, .inl (SqL.of hp), r.each, fun x d q => Rp.dp d x (Rp.mono R.ex d x q), c1, c2, c3, c4, fun ys p' hy hp' => new_lst R hq (RpL.of_each hy) hk p' hp'⟩
  · obtain ⟨hb, hk⟩ := cond_and h
    obtain ⟨c1, c2, c3, c4⟩ := sortB_iff hb
    obtain ⟨v, rfl, w⟩ := wl.one
    obtain ⟨p, vs, rfl, hp, r⟩ := w.tup
    exact ⟨p, vs, _, fun x d => Rp X.K H0 d x, rfl, .inr (ex_t R.ex hp), r.each, fun x d q => Rp.dp d x (Rp.mono R.ex d x q), c1, c2, c3, c4, fun ys p' hy hp' => new_lst R hq (RpL.of_each hy) hk p' hp'⟩
  · cases h
theorem cMaxT (hc : X.calm = true) (hu : X.A.units + 64 < cLine) : CallR X (.builtin "max") (rLD X.K gMaxT) := by
  refine cri (cr_maxD hc hu) fun xs H Q q => ?_
  obtain ⟨F, H0, σ, env, ds, k, R, wl, h, hq⟩ := q
  unfold gMaxT at h
  split at h
  · obtain ⟨hb, hk⟩ := cond_and h
    obtain ⟨c1, c2⟩ := maxB_iff hb
    obtain ⟨v, rfl, w⟩ := wl.one
    obtain ⟨p, vs, rfl, hp, r⟩ := w.lst R
    exact ⟨p, vs, _, _, fun x d => Rp X.K H0 d x, rfl, .inl (SqL.of hp), r.each, fun x d q => Rp.dp d x (Rp.mono R.ex d x q), c1, c2, fun x hx => hq _ _ H0 H hk R hx .refl⟩
  · obtain ⟨hb, hk⟩ := cond_and h
    obtain ⟨c1, c2⟩ := maxB_iff hb
    obtain ⟨v, rfl, w⟩ := wl.one
    obtain ⟨p, vs, rfl, hp, r⟩ := w.tup
    exact ⟨p, vs, _, _, fun x d => Rp X.K H0 d x, rfl, .inr (ex_t R.ex hp), r.each, fun x d q => Rp.dp d x (Rp.mono R.ex d x q), c1, c2, fun x hx => hq _ _ H0 H hk R hx .refl⟩
  · cases h
theorem cMax3 (hc : X.calm = true) (hu : X.A.units + 64 < cLine) : CallR X (.builtin "max") (rLD X.K gMax3) := by
  refine cri (cr_max3 hc hu) fun xs H Q q => ?_
  obtain ⟨F, H0, σ, env, ds, k, R, wl, h, hq⟩ := q
  unfold gMax3 at h
  split at h
  · rename_i a b c
    obtain ⟨hb, hk⟩ := cond_and h
    rw [Bool.and_eq_true, Bool.and_eq_true, Bool.and_eq_true] at hb
    obtain ⟨t1, t2, t3, hb⟩ := hb
    obtain ⟨c1, c2⟩ := maxB_iff hb
    obtain ⟨v, r, rfl, w1, u, r2, rfl, w2, t, r3, rfl, w3, h3⟩ := wl
    cases h3
    have fz : ∀ {d : D} {v : V}, tupB d = true → Vw X.K F H0 H d v → Rp X.K H0 d v := fun {d v} t w => by
      rcases w with w | ⟨_, _, _, e, _⟩
      · exact w
      · subst e; cases t
    exact ⟨a, b, c, fun x d => Rp X.K H0 d x, .cons (fz t1 w1) (.cons (fz t2 w2) (.cons (fz t3 w3) .nil)), fun x d q => Rp.dp d x (Rp.mono R.ex d x q), c1, c2, fun x hx => hq _ _ H0 H hk R hx .refl⟩
  · cases h
end
/-- int * int, or tuple * int -/
def gMulA : D → D → (D → Bool) → Bool
  | .int i, .int j, k => gMul (.int i) (.int j) k
  | .tuple xs, .int n, k => gRepT (.tuple xs) (.int n) k
  | _, _, _ => false
theorem oMulA {X : Cx} : OpR X (binaryOp .Mult) (rD X.K gMulA) := opi (OpR.or oMul oRepT) fun x y H Q q => by
  obtain ⟨F, H0, σ, env, d, e, k, R, w1, w2, h, hq⟩ := q
  unfold gMulA at h
  split at h
  · exact .inl ⟨F, H0, σ, env, _, _, k, R, w1, w2, h, hq⟩
  · exact .inr ⟨F, H0, σ, env, _, _, k, R, w1, w2, h, hq⟩
  · cases h
instance : M2 gMulA := ⟨fun a b k1 k2 hk h => by
  unfold gMulA at *
  split at h
  · exact M2.mono (g := gMul) _ _ _ _ hk h
  · exact M2.mono (g := gRepT) _ _ _ _ hk h
  · cases h⟩
theorem q_mulA {i j : Int} {k : D → Bool} (h : mulOk i j = true) : gMulA (.int i) (.int j) k = k (.int (i * j)) := q_mul h
theorem q_repA {xs : List D} {n : Int} {k : D → Bool} (h : (1 ≤ n ∨ (xs = [] ∧ 0 ≤ n)) ∧ n ≤ 1000 ∧ xs.length ≤ 1000) : gMulA (.tuple xs) (.int n) k = k (.tuple (List.replicate n.toNat xs).flatten) := rep_tup h
/-! slices -/
@[simp ↓] theorem q_oNo {e : List S} {k : Option Int → Bool} : oNo e k = k none := rfl
@[simp ↓] theorem q_oSo {f : ED} {e : List S} {k : Option Int → Bool} : oSo f e k = f e fun d => match d with
  | .int i => k (some i)
  | _ => false := rfl
@[simp ↓] theorem q_dSl {f : ED} {l h : EO} {e : List S} {k : D → Bool} : dSl f l h e k = f e fun d => l e fun lo => h e fun hi => gSlD d lo hi k := rfl
theorem cut_from {ds : List D} {j : Nat} {k : D → Bool} (h : j ≤ ds.length) : gSlD (.tuple ds) (some (j : Int)) none k = k (.tuple (ds.drop j)) := by
  show k (.tuple (cutD ds (some (j : Int)) none)) = _
  have a : HT.sIx ds.length 0 (some (j : Int)) = j := by rw [HT.sIx_nat]; omega
  have b : HT.sIx ds.length ds.length none = ds.length := rfl
  unfold cutD
  rw [a, b, List.take_of_length_le (by rw [List.length_drop]; omega)]
theorem cut_to {ds : List D} {j : Nat} {k : D → Bool} (h : j ≤ ds.length) : gSlD (.tuple ds) none (some (j : Int)) k = k (.tuple (ds.take j)) := by
  show k (.tuple (cutD ds none (some (j : Int)))) = _
  have a : HT.sIx ds.length ds.length (some (j : Int)) = j := by rw [HT.sIx_nat]; omega
  have b : HT.sIx ds.length 0 none = 0 := rfl
  unfold cutD
  rw [a, b]
  simp
@[simp ↓] theorem q_sRev {f : ED} {e : List S} {k : S → Bool} : sRev f e k = f e fun d => match d with
  | .list ds => k (.ow ds.reverse)
  | _ => false := rfl
/-! rows of whole numbers -/
def WD (w : List Int) : D := .tuple (w.map .int)
theorem wd_alike : ∀ u v : List Int, PySem.W.alikeAll (u.map PyData.int) (v.map PyData.int) = true
  | [], v => by cases v <;> rfl
  | _ :: u, [] => rfl
  | _ :: u, _ :: v => by
    show (true && PySem.W.alikeAll (u.map PyData.int) (v.map PyData.int)) = true
    rw [wd_alike u v]; rfl
theorem wd_lay : ∀ u : List Int, PyData.canLayAll0 (u.map PyData.int) = true
  | [] => rfl
  | _ :: u => by
    rw [List.map_cons]
    exact wd_lay u
theorem wd_depth : ∀ u : List Int, PyData.depthAll (u.map PyData.int) = 0
  | [] => by simp [PyData.depthAll]
  | _ :: u => by
    rw [List.map_cons]
    simp [PyData.depthAll, PyData.depth, wd_depth u]
theorem WD_depth (u : List Int) : (WD u).depth = 1 := by
  show PyData.depthAll (u.map PyData.int) + 1 = 1
  rw [wd_depth]
theorem WD_alike (u v : List Int) : PySem.W.alike (WD u) (WD v) = true := wd_alike u v
def insL {α : Type} (lt : α → α → Bool) (a : α) : List α → List α
  | [] => [a]
  | b :: r => match lt b a with
    | false => a :: b :: r
    | true => b :: insL lt a r
def sortL {α : Type} (lt : α → α → Bool) : List α → List α
  | [] => []
  | a :: r => insL lt a (sortL lt r)
theorem insD_map {α : Type} (f : α → D) (a : α) : ∀ l : List α, insD (f a) (l.map f) = (insL (fun x y => dataLt (f x) (f y)) a l).map f
  | [] => rfl
  | b :: r => by
    rw [List.map_cons]
    unfold insD insL
    cases dataLt (f b) (f a)
    · rfl
    · show f b :: insD (f a) (r.map f) = f b :: _
      rw [insD_map f a r]
theorem insS_map {α : Type} (f : α → D) : ∀ l : List α, insS (l.map f) = (sortL (fun x y => dataLt (f x) (f y)) l).map f
  | [] => rfl
  | a :: r => by
    show insD (f a) (insS (r.map f)) = _
    rw [insS_map f r, insD_map f a]
    rfl
theorem insL_perm {α : Type} (lt : α → α → Bool) (a : α) : ∀ l : List α, (insL lt a l).Perm (a :: l)
  | [] => .refl _
  | b :: r => by
    unfold insL
    cases lt b a
    · exact .refl _
    · exact ((insL_perm lt a r).cons b).trans (.swap a b r)
theorem sortL_perm {α : Type} (lt : α → α → Bool) : ∀ l : List α, (sortL lt l).Perm l
  | [] => .refl _
  | a :: r => (insL_perm lt a _).trans ((sortL_perm lt r).cons a)
def ltI (a b : Int) : Bool := dataLt (.int a) (.int b)
def ltW (a b : List Int) : Bool := dataLt (WD a) (WD b)
theorem sorted_ints {L : List Int} (h : L.length ≤ 1000) {k : S → Bool} : gSorted [.tuple (L.map .int)] k = k (.ow ((sortL ltI L).map .int)) := by
  have b : sortB (L.map PyData.int) = true := by
    unfold sortB alikeB
    simp only [Bool.and_eq_true, Bool.or_eq_true, decide_eq_true_eq, List.all_eq_true, List.length_map, List.mem_map]
    refine ⟨by omega, ?_, .inr ?_, ?_⟩
    · rintro _ ⟨a, _, rfl⟩ _ ⟨b, _, rfl⟩; rfl
    · rintro _ ⟨a, _, rfl⟩; rfl
    · rintro _ ⟨a, _, rfl⟩; exact Nat.zero_le _
  show cond (sortB (L.map PyData.int)) (k (.ow (insS (L.map PyData.int)))) false = _
  rw [b, insS_map]
  rfl
theorem sorted_rows {L : List (List Int)} (h : L.length ≤ 1000) {k : S → Bool} : gSorted [.list (L.map WD)] k = k (.ow ((sortL ltW L).map WD)) := by
  have b : sortB (L.map WD) = true := by
    unfold sortB alikeB
    simp only [Bool.and_eq_true, Bool.or_eq_true, decide_eq_true_eq, List.all_eq_true, List.length_map, List.mem_map]
    refine ⟨by omega, ?_, .inl ?_, ?_⟩
    · rintro _ ⟨a, _, rfl⟩ _ ⟨b, _, rfl⟩; exact WD_alike a b
    · rintro _ ⟨a, _, rfl⟩; rfl
    · rintro _ ⟨a, _, rfl⟩; rw [WD_depth]; omega
  show cond (sortB (L.map WD)) (k (.ow (insS (L.map WD)))) false = _
  rw [b, insS_map]
  rfl
def max2W (a b : List Int) : List Int := match ltW a b with
  | true => b
  | false => a
theorem max3_rows {a b c : List Int} {k : D → Bool} : gMax3 [WD a, WD b, WD c] k = k (WD (max2W (max2W a b) c)) := by
  have m : maxB [WD a, WD b, WD c] = true := by
    unfold maxB alikeB
    simp only [List.all_cons, List.all_nil, WD_alike, Bool.and_true, Bool.true_and]
    rw [Bool.and_eq_true]
    refine ⟨rfl, decide_eq_true ?_⟩
    simp only [PyData.depthAll, WD_depth]
    omega
  show cond (true && (true && (true && maxB [WD a, WD b, WD c]))) (k (maxD (WD a) [WD b, WD c])) false = _
  rw [m]
  show k (maxD (WD a) [WD b, WD c]) = _
  unfold maxD
  rw [List.foldl_cons, List.foldl_cons, List.foldl_nil]
  have e : ∀ x y : List Int, (if dataLt (WD x) (WD y) = true then WD y else WD x) = WD (max2W x y) := fun x y => by
    unfold max2W ltW
    cases dataLt (WD x) (WD y) <;> rfl
  rw [e, e]
instance : MC gSorted := ⟨fun a k1 k2 hk h => by
  unfold gSorted at *
  split at h
  · obtain ⟨b, z⟩ := cond_and h
    simp only [b, cond_true]; exact hk _ z
  · obtain ⟨b, z⟩ := cond_and h
    simp only [b, cond_true]; exact hk _ z
  · cases h⟩
instance : MC gMaxT := ⟨fun a k1 k2 hk h => by
  unfold gMaxT at *
  split at h
  · obtain ⟨b, z⟩ := cond_and h
    simp only [b, cond_true]; exact hk _ z
  · obtain ⟨b, z⟩ := cond_and h
    simp only [b, cond_true]; exact hk _ z
  · cases h⟩
instance : MC gMax3 := ⟨fun a k1 k2 hk h => by
  unfold gMax3 at *
  split at h
  · obtain ⟨b, z⟩ := cond_and h
    simp only [b, cond_true]; exact hk _ z
  · cases h⟩
end Orn

set_option Elab.async false
set_option linter.all false
set_option maxRecDepth 100000
set_option maxHeartbeats 4000000
/-! A list comprehension with two for's (the first one over a name). -/
namespace Orn
open PySem PySem.Spec L2
def lc2Go (envw : List S) (i0 : Nat) (fc : EB) (vs1 : List Nat) (fi1 : EL) (ft1 : EG) (fc1 : EB) (fe : ED) : List D → (List D → Bool) → Bool
  | [], k => k []
  | d :: ds, k => gN i0 d envw fun env1 => match sat env1 i0 with
    | .sh _ => fc env1 fun b => match b with
      | true => fi1 env1 fun ds1 => match Nat.ble ds1.length 1000 with
        | true => lcGo (wipeE env1 vs1) ft1 fc1 fe ds1 fun r1 => lc2Go envw i0 fc vs1 fi1 ft1 fc1 fe ds fun r => k (r1 ++ r)
        | false => false
      | false => lc2Go envw i0 fc vs1 fi1 ft1 fc1 fe ds k
    | _ => false
def sLc2 (vs vs1 : List Nat) (fi : EL) (i0 : Nat) (fc : EB) (fi1 : EL) (ft1 : EG) (fc1 : EB) (fe : ED) : ES := fun env k => fi env fun ds => match Nat.ble ds.length 1000 with
    | true => lc2Go (wipeE env vs) i0 fc vs1 fi1 ft1 fc1 fe ds fun out => k (.ow out)
    | false => false
theorem ble_match {a b : Nat} {x : Bool} (h : (match Nat.ble a b with | true => x | false => false) = true) : a ≤ b ∧ x = true := by
  cases hb : Nat.ble a b with
  | false => simp only [hb] at h; cases h
  | true => simp only [hb] at h; exact ⟨Nat.le_of_ble_eq_true hb, h⟩
theorem gt_sat {l : List S} {i : Nat} {s : S} (h : l[i]? = some s) : sat l i = s := by
  induction l generalizing i with
  | nil => simp at h
  | cons a l ih =>
    cases i with
    | zero => simp at h; exact h
    | succ i => rw [List.getElem?_cons_succ] at h; exact ih h
theorem lc2_ok {K : PySem.W.Frag} {vs vs1 is1 : List Nat} {fi fi1 : EL} {i0 : Nat} {ft1 : EG} {fc fc1 : EB} {fe : ED} (h0 : i0 ∈ vs) (hs1 : ∀ i ∈ is1, i ∈ vs1) (hv : ∀ i ∈ vs1, i ∈ vs) {σ : L2.St} {H : Hp} {Q : VK} (q : tS K (sLc2 vs vs1 fi i0 fc fi1 ft1 fc1 fe) σ H Q) :
    tLc2 (tI K fi) (tGt K [i0] (gN i0)) (tT K fc) (tI K fi1) (tGt K is1 ft1) (tT K fc1) (tD K fe) vs vs1 σ H Q := by
  obtain ⟨F, H0, env, k, R, hf, hq⟩ := q
  unfold sLc2 at hf
  refine ⟨F, H0, env, _, R, hf, fun J ds H1 G1 hk R1 W1 g1 Dl hD => ?_⟩
  obtain ⟨hz, hk⟩ := ble_match hk
  have hDT := R1.tNew hD
  have hD0 : H1 Dl = none := R1.ex.free hD
  have hlen : ∀ vs : List Nat, (wipeE env vs).length = env.length := fun vs => by
    induction vs with
    | nil => rfl
    | cons v vs ih => rw [wipeE, List.length_set, ih]
  refine ⟨fun i m Hx => ∃ Ha out us, m = ds.length - i ∧ i ≤ ds.length ∧ StR K F Ha (wipe σ vs) Hx (wipeE env vs) ∧ Grow F H1 G1 Ha Hx ∧ Hx Dl = some (.lst us) ∧ Ha Dl = none ∧ RpL K Ha out us ∧ out.length ≤ 1000 * i ∧
      (lc2Go (wipeE env vs) i0 fc vs1 fi1 ft1 fc1 fe (ds.drop i) fun r => k (.ow (out ++ r))) = true, ⟨ds.length - 0, H1, [], [], rfl, Nat.zero_le _, (R1.newL hD).wipe vs, Grow.newL hD, upd_same, hD0, rfl, Nat.zero_le _, hk⟩, ?_⟩
  rintro i m Hx ⟨Ha, out, us, rfl, hi, Ra, ga, eD, fD, ro, lo, hgo⟩
  have back : StR K F Ha σ Hx env := R1.regainG Ra ga
  by_cases hlt : i < ds.length
  · right
    have hd : ds[i]? = some ds[i] := List.getElem?_eq_getElem hlt
    rw [List.drop_eq_getElem_cons hlt] at hgo
    obtain ⟨jgo, jy⟩ := W1.go i _ _ Ha Hx ds[i] Ra ga.e0 hd
    refine ⟨jgo, fun H' => ∃ Hb out' us', StR K F Hb (wipe σ vs) H' (wipeE env vs) ∧ Grow F H1 G1 Hb H' ∧ H' Dl = some (.lst us') ∧ Hb Dl = none ∧ RpL K Hb out' us' ∧ out'.length ≤ 1000 * (i + 1) ∧
      (lc2Go (wipeE env vs) i0 fc vs1 fi1 ft1 fc1 fe (ds.drop (i + 1)) fun r => k (.ow (out' ++ r))) = true, fun H' h => ?_, fun x H' y => ?_⟩
    · obtain ⟨Hb, out', us', a1, a2, a3, a4, a5, a6, a7⟩ := h
      exact ⟨ds.length - (i + 1), by omega, Hb, out', us', rfl, hlt, a1, a2, a3, a4, a5, a6, a7⟩
    · obtain ⟨Hb, Rb, rx, gb⟩ := jy x H' y
      refine ⟨F, Hb, wipeE env vs, ds[i], _, Rb, rx, hgo, fun σ2 env2 hk2 R2 a2 b2 c2 d2 => ⟨(wipe_eq b2 c2 (fun i z => by rcases List.mem_singleton.mp z with rfl; exact h0)).trans (wipe_wipe σ vs), ?_⟩⟩
      have noI : ∀ xs, env2[i0]? ≠ some (.ow xs) := fun xs e => by
        rw [gt_sat e] at hk2
        cases hk2
      have hk2 : (fc env2 fun b => match b with
          | true => fi1 env2 fun ds1 => match Nat.ble ds1.length 1000 with
            | true => lcGo (wipeE env2 vs1) ft1 fc1 fe ds1 fun r1 => lc2Go (wipeE env vs) i0 fc vs1 fi1 ft1 fc1 fe (ds.drop (i + 1)) fun r => k (.ow (out ++ (r1 ++ r)))
            | false => false
          | false => lc2Go (wipeE env vs) i0 fc vs1 fi1 ft1 fc1 fe (ds.drop (i + 1)) fun r => k (.ow (out ++ r))) = true := by
        split at hk2
        · exact hk2
        · cases hk2
      refine ⟨F, Hb, env2, _, R2, hk2, fun b Hc H3 hk3 R3 g3 => ?_⟩
      have out1 : ∀ j, j ∉ vs → j ∉ [i0] := fun j c z => c (by rcases List.mem_singleton.mp z with rfl; exact h0)
      have re : ∀ {Hd Hy : Hp}, StR K F Hd σ2 Hy env2 → Grow F Ha Hx Hd Hy → StR K F Hd (wipe σ vs) Hy (wipeE env vs) := fun R' g' => Ra.regain R' g' fun j xs e => by
        have c := (own_wipe e).1
        exact ⟨by rw [a2 j (out1 j c)]; exact e, b2 j (out1 j c)⟩
      have hx : Hx Dl ≠ none := by rw [eD]; intro z; cases z
      have gc := gb.trans g3
      cases b with
      | true =>
        refine iteT ⟨F, Hc, env2, _, R3, hk3, fun J1 ds1 H4' H4 hk4 R4 W4 g4 => ?_⟩
        obtain ⟨hz1, hk4⟩ := ble_match hk4
        have gd0 := gc.trans g4
        have eD4 : H4 Dl = some (.lst us) := gd0.kp Dl _ eD hDT
        have fD4 : H4' Dl = none := gd0.nw Dl hx hDT fD
        refine ⟨fun j m Hy => ∃ He out2 us2, m = ds1.length - j ∧ j ≤ ds1.length ∧ StR K F He (wipe σ2 vs1) Hy (wipeE env2 vs1) ∧ Ex H4' He ∧ Grow F H1 G1 He Hy ∧ Hy Dl = some (.lst us2) ∧ He Dl = none ∧ RpL K He out2 us2 ∧ out2.length ≤ 1000 * i + j ∧
          (lcGo (wipeE env2 vs1) ft1 fc1 fe (ds1.drop j) fun r1 => lc2Go (wipeE env vs) i0 fc vs1 fi1 ft1 fc1 fe (ds.drop (i + 1)) fun r => k (.ow (out2 ++ (r1 ++ r)))) = true,
          ⟨ds1.length - 0, H4', out, us, rfl, Nat.zero_le _, R4.wipe vs1, fun _ _ z => z, ga.trans gd0, eD4, fD4, RpL.mono gd0.e0 out us ro, by omega, hk4⟩, ?_⟩
        rintro j m1 Hy ⟨He, out2, us2, rfl, hj, Re, xe, ge, eD2, fD2, ro2, lo2, hgo2⟩
        by_cases hlt1 : j < ds1.length
        · right
          have hd1 : ds1[j]? = some ds1[j] := List.getElem?_eq_getElem hlt1
          rw [List.drop_eq_getElem_cons hlt1] at hgo2
          obtain ⟨jgo1, jy1⟩ := W4.go j _ _ He Hy ds1[j] Re xe hd1
          refine ⟨jgo1, fun H' => ∃ Hg out3 us3, StR K F Hg (wipe σ2 vs1) H' (wipeE env2 vs1) ∧ Ex H4' Hg ∧ Grow F H1 G1 Hg H' ∧ H' Dl = some (.lst us3) ∧ Hg Dl = none ∧ RpL K Hg out3 us3 ∧ out3.length ≤ 1000 * i + (j + 1) ∧
            (lcGo (wipeE env2 vs1) ft1 fc1 fe (ds1.drop (j + 1)) fun r1 => lc2Go (wipeE env vs) i0 fc vs1 fi1 ft1 fc1 fe (ds.drop (i + 1)) fun r => k (.ow (out3 ++ (r1 ++ r)))) = true, fun H' h => ?_, fun x1 H' y1 => ?_⟩
          · obtain ⟨Hg, out3, us3, a1, a2, a3, a4, a5, a6, a7, a8⟩ := h
            exact ⟨ds1.length - (j + 1), by omega, Hg, out3, us3, rfl, hlt1, a1, a2, a3, a4, a5, a6, a7, a8⟩
          · obtain ⟨Hb1, Rb1, rx1, gb1⟩ := jy1 x1 H' y1
            refine ⟨F, Hb1, wipeE env2 vs1, ds1[j], _, Rb1, rx1, hgo2, fun σ3 env3 hk5 R5 a5 b5 c5 d5 => ⟨(wipe_eq b5 c5 hs1).trans (wipe_wipe σ2 vs1), ?_⟩⟩
            refine ⟨F, Hb1, env3, _, R5, hk5, fun b Hc1 H6 hk6 R6 g6 => ?_⟩
            have re1 : ∀ {Hd Hz : Hp}, StR K F Hd σ3 Hz env3 → Grow F He Hy Hd Hz → StR K F Hd (wipe σ2 vs1) Hz (wipeE env2 vs1) := fun R' g' => Re.regain R' g' fun j xs e => by
              have c := (own_wipe e).1
              exact ⟨by rw [a5 j (fun z => c (hs1 j z))]; exact e, b5 j (fun z => c (hs1 j z))⟩
            have hx1 : Hy Dl ≠ none := by rw [eD2]; intro z; cases z
            have gc1 := gb1.trans g6
            cases b with
            | true =>
              refine iteT ⟨F, Hc1, env3, _, R6, hk6, fun yv z Hd H7 hk7 R7 r7 g7 => ?_⟩
              have gd := gc1.trans g7
              have e7 : H7 Dl = some (.lst us2) := gd.kp Dl _ eD2 hDT
              have f7 : Hd Dl = none := gd.nw Dl hx1 hDT fD2
              refine ⟨us2, e7, by rw [ro2.length]; exact Nat.lt_of_lt_of_le (by omega : out2.length < 1000002) (by decide), Hd, out2 ++ [z], us2 ++ [yv], ?_, fun a o h => gd.e0 a o (xe a o h), ⟨(ge.trans gd).e0, fun a o h t => ?_, (ge.trans gd).nw⟩, upd_same, f7, (RpL.mono gd.e0 out2 us2 ro2).append (RpL.one r7), by rw [List.length_append, List.length_singleton]; omega, ?_⟩
              · refine (re1 R7 gd).mut e7 f7 (R1.fNew hD) hDT fun j xs e1 e2 => ?_
                obtain ⟨h1, h2⟩ := own_wipe e1
                rw [wipe_get, if_neg h1] at e2
                have hj0 : j ∉ [i0] := fun z => by
                  rcases List.mem_singleton.mp z with rfl
                  exact noI xs h2
                rw [a2 j hj0] at h2
                obtain ⟨h3, h4⟩ := own_wipe h2
                rw [b2 j hj0, wipe_get, if_neg h3] at e2
                obtain ⟨p', vs', e5, w, _⟩ := R1.slot j _ h4
                rw [e2] at e5
                cases e5
                have := w.at_
                rw [hD] at this
                cases this
              · rw [upd_ne (ne_of_none h hD)]
                exact (ge.trans gd).kp a o h t
              · have e : (fun r1 => lc2Go (wipeE env vs) i0 fc vs1 fi1 ft1 fc1 fe (ds.drop (i + 1)) fun r => k (S.ow (out2 ++ [z] ++ (r1 ++ r)))) = fun r1 => lc2Go (wipeE env vs) i0 fc vs1 fi1 ft1 fc1 fe (ds.drop (i + 1)) fun r => k (S.ow (out2 ++ ((z :: r1) ++ r))) := by
                  funext r1
                  congr 1
                  funext r
                  rw [List.append_assoc]
                  rfl
                rw [e]
                exact hk7
            | false =>
              refine iteF ⟨Hc1, out2, us2, re1 R6 gc1, fun a o h => gc1.e0 a o (xe a o h), ge.trans gc1, gc1.kp Dl _ eD2 hDT, gc1.nw Dl hx1 hDT fD2, RpL.mono gc1.e0 out2 us2 ro2, by omega, hk6⟩
        · left
          have e : j = ds1.length := by omega
          subst e
          rw [List.drop_length] at hgo2
          refine ⟨W4.stop _ _ _ He Hy Re xe (Nat.le_refl _), He, out2, us2, (R1.wipe vs).regain Re ge fun j xs e => ?_, ge, eD2, fD2, ro2, by omega, hgo2⟩
          have c := (own_wipe e).1
          have c1 : j ∉ vs1 := fun z => c (hv j z)
          rw [wipeE_get, if_neg c1, wipe_get, if_neg c1, a2 j (out1 j c), b2 j (out1 j c)]
          exact ⟨e, rfl⟩
      | false =>
        refine iteF ⟨Hc, out, us, re R3 gc, ga.trans gc, gc.kp Dl _ eD hDT, gc.nw Dl hx hDT fD, RpL.mono gc.e0 out us ro, by omega, hk3⟩
  · left
    have e : i = ds.length := by omega
    subst e
    rw [List.drop_length] at hgo
    have hgo : k (.ow (out ++ [])) = true := hgo
    rw [List.append_nil] at hgo
    refine ⟨?_, hq (.ref Dl) (.ow out) Ha Hx hgo back ⟨Dl, us, rfl, ⟨R1.fNew hD, fD, eD, hDT⟩, ro, fun j xs e1 e2 => ?_⟩ (NewS.back (s := .ow out) (v := .ref Dl) g1 R1 fun p e => by cases e; exact hD) (g1.trans ga)⟩
    · exact W1.stop _ _ _ Ha Hx Ra ga.e0 (Nat.le_refl _)
    · obtain ⟨p', vs', e5, w, _⟩ := R1.slot j _ e1
      rw [e2] at e5
      cases e5
      have := w.at_
      rw [hD] at this
      cases this
section
variable {X : Cx} {elt tg iter tg1 iter1 : Expr} {ifs ifs1 : List Expr} {scope : Scope} {own : List (Str × Nat)} {vs1 is1 : List Nat} {pos : Pos} {fi fi1 : EL} {i0 : Nat} {ft1 : EG} {fc fc1 : EB} {fe : ED}
theorem ss_lc2 (hc : X.calm = true) (hN : X.N.Nodup) (hi : PI X tg iter (tI X.K fi)) (ok : BlkOk X.N X.env.scope scope own)
    (hg : ∀ (s : Shared) (H : Hp) (C : Addr) (cl : List (Str × Addr)) (fp : List Addr), PG (X.blk s H scope (compEnvC scope cl C X.env) fp) tg (tGt X.K [i0] (gN i0))) (ht : ∀ (s : Shared) (H : Hp) (C : Addr) (cl : List (Str × Addr)) (fp : List Addr), PTs (X.blk s H scope (compEnvC scope cl C X.env) fp) ifs (tT X.K fc))
    (hi1 : ∀ (s : Shared) (H : Hp) (C : Addr) (cl : List (Str × Addr)) (fp : List Addr), PI (X.blk s H scope (compEnvC scope cl C X.env) fp) tg1 iter1 (tI X.K fi1))
    (hg1 : ∀ (s : Shared) (H : Hp) (C : Addr) (cl : List (Str × Addr)) (fp : List Addr), PG (X.blk s H scope (compEnvC scope cl C X.env) fp) tg1 (tGt X.K is1 ft1)) (ht1 : ∀ (s : Shared) (H : Hp) (C : Addr) (cl : List (Str × Addr)) (fp : List Addr), PTs (X.blk s H scope (compEnvC scope cl C X.env) fp) ifs1 (tT X.K fc1))
    (he : ∀ (s : Shared) (H : Hp) (C : Addr) (cl : List (Str × Addr)) (fp : List Addr), PE (X.blk s H scope (compEnvC scope cl C X.env) fp) elt (tD X.K fe)) (h0 : i0 ∈ own.map (·.2) := by decide) (hs1 : ∀ i ∈ is1, i ∈ vs1 := by decide) (hv : ∀ i ∈ vs1, i ∈ own.map (·.2) := by decide)
    (hf : ∀ x, foldedSetIterable iter X.env x = pure x := by exact fun _ => rfl) (hf1 : ∀ env x, foldedSetIterable iter1 env x = pure x := by exact fun _ _ => rfl) :
    PE X (.ListComp elt [⟨tg, iter, ifs, 0⟩, ⟨tg1, iter1, ifs1, 0⟩] scope pos) (tS X.K (sLc2 (own.map (·.2)) vs1 fi i0 fc fi1 ft1 fc1 fe)) := by
  exact PEc (pe_lc2 hc hN hi ok hv hg ht hi1 hg1 ht1 he hf hf1) fun _ _ _ q => lc2_ok h0 hs1 hv q
end
end Orn
namespace Orn
theorem lc2Go_mono (i0 : Nat) (fc : EB) (vs1 : List Nat) (fi1 : EL) (ft1 : EG) (fc1 : EB) (fe : ED) (W1 : List Nat) [MX fc] [MX fi1] [MG ft1 W1] [MX fc1] [MX fe] {w1 w2 : List S} (h : leE w1 w2) : ∀ (ds : List D) (k1 k2 : List D → Bool), (∀ x, k1 x = true → k2 x = true) → lc2Go w1 i0 fc vs1 fi1 ft1 fc1 fe ds k1 = true → lc2Go w2 i0 fc vs1 fi1 ft1 fc1 fe ds k2 = true
  | [], _, _, hk, q => hk _ q
  | d :: ds, k1, k2, hk, q => MG.mono (g := gN i0) d w1 w2 _ _ h (fun a b l _ q => by
      have ls := l.sat i0
      have go : fc a (fun c => match c with
        | true => fi1 a fun ds1 => match Nat.ble ds1.length 1000 with
          | true => lcGo (wipeE a vs1) ft1 fc1 fe ds1 fun r1 => lc2Go w1 i0 fc vs1 fi1 ft1 fc1 fe ds fun r => k1 (r1 ++ r)
          | false => false
        | false => lc2Go w1 i0 fc vs1 fi1 ft1 fc1 fe ds k1) = true → fc b (fun c => match c with
        | true => fi1 b fun ds1 => match Nat.ble ds1.length 1000 with
          | true => lcGo (wipeE b vs1) ft1 fc1 fe ds1 fun r1 => lc2Go w2 i0 fc vs1 fi1 ft1 fc1 fe ds fun r => k2 (r1 ++ r)
          | false => false
        | false => lc2Go w2 i0 fc vs1 fi1 ft1 fc1 fe ds k2) = true := fun q => MX.mono (f := fc) a b _ _ l (fun c q => by
          cases c with
          | true => exact MX.mono (f := fi1) a b _ _ l (fun ds1 q => by
              cases hb : Nat.ble ds1.length 1000 with
              | false => simp only [hb] at q; cases q
              | true =>
                simp only [hb] at q ⊢
                exact lcGo_mono ft1 fc1 fe W1 (l.wipe vs1) ds1 _ _ (fun r1 q => lc2Go_mono i0 fc vs1 fi1 ft1 fc1 fe W1 h ds _ _ (fun x q => hk _ q) q) q) q
          | false => exact lc2Go_mono i0 fc vs1 fi1 ft1 fc1 fe W1 h ds _ _ hk q) q
      cases ha : sat a i0 with
      | un => simp only [ha] at q; cases q
      | ow x => simp only [ha] at q; cases q
      | tk => simp only [ha] at q; cases q
      | sh x =>
        rw [ha] at ls
        simp only [ha] at q
        rcases ls with z | z
        · cases z
        · rw [← z]
          exact go q) q
instance (vs vs1 : List Nat) (fi : EL) (i0 : Nat) (fc : EB) (fi1 : EL) (ft1 : EG) (fc1 : EB) (fe : ED) (W1 : List Nat) [MX fi] [MX fc] [MX fi1] [MG ft1 W1] [MX fc1] [MX fe] : MX (sLc2 vs vs1 fi i0 fc fi1 ft1 fc1 fe) := ⟨fun e1 e2 k1 k2 h hk hf => MX.mono (f := fi) e1 e2 _ _ h (fun ds q => by
  cases hb : Nat.ble ds.length 1000 with
  | false => simp only [hb] at q; cases q
  | true =>
    simp only [hb] at q ⊢
    exact lc2Go_mono i0 fc vs1 fi1 ft1 fc1 fe W1 (h.wipe vs) ds _ _ (fun x q => hk _ q) q) hf⟩
section
variable {vs vs1 : List Nat} {fi fi1 : EL} {i0 : Nat} {ft1 : EG} {fc fc1 : EB} {fe : ED} {e : List S} {kS : S → Bool} {kL : List D → Bool} {d : D} {ds : List D}
@[simp ↓] theorem q_lc2 : sLc2 vs vs1 fi i0 fc fi1 ft1 fc1 fe e kS = fi e fun ds => cond (Nat.ble ds.length 1000) (lc2Go (wipeE e vs) i0 fc vs1 fi1 ft1 fc1 fe ds fun out => kS (.ow out)) false := by
  unfold sLc2
  congr 1
@[simp ↓] theorem q_lc2Nil : lc2Go e i0 fc vs1 fi1 ft1 fc1 fe [] kL = kL [] := rfl
@[simp ↓] theorem q_lc2Cons : lc2Go e i0 fc vs1 fi1 ft1 fc1 fe (d :: ds) kL = gN i0 d e fun env1 => match sat env1 i0 with
    | .sh _ => fc env1 fun b => cond b (fi1 env1 fun ds1 => cond (Nat.ble ds1.length 1000) (lcGo (wipeE env1 vs1) ft1 fc1 fe ds1 fun r1 => lc2Go e i0 fc vs1 fi1 ft1 fc1 fe ds fun r => kL (r1 ++ r)) false) (lc2Go e i0 fc vs1 fi1 ft1 fc1 fe ds kL)
    | _ => false := rfl
end
end Orn

set_option Elab.async false
set_option linter.all false
set_option maxRecDepth 100000
set_option maxHeartbeats 4000000
/-! enumerate over a tuple; list(range(a, b)). -/
namespace PySem
open Sem (wp)
open AutoSeq1 (wpAny_loadPart')
theorem Draws.tuple_off {prog : Program} {w : World} {A : Around} (hh : A.handled = none) (it t : Addr) (n : Nat) (items : Array Value) (hz : items[n]? = none) :
    Draws prog w A it [it, t] n (fun i v => items[i]? = some v) (fun i h => i = n ∧ h.IsTupleIter it t i ∧ h.IsTuple t items) where
  live := fun _ _ st => let ⟨o, ho, _⟩ := st.2.1; ⟨o, ho⟩
  frame := fun _ _ _ st hk => ⟨st.1, st.2.1.at fun o e => hk it (by simp) o e, st.2.2.at fun o e => hk t (by simp) o e⟩
  item := fun i s Q E hi st hQ => absurd hi (by rw [st.1]; exact Nat.lt_irrefl _)
  done := fun s Q E st hE => wpAny_nextOf_tuple_end hh st.2.1 st.2.2 hz hE
theorem meets_enumerate_newT (l : Addr) (items : Array Value) (n : Nat) (dct : Option Addr) (sl : Array (Option Value)) :
    Meets (Builtin.«enumerate.__new__» ⟨[.type "enumerate", .ref l], []⟩) (fun _ R s => s.heap.get? l = some { cls := .type "tuple", dict := dct, data := .seq items n, slots := sl } ∧
      R (.ok (.ret (.ref (s.heap.push { cls := .type "tuple_iterator", data := .fields #[.ref l, .int 0 0] }).objs.size)))
        { s with heap := (s.heap.push { cls := .type "tuple_iterator", data := .fields #[.ref l, .int 0 0] }).push { cls := .type "enumerate", data := .fields #[.none, .bool false, .ref s.heap.objs.size, rawInt 0, .none, .none] } }) :=
  .of_wp fun prog w A R s h => by
    obtain ⟨hp, g, d, tk, os⟩ := s; obtain ⟨hl, h⟩ := h
    have hsub := sub_enumerate
    have hL : Heap.IsTuple (Shared.heap ⟨hp, g, d, tk, os⟩) l items := ⟨_, hl, rfl, n, rfl⟩
    wp_walk using wpAny_loadPart' hl
    refine wpAny_stack_any fun st => wpAny_pure ?_
    split
    · rename_i c _ _ _ _ _
      cases (c == Value.type "enumerate")
      · wp_walk using wpAny_loadPart' hl, wpAny_pyIter_tuple hL
        exact ⟨_, rfl, h⟩
      · wp_walk using wpAny_loadPart' hl, wpAny_pyIter_tuple hL
        exact ⟨_, rfl, h⟩
    · wp_walk using wpAny_loadPart' hl, wpAny_pyIter_tuple hL
      exact ⟨_, rfl, h⟩
theorem call_enumerate_tupleT {prog : Program} {w : World} {A : Around} {E : Value → Shared → Prop} {s : Shared} {l : Addr} {items : Array Value} {Q : Value → Shared → Prop} (hL : s.heap.IsTuple l items)
    (h : ∀ h', IsEnum h' (s.heap.objs.size + 1) s.heap.objs.size 0 .none → h'.IsTupleIter s.heap.objs.size l 0 → h'.objs.size = s.heap.objs.size + 2 →
      (∀ b o, s.heap.get? b = some o → h'.get? b = some o) → Q (.ref (s.heap.objs.size + 1)) { s with heap := h' }) :
    wpAny (model prog w) A (call (.type "enumerate") [.ref l]) Q E s := by
  obtain ⟨⟨c, dct, dt, sl⟩, hl, hc, n, hd⟩ := hL
  replace hc : c = .type "tuple" := hc
  replace hd : dt = .seq items n := hd
  subst hc hd
  refine callType_new F.called_enumerate (by decide) (F.typeCall_enumerate_1 _) (F.newCall_enumerate_1 _) (fun obj => F.args_object_init_2 obj _) F.entry_enumerate_new
    (meets_enumerate_newT l items n dct sl) ⟨hl, ?_⟩
  have hz : (s.heap.push { cls := .type "tuple_iterator", data := .fields #[.ref l, .int 0 0] }).objs.size = s.heap.objs.size + 1 := Heap.size_push ..
  show _ ∧ _
  rw [hz]
  have he : IsEnum ((s.heap.push { cls := .type "tuple_iterator", data := .fields #[.ref l, .int 0 0] }).push
      { cls := .type "enumerate", data := .fields #[.none, .bool false, .ref s.heap.objs.size, rawInt 0, .none, .none] }) (s.heap.objs.size + 1) s.heap.objs.size 0 .none := by
    have := Heap.get?_push_size (s.heap.push { cls := .type "tuple_iterator", data := .fields #[.ref l, .int 0 0] })
      (o := { cls := .type "enumerate", data := .fields #[.none, .bool false, .ref s.heap.objs.size, rawInt 0, .none, .none] }) rfl
    rw [hz] at this; exact this
  refine ⟨⟨_, he, rfl⟩, h _ he ⟨_, Heap.get?_push_of_some _ (Heap.get?_push_size _ rfl), rfl, rfl⟩ (by rw [Heap.size_push, hz]) fun b o x => Heap.get?_push_of_some _ (Heap.get?_push_of_some _ x)⟩
end PySem
namespace L2
open PySem PySem.Spec PyProof.Rows
/-- the tuple at a, each item in a new pair -/
def IteT (K : PySem.W.Frag) (a : Addr) : It :=
  ⟨fun i H => ∃ (xs : List V) (x : V), SqT K H a xs ∧ xs[i]? = some x, fun i H v H' => ∃ T x, v = .ref T ∧ H T = none ∧ H' = upd H T (.tup [.int (i : Nat), x]) ∧ ∀ xs, SqT K H a xs → xs[i]? = some x, fun i H => ∃ xs : List V, SqT K H a xs ∧ xs.length ≤ i⟩
theorem turn_enumT {P : Program} {w : World} {K : PySem.W.Frag} {elts : List Expr} {kk : Nat} {tpos : Pos} (a e it : Addr) :
    Turn P w K (.Tuple elts kk tpos) (IteT K a) [e, it] e (fun i h => (∃ old, IsEnum h e it ((i : Nat) : Int) old) ∧ h.IsTupleIter it a i ∧ e ≠ it) where
  mem := by simp
  obj := fun i h st b hb => by
    obtain ⟨⟨old, he⟩, ⟨o, ho, hc, hd⟩, _⟩ := st
    have e' : b = e ∨ b = it := by simpa using hb
    rcases e' with z | z
    · rw [z]; exact ⟨_, he, fun v q => nomatch q⟩
    · rw [z]; exact ⟨o, ho, fun v q => by rw [hd] at q; cases q⟩
  keep := fun i h h' st k => let ⟨⟨old, he⟩, hi, hne⟩ := st; ⟨⟨old, k e (by simp) _ he⟩, hi.at fun o q => k it (by simp) o q, hne⟩
  item := by
    intro X hP hw hK hc i pins s σ H E I hf st hg
    subst hP hw hK
    obtain ⟨⟨old, he⟩, hit, hne⟩ := st
    obtain ⟨xs, x, hq, hx⟩ := hg
    obtain ⟨its, rv, p, hz⟩ := I.tuple hq
    obtain ⟨u, hu, ru⟩ := rv.get hx
    have hel : e < s.heap.objs.size := Heap.lt_size he
    have hil : it < s.heap.objs.size := by obtain ⟨_, q, _⟩ := hit; exact Heap.lt_size q
    have hai : a ≠ it := fun z => by
      subst z
      obtain ⟨o, ho, hc, _⟩ := hit
      obtain ⟨o', ho', hc', _⟩ := p
      rw [ho] at ho'
      cases ho'
      rw [hc] at hc'
      exact absurd hc' (by decide)
    have hea : e ≠ a := fun z => by
      subst z
      obtain ⟨o', ho', hc', _⟩ := p
      have he' : s.heap.get? e = some _ := he
      rw [he'] at ho'
      cases ho'
      have hc2 : (Value.type "enumerate") = .type "tuple" := hc'
      exact absurd hc2 (by decide)
    have hlt : i < its.toArray.size := by
      rw [List.size_toArray]
      exact (List.getElem?_eq_some_iff.mp hu).1
    refine wpAny_pyNext_enum_itemD (Draws.tuple (A := X.A.in1) (show X.A.in1.handled = none from I.ok.hd hc) it a hai its.toArray) he ⟨hit, p⟩ hlt hne (by simp [hne, hea]) fun x' h' tk hP' ho hst' hT hsz hk => ?_
    have ex : x' = u := by
      have h1 : its.toArray[i]? = some x' := hP'
      have h2 : its.toArray[i]? = some u := by simpa using hu
      rw [h2] at h1
      exact (Option.some.inj h1).symm
    subst ex
    refine ⟨_, rfl, wpAny_letOwnedTupleGo_enum (s := { s with heap := h', toks := tk + 1 }) ho fun h'' he' sb => ?_⟩
    have hT2 : h''.get? s.heap.objs.size = some { cls := .type "tuple", data := .seq #[.int i tk, x'] } := (sb.2 _ (Nat.ne_of_gt hel)).trans hT
    have new : ObjOk X.prog X.w (upd H s.heap.objs.size (.tup [.int (i : Nat), x])) h'' s.heap.objs.size (.tup [.int (i : Nat), x]) :=
      ⟨by show 2 ≤ sizeLine; decide, [.int i tk, x'], .cons ⟨_, rfl⟩ (.cons ru .nil), ⟨_, hT2, rfl, _, rfl⟩⟩
    have I1 : Inv X pins σ (upd H s.heap.objs.size (.tup [.int (i : Nat), x])) { s with heap := h'', toks := tk + 1 } :=
      I.turnedNew (ch := [e, it]) (fun b ob hb q => (sb.2 b (fun z => hb (by simp [z]))).trans (hk b ob (fun z => hb (by simp [z])) (fun z => hb (by simp [z])) q)) hf (Nat.le_refl _) new
    refine ⟨.ref s.heap.objs.size, _, I1, rfl, ⟨_, x, rfl, I.hok.fresh (Nat.le_refl _), rfl, fun ys hy => by rw [I.tuple_inj hy hq]; exact hx⟩, ⟨⟨x', ?_⟩, hst'.1.at fun o q => (sb.2 it (Ne.symm hne)).trans q, hne⟩, fun b hb => ?_⟩
    · have e1 : ((i + 1 : Nat) : Int) = (i : Int) + 1 := by omega
      rw [e1]; exact he'
    · have hb' : b < s.heap.objs.size := by
        have e' : b = e ∨ b = it := by simpa using hb
        rcases e' with z | z
        · rw [z]; exact hel
        · rw [z]; exact hil
      rw [upd_ne (Nat.ne_of_lt hb')]
      exact (hf b hb).1
  done := by
    intro X hP hw hK hc i pins s σ H E I hf st hg
    subst hP hw hK
    obtain ⟨⟨old, he⟩, hit, hne⟩ := st
    obtain ⟨xs, hq, hx⟩ := hg
    obtain ⟨its, rv, p, hz⟩ := I.tuple hq
    obtain ⟨f0, f1, f2, f3, f4, f5⟩ := hf it (by simp)
    have hl := rv.length
    have hz' : its.toArray[i]? = none := by simp; omega
    exact wpAny_pyNext_enum_endD (Draws.tuple_off (A := X.A.in1) (show X.A.in1.handled = none from I.ok.hd hc) it a i its.toArray hz') he ⟨rfl, hit, p⟩ fun h' eb => ⟨rfl, I.turned (t' := s.toks) (fun b o hb q => eb b o hb q) f0 f1 f3 f4 f5⟩
  self := fun A i s Q E st h => let ⟨⟨_, he⟩, _⟩ := st; wpAny_pyIter_enum he h
def iEnumT (K : PySem.W.Frag) (ta : TA) : TI := fun σ H R => ta σ H fun vs H1 => ∃ a xs, vs = [.ref a] ∧ SqT K H1 a xs ∧ R (IteT K a) H1
theorem pi_enumT {X : Cx} {e : Expr} {ta : TA} {p pos tpos : Pos} {elts : List Expr} {kk : Nat} (hg : Gl X "enumerate") (hm : X.mg "enumerate" = none) (ha : PA X [e] ta) (hs : starEach [e] X.env = [(false, eval e X.env)] := by rfl) :
    PI X (.Tuple elts kk tpos) (.Call (.Name "enumerate" p) [e] [] pos) (iEnumT X.K ta) := by
  refine ⟨fun pins s σ H R I h => ?_⟩
  refine Call_ (ld_blt I hg hm boot_enumerate (PyProof.Rows.callWith_type1 (thn (ha.run pos pins s σ H _ I h) fun us s1 ⟨vs, H1, I1, r1, q1⟩ => ?_) hs rfl))
  obtain ⟨a, xs, ex, hq, q⟩ := q1
  subst ex
  cases r1 with
  | cons r rr =>
    cases rr
    cases r
    obtain ⟨its, rv, p', hz⟩ := I1.tuple hq
    refine call_enumerate_tupleT p' fun h' he hit hsz hk => wpAny_pyIter_enum he ?_
    have I2 : Inv X pins σ H1 { s1 with heap := h' } := I1.kept (t' := s1.toks) hk
    refine ⟨s1.heap.objs.size + 1, [s1.heap.objs.size + 1, s1.heap.objs.size], _, _, H1, rfl, I2, turn_enumT a (s1.heap.objs.size + 1) s1.heap.objs.size, ⟨⟨.none, he⟩, hit, Nat.succ_ne_self _⟩, fun b hb => ?_, q⟩
    have e' : b = s1.heap.objs.size + 1 ∨ b = s1.heap.objs.size := by simpa using hb
    have hle : s1.heap.objs.size ≤ b := by
      rcases e' with z | z
      · rw [z]; exact Nat.le_add_right _ _
      · rw [z]; exact Nat.le_refl _
    exact I1.fpOk hle (I1.hok.fresh hle)
def iEnumA (K : PySem.W.Frag) (ta : TA) : TI := fun σ H R => ta σ H fun vs H1 => ∃ a xs, vs = [.ref a] ∧ ((SqT K H1 a xs ∧ R (IteT K a) H1) ∨ (SqL K H1 a xs ∧ R (Ite K a) H1))
theorem pi_enumA {X : Cx} {e : Expr} {ta : TA} {p pos tpos : Pos} {elts : List Expr} {kk : Nat} (hg : Gl X "enumerate") (hm : X.mg "enumerate" = none) (ha : PA X [e] ta) (hs : starEach [e] X.env = [(false, eval e X.env)] := by rfl) :
    PI X (.Tuple elts kk tpos) (.Call (.Name "enumerate" p) [e] [] pos) (iEnumA X.K ta) := by
  refine ⟨fun pins s σ H R I h => ?_⟩
  refine Call_ (ld_blt I hg hm boot_enumerate (PyProof.Rows.callWith_type1 (thn (ha.run pos pins s σ H _ I h) fun us s1 ⟨vs, H1, I1, r1, q1⟩ => ?_) hs rfl))
  obtain ⟨a, xs, ex, hq⟩ := q1
  subst ex
  cases r1 with
  | cons r rr =>
    cases rr
    cases r
    have fin : ∀ b, b ∈ [s1.heap.objs.size + 1, s1.heap.objs.size] → s1.heap.objs.size ≤ b := fun b hb => by
      have e' : b = s1.heap.objs.size + 1 ∨ b = s1.heap.objs.size := by simpa using hb
      rcases e' with z | z
      · rw [z]; exact Nat.le_add_right _ _
      · rw [z]; exact Nat.le_refl _
    rcases hq with ⟨hq, q⟩ | ⟨hq, q⟩
    · obtain ⟨its, rv, p', hz⟩ := I1.tuple hq
      refine call_enumerate_tupleT p' fun h' he hit hsz hk => wpAny_pyIter_enum he ?_
      have I2 : Inv X pins σ H1 { s1 with heap := h' } := I1.kept (t' := s1.toks) hk
      exact ⟨s1.heap.objs.size + 1, [s1.heap.objs.size + 1, s1.heap.objs.size], _, _, H1, rfl, I2, turn_enumT a (s1.heap.objs.size + 1) s1.heap.objs.size, ⟨⟨.none, he⟩, hit, Nat.succ_ne_self _⟩, fun b hb => I1.fpOk (fin b hb) (I1.hok.fresh (fin b hb)), q⟩
    · obtain ⟨its, rv, p', hz⟩ := I1.list hq
      refine call_enumerate_list p'.isList fun h' he hit hsz hk => wpAny_pyIter_enum he ?_
      have I2 : Inv X pins σ H1 { s1 with heap := h' } := I1.kept (t' := s1.toks) hk
      exact ⟨s1.heap.objs.size + 1, [s1.heap.objs.size + 1, s1.heap.objs.size], _, _, H1, rfl, I2, turn_enum a (s1.heap.objs.size + 1) s1.heap.objs.size, ⟨⟨.none, he⟩, hit, Nat.succ_ne_self _⟩, fun b hb => I1.fpOk (fin b hb) (I1.hok.fresh (fin b hb)), q⟩
end L2
namespace Orn
open PySem PySem.Spec L2
def enD : Nat → List D → List D
  | _, [] => []
  | i, d :: ds => .tuple [.int (i : Nat), d] :: enD (i + 1) ds
theorem enD_get : ∀ (b : Nat) (ds : List D) (i : Nat), (enD b ds)[i]? = (ds[i]?).map fun d => .tuple [.int ((b + i : Nat) : Int), d]
  | _, [], i => by simp [enD]
  | b, d :: ds, 0 => by simp [enD]
  | b, d :: ds, i + 1 => by
    rw [enD, List.getElem?_cons_succ, List.getElem?_cons_succ, enD_get (b + 1) ds i]
    have : b + 1 + i = b + (i + 1) := by omega
    rw [this]
theorem enD_len : ∀ (b : Nat) (ds : List D), (enD b ds).length = ds.length
  | _, [] => rfl
  | b, d :: ds => by rw [enD, List.length_cons, List.length_cons, enD_len]
def iEn (f : EL) : EL := fun env k => f env fun ds => match ds with
  | [.tuple xs] => k (enD 0 xs)
  | [.list xs] => k (enD 0 xs)
  | _ => false
theorem walk_enT {K : PySem.W.Frag} {F : Fr} {A0 : Hp} {a : Addr} {xs : List V} {ds : List D} (h : SqT K A0 a xs) (r : RpL K A0 ds xs) : Walk K F A0 (IteT K a) (enD 0 ds) := by
  refine ⟨fun i σ env H0 H d R e hd => ?_, fun i σ env H0 H R e hd => ?_⟩
  · rw [enD_get, Option.map_eq_some_iff] at hd
    obtain ⟨d0, h0, e0⟩ := hd
    subst e0
    obtain ⟨v, hv, rv⟩ := r.get h0
    have hH : SqT K H a xs := ex_t R.ex (ex_t e h)
    refine ⟨⟨xs, v, hH, hv⟩, fun x H' y => ?_⟩
    obtain ⟨T, x', e1, hT, e2, hx⟩ := y
    subst e1 e2
    have hx := hx xs hH
    rw [hv] at hx
    cases hx
    have rv0 : Rp K H0 d0 v := Rp.mono e d0 _ rv
    have hx0 := Ex.new (o := HO.tup [.int (i : Nat), v]) (R.ex.free hT)
    exact ⟨_, R.new hT, ⟨T, [.int (i : Nat), v], rfl, SqT.of upd_same, ⟨_, _, rfl, by rw [Nat.zero_add]; rfl, _, _, rfl, Rp.mono hx0 d0 _ rv0, rfl⟩⟩, Grow.new R hT⟩
  · rw [enD_len] at hd
    exact ⟨xs, ex_t R.ex (ex_t e h), by rw [r.length]; exact hd⟩
theorem walk_enL {K : PySem.W.Frag} {F : Fr} {A0 : Hp} {a : Addr} {xs : List V} {ds : List D} (h : A0 a = some (.lst xs)) (r : RpL K A0 ds xs) : Walk K F A0 (Ite K a) (enD 0 ds) := by
  refine ⟨fun i σ env H0 H d R e hd => ?_, fun i σ env H0 H R e hd => ?_⟩
  · rw [enD_get, Option.map_eq_some_iff] at hd
    obtain ⟨d0, h0, e0⟩ := hd
    subst e0
    obtain ⟨v, hv, rv⟩ := r.get h0
    have hH : SqL K H a xs := SqL.of (R.ex a _ (e a _ h))
    refine ⟨⟨xs, v, hH, hv⟩, fun x H' y => ?_⟩
    obtain ⟨T, x', e1, hT, e2, hx⟩ := y
    subst e1 e2
    have hx := hx xs hH
    rw [hv] at hx
    cases hx
    have rv0 : Rp K H0 d0 v := Rp.mono e d0 _ rv
    have hx0 := Ex.new (o := HO.tup [.int (i : Nat), v]) (R.ex.free hT)
    exact ⟨_, R.new hT, ⟨T, [.int (i : Nat), v], rfl, SqT.of upd_same, ⟨_, _, rfl, by rw [Nat.zero_add]; rfl, _, _, rfl, Rp.mono hx0 d0 _ rv0, rfl⟩⟩, Grow.new R hT⟩
  · rw [enD_len] at hd
    exact ⟨xs, SqL.of (R.ex a _ (e a _ h)), by rw [r.length]; exact hd⟩
section
variable {X : Cx} {e a b : Expr} {elts : List Expr} {kk : Nat} {pos p tpos q : Pos} {f : EL}
theorem si_en (hg : Gl X "enumerate") (hm : X.mg "enumerate" = none) (ha : PA X [e] (tL X.K 1 f)) (hs : starEach [e] X.env = [(false, eval e X.env)] := by exact rfl) : PI X (.Tuple elts kk tpos) (.Call (.Name "enumerate" p) [e] [] pos) (tI X.K (iEn f)) := by
  refine PIc (pi_enumA (ta := tL X.K 1 f) hg hm ha hs) fun σ H Q q => ?_
  obtain ⟨F, H0, env, k, R, hf, hq⟩ := q
  refine ⟨F, H0, env, _, R, hf, fun vs ds H0' H' hk R' wl hl g => ?_⟩
  split at hk
  · obtain ⟨v, r, rfl, w, hr⟩ := wl
    cases hr
    obtain ⟨a, xs, rfl, ha, ra⟩ := w
    exact ⟨a, xs, rfl, .inl ⟨ex_t R'.ex ha, hq _ _ H0' H' hk R' (walk_enT ha ra) g⟩⟩
  · obtain ⟨v, r, rfl, w, hr⟩ := wl
    cases hr
    obtain ⟨a, xs, rfl, ha, ra⟩ := w
    exact ⟨a, xs, rfl, .inr ⟨SqL.of (R'.ex a _ ha), hq _ _ H0' H' hk R' (walk_enL ha ra) g⟩⟩
  · cases hk
/-- list(range(a, b)) -/
def sLRg (fa fb : ED) : ES := fun env k => fa env fun x => fb env fun y => match x, y with
  | .int a, .int b => if -(2 ^ 62) ≤ a ∧ a < 2 ^ 62 ∧ -(2 ^ 62) ≤ b ∧ b < 2 ^ 62 ∧ (b - a).toNat ≤ 100000 then rngD a (b - a).toNat fun r => k (.ow r) else false
  | _, _ => false
theorem rpl_rg {K : PySem.W.Frag} {H : Hp} : ∀ (n : Nat) (a : Int), RpL K H (rngL a n) ((List.range n).map fun i => V.int (a + (i : Nat)))
  | 0, a => rfl
  | n + 1, a => by
    rw [List.range_succ_eq_map, List.map_cons, List.map_map, rngL]
    refine ⟨_, _, rfl, ?_, ?_⟩
    · show V.int (a + ((0 : Nat) : Int)) = V.int a
      simp
    · have := rpl_rg (K := K) (H := H) n (a + 1)
      have e : ((fun i : Nat => V.int (a + (i : Nat))) ∘ Nat.succ) = fun i : Nat => V.int (a + 1 + (i : Nat)) := by
        funext i
        show V.int _ = V.int _
        congr 1
        simp only [Nat.succ_eq_add_one]
        omega
      rw [e]
      exact this
theorem ss_lrg {fa fb : ED} (hc : X.calm = true) (hg : Gl X "list") (hm : X.mg "list" = none) (hg' : Gl X "range") (hm' : X.mg "range" = none) (ha : PE X a (tV X.K fa)) (hb : PE X b (tV X.K fb))
    (na : starEach [a, b] X.env = (false, eval a X.env) :: starEach [b] X.env := by exact rfl) (nb : starEach [b] X.env = (false, eval b X.env) :: starEach [] X.env := by exact rfl) (hp : (backTo pos (starEach [b] X.env)).any (·.1) = false := by exact rfl)
    (nr : starEach [Expr.Call (.Name "range" p) [a, b] [] pos] X.env = (false, eval (Expr.Call (.Name "range" p) [a, b] [] pos) X.env) :: starEach [] X.env := by exact rfl) :
    PE X (.Call (.Name "list" q) [.Call (.Name "range" p) [a, b] [] pos] [] tpos) (tS X.K (sLRg fa fb)) := by
  refine PEc (pe_listRg hc hg hm (prg_2 hg' hm' ha hb na nb hp) nr) fun σ H Q q => ?_
  obtain ⟨F, H0, env, k, R, hf, hq⟩ := q
  refine ⟨F, H0, env, _, R, hf, fun v d H1 G1 hk R1 w1 g1 => ⟨F, H1, env, _, R1, hk, fun u e H2 G2 hk2 R2 w2 g2 => ?_⟩⟩
  split at hk2
  · split at hk2
    · rename_i i j c
      rw [rngD_eq] at hk2
      refine ⟨i, j, (w1.mono g2).int, w2.int, ⟨c.1, c.2.1, c.2.2.1, c.2.2.2.1, Nat.le_trans c.2.2.2.2 (by decide)⟩, ?_⟩
      exact new_lst R2 (fun v s H0' H' h1 h2 h3 h4 h5 => hq v s H0' H' h1 h2 h3 (NewS.back (g1.trans g2) R2 h4) ((g1.trans g2).trans h5)) (rpl_rg _ _) hk2
    · cases hk2
  · cases hk2
end
end Orn
namespace Orn
instance (f : EL) [MX f] : MX (iEn f) := ⟨fun e1 e2 k1 k2 h hk hf => MX.mono (f := f) e1 e2 _ _ h (fun s q => by
  split at q
  · exact hk _ q
  · exact hk _ q
  · cases q) hf⟩
instance (fa fb : ED) [MX fa] [MX fb] : MX (sLRg fa fb) := ⟨fun e1 e2 k1 k2 h hk hf => MX.mono (f := fa) e1 e2 _ _ h (fun x q => MX.mono (f := fb) e1 e2 _ _ h (fun y q => by
  split at q
  · split at q
    · rename_i c
      rw [rngD_eq] at q
      simp only [if_pos c, rngD_eq]
      exact hk _ q
    · cases q
  · cases q) q) hf⟩
section
variable {e : List S} {kS : S → Bool} {kL : List D → Bool} {f : EL} {fa fb : ED} {xs : List D} {a b : Int} {i : Nat} {d : D}
@[simp ↓] theorem q_en : iEn f e kL = f e fun ds => match ds with
  | [.tuple xs] => kL (enD 0 xs)
  | [.list xs] => kL (enD 0 xs)
  | _ => false := rfl
@[simp ↓] theorem q_lrg : sLRg fa fb e kS = fa e fun x => fb e fun y => match x, y with
  | .int a, .int b => if -(2 ^ 62) ≤ a ∧ a < 2 ^ 62 ∧ -(2 ^ 62) ≤ b ∧ b < 2 ^ 62 ∧ (b - a).toNat ≤ 100000 then kS (.ow (rngL a (b - a).toNat)) else false
  | _, _ => false := by
  unfold sLRg
  simp only [rngD_eq]
end
end Orn

set_option Elab.async false
set_option linter.all false
set_option maxRecDepth 100000
set_option maxHeartbeats 4000000
/-! Assignments side by side whose values may be new lists that are written later. -/
namespace Orn
open PySem PySem.Spec L2
def NeS (v : V) (s : S) (u : V) (t : S) : Prop := match s, t with
  | .ow _, .ow _ => u ≠ v
  | _, _ => True
def NeL (v : V) (s : S) : List S → List V → Prop
  | [], _ => True
  | t :: ts, vs => ∃ u us, vs = u :: us ∧ NeS v s u t ∧ NeL v s ts us
/-- values to keep, in a row -/
def ValL (K : PySem.W.Frag) (F : Fr) (H0 : Hp) (σ : L2.St) (H : Hp) (env : List S) : List S → List V → Prop
  | [], vs => vs = []
  | s :: ss, vs => ∃ v r, vs = v :: r ∧ ValR K F H0 σ H env v s ∧ NeL v s ss r ∧ ValL K F H0 σ H env ss r
def NewL (H : Hp) : List S → List V → Prop
  | [], _ => True
  | s :: ss, vs => ∃ v r, vs = v :: r ∧ NewS H v s ∧ NewL H ss r
def tSL (K : PySem.W.Frag) (n : Nat) (f : EA) : TA := fun σ H Q => ∃ F H0 env k, StR K F H0 σ H env ∧ f env k = true ∧
  ∀ vs ds H0' H', k ds = true → StR K F H0' σ H' env → ValL K F H0' σ H' env ds vs → NewL H ds vs → ds.length = n → Grow F H0 H H0' H' → Q vs H'
section
variable {K : PySem.W.Frag} {F : Fr} {H0 H H0' H' : Hp} {σ : L2.St} {env : List S}
theorem ValR.mono {v : V} {s : S} (g : Grow F H0 H H0' H') (h : ValR K F H0 σ H env v s) : ValR K F H0' σ H' env v s := by
  cases s with
  | un => exact h
  | sh d => exact Rp.mono g.e0 d v h
  | tk => exact h
  | ow ds =>
    obtain ⟨p, vs, e1, w, r, n⟩ := h
    exact ⟨p, vs, e1, ⟨w.e, g.nw p (by rw [w.at_]; intro z; cases z) w.t w.f, g.kp p _ w.at_ w.t, w.t⟩, RpL.mono g.e0 ds vs r, n⟩
theorem ValR.step {v u : V} {s t : S} {i : Nat} (hn : NeS v s u t) (hv : ValR K F H0 σ H env v s) (h : ValR K F H0 σ H env u t) : ValR K F H0 (σ.set i (some v)) H (env.set i s) u t := by
  cases t with
  | un => exact h
  | sh d => exact h
  | tk => exact h
  | ow ds =>
    obtain ⟨p, vs, e1, w, r, n⟩ := h
    refine ⟨p, vs, e1, w, r, fun j xs h1 h2 => ?_⟩
    by_cases c : i = j
    · subst c
      have hl : i < env.length := by
        have := (List.getElem?_eq_some_iff.mp h1).1
        rw [List.length_set] at this
        exact this
      rw [List.getElem?_set_self hl] at h1
      cases h1
      by_cases hs : i < σ.length
      · rw [List.getElem?_set_self hs] at h2
        cases h2
        exact hn e1
      · rw [List.getElem?_eq_none (by rw [List.length_set]; omega)] at h2
        cases h2
    · rw [List.getElem?_set_ne c] at h1
      rw [List.getElem?_set_ne c] at h2
      exact n j xs h1 h2
theorem NewL.back {s : List S} {v : List V} (g : Grow F H0 H H0' H') (R : StR K F H0' σ H' env) : ∀ {s : List S} {v : List V}, NewL H' s v → NewL H s v
  | [], _, _ => trivial
  | s :: ss, vs, h => by
    obtain ⟨v, r, e1, h1, h2⟩ := h
    exact ⟨v, r, e1, h1.back g R, NewL.back (s := ss) (v := r) g R h2⟩
theorem NewL.ne {v : V} {s : S} (hv : ValR K F H0 σ H env v s) : ∀ {ts : List S} {us : List V}, NewL H ts us → NeL v s ts us
  | [], _, _ => trivial
  | t :: ts, us, h => by
    obtain ⟨u, r, e1, h1, h2⟩ := h
    refine ⟨u, r, e1, ?_, NewL.ne hv h2⟩
    cases s <;> cases t <;> first | exact trivial | skip
    intro e
    obtain ⟨p, vs, e2, w, _⟩ := hv
    have := h1 p (e.trans e2)
    rw [w.at_] at this
    cases this
variable {X : Cx} {e : Expr} {es : List Expr} {n : Nat}
theorem nl_nil : PA X [] (tSL X.K 0 aNil) := PAc pa_nil fun σ H Q q => by
  obtain ⟨F, H0, env, k, R, hf, hq⟩ := q
  exact hq [] [] H0 H hf R rfl trivial rfl .refl
theorem nl_cons {fa : ES} {fr : EA} (ha : PE X e (tS X.K fa)) (hr : PA X es (tSL X.K n fr)) (hs : starEach (e :: es) X.env = (false, eval e X.env) :: starEach es X.env := by exact rfl) : PA X (e :: es) (tSL X.K (n + 1) (aCons fa fr)) :=
  PAc (pa_cons ha hr hs) fun σ H Q q => by
    obtain ⟨F, H0, env, k, R, hf, hq⟩ := q
    refine ⟨F, H0, env, _, R, hf, fun v s H1 G1 hk R1 v1 n1 g1 => ⟨F, H1, env, _, R1, hk, fun vs ss H2 G2 hk2 R2 r2 n2 hn g2 => ?_⟩⟩
    exact hq (v :: vs) (s :: ss) H2 G2 hk2 R2 ⟨v, vs, rfl, v1.mono g2, NewL.ne v1 n2, r2⟩ ⟨v, vs, rfl, n1, NewL.back (s := ss) (v := vs) g1 R1 n2⟩ (by rw [List.length_cons, hn]) (g1.trans g2)
end
def pParO (i j : Nat) (f : EA) : ST := fun env ks => f env fun ds => match ds with
  | [a, b] => ks.nx ((env.set i a).set j b)
  | _ => false
def pParO3 (i j l : Nat) (f : EA) : ST := fun env ks => f env fun ds => match ds with
  | [a, b, c] => ks.nx (((env.set i a).set j b).set l c)
  | _ => false
section
variable {X : Cx} {e : Expr} {pos : Pos}
theorem sp_parO (i j : Nat) {f : EA} {tg : Expr} (h : PS X (.Assign [tg] e pos) (tPar i j (tSL X.K 2 f))) : PS X (.Assign [tg] e pos) (tP X.K (pParO i j f)) := PSc h fun D σ H q => by
  obtain ⟨F, H0, env, ks, R, hf, E⟩ := q
  refine ⟨F, H0, env, _, R, hf, fun vs ds H0' H' hk R' r _ _ g => ?_⟩
  split at hk
  · obtain ⟨v, r1, rfl, v1, n1, u, r2, rfl, v2, n2, r3⟩ := r
    cases r3
    obtain ⟨u', r', e', ne, _⟩ := n1
    cases e'
    exact ⟨v, u, rfl, E.nx _ _ _ _ hk ((R'.set i v1).set j (ValR.step ne v1 v2)) g.e0⟩
  · cases hk
theorem sp_parO3 (i j l : Nat) {f : EA} {tg : Expr} (h : PS X (.Assign [tg] e pos) (tPar3 i j l (tSL X.K 3 f))) : PS X (.Assign [tg] e pos) (tP X.K (pParO3 i j l f)) := PSc h fun D σ H q => by
  obtain ⟨F, H0, env, ks, R, hf, E⟩ := q
  refine ⟨F, H0, env, _, R, hf, fun vs ds H0' H' hk R' r _ _ g => ?_⟩
  split at hk
  · obtain ⟨v, r1, rfl, v1, n1, u, r2, rfl, v2, n2, t, r3, rfl, v3, n3, r4⟩ := r
    cases r4
    obtain ⟨u', r', e', ne, t', r'', e'', ne', _⟩ := n1
    cases e'; cases e''
    obtain ⟨t', r'', e'', ne2, _⟩ := n2
    cases e''
    exact ⟨v, u, t, rfl, E.nx _ _ _ _ hk (((R'.set i v1).set j (ValR.step ne v1 v2)).set l (ValR.step ne2 (ValR.step ne v1 v2) (ValR.step ne' v1 v3))) g.e0⟩
  · cases hk
end
instance (i j : Nat) (f : EA) [MX f] : MP (pParO i j f) [i, j] := ⟨fun e1 e2 ks1 ks2 h r hf => MX.mono (f := f) e1 e2 _ _ h (fun ds q => by
  match ds, q with
  | [a, b], q => exact r.nx _ _ ((h.set (.inr rfl) i).set (.inr rfl) j) ((frW.set (by simp)).trans (frW.set (by simp))) q) hf⟩
instance (i j l : Nat) (f : EA) [MX f] : MP (pParO3 i j l f) [i, j, l] := ⟨fun e1 e2 ks1 ks2 h r hf => MX.mono (f := f) e1 e2 _ _ h (fun ds q => by
  match ds, q with
  | [a, b, c], q => exact r.nx _ _ (((h.set (.inr rfl) i).set (.inr rfl) j).set (.inr rfl) l) (((frW.set (by simp)).trans (frW.set (by simp))).trans (frW.set (by simp))) q) hf⟩
section
variable {e : List S} {ks : Ks}
@[simp ↓] theorem q_range2 {f : EL} {kL : List D → Bool} : iRange2 f e kL = f e fun ds => match ds with
  | [.int lo, .int hi] => if -(2 ^ 62) ≤ lo ∧ lo < 2 ^ 62 ∧ -(2 ^ 62) ≤ hi ∧ hi < 2 ^ 62 then kL (rngL lo (hi - lo).toNat) else false
  | _ => false := by
  unfold iRange2; congr 1; funext ds; split <;> simp [rngD_eq]
@[simp ↓] theorem q_aug {i : Nat} {g : D → D → (D → Bool) → Bool} {f : ED} : pAug i g f e ks = match sat e i with
  | .sh d => f e fun x => g d x fun z => ks.nx (e.set i (.sh z))
  | _ => false := rfl
@[simp ↓] theorem q_augI {a b : Int} {k : D → Bool} : gAugAdd (.int a) (.int b) k = k (.int (a + b)) := kInt_eq _ _
@[simp ↓] theorem q_parO {i j : Nat} {f : EA} : pParO i j f e ks = f e fun ds => match ds with
  | [a, b] => ks.nx ((e.set i a).set j b)
  | _ => false := rfl
@[simp ↓] theorem q_parO3 {i j l : Nat} {f : EA} : pParO3 i j l f e ks = f e fun ds => match ds with
  | [a, b, c] => ks.nx (((e.set i a).set j b).set l c)
  | _ => false := rfl
end
end Orn

set_option Elab.async false
set_option linter.all false
set_option maxRecDepth 100000
set_option maxHeartbeats 4000000
/-! sorted(set(list of ints)). -/
namespace L2
open PySem PySem.Spec PyProof.Rows
section
variable {P : Program} {w : World} {A : Around} {E : Value → Shared → Prop} {s : Shared}
set_option maxRecDepth 100000 in
set_option maxHeartbeats 3200000 in
theorem call_set_listR {l : Addr} {items : Array Value} (ns : List Int) {Q : Value → Shared → Prop} (hh : A.handled = none) (hl : s.heap.IsList l items) (hit : IntsAre items.toList ns) (hb : ns.length + 1 < scanBound)
    (h : ∀ (h' : Heap) (tk c : Nat), SetR w h' s.heap.objs.size (fun j => decide (j ∈ ns)) c → c ≤ ns.length → (∀ b o, s.heap.get? b = some o → h'.get? b = some o) → Q (.ref s.heap.objs.size) { s with heap := h', toks := tk }) :
    wpAny (model P w) A (call (.type "set") [.ref l]) Q E s := by
  have hisz : items.size = ns.length := by
    have q := IntsAre.length hit
    rw [Array.length_toList] at q
    exact q
  obtain ⟨c, tl, hmro⟩ := F.called_set.mro
  have hmade := F.called_set.made
  have hsub := F.called_set.sub
  refine wpAny_call (codeAny_of_tree ?_)
  show wpAny _ _ (callAny (.type "set") _) _ _ _
  refine wpAny_pure ⟨Code.quiet_builtin _ (by decide +kernel), codeAny_builtin F.entry_type_call ?_⟩
  rw [Around.under_plain (weight_type_call_type "set" [.ref l] []) rfl]
  have h1 := F.called_set.notType
  have h2 := F.called_set.canCreate
  have hct := F.typeCall_set_1 (.ref l)
  repeat (any_goals (first | assumption | wp_step))

  refine codeAny_mono (code_set_led1 (.ref l) (E := E) (Q₁ := fun obj s₁ => obj = .ref s.heap.objs.size ∧ s₁ = { s with heap := s.heap.push { cls := .type "set", dict := none, data := .set #[] 0 (.fresh 0 0 (!w.params.followText "set-order")) } }) ⟨rfl, rfl⟩) fun r s₁ hr => ?_
  cases r with
  | error e => exact hr
  | ok fl =>
    cases fl with
    | ret obj =>
      obtain ⟨rfl, rfl⟩ := hr
      have hS : (s.heap.push { cls := .type "set", dict := none, data := .set #[] 0 (.fresh 0 0 (!w.params.followText "set-order")) }).get? s.heap.objs.size = some { cls := .type "set", dict := none, data := .set #[] 0 (.fresh 0 0 (!w.params.followText "set-order")) } := Heap.get?_push_size _ rfl
      have hT : Shared.TypeIs { s with heap := s.heap.push { cls := .type "set", dict := none, data := .set #[] 0 (.fresh 0 0 (!w.params.followText "set-order")) } } (.ref s.heap.objs.size) "set" := ⟨_, hS, rfl⟩
      have hli := F.called_set.init.lookup
      have hbi := F.called_set.init.bind (.ref s.heap.objs.size)
      repeat (any_goals (first | assumption | wp_step))

      refine codeAny_mono (codeAny_call_builtin (R := wants (fun r s₂ => r = .none ∧ ∃ h' tk c, s₂ = { s with heap := h', toks := tk } ∧ SetR w h' s.heap.objs.size (fun j => decide (j ∈ ns)) c ∧ c ≤ ns.length ∧
          (∀ b o, s.heap.get? b = some o → h'.get? b = some o)) E) F.called_set.init.plain F.entry_set_init (check_set_init_1 hT ?_)) fun r₂ s₂ hr₂ => ?_
      · obtain ⟨ol, hol, hcl, nl, hdl⟩ := hl
        obtain ⟨ocls, odict, odata, oslots⟩ := ol
        simp only at hcl hdl
        subst hcl; subst hdl
        have hol' : (s.heap.push { cls := .type "set", dict := none, data := .set #[] 0 (.fresh 0 0 (!w.params.followText "set-order")) }).get? l = some { cls := .type "list", dict := odict, data := .seq items nl, slots := oslots } := Heap.get?_push_of_some _ hol
        have hsls := F.sub_list_set
        have hslf := F.sub_list_frozenset
        have hne : (Value.type "list" == Value.type "dict") = false := by decide
        have hl1 : (s.heap.push { cls := .type "set", dict := none, data := .set #[] 0 (.fresh 0 0 (!w.params.followText "set-order")) }).IsList l items := ⟨_, hol', rfl, nl, rfl⟩
        unfold Builtin.«set.__init__» noKeywords Builtin.Frozenset.updateFrom
        generalize hPI : pyIter = PI
        wp_walk
        subst hPI

        refine wpAny_pyIter_list hl1 ?_
        refine wpAny_bind (wpAny_runValue ?_)
        have hlS : l < s.heap.objs.size := Heap.lt_size hol
        have hh3 : A.in1.in1.in1.handled = none := by simp [hh]
        have hz1 : (s.heap.push { cls := .type "set", dict := none, data := .set #[] 0 (.fresh 0 0 (!w.params.followText "set-order")) }).objs.size = s.heap.objs.size + 1 := Heap.size_push ..
        have hneI : l ≠ (s.heap.push { cls := .type "set", dict := none, data := .set #[] 0 (.fresh 0 0 (!w.params.followText "set-order")) }).objs.size := by
          rw [Heap.size_push]; exact Nat.ne_of_lt (Nat.lt_succ_of_lt hlS)
        have hSf : s.heap.objs.size ∉ [(s.heap.push { cls := .type "set", dict := none, data := .set #[] 0 (.fresh 0 0 (!w.params.followText "set-order")) }).objs.size, l] := by
          rw [Heap.size_push]; simp only [List.mem_cons, List.mem_singleton, List.not_mem_nil, or_false, not_or]
          exact ⟨Nat.ne_of_lt (Nat.lt_succ_self _), Nat.ne_of_gt hlS⟩
        have hval : ∀ (i : Nat) (v : Value), items[i]? = some v → ∃ k t, ns[i]? = some k ∧ v = .int k t := fun i v hv => by
          have hi : i < ns.length := by rw [← hisz]; exact (Array.getElem?_eq_some_iff.mp hv).1
          obtain ⟨t, e⟩ := PyProof.Rows.IntsAre.int_at hit i v (by rw [Array.getElem?_toList]; exact hv)
          refine ⟨ns[i], t, List.getElem?_eq_getElem hi, ?_⟩
          rw [e, List.getD_eq_getElem?_getD, List.getElem?_eq_getElem hi] <;> rfl
        refine set_update_ints ((Walks.list hh3 _ l hneI items).toS) s.heap.objs.size
          hSf ns hisz hb hval (items.size - 0) 0 _ (by omega) (Nat.zero_le _)
          ⟨⟨_, Heap.get?_push_size _ rfl, rfl, rfl⟩, (hl1.push _)⟩ ?hS0 ?hR
        case hS0 =>
          have hget : ((s.heap.push { cls := .type "set", dict := none, data := .set #[] 0 (.fresh 0 0 (!w.params.followText "set-order")) }).push { cls := .type "list_iterator", data := .fields #[.ref l, .int 0 0] }).get? s.heap.objs.size
              = some { cls := .type "set", dict := none, data := .set #[] 0 (.fresh 0 0 (!w.params.followText "set-order")) } := Heap.get?_push_of_some _ hS
          exact ⟨0, Nat.le_refl 0, setR_new_at hget⟩
        case hR =>
          intro s' c' hm hc' hS'
          obtain ⟨h', g2, d', tk', os'⟩ := s'
          have eg : g2 = s.gens := hm.gens
          have ed : d' = s.drawn := hm.drawn
          have eo : os' = s.os := hm.os
          subst eg; subst ed; subst eo
          show wpAny _ _ _ _ _ _
          refine wpAny_pure ?_
          show wpAny _ _ (ret Value.none) _ _ _
          rw [hisz] at hc'
          refine wpAny_pure ⟨rfl, h', tk', c', rfl, hS', hc', fun b o e => ?_⟩
          have hb0 : b < s.heap.objs.size := Heap.lt_size e
          have hb1 : b ≠ s.heap.objs.size := Nat.ne_of_lt hb0
          have hb2 : b ≠ (s.heap.push { cls := .type "set", dict := none, data := .set #[] 0 (.fresh 0 0 (!w.params.followText "set-order")) }).objs.size := by
            rw [Heap.size_push]; exact Nat.ne_of_lt (Nat.lt_succ_of_lt hb0)
          exact hm.heap b o (by simp only [List.mem_cons, List.mem_singleton, List.not_mem_nil, or_false, not_or]; exact ⟨hb1, hb2⟩) (Heap.get?_push_of_some _ (Heap.get?_push_of_some _ e))

      · cases r₂ with
        | error e => exact hr₂
        | ok fl₂ =>
          cases fl₂ with
          | ret r =>
            obtain ⟨rfl, h', tk, c', rfl, hS', hc', hk'⟩ := hr₂
            repeat (any_goals (first | assumption | wp_step))
            exact h _ _ _ hS' hc' hk'
          | _ => exact hr₂.elim
    | _ => exact hr.elim
end
end L2
namespace L2
open PySem PySem.Spec PyProof.Rows
section
variable {X : Cx}
def tSortSet (K : PySem.W.Frag) (ta : TE) : TE := fun σ H Q => ta σ H fun x H1 => ∃ (l : Addr) (ns : List Int), x = V.ref l ∧ SqL K H1 l (ns.map V.int) ∧ ns.length < 60 ∧ ∀ out : List Int, out.Pairwise (· < ·) → (∀ k, k ∈ out ↔ k ∈ ns) → ∀ q, H1 q = none → Q (.ref q) (upd H1 q (.lst (out.map V.int)))
theorem pe_sortSet {a : Expr} {ta : TE} {p p2 q pos : Pos} (hc : X.calm = true) (hg : Gl X "sorted") (hm : X.mg "sorted" = none) (hg2 : Gl X "set") (hm2 : X.mg "set" = none) (ha : PE X a ta)
    (na : starEach [a] X.env = (false, eval a X.env) :: starEach [] X.env := by rfl) : PE X (.Call (.Name "sorted" p) [.Call (.Name "set" p2) [a] [] q] [] pos) (tSortSet X.K ta) := by
  refine ⟨fun pins s σ H Q I h => ?_⟩
  refine Call_ (ld_blt I hg hm PyProof.Rows.boot_sorted ?_)
  refine PyProof.Rows.callWith_builtin1 (PyProof.Rows.args_cons ?_ rfl) rfl rfl
  refine Call_ (ld_blt I hg2 hm2 PyProof.Rows.boot_set ?_)
  refine PyProof.Rows.callWith_type1 (PyProof.Rows.args_cons (thn (ha.run pins s σ H _ I h) fun v s1 ⟨x, H1, I1, r1, q1⟩ => PyProof.Rows.args_nil ?_) na) na rfl
  obtain ⟨l, ns, rfl, hq, h1, q1⟩ := q1
  cases r1
  obtain ⟨its, r, pl, hz⟩ := I1.list hq
  have hd := I1.ok.hd hc
  refine call_set_listR ns hd pl.isList (by simpa using ints_of_vals r) (by unfold scanBound; omega) fun h' tk c R1 hcn k => ?_
  refine PyProof.Rows.args_nil ?_
  have I2 : Inv X pins σ H1 { s1 with heap := h', toks := tk } := I1.kept k
  refine sorted_set (s := { s1 with heap := h', toks := tk }) R1 hd (by omega) fun s' p out c2 ms k2 g2 o2 hp hg hi hs hmm hl => ?_
  have hlen : (ms.map V.int).length ≤ sizeLine := by rw [List.length_map, hl, sizeLine_eq]; omega
  have hp' : s1.heap.objs.size ≤ p := Nat.le_trans (by
    obtain ⟨_, _, _, _, ho, _⟩ := R1
    exact Nat.le_of_lt (Heap.lt_size ho)) hp
  have hnn : H1 p = none := I1.hok.fresh hp'
  have J : Inv X pins σ (upd H1 p (.lst (ms.map V.int))) { s1 with heap := s'.heap, gens := s'.gens, drawn := s'.drawn, toks := s'.toks } :=
    I1.call (ch := []) (Un.laid (fun b o e => k2 b o (k b o e)) hp' hnn) (I1.hok.laid (fun b o e => k2 b o (k b o e)) hp' ⟨hlen, out.toList, c2, vals_of_ints hi, hg⟩) (by rw [g2]; exact I1.bare) (fun _ z => nomatch z)
  have e : s' = { s1 with heap := s'.heap, gens := s'.gens, drawn := s'.drawn, toks := s'.toks } := by
    cases s'
    cases s1
    cases o2
    rfl
  rw [e]
  exact ⟨.ref p, _, J, rfl, q1 ms hs (fun k => by rw [hmm k, decide_eq_true_eq]) p hnn⟩
end
end L2
namespace Orn
open PySem PySem.Spec L2
/-- put into a list that grows, once -/
def insN (a : Int) : List Int → List Int
  | [] => [a]
  | b :: l => if a < b then a :: b :: l else if a = b then b :: l else b :: insN a l
def sortN (l : List Int) : List Int := l.foldr insN []
theorem insN_mem {a x : Int} : ∀ {l : List Int}, x ∈ insN a l ↔ x = a ∨ x ∈ l
  | [] => by simp [insN]
  | b :: l => by
    unfold insN
    by_cases h1 : a < b
    · rw [if_pos h1]; simp
    · rw [if_neg h1]
      by_cases h2 : a = b
      · rw [if_pos h2]; subst h2; simp
      · rw [if_neg h2, List.mem_cons, insN_mem, List.mem_cons]
        constructor
        · rintro (h | h | h)
          · exact .inr (.inl h)
          · exact .inl h
          · exact .inr (.inr h)
        · rintro (h | h | h)
          · exact .inr (.inl h)
          · exact .inl h
          · exact .inr (.inr h)
theorem insN_sorted {a : Int} : ∀ {l : List Int}, l.Pairwise (· < ·) → (insN a l).Pairwise (· < ·)
  | [], _ => List.pairwise_singleton ..
  | b :: l, h => by
    obtain ⟨h1, h2⟩ := List.pairwise_cons.mp h
    unfold insN
    by_cases c1 : a < b
    · rw [if_pos c1]
      refine List.pairwise_cons.mpr ⟨fun y hy => ?_, h⟩
      rcases List.mem_cons.mp hy with e | e
      · rw [e]; exact c1
      · exact Int.lt_trans c1 (h1 y e)
    · rw [if_neg c1]
      by_cases c2 : a = b
      · rw [if_pos c2]; exact h
      · rw [if_neg c2]
        refine List.pairwise_cons.mpr ⟨fun y hy => ?_, insN_sorted h2⟩
        rcases insN_mem.mp hy with e | e
        · omega
        · exact h1 y e
theorem sortN_mem {x : Int} : ∀ {l : List Int}, x ∈ sortN l ↔ x ∈ l
  | [] => by simp [sortN]
  | b :: l => by
    show x ∈ insN b (sortN l) ↔ _
    rw [insN_mem, sortN_mem, List.mem_cons]
theorem sortN_sorted : ∀ {l : List Int}, (sortN l).Pairwise (· < ·)
  | [] => List.Pairwise.nil
  | b :: l => insN_sorted (sortN_sorted (l := l))
theorem incr_eq : ∀ {a b : List Int}, a.Pairwise (· < ·) → b.Pairwise (· < ·) → (∀ k, k ∈ a ↔ k ∈ b) → a = b
  | [], [], _, _, _ => rfl
  | [], y :: b, _, _, h => absurd ((h y).mpr List.mem_cons_self) (by simp)
  | x :: a, [], _, _, h => absurd ((h x).mp List.mem_cons_self) (by simp)
  | x :: a, y :: b, ha, hb, h => by
    obtain ⟨a1, a2⟩ := List.pairwise_cons.mp ha
    obtain ⟨b1, b2⟩ := List.pairwise_cons.mp hb
    have e : x = y := by
      rcases List.mem_cons.mp ((h x).mp List.mem_cons_self) with e | e
      · exact e
      · rcases List.mem_cons.mp ((h y).mpr List.mem_cons_self) with e' | e'
        · exact e'.symm
        · have := b1 x e
          have := a1 y e'
          omega
    subst e
    rw [incr_eq a2 b2 fun k => ?_]
    have hk := h k
    rw [List.mem_cons, List.mem_cons] at hk
    constructor
    · intro m
      rcases hk.mp (.inr m) with e | e
      · subst e; have := a1 k m; omega
      · exact e
    · intro m
      rcases hk.mpr (.inr m) with e | e
      · subst e; have := b1 k m; omega
      · exact e
def sSortSet (f : ED) : ES := fun env k => f env fun d => match d with
  | .list ds => match Nat.blt ds.length 60 with
    | true => asInts ds fun ns => k (.ow ((sortN ns).map PyData.int))
    | false => false
  | _ => false
section
variable {X : Cx} {a : Expr} {p p2 q pos : Pos} {f : ED}
theorem ss_sortSet (hc : X.calm = true) (hg : Gl X "sorted") (hm : X.mg "sorted" = none) (hg2 : Gl X "set") (hm2 : X.mg "set" = none) (ha : PE X a (tV X.K f))
    (na : starEach [a] X.env = (false, eval a X.env) :: starEach [] X.env := by exact rfl) : PE X (.Call (.Name "sorted" p) [.Call (.Name "set" p2) [a] [] q] [] pos) (tS X.K (sSortSet f)) := by
  refine PEc (pe_sortSet hc hg hm hg2 hm2 ha na) fun σ H Q q => ?_
  obtain ⟨F, H0, env, k, R, hf, hq⟩ := q
  refine ⟨F, H0, env, _, R, hf, fun v d H1 G1 hk R1 w1 g1 => ?_⟩
  cases d <;> first | (cases hk; done) | skip
  rename_i ds
  cases hb : Nat.blt ds.length 60 with
  | false => simp only [hb] at hk; cases hk
  | true =>
    simp only [hb] at hk
    obtain ⟨ns, rfl, hk⟩ := asInts_eq hk
    obtain ⟨p, vs, rfl, hp, r⟩ := w1.lst R1
    try rw [asInts_map] at hk
    cases r.ints
    have hl : ns.length < 60 := by
      have := Nat.le_of_ble_eq_true (show Nat.ble ((ns.map PyData.int).length + 1) 60 = true from hb)
      rw [List.length_map] at this
      exact this
    refine ⟨p, ns, rfl, SqL.of hp, hl, fun out h1 h2 => ?_⟩
    have e : out = sortN ns := incr_eq h1 sortN_sorted fun k => by rw [h2 k, sortN_mem]
    subst e
    exact new_lst R1 (fun v s H2 G2 h2 R2 v2 n2 g2 => hq v s H2 G2 h2 R2 v2 (NewS.back g1 R1 n2) (g1.trans g2)) (RpL.of_ints _) hk
end
instance (f : ED) [MX f] : MX (sSortSet f) := ⟨fun e1 e2 k1 k2 h hk hf => MX.mono (f := f) e1 e2 _ _ h (fun s q => by
  cases s <;> first | (cases q; done) | skip
  rename_i ds
  cases hb : Nat.blt ds.length 60 with
  | false => simp only [hb] at q; cases q
  | true =>
    simp only [hb] at q ⊢
    exact asInts_mono ds _ _ (fun x q => hk _ q) q) hf⟩
section
variable {e : List S} {kS : S → Bool} {f : ED}
@[simp ↓] theorem q_sortSet {f : ED} : sSortSet f e kS = f e fun d => match d with
  | .list ds => cond (Nat.blt ds.length 60) (asInts ds fun ns => kS (.ow ((sortN ns).map PyData.int))) false
  | _ => false := rfl
end
end Orn

set_option Elab.async false
set_option synthInstance.maxHeartbeats 0
set_option synthInstance.maxSize 100000
set_option linter.all false
set_option maxRecDepth 100000
set_option maxHeartbeats 4000000
/-! The defs of the text as plain functions (printed by gen.py). -/
namespace Law
open PySem Orn
@[reducible] def fuel : Nat := 1000000
/- sublattices(n) slots 0:n 1:a 2:b -/
def b_sublattices : ST := (pRet (sLc2 [1, 2] [2] (iRange2 (wCons (dC (.int 1)) (wCons (dOp gAdd (vN 0) (dC (.int 1))) wNil))) 1 (bC (dOp gEq (dOp gMod (vN 0) (vN 1)) (dC (.int 0)))) (iRange1 (wCons (vN 1) wNil)) (gN 2) bYes (dTup (dCons (dN 1) (dCons (dN 2) (dCons (dOp gDiv (vN 0) (vN 1)) dNil))))))
def m_sublattices : FN := mkFn 3 b_sublattices
instance : MC m_sublattices := by unfold m_sublattices b_sublattices; infer_instance
/- is_of(steps, x, y) slots 0:steps 1:x 2:y 3:a 4:b 5:c -/
def b_is_of : ST := (pSeq (pAsg (dN 0) (gTp 3 (gsCons (gN 3) (gsCons (gN 4) (gsCons (gN 5) gsNil)))))
  (pRet (toS (dAnd (dOp gEq (dOp gMod (vN 2) (vN 5)) (dC (.int 0))) (dOp gEq (dOp gMod (dOp gSubI (vN 1) (dOp gMul (dOp gDiv (vN 2) (vN 5)) (vN 4))) (vN 3)) (dC (.int 0)))))))
def m_is_of : FN := mkFn 6 b_is_of
instance : MC m_is_of := by unfold m_is_of b_is_of; infer_instance
/- keeps_steps(linear, steps) slots 0:linear 1:steps 2:p 3:q 4:r 5:s 6:a 7:b 8:c -/
def b_keeps_steps : ST := (pSeq (pAsg (dN 0) (gTp 2 (gsCons (gTp 2 (gsCons (gN 2) (gsCons (gN 3) gsNil))) (gsCons (gTp 2 (gsCons (gN 4) (gsCons (gN 5) gsNil))) gsNil))))
  (pSeq (pAsg (dN 1) (gTp 3 (gsCons (gN 6) (gsCons (gN 7) (gsCons (gN 8) gsNil)))))
  (pRet (toS (dAnd (toD (sFn m_is_of (aCons (sN 1) (aCons (toS (dOp gMul (vN 2) (vN 6))) (aCons (toS (dOp gMul (vN 4) (vN 6))) aNil))))) (toD (sFn m_is_of (aCons (sN 1) (aCons (toS (dOp gAdd (dOp gMul (vN 2) (vN 7)) (dOp gMul (vN 3) (vN 8)))) (aCons (toS (dOp gAdd (dOp gMul (vN 4) (vN 7)) (dOp gMul (vN 5) (vN 8)))) aNil))))))))))
def m_keeps_steps : FN := mkFn 9 b_keeps_steps
instance : MC m_keeps_steps := by unfold m_keeps_steps b_keeps_steps; infer_instance
/- count_kept(linear, n) slots 0:linear 1:n 2:steps -/
def b_count_kept : ST := (pRet (toS (dCall gLen (wCons (toD (sLc [2] (iSeq (toD (sFn m_sublattices (aCons (sN 1) aNil)))) (gN 2) (bV (toD (sFn m_keeps_steps (aCons (sN 0) (aCons (sN 2) aNil))))) (dN 2))) wNil))))
def m_count_kept : FN := mkFn 3 b_count_kept
instance : MC m_count_kept := by unfold m_count_kept b_count_kept; infer_instance
/- root_below(n) slots 0:n 1:told -/
def b_root_below : ST := (pSeq (pSet 1 (toS (dC (.int 0))))
  (pSeq (pWhile (bC (dOp gLe (dOp gMul (dOp gAdd (vN 1) (dC (.int 1))) (dOp gAdd (vN 1) (dC (.int 1)))) (vN 0)))
  (pAug 1 gAugAdd (dC (.int 1))) fuel)
  (pRet (sN 1))))
def m_root_below : FN := mkFn 2 b_root_below
instance : MC m_root_below := by unfold m_root_below b_root_below; infer_instance
/- count_square_ways(n) slots 0:n 1:top 2:told 3:x 4:y -/
def b_count_square_ways : ST := (pSeq (pSet 1 (toS (toD (sFn m_root_below (aCons (sN 0) aNil)))))
  (pSeq (pSet 2 (toS (dC (.int 0))))
  (pSeq (pFor (iRange2 (wCons (dUn gNeg (vN 1)) (wCons (dOp gAdd (vN 1) (dC (.int 1))) wNil))) (gN 3)
  (pSeq (pSet 4 (toS (toD (sFn m_root_below (aCons (toS (dOp gSubI (vN 0) (dOp gMul (vN 3) (vN 3)))) aNil)))))
  (pIf (bC (dOp gEq (dOp gMul (vN 4) (vN 4)) (dOp gSubI (vN 0) (dOp gMul (vN 3) (vN 3)))))
  (pAug 2 gAugAdd (dIf (bC (dOp gEq (vN 4) (dC (.int 0)))) (dC (.int 1)) (dC (.int 2))))
  pNil)))
  (pRet (sN 2)))))
def m_count_square_ways : FN := mkFn 5 b_count_square_ways
instance : MC m_count_square_ways := by unfold m_count_square_ways b_count_square_ways; infer_instance
/- count_hex_ways(n) slots 0:n 1:top 2:told 3:x 4:rest 5:root 6:twice -/
def b_count_hex_ways : ST := (pSeq (pSet 1 (toS (toD (sFn m_root_below (aCons (toS (dOp gDiv (dOp gMul (dC (.int 4)) (vN 0)) (dC (.int 3)))) aNil)))))
  (pSeq (pSet 2 (toS (dC (.int 0))))
  (pSeq (pFor (iRange2 (wCons (dUn gNeg (vN 1)) (wCons (dOp gAdd (vN 1) (dC (.int 1))) wNil))) (gN 3)
  (pSeq (pSet 4 (toS (dOp gSubI (dOp gMul (dC (.int 4)) (vN 0)) (dOp gMul (dOp gMul (dC (.int 3)) (vN 3)) (vN 3)))))
  (pSeq (pSet 5 (toS (dIf (bC (dOp gGe (vN 4) (dC (.int 0)))) (toD (sFn m_root_below (aCons (sN 4) aNil))) (dC (.int (-1))))))
  (pIf (bAnd (bC (dOp gGe (vN 5) (dC (.int 0)))) (bC (dOp gEq (dOp gMul (vN 5) (vN 5)) (vN 4))))
  (pFor (iSeq (toD (sSortSet (toD (sLst (dCons (dOp gSubI (vN 5) (vN 3)) (dCons (dOp gSubI (dUn gNeg (vN 5)) (vN 3)) dNil))))))) (gN 6)
  (pAug 2 gAugAdd (dIf (bC (dOp gEq (dOp gMod (vN 6) (dC (.int 2))) (dC (.int 0)))) (dC (.int 1)) (dC (.int 0)))))
  pNil))))
  (pRet (sN 2)))))
def m_count_hex_ways : FN := mkFn 7 b_count_hex_ways
instance : MC m_count_hex_ways := by unfold m_count_hex_ways b_count_hex_ways; infer_instance
abbrev m__law_draw : FN := mDraw
/- _law_pick(state, row) slots 0:state 1:row -/
def b__law_pick : ST := (pRet (toS (dOp gIx (vN 1) (toD (sFn m__law_draw (aCons (sN 0) (aCons (toS (dCall gLen (wCons (vN 1) wNil))) aNil)))))))
def m__law_pick : FN := mkFn 2 b__law_pick
instance : MC m__law_pick := by unfold m__law_pick b__law_pick; infer_instance
/- _law_eq(told, due) slots 0:told 1:due 2:k -/
abbrev m__law_eq : FN := q__law_eq 8
/- _law_of(steps, x, y) slots 0:steps 1:x 2:y 3:a 4:b 5:c -/
def b__law_of : ST := (pSeq (pAsg (dN 0) (gTp 3 (gsCons (gN 3) (gsCons (gN 4) (gsCons (gN 5) gsNil)))))
  (pRet (toS (dAnd (dOp gEq (dOp gMod (dCall gInt (wCons (vN 2) wNil)) (vN 5)) (dC (.int 0))) (dOp gEq (dOp gMod (dCall gInt (wCons (dOp gSubI (vN 1) (dOp gMul (dOp gDiv (vN 2) (vN 5)) (vN 4))) wNil)) (vN 3)) (dC (.int 0)))))))
def m__law_of : FN := mkFn 6 b__law_of
instance : MC m__law_of := by unfold m__law_of b__law_of; infer_instance
/- _law_keeps(linear, steps) slots 0:linear 1:steps 2:p 3:q 4:r 5:s 6:a 7:b 8:c -/
def b__law_keeps : ST := (pSeq (pAsg (dN 0) (gTp 2 (gsCons (gTp 2 (gsCons (gN 2) (gsCons (gN 3) gsNil))) (gsCons (gTp 2 (gsCons (gN 4) (gsCons (gN 5) gsNil))) gsNil))))
  (pSeq (pAsg (dN 1) (gTp 3 (gsCons (gN 6) (gsCons (gN 7) (gsCons (gN 8) gsNil)))))
  (pRet (toS (dAnd (toD (sFn m__law_of (aCons (sN 1) (aCons (toS (dOp gMul (vN 2) (vN 6))) (aCons (toS (dOp gMul (vN 4) (vN 6))) aNil))))) (toD (sFn m__law_of (aCons (sN 1) (aCons (toS (dOp gAdd (dOp gMul (vN 2) (vN 7)) (dOp gMul (vN 3) (vN 8)))) (aCons (toS (dOp gAdd (dOp gMul (vN 4) (vN 7)) (dOp gMul (vN 5) (vN 8)))) aNil))))))))))
def m__law_keeps : FN := mkFn 9 b__law_keeps
instance : MC m__law_keeps := by unfold m__law_keeps b__law_keeps; infer_instance
/- _law_rows(one, other, n) slots 0:one 1:other 2:n 3:told 4:steps 5:row 6:x 7:y -/
def b__law_rows : ST := (pSeq (pSet 3 (sLst dNil))
  (pSeq (pFor (iSeq (toD (sLst (dCons (dN 0) (dCons (dN 1) dNil))))) (gN 4)
  (pSeq (pSet 5 (toS (toD (sLst dNil))))
  (pSeq (pFor (iRange1 (wCons (vN 2) wNil)) (gN 6)
  (pSet 5 (toS (toD (sOp gCat (vN 5) (toD (sLc [7] (iRange1 (wCons (vN 2) wNil)) (gN 7) (bV (toD (sFn m__law_of (aCons (sN 4) (aCons (sN 6) (aCons (sN 7) aNil)))))) (dTup (dCons (dN 6) (dCons (dN 7) dNil))))))))))
  (pApp 3 (dN 5)))))
  (pRet (sTake 3))))
def m__law_rows : FN := mkFn 8 b__law_rows
instance : MC m__law_rows := by unfold m__law_rows b__law_rows; infer_instance
/- law(script) slots 0:script 1:state 2:n 3:due 4:a 5:linear 6:kept 7:steps 8:i 9:j 10:pairs 11:squares 12:hexes 13:x 14:y 15:m 16:b 17:d -/
def b_law : ST := (pSeq (pSet 2 (toS (dOp gAdd (dC (.int 1)) (toD (sFn m__law_draw (aCons (sN 1) (aCons (toS (dC (.int 60))) aNil)))))))
  (pSeq (pSet 3 (toS (toD (sLst dNil))))
  (pSeq (pFor (iRange2 (wCons (dC (.int 1)) (wCons (dOp gAdd (vN 2) (dC (.int 1))) wNil))) (gN 4)
  (pIf (bC (dOp gEq (dOp gMod (dCall gInt (wCons (vN 2) wNil)) (vN 4)) (dC (.int 0))))
  (pSet 3 (toS (toD (sOp gCat (vN 3) (toD (sLc [16] (iRange1 (wCons (vN 4) wNil)) (gN 16) bYes (dTup (dCons (dN 4) (dCons (dN 16) (dCons (dOp gDiv (vN 2) (vN 4)) dNil))))))))))
  pNil))
  (pSeq (pIf (bOr (bNot (bV (toD (sFn m__law_eq (aCons (aFz (sFn m_sublattices (aCons (sN 2) aNil))) (aCons (sN 3) aNil)))))) (bC (dOp gNe (dCall gLen (wCons (vN 3) wNil)) (dCall gSum (wCons (toD (sLc [17] (iRange2 (wCons (dC (.int 1)) (wCons (dOp gAdd (vN 2) (dC (.int 1))) wNil))) (gN 17) (bC (dOp gEq (dOp gMod (dCall gInt (wCons (vN 2) wNil)) (vN 17)) (dC (.int 0)))) (dN 17))) wNil)))))
  (pRet (toS (dC (.bool false))))
  pNil)
  (pSeq (pSet 5 (toS (toD (sFn m__law_pick (aCons (sN 1) (aCons (aFz (sLst (dCons (dTup (dCons (dTup (dCons (dC (.int 1)) (dCons (dC (.int 0)) dNil))) (dCons (dTup (dCons (dC (.int 0)) (dCons (dC (.int 1)) dNil))) dNil))) (dCons (dTup (dCons (dTup (dCons (dC (.int (-1))) (dCons (dC (.int 0)) dNil))) (dCons (dTup (dCons (dC (.int 0)) (dCons (dC (.int (-1))) dNil))) dNil))) (dCons (dTup (dCons (dTup (dCons (dC (.int 0)) (dCons (dC (.int (-1))) dNil))) (dCons (dTup (dCons (dC (.int 1)) (dCons (dC (.int 0)) dNil))) dNil))) (dCons (dTup (dCons (dTup (dCons (dC (.int 0)) (dCons (dC (.int (-1))) dNil))) (dCons (dTup (dCons (dC (.int 1)) (dCons (dC (.int (-1))) dNil))) dNil))) (dCons (dTup (dCons (dTup (dCons (dC (.int 1)) (dCons (dC (.int (-1))) dNil))) (dCons (dTup (dCons (dC (.int 1)) (dCons (dC (.int 0)) dNil))) dNil))) (dCons (dTup (dCons (dTup (dCons (dC (.int 1)) (dCons (dC (.int 0)) dNil))) (dCons (dTup (dCons (dC (.int 0)) (dCons (dC (.int (-1))) dNil))) dNil))) (dCons (dTup (dCons (dTup (dCons (dC (.int 0)) (dCons (dC (.int 1)) dNil))) (dCons (dTup (dCons (dC (.int 1)) (dCons (dC (.int 0)) dNil))) dNil))) (dCons (dTup (dCons (dTup (dCons (dC (.int 0)) (dCons (dC (.int (-1))) dNil))) (dCons (dTup (dCons (dC (.int (-1))) (dCons (dC (.int 0)) dNil))) dNil))) dNil)))))))))) aNil))))))
  (pSeq (pSetF 6 (sLc [7] (iSeq (dN 3)) (gN 7) (bV (toD (sFn m__law_keeps (aCons (sN 5) (aCons (sN 7) aNil))))) (dN 7)))
  (pSeq (pSet 7 (toS (toD (sFn m__law_pick (aCons (sN 1) (aCons (sN 3) aNil))))))
  (pSeq (pIf (bOr (bNot (bV (toD (sFn m__law_eq (aCons (aFz (sFn m_count_kept (aCons (sN 5) (aCons (sN 2) aNil)))) (aCons (toS (dCall gLen (wCons (vN 6) wNil))) aNil)))))) (bNot (bV (toD (sFn m__law_eq (aCons (aFz (sFn m_keeps_steps (aCons (sN 5) (aCons (sN 7) aNil)))) (aCons (toS (dOp gIn (vN 7) (vN 6))) aNil)))))))
  (pRet (toS (dC (.bool false))))
  pNil)
  (pSeq (pPar 8 9 (dCons (toD (sFn m__law_draw (aCons (sN 1) (aCons (toS (dCall gLen (wCons (vN 3) wNil))) aNil)))) (dCons (toD (sFn m__law_draw (aCons (sN 1) (aCons (toS (dCall gLen (wCons (vN 3) wNil))) aNil)))) dNil)))
  (pSeq (pIf (bAnd (bC (dOp gLt (vN 2) (dC (.int 13)))) (bC (dOp gNe (vN 8) (vN 9))))
  (pSeq (pSet 10 (toS (toD (sFn m__law_rows (aCons (toS (dOp gIx (vN 3) (vN 8))) (aCons (toS (dOp gIx (vN 3) (vN 9))) (aCons (sN 2) aNil)))))))
  (pIf (bC (dOp gEq (dOp gIx (vN 10) (dC (.int 0))) (dOp gIx (vN 10) (dC (.int 1)))))
  (pRet (toS (dC (.bool false))))
  pNil))
  pNil)
  (pSeq (pAsg (dTup (dCons (dC (.int 0)) (dCons (dC (.int 0)) dNil))) (gTp 2 (gsCons (gN 11) (gsCons (gN 12) gsNil))))
  (pSeq (pFor (iRange2 (wCons (dC (.int (-8))) (wCons (dC (.int 9)) wNil))) (gN 13)
  (pFor (iRange2 (wCons (dC (.int (-8))) (wCons (dC (.int 9)) wNil))) (gN 14)
  (pSet 11 (toS (dOp gAdd (vN 11) (dCall gInt (wCons (dOp gEq (dOp gAdd (dOp gMul (vN 13) (vN 13)) (dOp gMul (vN 14) (vN 14))) (vN 2)) wNil)))))))
  (pSeq (pFor (iRange2 (wCons (dC (.int (-10))) (wCons (dC (.int 11)) wNil))) (gN 13)
  (pFor (iRange2 (wCons (dC (.int (-10))) (wCons (dC (.int 11)) wNil))) (gN 14)
  (pSet 12 (toS (dOp gAdd (vN 12) (dCall gInt (wCons (dOp gEq (dOp gAdd (dOp gAdd (dOp gMul (vN 13) (vN 13)) (dOp gMul (vN 13) (vN 14))) (dOp gMul (vN 14) (vN 14))) (vN 2)) wNil)))))))
  (pSeq (pIf (bOr (bNot (bV (toD (sFn m__law_eq (aCons (aFz (sFn m_count_square_ways (aCons (sN 2) aNil))) (aCons (sN 11) aNil)))))) (bNot (bV (toD (sFn m__law_eq (aCons (aFz (sFn m_count_hex_ways (aCons (sN 2) aNil))) (aCons (sN 12) aNil)))))))
  (pRet (toS (dC (.bool false))))
  pNil)
  (pSeq (pIf (bOr (bC (dOp gNe (dOp gMul (dC (.int 4)) (toD (sFn m_count_kept (aCons (toS (dTup (dCons (dTup (dCons (dC (.int 0)) (dCons (dC (.int (-1))) dNil))) (dCons (dTup (dCons (dC (.int 1)) (dCons (dC (.int 0)) dNil))) dNil)))) (aCons (sN 2) aNil))))) (vN 11))) (bC (dOp gNe (dOp gMul (dC (.int 6)) (toD (sFn m_count_kept (aCons (toS (dTup (dCons (dTup (dCons (dC (.int 0)) (dCons (dC (.int (-1))) dNil))) (dCons (dTup (dCons (dC (.int 1)) (dCons (dC (.int (-1))) dNil))) dNil)))) (aCons (sN 2) aNil))))) (vN 12))))
  (pRet (toS (dC (.bool false))))
  pNil)
  (pSeq (pSet 15 (toS (dOp gAdd (dC (.int 1)) (toD (sFn m__law_draw (aCons (sN 1) (aCons (toS (dC (.int 30))) aNil)))))))
  (pSeq (pIf (bAnd (bC (dOp gEq (dCall gLen (wCons (toD (sLc [17] (iRange2 (wCons (dC (.int 2)) (wCons (dOp gAdd (dCall gMin2 (wCons (vN 2) (wCons (vN 15) wNil))) (dC (.int 1))) wNil))) (gN 17) (bAnd (bC (dOp gEq (dOp gMod (dCall gInt (wCons (vN 2) wNil)) (vN 17)) (dC (.int 0)))) (bC (dOp gEq (dOp gMod (dCall gInt (wCons (vN 15) wNil)) (vN 17)) (dC (.int 0))))) (dN 17))) wNil)) (dC (.int 0)))) (bC (dOp gLt (dOp gMul (vN 2) (vN 15)) (dC (.int 400)))))
  (pRet (toS (dOp gEq (toD (sFn m_count_kept (aCons (sN 5) (aCons (toS (dOp gMul (vN 2) (vN 15))) aNil)))) (dOp gMul (toD (sFn m_count_kept (aCons (sN 5) (aCons (sN 2) aNil)))) (toD (sFn m_count_kept (aCons (sN 5) (aCons (sN 15) aNil))))))))
  pNil)
  (pRet (toS (dC (.bool true)))))))))))))))))))))
def lawB : Bool := lawM 18 b_law
end Law

set_option Elab.async false
set_option linter.all false
set_option maxRecDepth 100000
set_option maxHeartbeats 4000000

namespace Law
open PySem Orn
def l_0 : ST := (pSet 2 (toS (dOp gAdd (dC (.int 1)) (toD (sFn m__law_draw (aCons (sN 1) (aCons (toS (dC (.int 60))) aNil)))))))
def l_1 : ST := (pSet 3 (toS (toD (sLst dNil))))
def l_2_0 : ST := (pIf (bC (dOp gEq (dOp gMod (dCall gInt (wCons (vN 2) wNil)) (vN 4)) (dC (.int 0)))) (pSet 3 (toS (toD (sOp gCat (vN 3) (toD (sLc [16] (iRange1 (wCons (vN 4) wNil)) (gN 16) bYes (dTup (dCons (dN 4) (dCons (dN 16) (dCons (dOp gDiv (vN 2) (vN 4)) dNil)))))))))) pNil)
def r_2_0 : ST := l_2_0
def body_2 : ST := r_2_0
def l_2 : ST := (pFor (iRange2 (wCons (dC (.int 1)) (wCons (dOp gAdd (vN 2) (dC (.int 1))) wNil))) (gN 4) body_2)
def l_3 : ST := (pIf (bOr (bNot (bV (toD (sFn m__law_eq (aCons (aFz (sFn m_sublattices (aCons (sN 2) aNil))) (aCons (sN 3) aNil)))))) (bC (dOp gNe (dCall gLen (wCons (vN 3) wNil)) (dCall gSum (wCons (toD (sLc [17] (iRange2 (wCons (dC (.int 1)) (wCons (dOp gAdd (vN 2) (dC (.int 1))) wNil))) (gN 17) (bC (dOp gEq (dOp gMod (dCall gInt (wCons (vN 2) wNil)) (vN 17)) (dC (.int 0)))) (dN 17))) wNil))))) (pRet (toS (dC (.bool false)))) pNil)
def l_4 : ST := (pSet 5 (toS (toD (sFn m__law_pick (aCons (sN 1) (aCons (aFz (sLst (dCons (dTup (dCons (dTup (dCons (dC (.int 1)) (dCons (dC (.int 0)) dNil))) (dCons (dTup (dCons (dC (.int 0)) (dCons (dC (.int 1)) dNil))) dNil))) (dCons (dTup (dCons (dTup (dCons (dC (.int (-1))) (dCons (dC (.int 0)) dNil))) (dCons (dTup (dCons (dC (.int 0)) (dCons (dC (.int (-1))) dNil))) dNil))) (dCons (dTup (dCons (dTup (dCons (dC (.int 0)) (dCons (dC (.int (-1))) dNil))) (dCons (dTup (dCons (dC (.int 1)) (dCons (dC (.int 0)) dNil))) dNil))) (dCons (dTup (dCons (dTup (dCons (dC (.int 0)) (dCons (dC (.int (-1))) dNil))) (dCons (dTup (dCons (dC (.int 1)) (dCons (dC (.int (-1))) dNil))) dNil))) (dCons (dTup (dCons (dTup (dCons (dC (.int 1)) (dCons (dC (.int (-1))) dNil))) (dCons (dTup (dCons (dC (.int 1)) (dCons (dC (.int 0)) dNil))) dNil))) (dCons (dTup (dCons (dTup (dCons (dC (.int 1)) (dCons (dC (.int 0)) dNil))) (dCons (dTup (dCons (dC (.int 0)) (dCons (dC (.int (-1))) dNil))) dNil))) (dCons (dTup (dCons (dTup (dCons (dC (.int 0)) (dCons (dC (.int 1)) dNil))) (dCons (dTup (dCons (dC (.int 1)) (dCons (dC (.int 0)) dNil))) dNil))) (dCons (dTup (dCons (dTup (dCons (dC (.int 0)) (dCons (dC (.int (-1))) dNil))) (dCons (dTup (dCons (dC (.int (-1))) (dCons (dC (.int 0)) dNil))) dNil))) dNil)))))))))) aNil))))))
def l_5 : ST := (pSetF 6 (sLc [7] (iSeq (dN 3)) (gN 7) (bV (toD (sFn m__law_keeps (aCons (sN 5) (aCons (sN 7) aNil))))) (dN 7)))
def l_6 : ST := (pSet 7 (toS (toD (sFn m__law_pick (aCons (sN 1) (aCons (sN 3) aNil))))))
def l_7 : ST := (pIf (bOr (bNot (bV (toD (sFn m__law_eq (aCons (aFz (sFn m_count_kept (aCons (sN 5) (aCons (sN 2) aNil)))) (aCons (toS (dCall gLen (wCons (vN 6) wNil))) aNil)))))) (bNot (bV (toD (sFn m__law_eq (aCons (aFz (sFn m_keeps_steps (aCons (sN 5) (aCons (sN 7) aNil)))) (aCons (toS (dOp gIn (vN 7) (vN 6))) aNil))))))) (pRet (toS (dC (.bool false)))) pNil)
def l_8 : ST := (pPar 8 9 (dCons (toD (sFn m__law_draw (aCons (sN 1) (aCons (toS (dCall gLen (wCons (vN 3) wNil))) aNil)))) (dCons (toD (sFn m__law_draw (aCons (sN 1) (aCons (toS (dCall gLen (wCons (vN 3) wNil))) aNil)))) dNil)))
def l_9 : ST := (pIf (bAnd (bC (dOp gLt (vN 2) (dC (.int 13)))) (bC (dOp gNe (vN 8) (vN 9)))) (pSeq (pSet 10 (toS (toD (sFn m__law_rows (aCons (toS (dOp gIx (vN 3) (vN 8))) (aCons (toS (dOp gIx (vN 3) (vN 9))) (aCons (sN 2) aNil))))))) (pIf (bC (dOp gEq (dOp gIx (vN 10) (dC (.int 0))) (dOp gIx (vN 10) (dC (.int 1))))) (pRet (toS (dC (.bool false)))) pNil)) pNil)
def l_10 : ST := (pAsg (dTup (dCons (dC (.int 0)) (dCons (dC (.int 0)) dNil))) (gTp 2 (gsCons (gN 11) (gsCons (gN 12) gsNil))))
def l_11_0 : ST := (pFor (iRange2 (wCons (dC (.int (-8))) (wCons (dC (.int 9)) wNil))) (gN 14) (pSet 11 (toS (dOp gAdd (vN 11) (dCall gInt (wCons (dOp gEq (dOp gAdd (dOp gMul (vN 13) (vN 13)) (dOp gMul (vN 14) (vN 14))) (vN 2)) wNil))))))
def r_11_0 : ST := l_11_0
def body_11 : ST := r_11_0
def l_11 : ST := (pFor (iRange2 (wCons (dC (.int (-8))) (wCons (dC (.int 9)) wNil))) (gN 13) body_11)
def l_12_0 : ST := (pFor (iRange2 (wCons (dC (.int (-10))) (wCons (dC (.int 11)) wNil))) (gN 14) (pSet 12 (toS (dOp gAdd (vN 12) (dCall gInt (wCons (dOp gEq (dOp gAdd (dOp gAdd (dOp gMul (vN 13) (vN 13)) (dOp gMul (vN 13) (vN 14))) (dOp gMul (vN 14) (vN 14))) (vN 2)) wNil))))))
def r_12_0 : ST := l_12_0
def body_12 : ST := r_12_0
def l_12 : ST := (pFor (iRange2 (wCons (dC (.int (-10))) (wCons (dC (.int 11)) wNil))) (gN 13) body_12)
def l_13 : ST := (pIf (bOr (bNot (bV (toD (sFn m__law_eq (aCons (aFz (sFn m_count_square_ways (aCons (sN 2) aNil))) (aCons (sN 11) aNil)))))) (bNot (bV (toD (sFn m__law_eq (aCons (aFz (sFn m_count_hex_ways (aCons (sN 2) aNil))) (aCons (sN 12) aNil))))))) (pRet (toS (dC (.bool false)))) pNil)
def l_14 : ST := (pIf (bOr (bC (dOp gNe (dOp gMul (dC (.int 4)) (toD (sFn m_count_kept (aCons (toS (dTup (dCons (dTup (dCons (dC (.int 0)) (dCons (dC (.int (-1))) dNil))) (dCons (dTup (dCons (dC (.int 1)) (dCons (dC (.int 0)) dNil))) dNil)))) (aCons (sN 2) aNil))))) (vN 11))) (bC (dOp gNe (dOp gMul (dC (.int 6)) (toD (sFn m_count_kept (aCons (toS (dTup (dCons (dTup (dCons (dC (.int 0)) (dCons (dC (.int (-1))) dNil))) (dCons (dTup (dCons (dC (.int 1)) (dCons (dC (.int (-1))) dNil))) dNil)))) (aCons (sN 2) aNil))))) (vN 12)))) (pRet (toS (dC (.bool false)))) pNil)
def l_15 : ST := (pSet 15 (toS (dOp gAdd (dC (.int 1)) (toD (sFn m__law_draw (aCons (sN 1) (aCons (toS (dC (.int 30))) aNil)))))))
def l_16 : ST := (pIf (bAnd (bC (dOp gEq (dCall gLen (wCons (toD (sLc [17] (iRange2 (wCons (dC (.int 2)) (wCons (dOp gAdd (dCall gMin2 (wCons (vN 2) (wCons (vN 15) wNil))) (dC (.int 1))) wNil))) (gN 17) (bAnd (bC (dOp gEq (dOp gMod (dCall gInt (wCons (vN 2) wNil)) (vN 17)) (dC (.int 0)))) (bC (dOp gEq (dOp gMod (dCall gInt (wCons (vN 15) wNil)) (vN 17)) (dC (.int 0))))) (dN 17))) wNil)) (dC (.int 0)))) (bC (dOp gLt (dOp gMul (vN 2) (vN 15)) (dC (.int 400))))) (pRet (toS (dOp gEq (toD (sFn m_count_kept (aCons (sN 5) (aCons (toS (dOp gMul (vN 2) (vN 15))) aNil)))) (dOp gMul (toD (sFn m_count_kept (aCons (sN 5) (aCons (sN 2) aNil)))) (toD (sFn m_count_kept (aCons (sN 5) (aCons (sN 15) aNil)))))))) pNil)
def l_17 : ST := (pRet (toS (dC (.bool true))))
theorem law_split : b_law = (pSeq l_0 (pSeq l_1 (pSeq l_2 (pSeq l_3 (pSeq l_4 (pSeq l_5 (pSeq l_6 (pSeq l_7 (pSeq l_8 (pSeq l_9 (pSeq l_10 (pSeq l_11 (pSeq l_12 (pSeq l_13 (pSeq l_14 (pSeq l_15 (pSeq l_16 l_17))))))))))))))))) := rfl
end Law

set_option Elab.async false
set_option linter.all false
set_option maxRecDepth 100000
set_option maxHeartbeats 4000000
set_option synthInstance.maxHeartbeats 0
set_option synthInstance.maxSize 100000
namespace Law
open PySem Orn
section
variable {k : S → Bool}
theorem draw_all {n : Int} (h0 : 0 < n) (h1 : n < 1073741824) (h : ∀ r : Int, 0 ≤ r → r < n → k (.sh (.int r)) = true) : mDraw [.tk, .sh (.int n)] k = true := by
  show (if 0 < n ∧ n < 1073741824 then allN n.toNat fun r => k (.sh (.int r)) else false) = true
  rw [if_pos ⟨h0, h1⟩]
  exact (allN_iff _ _).mpr fun i a b => h i a (by omega)
theorem pick_all {ds : List D} (h0 : 0 < ds.length) (h1 : ds.length < 1000) (h : ∀ d ∈ ds, k (.sh d) = true) : m__law_pick [.tk, .sh (.list ds)] k = true := by
  have l : ∀ k, gLen [.list ds] k = k (.int (ds.length : Int)) := fun k => kInt_eq _ _
  unfold m__law_pick mkFn b__law_pick m__law_draw
  simp -implicitDefEqProofs only [↓q_seq, ↓q_nil, ↓q_ret, ↓q_brk, ↓q_cont, ↓q_if, ↓q_set, ↓q_setF, ↓q_asg, ↓q_par, ↓q_par3, ↓q_expr, ↓q_for, ↓q_vN, ↓q_dN, ↓q_sN, ↓q_take, ↓q_toD, ↓q_toS, ↓q_aFz, ↓q_dC, ↓q_dOp, ↓q_sOp, ↓q_dUn, ↓q_dNil, ↓q_wNil, ↓q_aNil, ↓q_dCons, ↓q_wCons, ↓q_aCons, ↓q_dTup, ↓q_sLst, ↓q_dCall, ↓q_sCall, ↓q_sFn, ↓q_bV, ↓q_bC, ↓q_bAnd, ↓q_bOr, ↓q_bNot, ↓q_dIf, ↓q_sIf, ↓q_dAnd, ↓q_dOr, ↓q_dNot, ↓q_gN, ↓q_gsNil, ↓q_gsCons, ↓q_gTp, ↓q_seqT, ↓q_range1, ↓q_goNil, ↓q_goCons, ↓q_lc, ↓q_lcNil, ↓q_lcCons, ↓q_yes, ↓q_sub, ↓q_add, ↓q_neg, ↓q_lt, ↓q_le, ↓q_gt, ↓q_ge, ↓q_eq, ↓q_ne, ↓q_abs, ↓q_int, ↓q_gcd, ↓q_tupL, ↓q_tupT, ↓q_app, ↓q_is, ↓q_maxL, ↓q_or, ↓q_sum2, ↓q_gtT, ↓q_ltT, ↓q_leT, ↓q_geT, ↓q_rev, ↓q_oNo, ↓q_oSo, ↓q_dSl, ↓q_sRev, ↓q_lc2, ↓q_lc2Nil, ↓q_lc2Cons, ↓q_en, ↓q_lrg, ↓q_range2, ↓q_aug, ↓q_augI, ↓q_parO, ↓q_parO3, ↓q_sortSet, sat, List.cons_append, List.nil_append, List.append_nil, List.length_cons, List.length_nil, List.set_cons_succ, List.set_cons_zero, List.replicate, cond_true, cond_false, fzS, wipeE, Nat.blt, Nat.ble, eq_self, decide_true, decide_false, Bool.not_true, Bool.not_false, b2, b3, b4, if_true, ↓l]
  refine draw_all (by omega) (by omega) fun r r0 r1 => ?_
  obtain ⟨j, rfl⟩ : ∃ j : Nat, r = (j : Int) := ⟨r.toNat, by omega⟩
  have e : ds[j]? = some (ds[j]'(by omega)) := List.getElem?_eq_getElem _
  have ix := fun k => ix_lst (k := k) e
  simp -implicitDefEqProofs only [↓q_seq, ↓q_nil, ↓q_ret, ↓q_brk, ↓q_cont, ↓q_if, ↓q_set, ↓q_setF, ↓q_asg, ↓q_par, ↓q_par3, ↓q_expr, ↓q_for, ↓q_vN, ↓q_dN, ↓q_sN, ↓q_take, ↓q_toD, ↓q_toS, ↓q_aFz, ↓q_dC, ↓q_dOp, ↓q_sOp, ↓q_dUn, ↓q_dNil, ↓q_wNil, ↓q_aNil, ↓q_dCons, ↓q_wCons, ↓q_aCons, ↓q_dTup, ↓q_sLst, ↓q_dCall, ↓q_sCall, ↓q_sFn, ↓q_bV, ↓q_bC, ↓q_bAnd, ↓q_bOr, ↓q_bNot, ↓q_dIf, ↓q_sIf, ↓q_dAnd, ↓q_dOr, ↓q_dNot, ↓q_gN, ↓q_gsNil, ↓q_gsCons, ↓q_gTp, ↓q_seqT, ↓q_range1, ↓q_goNil, ↓q_goCons, ↓q_lc, ↓q_lcNil, ↓q_lcCons, ↓q_yes, ↓q_sub, ↓q_add, ↓q_neg, ↓q_lt, ↓q_le, ↓q_gt, ↓q_ge, ↓q_eq, ↓q_ne, ↓q_abs, ↓q_int, ↓q_gcd, ↓q_tupL, ↓q_tupT, ↓q_app, ↓q_is, ↓q_maxL, ↓q_or, ↓q_sum2, ↓q_gtT, ↓q_ltT, ↓q_leT, ↓q_geT, ↓q_rev, ↓q_oNo, ↓q_oSo, ↓q_dSl, ↓q_sRev, ↓q_lc2, ↓q_lc2Nil, ↓q_lc2Cons, ↓q_en, ↓q_lrg, ↓q_range2, ↓q_aug, ↓q_augI, ↓q_parO, ↓q_parO3, ↓q_sortSet, sat, List.cons_append, List.nil_append, List.append_nil, List.length_cons, List.length_nil, List.set_cons_succ, List.set_cons_zero, List.replicate, cond_true, cond_false, fzS, wipeE, Nat.blt, Nat.ble, eq_self, decide_true, decide_false, Bool.not_true, Bool.not_false, b2, b3, b4, if_true, ↓ix]
  exact h _ (List.getElem_mem _)
end
section
variable {top : Int} {s2 s3 s4 s5 s6 s7 : S}
end
end Law


set_option Elab.async false
set_option linter.all false
set_option maxRecDepth 100000
set_option maxHeartbeats 4000000
set_option synthInstance.maxHeartbeats 0
set_option synthInstance.maxSize 100000
namespace Law
open PySem Orn
/-! smaller lattices: the program's functions -/
def D3 (t : Int × Int × Int) : D := .tuple [.int t.1, .int t.2.1, .int t.2.2]
def L4 (p q r s : Int) : D := .tuple [.tuple [.int p, .int q], .tuple [.int r, .int s]]
def rowT (n a : Int) : Nat → Int → List (Int × Int × Int)
  | 0, _ => []
  | k + 1, b => (a, b, n / a) :: rowT n a k (b + 1)
def subF (n : Int) : Nat → Int → List (Int × Int × Int)
  | 0, _ => []
  | k + 1, a => (bif decide (n % a = 0) then rowT n a a.toNat 0 else []) ++ subF n k (a + 1)
def subl (n : Nat) : List (Int × Int × Int) := subF n n 1
def isOfI (t : Int × Int × Int) (x y : Int) : Bool := decide (y % t.2.2 = 0) && decide ((x - y / t.2.2 * t.2.1) % t.1 = 0)
def keepsI (p q r s : Int) (t : Int × Int × Int) : Bool := isOfI t (p * t.1) (r * t.1) && isOfI t (p * t.2.1 + q * t.2.2) (r * t.2.1 + s * t.2.2)
def cntI (p q r s : Int) (n : Nat) : Nat := ((subl n).filter (keepsI p q r s)).length
def one1 (p : Int) : Prop := p = -1 ∨ p = 0 ∨ p = 1
structure Okt (t : Int × Int × Int) : Prop where
  a0 : 0 < t.1
  a1 : t.1 ≤ 1000
  b0 : 0 ≤ t.2.1
  b1 : t.2.1 ≤ 1000
  c0 : 0 < t.2.2
  c1 : t.2.2 ≤ 1000
theorem b2_62 {j : Int} (h : 0 ≤ j) (h1 : j ≤ 100000) : -(2 ^ 62) ≤ j ∧ j < 2 ^ 62 := by omega
section
variable {s0 s1 s2 : S}
theorem row_go {n a : Int} (ha : 0 < a) (hl : a.natAbs.log2 < 9000) {kL : List D → Bool} : ∀ (k : Nat) (b : Int),
    lcGo [.sh (.int n), .sh (.int a), .un] (gN 2) bYes (dTup (dCons (dN 1) (dCons (dN 2) (dCons (dOp gDiv (vN 0) (vN 1)) dNil)))) (rngL b k) kL = kL ((rowT n a k b).map D3)
  | 0, b => rfl
  | k + 1, b => by
    have ih := fun kL => row_go (n := n) ha hl (kL := kL) k (b + 1)
    have d := fun k => q_div (i := n) (k := k) ha hl
    rw [rngL]
    simp -implicitDefEqProofs only [↓q_seq, ↓q_nil, ↓q_ret, ↓q_brk, ↓q_cont, ↓q_if, ↓q_set, ↓q_setF, ↓q_asg, ↓q_par, ↓q_par3, ↓q_expr, ↓q_for, ↓q_vN, ↓q_dN, ↓q_sN, ↓q_take, ↓q_toD, ↓q_toS, ↓q_aFz, ↓q_dC, ↓q_dOp, ↓q_sOp, ↓q_dUn, ↓q_dNil, ↓q_wNil, ↓q_aNil, ↓q_dCons, ↓q_wCons, ↓q_aCons, ↓q_dTup, ↓q_sLst, ↓q_dCall, ↓q_sCall, ↓q_sFn, ↓q_bV, ↓q_bC, ↓q_bAnd, ↓q_bOr, ↓q_bNot, ↓q_dIf, ↓q_sIf, ↓q_dAnd, ↓q_dOr, ↓q_dNot, ↓q_gN, ↓q_gsNil, ↓q_gsCons, ↓q_gTp, ↓q_seqT, ↓q_range1, ↓q_goNil, ↓q_goCons, ↓q_lc, ↓q_lcNil, ↓q_lcCons, ↓q_yes, ↓q_sub, ↓q_add, ↓q_neg, ↓q_lt, ↓q_le, ↓q_gt, ↓q_ge, ↓q_eq, ↓q_ne, ↓q_abs, ↓q_int, ↓q_gcd, ↓q_tupL, ↓q_tupT, ↓q_app, ↓q_is, ↓q_maxL, ↓q_or, ↓q_sum2, ↓q_gtT, ↓q_ltT, ↓q_leT, ↓q_geT, ↓q_rev, ↓q_oNo, ↓q_oSo, ↓q_dSl, ↓q_sRev, ↓q_lc2, ↓q_lc2Nil, ↓q_lc2Cons, ↓q_en, ↓q_lrg, ↓q_range2, ↓q_aug, ↓q_augI, ↓q_parO, ↓q_parO3, ↓q_sortSet, sat, List.cons_append, List.nil_append, List.append_nil, List.length_cons, List.length_nil, List.set_cons_succ, List.set_cons_zero, List.replicate, cond_true, cond_false, fzS, wipeE, Nat.blt, Nat.ble, eq_self, decide_true, decide_false, Bool.not_true, Bool.not_false, b2, b3, b4, if_true, ↓d, ↓ih]
    rfl
theorem sub_go {n : Int} {kL : List D → Bool} : ∀ (k : Nat) (a : Int), 0 < a → a + (k : Int) ≤ 1001 →
    lc2Go [.sh (.int n), .un, .un] 1 (bC (dOp gEq (dOp gMod (vN 0) (vN 1)) (dC (.int 0)))) [2] (iRange1 (wCons (vN 1) wNil)) (gN 2) bYes (dTup (dCons (dN 1) (dCons (dN 2) (dCons (dOp gDiv (vN 0) (vN 1)) dNil)))) (rngL a k) kL = kL ((subF n k a).map D3)
  | 0, a, _, _ => rfl
  | k + 1, a, ha, hk => by
    have ih := fun kL => sub_go (n := n) (kL := kL) k (a + 1) (by omega) (by omega)
    have m := fun k => q_mod (i := n) (k := k) ha
    have hl : a.natAbs.log2 < 9000 := log2_lt (b := 9000) (by
      have h1 : a.natAbs < 2 ^ 10 := by omega
      exact Nat.lt_of_lt_of_le h1 (Nat.pow_le_pow_right (by decide) (by decide))) (by decide)
    have r := fun kL => row_go (n := n) ha hl (kL := kL) a.toNat 0
    have c := b2_62 (j := a) (by omega) (by omega)
    have b1 : Nat.ble (rngL 0 a.toNat).length 1000 = true := by rw [Nat.ble_eq, rngL_len]; omega
    rw [rngL, subF]
    simp -implicitDefEqProofs only [↓q_seq, ↓q_nil, ↓q_ret, ↓q_brk, ↓q_cont, ↓q_if, ↓q_set, ↓q_setF, ↓q_asg, ↓q_par, ↓q_par3, ↓q_expr, ↓q_for, ↓q_vN, ↓q_dN, ↓q_sN, ↓q_take, ↓q_toD, ↓q_toS, ↓q_aFz, ↓q_dC, ↓q_dOp, ↓q_sOp, ↓q_dUn, ↓q_dNil, ↓q_wNil, ↓q_aNil, ↓q_dCons, ↓q_wCons, ↓q_aCons, ↓q_dTup, ↓q_sLst, ↓q_dCall, ↓q_sCall, ↓q_sFn, ↓q_bV, ↓q_bC, ↓q_bAnd, ↓q_bOr, ↓q_bNot, ↓q_dIf, ↓q_sIf, ↓q_dAnd, ↓q_dOr, ↓q_dNot, ↓q_gN, ↓q_gsNil, ↓q_gsCons, ↓q_gTp, ↓q_seqT, ↓q_range1, ↓q_goNil, ↓q_goCons, ↓q_lc, ↓q_lcNil, ↓q_lcCons, ↓q_yes, ↓q_sub, ↓q_add, ↓q_neg, ↓q_lt, ↓q_le, ↓q_gt, ↓q_ge, ↓q_eq, ↓q_ne, ↓q_abs, ↓q_int, ↓q_gcd, ↓q_tupL, ↓q_tupT, ↓q_app, ↓q_is, ↓q_maxL, ↓q_or, ↓q_sum2, ↓q_gtT, ↓q_ltT, ↓q_leT, ↓q_geT, ↓q_rev, ↓q_oNo, ↓q_oSo, ↓q_dSl, ↓q_sRev, ↓q_lc2, ↓q_lc2Nil, ↓q_lc2Cons, ↓q_en, ↓q_lrg, ↓q_range2, ↓q_aug, ↓q_augI, ↓q_parO, ↓q_parO3, ↓q_sortSet, sat, List.cons_append, List.nil_append, List.append_nil, List.length_cons, List.length_nil, List.set_cons_succ, List.set_cons_zero, List.replicate, cond_true, cond_false, fzS, wipeE, Nat.blt, Nat.ble, eq_self, decide_true, decide_false, Bool.not_true, Bool.not_false, b2, b3, b4, if_true, ↓m, if_pos c, b1, ↓r]
    cases hd : decide (n % a = 0) with
    | true =>
      simp -implicitDefEqProofs only [↓q_seq, ↓q_nil, ↓q_ret, ↓q_brk, ↓q_cont, ↓q_if, ↓q_set, ↓q_setF, ↓q_asg, ↓q_par, ↓q_par3, ↓q_expr, ↓q_for, ↓q_vN, ↓q_dN, ↓q_sN, ↓q_take, ↓q_toD, ↓q_toS, ↓q_aFz, ↓q_dC, ↓q_dOp, ↓q_sOp, ↓q_dUn, ↓q_dNil, ↓q_wNil, ↓q_aNil, ↓q_dCons, ↓q_wCons, ↓q_aCons, ↓q_dTup, ↓q_sLst, ↓q_dCall, ↓q_sCall, ↓q_sFn, ↓q_bV, ↓q_bC, ↓q_bAnd, ↓q_bOr, ↓q_bNot, ↓q_dIf, ↓q_sIf, ↓q_dAnd, ↓q_dOr, ↓q_dNot, ↓q_gN, ↓q_gsNil, ↓q_gsCons, ↓q_gTp, ↓q_seqT, ↓q_range1, ↓q_goNil, ↓q_goCons, ↓q_lc, ↓q_lcNil, ↓q_lcCons, ↓q_yes, ↓q_sub, ↓q_add, ↓q_neg, ↓q_lt, ↓q_le, ↓q_gt, ↓q_ge, ↓q_eq, ↓q_ne, ↓q_abs, ↓q_int, ↓q_gcd, ↓q_tupL, ↓q_tupT, ↓q_app, ↓q_is, ↓q_maxL, ↓q_or, ↓q_sum2, ↓q_gtT, ↓q_ltT, ↓q_leT, ↓q_geT, ↓q_rev, ↓q_oNo, ↓q_oSo, ↓q_dSl, ↓q_sRev, ↓q_lc2, ↓q_lc2Nil, ↓q_lc2Cons, ↓q_en, ↓q_lrg, ↓q_range2, ↓q_aug, ↓q_augI, ↓q_parO, ↓q_parO3, ↓q_sortSet, sat, List.cons_append, List.nil_append, List.append_nil, List.length_cons, List.length_nil, List.set_cons_succ, List.set_cons_zero, List.replicate, cond_true, cond_false, fzS, wipeE, Nat.blt, Nat.ble, eq_self, decide_true, decide_false, Bool.not_true, Bool.not_false, b2, b3, b4, if_true, ↓ih]
      rw [List.map_append]
    | false =>
      simp -implicitDefEqProofs only [↓q_seq, ↓q_nil, ↓q_ret, ↓q_brk, ↓q_cont, ↓q_if, ↓q_set, ↓q_setF, ↓q_asg, ↓q_par, ↓q_par3, ↓q_expr, ↓q_for, ↓q_vN, ↓q_dN, ↓q_sN, ↓q_take, ↓q_toD, ↓q_toS, ↓q_aFz, ↓q_dC, ↓q_dOp, ↓q_sOp, ↓q_dUn, ↓q_dNil, ↓q_wNil, ↓q_aNil, ↓q_dCons, ↓q_wCons, ↓q_aCons, ↓q_dTup, ↓q_sLst, ↓q_dCall, ↓q_sCall, ↓q_sFn, ↓q_bV, ↓q_bC, ↓q_bAnd, ↓q_bOr, ↓q_bNot, ↓q_dIf, ↓q_sIf, ↓q_dAnd, ↓q_dOr, ↓q_dNot, ↓q_gN, ↓q_gsNil, ↓q_gsCons, ↓q_gTp, ↓q_seqT, ↓q_range1, ↓q_goNil, ↓q_goCons, ↓q_lc, ↓q_lcNil, ↓q_lcCons, ↓q_yes, ↓q_sub, ↓q_add, ↓q_neg, ↓q_lt, ↓q_le, ↓q_gt, ↓q_ge, ↓q_eq, ↓q_ne, ↓q_abs, ↓q_int, ↓q_gcd, ↓q_tupL, ↓q_tupT, ↓q_app, ↓q_is, ↓q_maxL, ↓q_or, ↓q_sum2, ↓q_gtT, ↓q_ltT, ↓q_leT, ↓q_geT, ↓q_rev, ↓q_oNo, ↓q_oSo, ↓q_dSl, ↓q_sRev, ↓q_lc2, ↓q_lc2Nil, ↓q_lc2Cons, ↓q_en, ↓q_lrg, ↓q_range2, ↓q_aug, ↓q_augI, ↓q_parO, ↓q_parO3, ↓q_sortSet, sat, List.cons_append, List.nil_append, List.append_nil, List.length_cons, List.length_nil, List.set_cons_succ, List.set_cons_zero, List.replicate, cond_true, cond_false, fzS, wipeE, Nat.blt, Nat.ble, eq_self, decide_true, decide_false, Bool.not_true, Bool.not_false, b2, b3, b4, if_true, ↓ih]
end
section
variable {k : S → Bool}
theorem subl_eq {n : Nat} (hn : n ≤ 1000) : m_sublattices [.sh (.int (n : Int))] k = k (.ow ((subl n).map D3)) := by
  have c : -(2 ^ 62) ≤ (1 : Int) ∧ (1 : Int) < 2 ^ 62 ∧ -(2 ^ 62) ≤ (n : Int) + 1 ∧ (n : Int) + 1 < 2 ^ 62 := by omega
  have e : ((n : Int) + 1 - 1).toNat = n := by omega
  have b1 : Nat.ble (rngL 1 n).length 1000 = true := by rw [Nat.ble_eq, rngL_len]; omega
  have g := fun kL => sub_go (n := (n : Int)) (kL := kL) n 1 (by decide) (by omega)
  unfold m_sublattices mkFn b_sublattices
  simp -implicitDefEqProofs only [↓q_seq, ↓q_nil, ↓q_ret, ↓q_brk, ↓q_cont, ↓q_if, ↓q_set, ↓q_setF, ↓q_asg, ↓q_par, ↓q_par3, ↓q_expr, ↓q_for, ↓q_vN, ↓q_dN, ↓q_sN, ↓q_take, ↓q_toD, ↓q_toS, ↓q_aFz, ↓q_dC, ↓q_dOp, ↓q_sOp, ↓q_dUn, ↓q_dNil, ↓q_wNil, ↓q_aNil, ↓q_dCons, ↓q_wCons, ↓q_aCons, ↓q_dTup, ↓q_sLst, ↓q_dCall, ↓q_sCall, ↓q_sFn, ↓q_bV, ↓q_bC, ↓q_bAnd, ↓q_bOr, ↓q_bNot, ↓q_dIf, ↓q_sIf, ↓q_dAnd, ↓q_dOr, ↓q_dNot, ↓q_gN, ↓q_gsNil, ↓q_gsCons, ↓q_gTp, ↓q_seqT, ↓q_range1, ↓q_goNil, ↓q_goCons, ↓q_lc, ↓q_lcNil, ↓q_lcCons, ↓q_yes, ↓q_sub, ↓q_add, ↓q_neg, ↓q_lt, ↓q_le, ↓q_gt, ↓q_ge, ↓q_eq, ↓q_ne, ↓q_abs, ↓q_int, ↓q_gcd, ↓q_tupL, ↓q_tupT, ↓q_app, ↓q_is, ↓q_maxL, ↓q_or, ↓q_sum2, ↓q_gtT, ↓q_ltT, ↓q_leT, ↓q_geT, ↓q_rev, ↓q_oNo, ↓q_oSo, ↓q_dSl, ↓q_sRev, ↓q_lc2, ↓q_lc2Nil, ↓q_lc2Cons, ↓q_en, ↓q_lrg, ↓q_range2, ↓q_aug, ↓q_augI, ↓q_parO, ↓q_parO3, ↓q_sortSet, sat, List.cons_append, List.nil_append, List.append_nil, List.length_cons, List.length_nil, List.set_cons_succ, List.set_cons_zero, List.replicate, cond_true, cond_false, fzS, wipeE, Nat.blt, Nat.ble, eq_self, decide_true, decide_false, Bool.not_true, Bool.not_false, b2, b3, b4, if_true, if_pos c, e, b1, ↓g]
  rfl
theorem and_k {a b : Bool} {k : D → Bool} : cond a (k (.bool b)) (k (.bool a)) = k (.bool (a && b)) := by cases a <;> rfl
theorem isof_eq {t : Int × Int × Int} {x y : Int} (o : Okt t) (hy : y.natAbs ≤ 1000000) : m_is_of [.sh (D3 t), .sh (.int x), .sh (.int y)] k = k (.sh (.bool (isOfI t x y))) := by
  obtain ⟨a, b, c⟩ := t
  obtain ⟨a0, a1, b0, b1, c0, c1⟩ := o
  dsimp only at a0 a1 b0 b1 c0 c1
  have hl : c.natAbs.log2 < 9000 := log2_lt (b := 9000) (by
      have h1 : c.natAbs < 2 ^ 10 := by omega
      exact Nat.lt_of_lt_of_le h1 (Nat.pow_le_pow_right (by decide) (by decide))) (by decide)
  have d := fun k => q_div (i := y) (k := k) c0 hl
  have m1 := fun i k => q_mod (i := i) (k := k) c0
  have m2 := fun i k => q_mod (i := i) (k := k) a0
  have sy : Sz 40 (y / c) := by
    have := Sz.ediv (a := 40) (i := y) (by unfold Sz; omega) c.toNat
    rw [show ((c.toNat : Nat) : Int) = c by omega] at this
    exact this
  have mu := mulOk_of (i := y / c) (j := b) (a := 40) (b := 40) sy (by unfold Sz; omega) (by decide) (by decide)
  unfold m_is_of mkFn b_is_of D3
  simp -implicitDefEqProofs only [↓q_seq, ↓q_nil, ↓q_ret, ↓q_brk, ↓q_cont, ↓q_if, ↓q_set, ↓q_setF, ↓q_asg, ↓q_par, ↓q_par3, ↓q_expr, ↓q_for, ↓q_vN, ↓q_dN, ↓q_sN, ↓q_take, ↓q_toD, ↓q_toS, ↓q_aFz, ↓q_dC, ↓q_dOp, ↓q_sOp, ↓q_dUn, ↓q_dNil, ↓q_wNil, ↓q_aNil, ↓q_dCons, ↓q_wCons, ↓q_aCons, ↓q_dTup, ↓q_sLst, ↓q_dCall, ↓q_sCall, ↓q_sFn, ↓q_bV, ↓q_bC, ↓q_bAnd, ↓q_bOr, ↓q_bNot, ↓q_dIf, ↓q_sIf, ↓q_dAnd, ↓q_dOr, ↓q_dNot, ↓q_gN, ↓q_gsNil, ↓q_gsCons, ↓q_gTp, ↓q_seqT, ↓q_range1, ↓q_goNil, ↓q_goCons, ↓q_lc, ↓q_lcNil, ↓q_lcCons, ↓q_yes, ↓q_sub, ↓q_add, ↓q_neg, ↓q_lt, ↓q_le, ↓q_gt, ↓q_ge, ↓q_eq, ↓q_ne, ↓q_abs, ↓q_int, ↓q_gcd, ↓q_tupL, ↓q_tupT, ↓q_app, ↓q_is, ↓q_maxL, ↓q_or, ↓q_sum2, ↓q_gtT, ↓q_ltT, ↓q_leT, ↓q_geT, ↓q_rev, ↓q_oNo, ↓q_oSo, ↓q_dSl, ↓q_sRev, ↓q_lc2, ↓q_lc2Nil, ↓q_lc2Cons, ↓q_en, ↓q_lrg, ↓q_range2, ↓q_aug, ↓q_augI, ↓q_parO, ↓q_parO3, ↓q_sortSet, sat, List.cons_append, List.nil_append, List.append_nil, List.length_cons, List.length_nil, List.set_cons_succ, List.set_cons_zero, List.replicate, cond_true, cond_false, fzS, wipeE, Nat.blt, Nat.ble, eq_self, decide_true, decide_false, Bool.not_true, Bool.not_false, b2, b3, b4, if_true, ↓d, ↓m1, ↓m2, ↓q_mul mu]
  unfold isOfI
  dsimp only
  cases decide (y % c = 0) <;> rfl
theorem one1.mul {p a : Int} (h : one1 p) (ha : a.natAbs ≤ 1000) : (p * a).natAbs ≤ 1000 := by
  rcases h with rfl | rfl | rfl <;> omega
theorem one1.sz {p : Int} (h : one1 p) : Sz 40 p := by
  rcases h with rfl | rfl | rfl <;> (unfold Sz; decide)
theorem keeps_eq {p q r s : Int} {t : Int × Int × Int} (hp : one1 p) (hq : one1 q) (hr : one1 r) (hs : one1 s) (o : Okt t) : m_keeps_steps [.sh (L4 p q r s), .sh (D3 t)] k = k (.sh (.bool (keepsI p q r s t))) := by
  have i1 := fun k => isof_eq (k := k) (t := t) (x := p * t.1) (y := r * t.1) o (by have := hr.mul (a := t.1) (by have := o.a0; have := o.a1; omega); omega)
  have i2 := fun k => isof_eq (k := k) (t := t) (x := p * t.2.1 + q * t.2.2) (y := r * t.2.1 + s * t.2.2) o (by
    have := hr.mul (a := t.2.1) (by have := o.b0; have := o.b1; omega)
    have := hs.mul (a := t.2.2) (by have := o.c0; have := o.c1; omega)
    omega)
  obtain ⟨a, b, c⟩ := t
  obtain ⟨a0, a1, b0, b1, c0, c1⟩ := o
  dsimp only at a0 a1 b0 b1 c0 c1 i1 i2
  have sa : Sz 40 a := by unfold Sz; omega
  have sb : Sz 40 b := by unfold Sz; omega
  have sc : Sz 40 c := by unfold Sz; omega
  have M := fun {i j : Int} (x : Sz 40 i) (y : Sz 40 j) => mulOk_of (i := i) (j := j) (a := 40) (b := 40) x y (by decide) (by decide)
  unfold m_keeps_steps mkFn b_keeps_steps L4 D3
  unfold D3 at i1 i2
  simp -implicitDefEqProofs only [↓q_seq, ↓q_nil, ↓q_ret, ↓q_brk, ↓q_cont, ↓q_if, ↓q_set, ↓q_setF, ↓q_asg, ↓q_par, ↓q_par3, ↓q_expr, ↓q_for, ↓q_vN, ↓q_dN, ↓q_sN, ↓q_take, ↓q_toD, ↓q_toS, ↓q_aFz, ↓q_dC, ↓q_dOp, ↓q_sOp, ↓q_dUn, ↓q_dNil, ↓q_wNil, ↓q_aNil, ↓q_dCons, ↓q_wCons, ↓q_aCons, ↓q_dTup, ↓q_sLst, ↓q_dCall, ↓q_sCall, ↓q_sFn, ↓q_bV, ↓q_bC, ↓q_bAnd, ↓q_bOr, ↓q_bNot, ↓q_dIf, ↓q_sIf, ↓q_dAnd, ↓q_dOr, ↓q_dNot, ↓q_gN, ↓q_gsNil, ↓q_gsCons, ↓q_gTp, ↓q_seqT, ↓q_range1, ↓q_goNil, ↓q_goCons, ↓q_lc, ↓q_lcNil, ↓q_lcCons, ↓q_yes, ↓q_sub, ↓q_add, ↓q_neg, ↓q_lt, ↓q_le, ↓q_gt, ↓q_ge, ↓q_eq, ↓q_ne, ↓q_abs, ↓q_int, ↓q_gcd, ↓q_tupL, ↓q_tupT, ↓q_app, ↓q_is, ↓q_maxL, ↓q_or, ↓q_sum2, ↓q_gtT, ↓q_ltT, ↓q_leT, ↓q_geT, ↓q_rev, ↓q_oNo, ↓q_oSo, ↓q_dSl, ↓q_sRev, ↓q_lc2, ↓q_lc2Nil, ↓q_lc2Cons, ↓q_en, ↓q_lrg, ↓q_range2, ↓q_aug, ↓q_augI, ↓q_parO, ↓q_parO3, ↓q_sortSet, sat, List.cons_append, List.nil_append, List.append_nil, List.length_cons, List.length_nil, List.set_cons_succ, List.set_cons_zero, List.replicate, cond_true, cond_false, fzS, wipeE, Nat.blt, Nat.ble, eq_self, decide_true, decide_false, Bool.not_true, Bool.not_false, b2, b3, b4, if_true, ↓q_mul (M hp.sz sa), ↓q_mul (M hr.sz sa), ↓q_mul (M hp.sz sb), ↓q_mul (M hq.sz sc), ↓q_mul (M hr.sz sb), ↓q_mul (M hs.sz sc), ↓i1, ↓i2]
  unfold keepsI
  dsimp only
  cases isOfI (a, b, c) (p * a) (r * a) <;> rfl
end
end Law

set_option Elab.async false
set_option linter.all false
set_option maxRecDepth 100000
set_option maxHeartbeats 4000000
set_option synthInstance.maxHeartbeats 0
set_option synthInstance.maxSize 100000
namespace Law
open PySem Orn
theorem rowT_mem {n a : Int} {t : Int × Int × Int} : ∀ (k : Nat) (b : Int), t ∈ rowT n a k b → t.1 = a ∧ t.2.2 = n / a ∧ b ≤ t.2.1 ∧ t.2.1 < b + (k : Int)
  | 0, b, h => nomatch h
  | k + 1, b, h => by
    rcases List.mem_cons.mp h with e | e
    · subst e; exact ⟨rfl, rfl, Int.le_refl _, by show b < b + ((k + 1 : Nat) : Int); omega⟩
    · have := rowT_mem k (b + 1) e
      exact ⟨this.1, this.2.1, by omega, by omega⟩
theorem subF_mem {n : Int} {t : Int × Int × Int} : ∀ (k : Nat) (a : Int), t ∈ subF n k a → a ≤ t.1 ∧ t.1 < a + (k : Int) ∧ n % t.1 = 0 ∧ t.2.2 = n / t.1 ∧ 0 ≤ t.2.1 ∧ t.2.1 < (t.1.toNat : Int)
  | 0, a, h => nomatch h
  | k + 1, a, h => by
    rw [subF] at h
    rcases List.mem_append.mp h with e | e
    · cases hd : decide (n % a = 0) with
      | false => rw [hd] at e; cases e
      | true =>
        rw [hd] at e
        have := rowT_mem _ _ e
        rw [this.1]
        exact ⟨Int.le_refl _, by omega, of_decide_eq_true hd, this.2.1, this.2.2.1, by omega⟩
    · have := subF_mem k (a + 1) e
      exact ⟨by omega, by omega, this.2.2⟩
theorem subl_ok {n : Nat} (hn : n ≤ 1000) {t : Int × Int × Int} (h : t ∈ subl n) : Okt t := by
  obtain ⟨h1, h2, h3, h4, h5, h6⟩ := subF_mem _ _ h
  have hd : t.1 ∣ (n : Int) := Int.dvd_of_emod_eq_zero h3
  obtain ⟨c, hc⟩ := hd
  have ht : 0 < t.1 := by omega
  have e : t.2.2 = c := by rw [h4, hc]; exact Int.mul_ediv_cancel_left _ (by omega)
  have hc0 : 0 < c := by
    rcases Int.lt_or_le 0 c with z | z
    · exact z
    · have : t.1 * c ≤ 0 := Int.mul_nonpos_of_nonneg_of_nonpos (by omega) z
      omega
  have hc1 : c ≤ (n : Int) := by
    rw [hc]
    have := Int.mul_le_mul_of_nonneg_right (show (1 : Int) ≤ t.1 by omega) (Int.le_of_lt hc0)
    omega
  exact ⟨ht, by omega, h5, by omega, by omega, by omega⟩
section
variable {s0 s1 s2 : S} {k : S → Bool}
theorem cnt_go {p q r s : Int} (hp : one1 p) (hq : one1 q) (hr : one1 r) (hs : one1 s) {kL : List D → Bool} : ∀ L : List (Int × Int × Int), (∀ t ∈ L, Okt t) →
    lcGo [.sh (L4 p q r s), s1, .un] (gN 2) (bV (toD (sFn m_keeps_steps (aCons (sN 0) (aCons (sN 2) aNil))))) (dN 2) (L.map D3) kL = kL ((L.filter (keepsI p q r s)).map D3)
  | [], _ => rfl
  | t :: L, h => by
    have ih := fun kL => cnt_go hp hq hr hs (kL := kL) L fun x q => h x (List.mem_cons_of_mem _ q)
    have e := fun k => keeps_eq (k := k) hp hq hr hs (h t List.mem_cons_self)
    rw [List.map_cons, List.filter_cons]
    simp -implicitDefEqProofs only [↓q_seq, ↓q_nil, ↓q_ret, ↓q_brk, ↓q_cont, ↓q_if, ↓q_set, ↓q_setF, ↓q_asg, ↓q_par, ↓q_par3, ↓q_expr, ↓q_for, ↓q_vN, ↓q_dN, ↓q_sN, ↓q_take, ↓q_toD, ↓q_toS, ↓q_aFz, ↓q_dC, ↓q_dOp, ↓q_sOp, ↓q_dUn, ↓q_dNil, ↓q_wNil, ↓q_aNil, ↓q_dCons, ↓q_wCons, ↓q_aCons, ↓q_dTup, ↓q_sLst, ↓q_dCall, ↓q_sCall, ↓q_sFn, ↓q_bV, ↓q_bC, ↓q_bAnd, ↓q_bOr, ↓q_bNot, ↓q_dIf, ↓q_sIf, ↓q_dAnd, ↓q_dOr, ↓q_dNot, ↓q_gN, ↓q_gsNil, ↓q_gsCons, ↓q_gTp, ↓q_seqT, ↓q_range1, ↓q_goNil, ↓q_goCons, ↓q_lc, ↓q_lcNil, ↓q_lcCons, ↓q_yes, ↓q_sub, ↓q_add, ↓q_neg, ↓q_lt, ↓q_le, ↓q_gt, ↓q_ge, ↓q_eq, ↓q_ne, ↓q_abs, ↓q_int, ↓q_gcd, ↓q_tupL, ↓q_tupT, ↓q_app, ↓q_is, ↓q_maxL, ↓q_or, ↓q_sum2, ↓q_gtT, ↓q_ltT, ↓q_leT, ↓q_geT, ↓q_rev, ↓q_oNo, ↓q_oSo, ↓q_dSl, ↓q_sRev, ↓q_lc2, ↓q_lc2Nil, ↓q_lc2Cons, ↓q_en, ↓q_lrg, ↓q_range2, ↓q_aug, ↓q_augI, ↓q_parO, ↓q_parO3, ↓q_sortSet, sat, List.cons_append, List.nil_append, List.append_nil, List.length_cons, List.length_nil, List.set_cons_succ, List.set_cons_zero, List.replicate, cond_true, cond_false, fzS, wipeE, Nat.blt, Nat.ble, eq_self, decide_true, decide_false, Bool.not_true, Bool.not_false, b2, b3, b4, if_true, ↓e]
    cases keepsI p q r s t with
    | true => simp -implicitDefEqProofs only [↓q_seq, ↓q_nil, ↓q_ret, ↓q_brk, ↓q_cont, ↓q_if, ↓q_set, ↓q_setF, ↓q_asg, ↓q_par, ↓q_par3, ↓q_expr, ↓q_for, ↓q_vN, ↓q_dN, ↓q_sN, ↓q_take, ↓q_toD, ↓q_toS, ↓q_aFz, ↓q_dC, ↓q_dOp, ↓q_sOp, ↓q_dUn, ↓q_dNil, ↓q_wNil, ↓q_aNil, ↓q_dCons, ↓q_wCons, ↓q_aCons, ↓q_dTup, ↓q_sLst, ↓q_dCall, ↓q_sCall, ↓q_sFn, ↓q_bV, ↓q_bC, ↓q_bAnd, ↓q_bOr, ↓q_bNot, ↓q_dIf, ↓q_sIf, ↓q_dAnd, ↓q_dOr, ↓q_dNot, ↓q_gN, ↓q_gsNil, ↓q_gsCons, ↓q_gTp, ↓q_seqT, ↓q_range1, ↓q_goNil, ↓q_goCons, ↓q_lc, ↓q_lcNil, ↓q_lcCons, ↓q_yes, ↓q_sub, ↓q_add, ↓q_neg, ↓q_lt, ↓q_le, ↓q_gt, ↓q_ge, ↓q_eq, ↓q_ne, ↓q_abs, ↓q_int, ↓q_gcd, ↓q_tupL, ↓q_tupT, ↓q_app, ↓q_is, ↓q_maxL, ↓q_or, ↓q_sum2, ↓q_gtT, ↓q_ltT, ↓q_leT, ↓q_geT, ↓q_rev, ↓q_oNo, ↓q_oSo, ↓q_dSl, ↓q_sRev, ↓q_lc2, ↓q_lc2Nil, ↓q_lc2Cons, ↓q_en, ↓q_lrg, ↓q_range2, ↓q_aug, ↓q_augI, ↓q_parO, ↓q_parO3, ↓q_sortSet, sat, List.cons_append, List.nil_append, List.append_nil, List.length_cons, List.length_nil, List.set_cons_succ, List.set_cons_zero, List.replicate, cond_true, cond_false, fzS, wipeE, Nat.blt, Nat.ble, eq_self, decide_true, decide_false, Bool.not_true, Bool.not_false, b2, b3, b4, if_true, ↓ih]; rfl
    | false => simp -implicitDefEqProofs only [↓q_seq, ↓q_nil, ↓q_ret, ↓q_brk, ↓q_cont, ↓q_if, ↓q_set, ↓q_setF, ↓q_asg, ↓q_par, ↓q_par3, ↓q_expr, ↓q_for, ↓q_vN, ↓q_dN, ↓q_sN, ↓q_take, ↓q_toD, ↓q_toS, ↓q_aFz, ↓q_dC, ↓q_dOp, ↓q_sOp, ↓q_dUn, ↓q_dNil, ↓q_wNil, ↓q_aNil, ↓q_dCons, ↓q_wCons, ↓q_aCons, ↓q_dTup, ↓q_sLst, ↓q_dCall, ↓q_sCall, ↓q_sFn, ↓q_bV, ↓q_bC, ↓q_bAnd, ↓q_bOr, ↓q_bNot, ↓q_dIf, ↓q_sIf, ↓q_dAnd, ↓q_dOr, ↓q_dNot, ↓q_gN, ↓q_gsNil, ↓q_gsCons, ↓q_gTp, ↓q_seqT, ↓q_range1, ↓q_goNil, ↓q_goCons, ↓q_lc, ↓q_lcNil, ↓q_lcCons, ↓q_yes, ↓q_sub, ↓q_add, ↓q_neg, ↓q_lt, ↓q_le, ↓q_gt, ↓q_ge, ↓q_eq, ↓q_ne, ↓q_abs, ↓q_int, ↓q_gcd, ↓q_tupL, ↓q_tupT, ↓q_app, ↓q_is, ↓q_maxL, ↓q_or, ↓q_sum2, ↓q_gtT, ↓q_ltT, ↓q_leT, ↓q_geT, ↓q_rev, ↓q_oNo, ↓q_oSo, ↓q_dSl, ↓q_sRev, ↓q_lc2, ↓q_lc2Nil, ↓q_lc2Cons, ↓q_en, ↓q_lrg, ↓q_range2, ↓q_aug, ↓q_augI, ↓q_parO, ↓q_parO3, ↓q_sortSet, sat, List.cons_append, List.nil_append, List.append_nil, List.length_cons, List.length_nil, List.set_cons_succ, List.set_cons_zero, List.replicate, cond_true, cond_false, fzS, wipeE, Nat.blt, Nat.ble, eq_self, decide_true, decide_false, Bool.not_true, Bool.not_false, b2, b3, b4, if_true, ↓ih]; rfl
theorem cnt_eq {p q r s : Int} (hp : one1 p) (hq : one1 q) (hr : one1 r) (hs : one1 s) {n : Nat} (hn : n ≤ 1000) (hl : (subl n).length ≤ 100000) : m_count_kept [.sh (L4 p q r s), .sh (.int (n : Int))] k = k (.sh (.int (cntI p q r s n : Nat))) := by
  have se := fun k => subl_eq (k := k) hn
  have b1 : Nat.ble ((subl n).map D3).length 100000 = true := by rw [Nat.ble_eq, List.length_map]; exact hl
  have g := fun kL => cnt_go (s1 := .sh (.int (n : Int))) hp hq hr hs (kL := kL) (subl n) fun t h => subl_ok hn h
  have l : ∀ (L : List (Int × Int × Int)) k, gLen [.list (L.map D3)] k = k (.int (L.length : Int)) := fun L k => by
    show kInt (((L.map D3).length : Nat) : Int) k = _
    rw [kInt_eq, List.length_map]
  unfold m_count_kept mkFn b_count_kept
  simp -implicitDefEqProofs only [↓q_seq, ↓q_nil, ↓q_ret, ↓q_brk, ↓q_cont, ↓q_if, ↓q_set, ↓q_setF, ↓q_asg, ↓q_par, ↓q_par3, ↓q_expr, ↓q_for, ↓q_vN, ↓q_dN, ↓q_sN, ↓q_take, ↓q_toD, ↓q_toS, ↓q_aFz, ↓q_dC, ↓q_dOp, ↓q_sOp, ↓q_dUn, ↓q_dNil, ↓q_wNil, ↓q_aNil, ↓q_dCons, ↓q_wCons, ↓q_aCons, ↓q_dTup, ↓q_sLst, ↓q_dCall, ↓q_sCall, ↓q_sFn, ↓q_bV, ↓q_bC, ↓q_bAnd, ↓q_bOr, ↓q_bNot, ↓q_dIf, ↓q_sIf, ↓q_dAnd, ↓q_dOr, ↓q_dNot, ↓q_gN, ↓q_gsNil, ↓q_gsCons, ↓q_gTp, ↓q_seqT, ↓q_range1, ↓q_goNil, ↓q_goCons, ↓q_lc, ↓q_lcNil, ↓q_lcCons, ↓q_yes, ↓q_sub, ↓q_add, ↓q_neg, ↓q_lt, ↓q_le, ↓q_gt, ↓q_ge, ↓q_eq, ↓q_ne, ↓q_abs, ↓q_int, ↓q_gcd, ↓q_tupL, ↓q_tupT, ↓q_app, ↓q_is, ↓q_maxL, ↓q_or, ↓q_sum2, ↓q_gtT, ↓q_ltT, ↓q_leT, ↓q_geT, ↓q_rev, ↓q_oNo, ↓q_oSo, ↓q_dSl, ↓q_sRev, ↓q_lc2, ↓q_lc2Nil, ↓q_lc2Cons, ↓q_en, ↓q_lrg, ↓q_range2, ↓q_aug, ↓q_augI, ↓q_parO, ↓q_parO3, ↓q_sortSet, sat, List.cons_append, List.nil_append, List.append_nil, List.length_cons, List.length_nil, List.set_cons_succ, List.set_cons_zero, List.replicate, cond_true, cond_false, fzS, wipeE, Nat.blt, Nat.ble, eq_self, decide_true, decide_false, Bool.not_true, Bool.not_false, b2, b3, b4, if_true, ↓se, b1, ↓g, ↓l]
  rfl
end
/-! roots -/
def rootGo (n : Nat) : Nat → Nat → Nat
  | 0, told => told
  | f + 1, told => match Nat.ble ((told + 1) * (told + 1)) n with
    | true => rootGo n f (told + 1)
    | false => told
def rootN (n : Nat) : Nat := rootGo n (n + 1) 0
theorem rootGo_spec {n : Nat} : ∀ (f told : Nat), told * told ≤ n → n < (told + f) * (told + f) → rootGo n f told * rootGo n f told ≤ n ∧ n < (rootGo n f told + 1) * (rootGo n f told + 1)
  | 0, told, h1, h2 => absurd h2 (by rw [Nat.add_zero]; omega)
  | f + 1, told, h1, h2 => by
    rw [rootGo]
    cases hb : Nat.ble ((told + 1) * (told + 1)) n with
    | true => exact rootGo_spec f (told + 1) (Nat.le_of_ble_eq_true hb) (by rw [show told + 1 + f = told + (f + 1) by omega]; exact h2)
    | false =>
      refine ⟨h1, ?_⟩
      rcases Nat.lt_or_ge n ((told + 1) * (told + 1)) with z | z
      · exact z
      · rw [Nat.ble_eq_true_of_le z] at hb; cases hb
theorem sq_lt {a b : Nat} (h : a * a < b * b) : a < b := by
  rcases Nat.lt_or_ge a b with z | z
  · exact z
  · have := Nat.mul_le_mul z z; omega
theorem root_uniq {n r r' : Nat} (h1 : r * r ≤ n) (h2 : n < (r + 1) * (r + 1)) (h3 : r' * r' ≤ n) (h4 : n < (r' + 1) * (r' + 1)) : r = r' := by
  have a := sq_lt (Nat.lt_of_le_of_lt h1 h4)
  have b := sq_lt (Nat.lt_of_le_of_lt h3 h2)
  omega
theorem rootN_spec (n : Nat) : rootN n * rootN n ≤ n ∧ n < (rootN n + 1) * (rootN n + 1) := by
  refine rootGo_spec (n + 1) 0 (Nat.zero_le _) ?_
  rw [Nat.zero_add]
  have := Nat.mul_le_mul (Nat.le_refl (n + 1)) (show 1 ≤ n + 1 by omega)
  omega
section
variable {ks : Ks}
theorem root_while {n : Nat} (hn : n < 1000000000000) : ∀ (f told : Nat), told ≤ 2000000 → told * told ≤ n → n < (told + f) * (told + f) →
    pWhile (bC (dOp gLe (dOp gMul (dOp gAdd (vN 1) (dC (.int 1))) (dOp gAdd (vN 1) (dC (.int 1)))) (vN 0))) (pAug 1 gAugAdd (dC (.int 1))) f [.sh (.int (n : Int)), .sh (.int (told : Int))] ks = ks.nx [.sh (.int (n : Int)), .sh (.int (rootGo n f told : Nat))]
  | 0, told, _, h1, h2 => absurd h2 (by rw [Nat.add_zero]; omega)
  | f + 1, told, h0, h1, h2 => by
    have mu := mulOk_of (i := (told : Int) + 1) (j := (told : Int) + 1) (a := 40) (b := 40) (by unfold Sz; omega) (by unfold Sz; omega) (by decide) (by decide)
    rw [pWhile, rootGo]
    have e1 : ((told : Int) + 1) * ((told : Int) + 1) = (((told + 1) * (told + 1) : Nat) : Int) := by rw [Int.natCast_mul]; rfl
    cases hb : Nat.ble ((told + 1) * (told + 1)) n with
    | true =>
      have hle := Nat.le_of_ble_eq_true hb
      have d : decide (((told : Int) + 1) * ((told : Int) + 1) ≤ (n : Int)) = true := by rw [e1]; exact decide_eq_true (Int.ofNat_le.mpr hle)
      have : told + 1 ≤ 2000000 := by
        rcases Nat.lt_or_ge 1000001 (told + 1) with z | z
        · have := Nat.mul_le_mul z z; omega
        · omega
      have ih := root_while hn f (told + 1) this hle (by rw [show told + 1 + f = told + (f + 1) by omega]; exact h2)
      simp -implicitDefEqProofs only [↓q_seq, ↓q_nil, ↓q_ret, ↓q_brk, ↓q_cont, ↓q_if, ↓q_set, ↓q_setF, ↓q_asg, ↓q_par, ↓q_par3, ↓q_expr, ↓q_for, ↓q_vN, ↓q_dN, ↓q_sN, ↓q_take, ↓q_toD, ↓q_toS, ↓q_aFz, ↓q_dC, ↓q_dOp, ↓q_sOp, ↓q_dUn, ↓q_dNil, ↓q_wNil, ↓q_aNil, ↓q_dCons, ↓q_wCons, ↓q_aCons, ↓q_dTup, ↓q_sLst, ↓q_dCall, ↓q_sCall, ↓q_sFn, ↓q_bV, ↓q_bC, ↓q_bAnd, ↓q_bOr, ↓q_bNot, ↓q_dIf, ↓q_sIf, ↓q_dAnd, ↓q_dOr, ↓q_dNot, ↓q_gN, ↓q_gsNil, ↓q_gsCons, ↓q_gTp, ↓q_seqT, ↓q_range1, ↓q_goNil, ↓q_goCons, ↓q_lc, ↓q_lcNil, ↓q_lcCons, ↓q_yes, ↓q_sub, ↓q_add, ↓q_neg, ↓q_lt, ↓q_le, ↓q_gt, ↓q_ge, ↓q_eq, ↓q_ne, ↓q_abs, ↓q_int, ↓q_gcd, ↓q_tupL, ↓q_tupT, ↓q_app, ↓q_is, ↓q_maxL, ↓q_or, ↓q_sum2, ↓q_gtT, ↓q_ltT, ↓q_leT, ↓q_geT, ↓q_rev, ↓q_oNo, ↓q_oSo, ↓q_dSl, ↓q_sRev, ↓q_lc2, ↓q_lc2Nil, ↓q_lc2Cons, ↓q_en, ↓q_lrg, ↓q_range2, ↓q_aug, ↓q_augI, ↓q_parO, ↓q_parO3, ↓q_sortSet, sat, List.cons_append, List.nil_append, List.append_nil, List.length_cons, List.length_nil, List.set_cons_succ, List.set_cons_zero, List.replicate, cond_true, cond_false, fzS, wipeE, Nat.blt, Nat.ble, eq_self, decide_true, decide_false, Bool.not_true, Bool.not_false, b2, b3, b4, if_true, ↓q_mul mu, d]
      exact ih
    | false =>
      have hlt : n < (told + 1) * (told + 1) := by
        rcases Nat.lt_or_ge n ((told + 1) * (told + 1)) with z | z
        · exact z
        · rw [Nat.ble_eq_true_of_le z] at hb; cases hb
      have d : decide (((told : Int) + 1) * ((told : Int) + 1) ≤ (n : Int)) = false := by rw [e1]; exact decide_eq_false (fun z => by have := Int.ofNat_le.mp z; omega)
      simp -implicitDefEqProofs only [↓q_seq, ↓q_nil, ↓q_ret, ↓q_brk, ↓q_cont, ↓q_if, ↓q_set, ↓q_setF, ↓q_asg, ↓q_par, ↓q_par3, ↓q_expr, ↓q_for, ↓q_vN, ↓q_dN, ↓q_sN, ↓q_take, ↓q_toD, ↓q_toS, ↓q_aFz, ↓q_dC, ↓q_dOp, ↓q_sOp, ↓q_dUn, ↓q_dNil, ↓q_wNil, ↓q_aNil, ↓q_dCons, ↓q_wCons, ↓q_aCons, ↓q_dTup, ↓q_sLst, ↓q_dCall, ↓q_sCall, ↓q_sFn, ↓q_bV, ↓q_bC, ↓q_bAnd, ↓q_bOr, ↓q_bNot, ↓q_dIf, ↓q_sIf, ↓q_dAnd, ↓q_dOr, ↓q_dNot, ↓q_gN, ↓q_gsNil, ↓q_gsCons, ↓q_gTp, ↓q_seqT, ↓q_range1, ↓q_goNil, ↓q_goCons, ↓q_lc, ↓q_lcNil, ↓q_lcCons, ↓q_yes, ↓q_sub, ↓q_add, ↓q_neg, ↓q_lt, ↓q_le, ↓q_gt, ↓q_ge, ↓q_eq, ↓q_ne, ↓q_abs, ↓q_int, ↓q_gcd, ↓q_tupL, ↓q_tupT, ↓q_app, ↓q_is, ↓q_maxL, ↓q_or, ↓q_sum2, ↓q_gtT, ↓q_ltT, ↓q_leT, ↓q_geT, ↓q_rev, ↓q_oNo, ↓q_oSo, ↓q_dSl, ↓q_sRev, ↓q_lc2, ↓q_lc2Nil, ↓q_lc2Cons, ↓q_en, ↓q_lrg, ↓q_range2, ↓q_aug, ↓q_augI, ↓q_parO, ↓q_parO3, ↓q_sortSet, sat, List.cons_append, List.nil_append, List.append_nil, List.length_cons, List.length_nil, List.set_cons_succ, List.set_cons_zero, List.replicate, cond_true, cond_false, fzS, wipeE, Nat.blt, Nat.ble, eq_self, decide_true, decide_false, Bool.not_true, Bool.not_false, b2, b3, b4, if_true, ↓q_mul mu, d]
end
theorem root_eq {n : Nat} (hn : n < 1000000000000) {k : S → Bool} : m_root_below [.sh (.int (n : Int))] k = k (.sh (.int (rootN n : Nat))) := by
  have h2 : n < (0 + 1000000) * (0 + 1000000) := by omega
  have sp := rootGo_spec (n := n) 1000000 0 (Nat.zero_le _) h2
  have e : rootGo n 1000000 0 = rootN n := root_uniq sp.1 sp.2 (rootN_spec n).1 (rootN_spec n).2
  unfold m_root_below mkFn b_root_below
  simp -implicitDefEqProofs only [↓q_seq, ↓q_nil, ↓q_ret, ↓q_brk, ↓q_cont, ↓q_if, ↓q_set, ↓q_setF, ↓q_asg, ↓q_par, ↓q_par3, ↓q_expr, ↓q_for, ↓q_vN, ↓q_dN, ↓q_sN, ↓q_take, ↓q_toD, ↓q_toS, ↓q_aFz, ↓q_dC, ↓q_dOp, ↓q_sOp, ↓q_dUn, ↓q_dNil, ↓q_wNil, ↓q_aNil, ↓q_dCons, ↓q_wCons, ↓q_aCons, ↓q_dTup, ↓q_sLst, ↓q_dCall, ↓q_sCall, ↓q_sFn, ↓q_bV, ↓q_bC, ↓q_bAnd, ↓q_bOr, ↓q_bNot, ↓q_dIf, ↓q_sIf, ↓q_dAnd, ↓q_dOr, ↓q_dNot, ↓q_gN, ↓q_gsNil, ↓q_gsCons, ↓q_gTp, ↓q_seqT, ↓q_range1, ↓q_goNil, ↓q_goCons, ↓q_lc, ↓q_lcNil, ↓q_lcCons, ↓q_yes, ↓q_sub, ↓q_add, ↓q_neg, ↓q_lt, ↓q_le, ↓q_gt, ↓q_ge, ↓q_eq, ↓q_ne, ↓q_abs, ↓q_int, ↓q_gcd, ↓q_tupL, ↓q_tupT, ↓q_app, ↓q_is, ↓q_maxL, ↓q_or, ↓q_sum2, ↓q_gtT, ↓q_ltT, ↓q_leT, ↓q_geT, ↓q_rev, ↓q_oNo, ↓q_oSo, ↓q_dSl, ↓q_sRev, ↓q_lc2, ↓q_lc2Nil, ↓q_lc2Cons, ↓q_en, ↓q_lrg, ↓q_range2, ↓q_aug, ↓q_augI, ↓q_parO, ↓q_parO3, ↓q_sortSet, sat, List.cons_append, List.nil_append, List.append_nil, List.length_cons, List.length_nil, List.set_cons_succ, List.set_cons_zero, List.replicate, cond_true, cond_false, fzS, wipeE, Nat.blt, Nat.ble, eq_self, decide_true, decide_false, Bool.not_true, Bool.not_false, b2, b3, b4, if_true]
  have := fun ks => root_while (ks := ks) hn 1000000 0 (by decide) (Nat.zero_le _) h2
  rw [Int.natCast_zero] at this
  rw [this, e]
  rfl
end Law

set_option Elab.async false
set_option linter.all false
set_option maxRecDepth 100000
set_option maxHeartbeats 4000000
set_option synthInstance.maxHeartbeats 0
set_option synthInstance.maxSize 100000
namespace Law
open PySem Orn
theorem sq_le {x t : Int} (h1 : -t ≤ x) (h2 : x ≤ t) : x * x ≤ t * t := by
  rcases Int.le_total 0 x with z | z
  · exact Int.mul_le_mul h2 h2 z (by omega)
  · have := Int.mul_le_mul (show -x ≤ t by omega) (show -x ≤ t by omega) (by omega) (by omega)
    rwa [Int.neg_mul_neg] at this
def rootI (z : Int) : Int := (rootN z.toNat : Nat)
theorem rootI_eq {z : Int} (h0 : 0 ≤ z) (h1 : z < 1000000000000) {k : S → Bool} : m_root_below [.sh (.int z)] k = k (.sh (.int (rootI z))) := by
  have := root_eq (n := z.toNat) (by omega) (k := k)
  rw [show ((z.toNat : Nat) : Int) = z by omega] at this
  exact this
theorem rootI_spec {z : Int} (h0 : 0 ≤ z) : 0 ≤ rootI z ∧ rootI z * rootI z ≤ z ∧ z < (rootI z + 1) * (rootI z + 1) := by
  have := rootN_spec z.toNat
  refine ⟨Int.natCast_nonneg _, ?_, ?_⟩
  · have h := Int.ofNat_le.mpr this.1
    rw [Int.natCast_mul] at h
    show ((rootN z.toNat : Nat) : Int) * ((rootN z.toNat : Nat) : Int) ≤ z
    omega
  · have h := Int.ofNat_lt.mpr this.2
    rw [Int.natCast_mul, Int.natCast_add] at h
    show z < (((rootN z.toNat : Nat) : Int) + 1) * (((rootN z.toNat : Nat) : Int) + 1)
    have e : ((1 : Nat) : Int) = 1 := rfl
    rw [e] at h
    omega
theorem rootI_le {z : Int} {b : Int} (h0 : 0 ≤ z) (h1 : z < (b + 1) * (b + 1)) (hb : 0 ≤ b) : rootI z ≤ b := by
  have := rootI_spec h0
  rcases Int.lt_or_le b (rootI z) with q | q
  · have := Int.mul_le_mul (show b + 1 ≤ rootI z by omega) (show b + 1 ≤ rootI z by omega) (by omega) (by omega)
    omega
  · exact q
/-! ways of squares -/
def sqT (n x : Int) : Int := bif decide (rootI (n - x * x) * rootI (n - x * x) = n - x * x) then (bif decide (rootI (n - x * x) = 0) then 1 else 2) else 0
def sqGo (n : Int) : Nat → Int → Int → Int
  | 0, _, told => told
  | k + 1, x, told => sqGo n k (x + 1) (told + sqT n x)
def sqWays (n : Nat) : Int := sqGo n (2 * rootN n + 1) (-(rootN n : Int)) 0
section
variable {ks : Ks}
theorem sq_loop {n top : Int} (hn : n < 1000000000000) (h0 : top * top ≤ n) (ht : 0 ≤ top) (ht1 : top ≤ 1000000) {R : Bool} : ∀ (k : Nat) (x told : Int) (s3 s4 : S), -top ≤ x → x + (k : Int) ≤ top + 1 →
    (∀ s3 s4, ks.nx [.sh (.int n), .sh (.int top), .sh (.int (sqGo n k x told)), s3, s4] = R) →
    pForGo (gN 3) (pSeq (pSet 4 (toS (toD (sFn m_root_below (aCons (toS (dOp gSubI (vN 0) (dOp gMul (vN 3) (vN 3)))) aNil)))))
  (pIf (bC (dOp gEq (dOp gMul (vN 4) (vN 4)) (dOp gSubI (vN 0) (dOp gMul (vN 3) (vN 3)))))
  (pAug 2 gAugAdd (dIf (bC (dOp gEq (vN 4) (dC (.int 0)))) (dC (.int 1)) (dC (.int 2))))
  pNil)) (rngL x k) [.sh (.int n), .sh (.int top), .sh (.int told), s3, s4] ks = R
  | 0, x, told, s3, s4, _, _, h => h s3 s4
  | k + 1, x, told, s3, s4, h1, h2, h => by
    have ih := fun s3 s4 => sq_loop hn h0 ht ht1 (R := R) k (x + 1) (told + sqT n x) s3 s4 (by omega) (by omega) h
    have hx := sq_le (x := x) (t := top) h1 (by omega)
    have hx0 : 0 ≤ x * x := by
      rcases Int.le_total 0 x with z | z
      · exact Int.mul_nonneg z z
      · have := Int.mul_nonneg (show 0 ≤ -x by omega) (show 0 ≤ -x by omega)
        rwa [Int.neg_mul_neg] at this
    have r := fun k => rootI_eq (z := n - x * x) (k := k) (by omega) (by omega)
    have rl := rootI_le (z := n - x * x) (b := 1000000) (by omega) (by omega) (by decide)
    have rs := (rootI_spec (z := n - x * x) (by omega)).1
    have m1 := mulOk_of (i := x) (j := x) (a := 40) (b := 40) (by unfold Sz; omega) (by unfold Sz; omega) (by decide) (by decide)
    have m2 := mulOk_of (i := rootI (n - x * x)) (j := rootI (n - x * x)) (a := 40) (b := 40) (by unfold Sz; omega) (by unfold Sz; omega) (by decide) (by decide)
    rw [rngL]
    simp -implicitDefEqProofs only [↓q_seq, ↓q_nil, ↓q_ret, ↓q_brk, ↓q_cont, ↓q_if, ↓q_set, ↓q_setF, ↓q_asg, ↓q_par, ↓q_par3, ↓q_expr, ↓q_for, ↓q_vN, ↓q_dN, ↓q_sN, ↓q_take, ↓q_toD, ↓q_toS, ↓q_aFz, ↓q_dC, ↓q_dOp, ↓q_sOp, ↓q_dUn, ↓q_dNil, ↓q_wNil, ↓q_aNil, ↓q_dCons, ↓q_wCons, ↓q_aCons, ↓q_dTup, ↓q_sLst, ↓q_dCall, ↓q_sCall, ↓q_sFn, ↓q_bV, ↓q_bC, ↓q_bAnd, ↓q_bOr, ↓q_bNot, ↓q_dIf, ↓q_sIf, ↓q_dAnd, ↓q_dOr, ↓q_dNot, ↓q_gN, ↓q_gsNil, ↓q_gsCons, ↓q_gTp, ↓q_seqT, ↓q_range1, ↓q_goNil, ↓q_goCons, ↓q_lc, ↓q_lcNil, ↓q_lcCons, ↓q_yes, ↓q_sub, ↓q_add, ↓q_neg, ↓q_lt, ↓q_le, ↓q_gt, ↓q_ge, ↓q_eq, ↓q_ne, ↓q_abs, ↓q_int, ↓q_gcd, ↓q_tupL, ↓q_tupT, ↓q_app, ↓q_is, ↓q_maxL, ↓q_or, ↓q_sum2, ↓q_gtT, ↓q_ltT, ↓q_leT, ↓q_geT, ↓q_rev, ↓q_oNo, ↓q_oSo, ↓q_dSl, ↓q_sRev, ↓q_lc2, ↓q_lc2Nil, ↓q_lc2Cons, ↓q_en, ↓q_lrg, ↓q_range2, ↓q_aug, ↓q_augI, ↓q_parO, ↓q_parO3, ↓q_sortSet, sat, List.cons_append, List.nil_append, List.append_nil, List.length_cons, List.length_nil, List.set_cons_succ, List.set_cons_zero, List.replicate, cond_true, cond_false, fzS, wipeE, Nat.blt, Nat.ble, eq_self, decide_true, decide_false, Bool.not_true, Bool.not_false, b2, b3, b4, if_true, ↓q_mul m1, ↓r, ↓q_mul m2]
    unfold sqT at ih
    cases hd : decide (rootI (n - x * x) * rootI (n - x * x) = n - x * x) with
    | true =>
      rw [hd] at ih
      cases hz : decide (rootI (n - x * x) = 0) with
      | true =>
        rw [hz] at ih
        simp -implicitDefEqProofs only [↓q_seq, ↓q_nil, ↓q_ret, ↓q_brk, ↓q_cont, ↓q_if, ↓q_set, ↓q_setF, ↓q_asg, ↓q_par, ↓q_par3, ↓q_expr, ↓q_for, ↓q_vN, ↓q_dN, ↓q_sN, ↓q_take, ↓q_toD, ↓q_toS, ↓q_aFz, ↓q_dC, ↓q_dOp, ↓q_sOp, ↓q_dUn, ↓q_dNil, ↓q_wNil, ↓q_aNil, ↓q_dCons, ↓q_wCons, ↓q_aCons, ↓q_dTup, ↓q_sLst, ↓q_dCall, ↓q_sCall, ↓q_sFn, ↓q_bV, ↓q_bC, ↓q_bAnd, ↓q_bOr, ↓q_bNot, ↓q_dIf, ↓q_sIf, ↓q_dAnd, ↓q_dOr, ↓q_dNot, ↓q_gN, ↓q_gsNil, ↓q_gsCons, ↓q_gTp, ↓q_seqT, ↓q_range1, ↓q_goNil, ↓q_goCons, ↓q_lc, ↓q_lcNil, ↓q_lcCons, ↓q_yes, ↓q_sub, ↓q_add, ↓q_neg, ↓q_lt, ↓q_le, ↓q_gt, ↓q_ge, ↓q_eq, ↓q_ne, ↓q_abs, ↓q_int, ↓q_gcd, ↓q_tupL, ↓q_tupT, ↓q_app, ↓q_is, ↓q_maxL, ↓q_or, ↓q_sum2, ↓q_gtT, ↓q_ltT, ↓q_leT, ↓q_geT, ↓q_rev, ↓q_oNo, ↓q_oSo, ↓q_dSl, ↓q_sRev, ↓q_lc2, ↓q_lc2Nil, ↓q_lc2Cons, ↓q_en, ↓q_lrg, ↓q_range2, ↓q_aug, ↓q_augI, ↓q_parO, ↓q_parO3, ↓q_sortSet, sat, List.cons_append, List.nil_append, List.append_nil, List.length_cons, List.length_nil, List.set_cons_succ, List.set_cons_zero, List.replicate, cond_true, cond_false, fzS, wipeE, Nat.blt, Nat.ble, eq_self, decide_true, decide_false, Bool.not_true, Bool.not_false, b2, b3, b4, if_true, hz]
        exact ih _ _
      | false =>
        rw [hz] at ih
        simp -implicitDefEqProofs only [↓q_seq, ↓q_nil, ↓q_ret, ↓q_brk, ↓q_cont, ↓q_if, ↓q_set, ↓q_setF, ↓q_asg, ↓q_par, ↓q_par3, ↓q_expr, ↓q_for, ↓q_vN, ↓q_dN, ↓q_sN, ↓q_take, ↓q_toD, ↓q_toS, ↓q_aFz, ↓q_dC, ↓q_dOp, ↓q_sOp, ↓q_dUn, ↓q_dNil, ↓q_wNil, ↓q_aNil, ↓q_dCons, ↓q_wCons, ↓q_aCons, ↓q_dTup, ↓q_sLst, ↓q_dCall, ↓q_sCall, ↓q_sFn, ↓q_bV, ↓q_bC, ↓q_bAnd, ↓q_bOr, ↓q_bNot, ↓q_dIf, ↓q_sIf, ↓q_dAnd, ↓q_dOr, ↓q_dNot, ↓q_gN, ↓q_gsNil, ↓q_gsCons, ↓q_gTp, ↓q_seqT, ↓q_range1, ↓q_goNil, ↓q_goCons, ↓q_lc, ↓q_lcNil, ↓q_lcCons, ↓q_yes, ↓q_sub, ↓q_add, ↓q_neg, ↓q_lt, ↓q_le, ↓q_gt, ↓q_ge, ↓q_eq, ↓q_ne, ↓q_abs, ↓q_int, ↓q_gcd, ↓q_tupL, ↓q_tupT, ↓q_app, ↓q_is, ↓q_maxL, ↓q_or, ↓q_sum2, ↓q_gtT, ↓q_ltT, ↓q_leT, ↓q_geT, ↓q_rev, ↓q_oNo, ↓q_oSo, ↓q_dSl, ↓q_sRev, ↓q_lc2, ↓q_lc2Nil, ↓q_lc2Cons, ↓q_en, ↓q_lrg, ↓q_range2, ↓q_aug, ↓q_augI, ↓q_parO, ↓q_parO3, ↓q_sortSet, sat, List.cons_append, List.nil_append, List.append_nil, List.length_cons, List.length_nil, List.set_cons_succ, List.set_cons_zero, List.replicate, cond_true, cond_false, fzS, wipeE, Nat.blt, Nat.ble, eq_self, decide_true, decide_false, Bool.not_true, Bool.not_false, b2, b3, b4, if_true, hz]
        exact ih _ _
    | false =>
      rw [hd] at ih
      simp -implicitDefEqProofs only [↓q_seq, ↓q_nil, ↓q_ret, ↓q_brk, ↓q_cont, ↓q_if, ↓q_set, ↓q_setF, ↓q_asg, ↓q_par, ↓q_par3, ↓q_expr, ↓q_for, ↓q_vN, ↓q_dN, ↓q_sN, ↓q_take, ↓q_toD, ↓q_toS, ↓q_aFz, ↓q_dC, ↓q_dOp, ↓q_sOp, ↓q_dUn, ↓q_dNil, ↓q_wNil, ↓q_aNil, ↓q_dCons, ↓q_wCons, ↓q_aCons, ↓q_dTup, ↓q_sLst, ↓q_dCall, ↓q_sCall, ↓q_sFn, ↓q_bV, ↓q_bC, ↓q_bAnd, ↓q_bOr, ↓q_bNot, ↓q_dIf, ↓q_sIf, ↓q_dAnd, ↓q_dOr, ↓q_dNot, ↓q_gN, ↓q_gsNil, ↓q_gsCons, ↓q_gTp, ↓q_seqT, ↓q_range1, ↓q_goNil, ↓q_goCons, ↓q_lc, ↓q_lcNil, ↓q_lcCons, ↓q_yes, ↓q_sub, ↓q_add, ↓q_neg, ↓q_lt, ↓q_le, ↓q_gt, ↓q_ge, ↓q_eq, ↓q_ne, ↓q_abs, ↓q_int, ↓q_gcd, ↓q_tupL, ↓q_tupT, ↓q_app, ↓q_is, ↓q_maxL, ↓q_or, ↓q_sum2, ↓q_gtT, ↓q_ltT, ↓q_leT, ↓q_geT, ↓q_rev, ↓q_oNo, ↓q_oSo, ↓q_dSl, ↓q_sRev, ↓q_lc2, ↓q_lc2Nil, ↓q_lc2Cons, ↓q_en, ↓q_lrg, ↓q_range2, ↓q_aug, ↓q_augI, ↓q_parO, ↓q_parO3, ↓q_sortSet, sat, List.cons_append, List.nil_append, List.append_nil, List.length_cons, List.length_nil, List.set_cons_succ, List.set_cons_zero, List.replicate, cond_true, cond_false, fzS, wipeE, Nat.blt, Nat.ble, eq_self, decide_true, decide_false, Bool.not_true, Bool.not_false, b2, b3, b4, if_true]
      have e : told + (bif false then bif decide (rootI (n - x * x) = 0) then (1 : Int) else 2 else 0) = told := by
        rw [cond_false, Int.add_zero]
      rw [e] at ih
      exact ih _ _
end
theorem sqways_eq {n : Nat} (hn : n < 1000000000000) {k : S → Bool} : m_count_square_ways [.sh (.int (n : Int))] k = k (.sh (.int (sqWays n))) := by
  have r := fun k => root_eq (k := k) hn
  have sp := rootN_spec n
  have tl : rootN n ≤ 1000000 := by
    rcases Nat.lt_or_ge 1000000 (rootN n) with z | z
    · have := Nat.mul_le_mul z z; omega
    · exact z
  have c : -(2 ^ 62) ≤ -((rootN n : Nat) : Int) ∧ -((rootN n : Nat) : Int) < 2 ^ 62 ∧ -(2 ^ 62) ≤ ((rootN n : Nat) : Int) + 1 ∧ ((rootN n : Nat) : Int) + 1 < 2 ^ 62 := by omega
  have e : (((rootN n : Nat) : Int) + 1 - -((rootN n : Nat) : Int)).toNat = 2 * rootN n + 1 := by omega
  unfold m_count_square_ways mkFn b_count_square_ways
  simp -implicitDefEqProofs only [↓q_seq, ↓q_nil, ↓q_ret, ↓q_brk, ↓q_cont, ↓q_if, ↓q_set, ↓q_setF, ↓q_asg, ↓q_par, ↓q_par3, ↓q_expr, ↓q_for, ↓q_vN, ↓q_dN, ↓q_sN, ↓q_take, ↓q_toD, ↓q_toS, ↓q_aFz, ↓q_dC, ↓q_dOp, ↓q_sOp, ↓q_dUn, ↓q_dNil, ↓q_wNil, ↓q_aNil, ↓q_dCons, ↓q_wCons, ↓q_aCons, ↓q_dTup, ↓q_sLst, ↓q_dCall, ↓q_sCall, ↓q_sFn, ↓q_bV, ↓q_bC, ↓q_bAnd, ↓q_bOr, ↓q_bNot, ↓q_dIf, ↓q_sIf, ↓q_dAnd, ↓q_dOr, ↓q_dNot, ↓q_gN, ↓q_gsNil, ↓q_gsCons, ↓q_gTp, ↓q_seqT, ↓q_range1, ↓q_goNil, ↓q_goCons, ↓q_lc, ↓q_lcNil, ↓q_lcCons, ↓q_yes, ↓q_sub, ↓q_add, ↓q_neg, ↓q_lt, ↓q_le, ↓q_gt, ↓q_ge, ↓q_eq, ↓q_ne, ↓q_abs, ↓q_int, ↓q_gcd, ↓q_tupL, ↓q_tupT, ↓q_app, ↓q_is, ↓q_maxL, ↓q_or, ↓q_sum2, ↓q_gtT, ↓q_ltT, ↓q_leT, ↓q_geT, ↓q_rev, ↓q_oNo, ↓q_oSo, ↓q_dSl, ↓q_sRev, ↓q_lc2, ↓q_lc2Nil, ↓q_lc2Cons, ↓q_en, ↓q_lrg, ↓q_range2, ↓q_aug, ↓q_augI, ↓q_parO, ↓q_parO3, ↓q_sortSet, sat, List.cons_append, List.nil_append, List.append_nil, List.length_cons, List.length_nil, List.set_cons_succ, List.set_cons_zero, List.replicate, cond_true, cond_false, fzS, wipeE, Nat.blt, Nat.ble, eq_self, decide_true, decide_false, Bool.not_true, Bool.not_false, b2, b3, b4, if_true, ↓r, if_pos c, e]
  refine sq_loop (n := n) (top := (rootN n : Nat)) (by omega) (by
    have := Int.ofNat_le.mpr sp.1
    rwa [Int.natCast_mul] at this) (by omega) (by omega) _ _ _ _ _ (Int.le_refl _) (by omega) fun s3 s4 => ?_
  simp -implicitDefEqProofs only [↓q_seq, ↓q_nil, ↓q_ret, ↓q_brk, ↓q_cont, ↓q_if, ↓q_set, ↓q_setF, ↓q_asg, ↓q_par, ↓q_par3, ↓q_expr, ↓q_for, ↓q_vN, ↓q_dN, ↓q_sN, ↓q_take, ↓q_toD, ↓q_toS, ↓q_aFz, ↓q_dC, ↓q_dOp, ↓q_sOp, ↓q_dUn, ↓q_dNil, ↓q_wNil, ↓q_aNil, ↓q_dCons, ↓q_wCons, ↓q_aCons, ↓q_dTup, ↓q_sLst, ↓q_dCall, ↓q_sCall, ↓q_sFn, ↓q_bV, ↓q_bC, ↓q_bAnd, ↓q_bOr, ↓q_bNot, ↓q_dIf, ↓q_sIf, ↓q_dAnd, ↓q_dOr, ↓q_dNot, ↓q_gN, ↓q_gsNil, ↓q_gsCons, ↓q_gTp, ↓q_seqT, ↓q_range1, ↓q_goNil, ↓q_goCons, ↓q_lc, ↓q_lcNil, ↓q_lcCons, ↓q_yes, ↓q_sub, ↓q_add, ↓q_neg, ↓q_lt, ↓q_le, ↓q_gt, ↓q_ge, ↓q_eq, ↓q_ne, ↓q_abs, ↓q_int, ↓q_gcd, ↓q_tupL, ↓q_tupT, ↓q_app, ↓q_is, ↓q_maxL, ↓q_or, ↓q_sum2, ↓q_gtT, ↓q_ltT, ↓q_leT, ↓q_geT, ↓q_rev, ↓q_oNo, ↓q_oSo, ↓q_dSl, ↓q_sRev, ↓q_lc2, ↓q_lc2Nil, ↓q_lc2Cons, ↓q_en, ↓q_lrg, ↓q_range2, ↓q_aug, ↓q_augI, ↓q_parO, ↓q_parO3, ↓q_sortSet, sat, List.cons_append, List.nil_append, List.append_nil, List.length_cons, List.length_nil, List.set_cons_succ, List.set_cons_zero, List.replicate, cond_true, cond_false, fzS, wipeE, Nat.blt, Nat.ble, eq_self, decide_true, decide_false, Bool.not_true, Bool.not_false, b2, b3, b4, if_true]
  rfl
/-! ways of hexes -/
def evens (told : Int) : List Int → Int
  | [] => told
  | a :: L => evens (told + (bif decide (a % 2 = 0) then 1 else 0)) L
def rootH (z : Int) : Int := bif decide (0 ≤ z) then rootI z else -1
def hxT (n x told : Int) : Int := bif decide (0 ≤ rootH (4 * n - 3 * x * x)) && decide (rootH (4 * n - 3 * x * x) * rootH (4 * n - 3 * x * x) = 4 * n - 3 * x * x) then evens told (sortN [rootH (4 * n - 3 * x * x) - x, -rootH (4 * n - 3 * x * x) - x]) else told
def hxGo (n : Int) : Nat → Int → Int → Int
  | 0, _, told => told
  | k + 1, x, told => hxGo n k (x + 1) (hxT n x told)
def hxTop (n : Nat) : Int := rootI (4 * (n : Int) / 3)
def hxWays (n : Nat) : Int := hxGo n (2 * (hxTop n).toNat + 1) (-hxTop n) 0
section
variable {ks : Ks} {s0 s1 s3 s4 s5 : S} {R : Bool}
theorem evens_loop : ∀ (L : List Int) (told : Int) (s6 : S), (∀ s6, ks.nx [s0, s1, .sh (.int (evens told L)), s3, s4, s5, s6] = R) →
    pForGo (gN 6) (pAug 2 gAugAdd (dIf (bC (dOp gEq (dOp gMod (vN 6) (dC (.int 2))) (dC (.int 0)))) (dC (.int 1)) (dC (.int 0)))) (L.map PyData.int) [s0, s1, .sh (.int told), s3, s4, s5, s6] ks = R
  | [], told, s6, h => h s6
  | a :: L, told, s6, h => by
    have ih := fun s6 => evens_loop L (told + (bif decide (a % 2 = 0) then 1 else 0)) s6 h
    have m := fun k => q_mod (i := a) (j := 2) (k := k) (by decide)
    rw [List.map_cons]
    simp -implicitDefEqProofs only [↓q_seq, ↓q_nil, ↓q_ret, ↓q_brk, ↓q_cont, ↓q_if, ↓q_set, ↓q_setF, ↓q_asg, ↓q_par, ↓q_par3, ↓q_expr, ↓q_for, ↓q_vN, ↓q_dN, ↓q_sN, ↓q_take, ↓q_toD, ↓q_toS, ↓q_aFz, ↓q_dC, ↓q_dOp, ↓q_sOp, ↓q_dUn, ↓q_dNil, ↓q_wNil, ↓q_aNil, ↓q_dCons, ↓q_wCons, ↓q_aCons, ↓q_dTup, ↓q_sLst, ↓q_dCall, ↓q_sCall, ↓q_sFn, ↓q_bV, ↓q_bC, ↓q_bAnd, ↓q_bOr, ↓q_bNot, ↓q_dIf, ↓q_sIf, ↓q_dAnd, ↓q_dOr, ↓q_dNot, ↓q_gN, ↓q_gsNil, ↓q_gsCons, ↓q_gTp, ↓q_seqT, ↓q_range1, ↓q_goNil, ↓q_goCons, ↓q_lc, ↓q_lcNil, ↓q_lcCons, ↓q_yes, ↓q_sub, ↓q_add, ↓q_neg, ↓q_lt, ↓q_le, ↓q_gt, ↓q_ge, ↓q_eq, ↓q_ne, ↓q_abs, ↓q_int, ↓q_gcd, ↓q_tupL, ↓q_tupT, ↓q_app, ↓q_is, ↓q_maxL, ↓q_or, ↓q_sum2, ↓q_gtT, ↓q_ltT, ↓q_leT, ↓q_geT, ↓q_rev, ↓q_oNo, ↓q_oSo, ↓q_dSl, ↓q_sRev, ↓q_lc2, ↓q_lc2Nil, ↓q_lc2Cons, ↓q_en, ↓q_lrg, ↓q_range2, ↓q_aug, ↓q_augI, ↓q_parO, ↓q_parO3, ↓q_sortSet, sat, List.cons_append, List.nil_append, List.append_nil, List.length_cons, List.length_nil, List.set_cons_succ, List.set_cons_zero, List.replicate, cond_true, cond_false, fzS, wipeE, Nat.blt, Nat.ble, eq_self, decide_true, decide_false, Bool.not_true, Bool.not_false, b2, b3, b4, if_true, ↓m]
    cases hd : decide (a % 2 = 0) with
    | true => rw [hd] at ih; simp -implicitDefEqProofs only [↓q_seq, ↓q_nil, ↓q_ret, ↓q_brk, ↓q_cont, ↓q_if, ↓q_set, ↓q_setF, ↓q_asg, ↓q_par, ↓q_par3, ↓q_expr, ↓q_for, ↓q_vN, ↓q_dN, ↓q_sN, ↓q_take, ↓q_toD, ↓q_toS, ↓q_aFz, ↓q_dC, ↓q_dOp, ↓q_sOp, ↓q_dUn, ↓q_dNil, ↓q_wNil, ↓q_aNil, ↓q_dCons, ↓q_wCons, ↓q_aCons, ↓q_dTup, ↓q_sLst, ↓q_dCall, ↓q_sCall, ↓q_sFn, ↓q_bV, ↓q_bC, ↓q_bAnd, ↓q_bOr, ↓q_bNot, ↓q_dIf, ↓q_sIf, ↓q_dAnd, ↓q_dOr, ↓q_dNot, ↓q_gN, ↓q_gsNil, ↓q_gsCons, ↓q_gTp, ↓q_seqT, ↓q_range1, ↓q_goNil, ↓q_goCons, ↓q_lc, ↓q_lcNil, ↓q_lcCons, ↓q_yes, ↓q_sub, ↓q_add, ↓q_neg, ↓q_lt, ↓q_le, ↓q_gt, ↓q_ge, ↓q_eq, ↓q_ne, ↓q_abs, ↓q_int, ↓q_gcd, ↓q_tupL, ↓q_tupT, ↓q_app, ↓q_is, ↓q_maxL, ↓q_or, ↓q_sum2, ↓q_gtT, ↓q_ltT, ↓q_leT, ↓q_geT, ↓q_rev, ↓q_oNo, ↓q_oSo, ↓q_dSl, ↓q_sRev, ↓q_lc2, ↓q_lc2Nil, ↓q_lc2Cons, ↓q_en, ↓q_lrg, ↓q_range2, ↓q_aug, ↓q_augI, ↓q_parO, ↓q_parO3, ↓q_sortSet, sat, List.cons_append, List.nil_append, List.append_nil, List.length_cons, List.length_nil, List.set_cons_succ, List.set_cons_zero, List.replicate, cond_true, cond_false, fzS, wipeE, Nat.blt, Nat.ble, eq_self, decide_true, decide_false, Bool.not_true, Bool.not_false, b2, b3, b4, if_true]; exact ih _
    | false => rw [hd] at ih; simp -implicitDefEqProofs only [↓q_seq, ↓q_nil, ↓q_ret, ↓q_brk, ↓q_cont, ↓q_if, ↓q_set, ↓q_setF, ↓q_asg, ↓q_par, ↓q_par3, ↓q_expr, ↓q_for, ↓q_vN, ↓q_dN, ↓q_sN, ↓q_take, ↓q_toD, ↓q_toS, ↓q_aFz, ↓q_dC, ↓q_dOp, ↓q_sOp, ↓q_dUn, ↓q_dNil, ↓q_wNil, ↓q_aNil, ↓q_dCons, ↓q_wCons, ↓q_aCons, ↓q_dTup, ↓q_sLst, ↓q_dCall, ↓q_sCall, ↓q_sFn, ↓q_bV, ↓q_bC, ↓q_bAnd, ↓q_bOr, ↓q_bNot, ↓q_dIf, ↓q_sIf, ↓q_dAnd, ↓q_dOr, ↓q_dNot, ↓q_gN, ↓q_gsNil, ↓q_gsCons, ↓q_gTp, ↓q_seqT, ↓q_range1, ↓q_goNil, ↓q_goCons, ↓q_lc, ↓q_lcNil, ↓q_lcCons, ↓q_yes, ↓q_sub, ↓q_add, ↓q_neg, ↓q_lt, ↓q_le, ↓q_gt, ↓q_ge, ↓q_eq, ↓q_ne, ↓q_abs, ↓q_int, ↓q_gcd, ↓q_tupL, ↓q_tupT, ↓q_app, ↓q_is, ↓q_maxL, ↓q_or, ↓q_sum2, ↓q_gtT, ↓q_ltT, ↓q_leT, ↓q_geT, ↓q_rev, ↓q_oNo, ↓q_oSo, ↓q_dSl, ↓q_sRev, ↓q_lc2, ↓q_lc2Nil, ↓q_lc2Cons, ↓q_en, ↓q_lrg, ↓q_range2, ↓q_aug, ↓q_augI, ↓q_parO, ↓q_parO3, ↓q_sortSet, sat, List.cons_append, List.nil_append, List.append_nil, List.length_cons, List.length_nil, List.set_cons_succ, List.set_cons_zero, List.replicate, cond_true, cond_false, fzS, wipeE, Nat.blt, Nat.ble, eq_self, decide_true, decide_false, Bool.not_true, Bool.not_false, b2, b3, b4, if_true]; exact ih _
theorem hx_loop {n top : Int} (hn : 0 ≤ n) (hn1 : n < 200000000000) (ht1 : top ≤ 1000000) : ∀ (k : Nat) (x told : Int) (s3 s4 s5 s6 : S), -top ≤ x → x + (k : Int) ≤ top + 1 →
    (∀ s3 s4 s5 s6, ks.nx [.sh (.int n), s1, .sh (.int (hxGo n k x told)), s3, s4, s5, s6] = R) →
    pForGo (gN 3) (pSeq (pSet 4 (toS (dOp gSubI (dOp gMul (dC (.int 4)) (vN 0)) (dOp gMul (dOp gMul (dC (.int 3)) (vN 3)) (vN 3)))))
  (pSeq (pSet 5 (toS (dIf (bC (dOp gGe (vN 4) (dC (.int 0)))) (toD (sFn m_root_below (aCons (sN 4) aNil))) (dC (.int (-1))))))
  (pIf (bAnd (bC (dOp gGe (vN 5) (dC (.int 0)))) (bC (dOp gEq (dOp gMul (vN 5) (vN 5)) (vN 4))))
  (pFor (iSeq (toD (sSortSet (toD (sLst (dCons (dOp gSubI (vN 5) (vN 3)) (dCons (dOp gSubI (dUn gNeg (vN 5)) (vN 3)) dNil))))))) (gN 6)
  (pAug 2 gAugAdd (dIf (bC (dOp gEq (dOp gMod (vN 6) (dC (.int 2))) (dC (.int 0)))) (dC (.int 1)) (dC (.int 0)))))
  pNil))) (rngL x k) [.sh (.int n), s1, .sh (.int told), s3, s4, s5, s6] ks = R
  | 0, x, told, s3, s4, s5, s6, _, _, h => h s3 s4 s5 s6
  | k + 1, x, told, s3, s4, s5, s6, h1, h2, h => by
    have ih := fun s3 s4 s5 s6 => hx_loop hn hn1 ht1 k (x + 1) (hxT n x told) s3 s4 s5 s6 (by omega) (by omega) h
    have hx0 : 0 ≤ 3 * x * x := by
      rw [Int.mul_assoc]
      have : 0 ≤ x * x := by
        rcases Int.le_total 0 x with z | z
        · exact Int.mul_nonneg z z
        · have := Int.mul_nonneg (show 0 ≤ -x by omega) (show 0 ≤ -x by omega)
          rwa [Int.neg_mul_neg] at this
      omega
    have m0 := mulOk_of (i := 4) (j := n) (a := 40) (b := 40) (by unfold Sz; decide) (by unfold Sz; omega) (by decide) (by decide)
    have m1 := mulOk_of (i := 3) (j := x) (a := 40) (b := 40) (by unfold Sz; decide) (by unfold Sz; omega) (by decide) (by decide)
    have m2 := mulOk_of (i := 3 * x) (j := x) (a := 40) (b := 40) (by unfold Sz; omega) (by unfold Sz; omega) (by decide) (by decide)
    rw [rngL]
    have ai : ∀ (a b : Int) (k : List Int → Bool), asInts [.int a, .int b] k = k [a, b] := fun _ _ _ => rfl
    simp -implicitDefEqProofs only [↓q_seq, ↓q_nil, ↓q_ret, ↓q_brk, ↓q_cont, ↓q_if, ↓q_set, ↓q_setF, ↓q_asg, ↓q_par, ↓q_par3, ↓q_expr, ↓q_for, ↓q_vN, ↓q_dN, ↓q_sN, ↓q_take, ↓q_toD, ↓q_toS, ↓q_aFz, ↓q_dC, ↓q_dOp, ↓q_sOp, ↓q_dUn, ↓q_dNil, ↓q_wNil, ↓q_aNil, ↓q_dCons, ↓q_wCons, ↓q_aCons, ↓q_dTup, ↓q_sLst, ↓q_dCall, ↓q_sCall, ↓q_sFn, ↓q_bV, ↓q_bC, ↓q_bAnd, ↓q_bOr, ↓q_bNot, ↓q_dIf, ↓q_sIf, ↓q_dAnd, ↓q_dOr, ↓q_dNot, ↓q_gN, ↓q_gsNil, ↓q_gsCons, ↓q_gTp, ↓q_seqT, ↓q_range1, ↓q_goNil, ↓q_goCons, ↓q_lc, ↓q_lcNil, ↓q_lcCons, ↓q_yes, ↓q_sub, ↓q_add, ↓q_neg, ↓q_lt, ↓q_le, ↓q_gt, ↓q_ge, ↓q_eq, ↓q_ne, ↓q_abs, ↓q_int, ↓q_gcd, ↓q_tupL, ↓q_tupT, ↓q_app, ↓q_is, ↓q_maxL, ↓q_or, ↓q_sum2, ↓q_gtT, ↓q_ltT, ↓q_leT, ↓q_geT, ↓q_rev, ↓q_oNo, ↓q_oSo, ↓q_dSl, ↓q_sRev, ↓q_lc2, ↓q_lc2Nil, ↓q_lc2Cons, ↓q_en, ↓q_lrg, ↓q_range2, ↓q_aug, ↓q_augI, ↓q_parO, ↓q_parO3, ↓q_sortSet, sat, List.cons_append, List.nil_append, List.append_nil, List.length_cons, List.length_nil, List.set_cons_succ, List.set_cons_zero, List.replicate, cond_true, cond_false, fzS, wipeE, Nat.blt, Nat.ble, eq_self, decide_true, decide_false, Bool.not_true, Bool.not_false, b2, b3, b4, if_true, ↓q_mul m0, ↓q_mul m1, ↓q_mul m2]
    unfold hxT rootH at ih
    cases hz : decide (0 ≤ 4 * n - 3 * x * x) with
    | false =>
      rw [hz] at ih
      have g1 : decide ((0 : Int) ≤ -1) = false := by decide
      simp -implicitDefEqProofs only [↓q_seq, ↓q_nil, ↓q_ret, ↓q_brk, ↓q_cont, ↓q_if, ↓q_set, ↓q_setF, ↓q_asg, ↓q_par, ↓q_par3, ↓q_expr, ↓q_for, ↓q_vN, ↓q_dN, ↓q_sN, ↓q_take, ↓q_toD, ↓q_toS, ↓q_aFz, ↓q_dC, ↓q_dOp, ↓q_sOp, ↓q_dUn, ↓q_dNil, ↓q_wNil, ↓q_aNil, ↓q_dCons, ↓q_wCons, ↓q_aCons, ↓q_dTup, ↓q_sLst, ↓q_dCall, ↓q_sCall, ↓q_sFn, ↓q_bV, ↓q_bC, ↓q_bAnd, ↓q_bOr, ↓q_bNot, ↓q_dIf, ↓q_sIf, ↓q_dAnd, ↓q_dOr, ↓q_dNot, ↓q_gN, ↓q_gsNil, ↓q_gsCons, ↓q_gTp, ↓q_seqT, ↓q_range1, ↓q_goNil, ↓q_goCons, ↓q_lc, ↓q_lcNil, ↓q_lcCons, ↓q_yes, ↓q_sub, ↓q_add, ↓q_neg, ↓q_lt, ↓q_le, ↓q_gt, ↓q_ge, ↓q_eq, ↓q_ne, ↓q_abs, ↓q_int, ↓q_gcd, ↓q_tupL, ↓q_tupT, ↓q_app, ↓q_is, ↓q_maxL, ↓q_or, ↓q_sum2, ↓q_gtT, ↓q_ltT, ↓q_leT, ↓q_geT, ↓q_rev, ↓q_oNo, ↓q_oSo, ↓q_dSl, ↓q_sRev, ↓q_lc2, ↓q_lc2Nil, ↓q_lc2Cons, ↓q_en, ↓q_lrg, ↓q_range2, ↓q_aug, ↓q_augI, ↓q_parO, ↓q_parO3, ↓q_sortSet, sat, List.cons_append, List.nil_append, List.append_nil, List.length_cons, List.length_nil, List.set_cons_succ, List.set_cons_zero, List.replicate, cond_true, cond_false, fzS, wipeE, Nat.blt, Nat.ble, eq_self, decide_true, decide_false, Bool.not_true, Bool.not_false, b2, b3, b4, if_true, g1]
      rw [cond_false, g1, Bool.false_and, cond_false] at ih
      exact ih _ _ _ _
    | true =>
      have hz' := of_decide_eq_true hz
      have r := fun k => rootI_eq (z := 4 * n - 3 * x * x) (k := k) hz' (by omega)
      have rl := rootI_le (z := 4 * n - 3 * x * x) (b := 1000000) hz' (by omega) (by decide)
      have rs := (rootI_spec hz').1
      have m3 := mulOk_of (i := rootI (4 * n - 3 * x * x)) (j := rootI (4 * n - 3 * x * x)) (a := 40) (b := 40) (by unfold Sz; omega) (by unfold Sz; omega) (by decide) (by decide)
      have g1 : decide (0 ≤ rootI (4 * n - 3 * x * x)) = true := decide_eq_true rs
      rw [hz, cond_true, g1, Bool.true_and] at ih
      simp -implicitDefEqProofs only [↓q_seq, ↓q_nil, ↓q_ret, ↓q_brk, ↓q_cont, ↓q_if, ↓q_set, ↓q_setF, ↓q_asg, ↓q_par, ↓q_par3, ↓q_expr, ↓q_for, ↓q_vN, ↓q_dN, ↓q_sN, ↓q_take, ↓q_toD, ↓q_toS, ↓q_aFz, ↓q_dC, ↓q_dOp, ↓q_sOp, ↓q_dUn, ↓q_dNil, ↓q_wNil, ↓q_aNil, ↓q_dCons, ↓q_wCons, ↓q_aCons, ↓q_dTup, ↓q_sLst, ↓q_dCall, ↓q_sCall, ↓q_sFn, ↓q_bV, ↓q_bC, ↓q_bAnd, ↓q_bOr, ↓q_bNot, ↓q_dIf, ↓q_sIf, ↓q_dAnd, ↓q_dOr, ↓q_dNot, ↓q_gN, ↓q_gsNil, ↓q_gsCons, ↓q_gTp, ↓q_seqT, ↓q_range1, ↓q_goNil, ↓q_goCons, ↓q_lc, ↓q_lcNil, ↓q_lcCons, ↓q_yes, ↓q_sub, ↓q_add, ↓q_neg, ↓q_lt, ↓q_le, ↓q_gt, ↓q_ge, ↓q_eq, ↓q_ne, ↓q_abs, ↓q_int, ↓q_gcd, ↓q_tupL, ↓q_tupT, ↓q_app, ↓q_is, ↓q_maxL, ↓q_or, ↓q_sum2, ↓q_gtT, ↓q_ltT, ↓q_leT, ↓q_geT, ↓q_rev, ↓q_oNo, ↓q_oSo, ↓q_dSl, ↓q_sRev, ↓q_lc2, ↓q_lc2Nil, ↓q_lc2Cons, ↓q_en, ↓q_lrg, ↓q_range2, ↓q_aug, ↓q_augI, ↓q_parO, ↓q_parO3, ↓q_sortSet, sat, List.cons_append, List.nil_append, List.append_nil, List.length_cons, List.length_nil, List.set_cons_succ, List.set_cons_zero, List.replicate, cond_true, cond_false, fzS, wipeE, Nat.blt, Nat.ble, eq_self, decide_true, decide_false, Bool.not_true, Bool.not_false, b2, b3, b4, if_true, ↓r, ↓q_mul m3, g1, ↓ai]
      cases hd : decide (rootI (4 * n - 3 * x * x) * rootI (4 * n - 3 * x * x) = 4 * n - 3 * x * x) with
      | false =>
        rw [hd, cond_false] at ih
        simp -implicitDefEqProofs only [↓q_seq, ↓q_nil, ↓q_ret, ↓q_brk, ↓q_cont, ↓q_if, ↓q_set, ↓q_setF, ↓q_asg, ↓q_par, ↓q_par3, ↓q_expr, ↓q_for, ↓q_vN, ↓q_dN, ↓q_sN, ↓q_take, ↓q_toD, ↓q_toS, ↓q_aFz, ↓q_dC, ↓q_dOp, ↓q_sOp, ↓q_dUn, ↓q_dNil, ↓q_wNil, ↓q_aNil, ↓q_dCons, ↓q_wCons, ↓q_aCons, ↓q_dTup, ↓q_sLst, ↓q_dCall, ↓q_sCall, ↓q_sFn, ↓q_bV, ↓q_bC, ↓q_bAnd, ↓q_bOr, ↓q_bNot, ↓q_dIf, ↓q_sIf, ↓q_dAnd, ↓q_dOr, ↓q_dNot, ↓q_gN, ↓q_gsNil, ↓q_gsCons, ↓q_gTp, ↓q_seqT, ↓q_range1, ↓q_goNil, ↓q_goCons, ↓q_lc, ↓q_lcNil, ↓q_lcCons, ↓q_yes, ↓q_sub, ↓q_add, ↓q_neg, ↓q_lt, ↓q_le, ↓q_gt, ↓q_ge, ↓q_eq, ↓q_ne, ↓q_abs, ↓q_int, ↓q_gcd, ↓q_tupL, ↓q_tupT, ↓q_app, ↓q_is, ↓q_maxL, ↓q_or, ↓q_sum2, ↓q_gtT, ↓q_ltT, ↓q_leT, ↓q_geT, ↓q_rev, ↓q_oNo, ↓q_oSo, ↓q_dSl, ↓q_sRev, ↓q_lc2, ↓q_lc2Nil, ↓q_lc2Cons, ↓q_en, ↓q_lrg, ↓q_range2, ↓q_aug, ↓q_augI, ↓q_parO, ↓q_parO3, ↓q_sortSet, sat, List.cons_append, List.nil_append, List.append_nil, List.length_cons, List.length_nil, List.set_cons_succ, List.set_cons_zero, List.replicate, cond_true, cond_false, fzS, wipeE, Nat.blt, Nat.ble, eq_self, decide_true, decide_false, Bool.not_true, Bool.not_false, b2, b3, b4, if_true]
        exact ih _ _ _ _
      | true =>
        rw [hd, cond_true] at ih
        simp -implicitDefEqProofs only [↓q_seq, ↓q_nil, ↓q_ret, ↓q_brk, ↓q_cont, ↓q_if, ↓q_set, ↓q_setF, ↓q_asg, ↓q_par, ↓q_par3, ↓q_expr, ↓q_for, ↓q_vN, ↓q_dN, ↓q_sN, ↓q_take, ↓q_toD, ↓q_toS, ↓q_aFz, ↓q_dC, ↓q_dOp, ↓q_sOp, ↓q_dUn, ↓q_dNil, ↓q_wNil, ↓q_aNil, ↓q_dCons, ↓q_wCons, ↓q_aCons, ↓q_dTup, ↓q_sLst, ↓q_dCall, ↓q_sCall, ↓q_sFn, ↓q_bV, ↓q_bC, ↓q_bAnd, ↓q_bOr, ↓q_bNot, ↓q_dIf, ↓q_sIf, ↓q_dAnd, ↓q_dOr, ↓q_dNot, ↓q_gN, ↓q_gsNil, ↓q_gsCons, ↓q_gTp, ↓q_seqT, ↓q_range1, ↓q_goNil, ↓q_goCons, ↓q_lc, ↓q_lcNil, ↓q_lcCons, ↓q_yes, ↓q_sub, ↓q_add, ↓q_neg, ↓q_lt, ↓q_le, ↓q_gt, ↓q_ge, ↓q_eq, ↓q_ne, ↓q_abs, ↓q_int, ↓q_gcd, ↓q_tupL, ↓q_tupT, ↓q_app, ↓q_is, ↓q_maxL, ↓q_or, ↓q_sum2, ↓q_gtT, ↓q_ltT, ↓q_leT, ↓q_geT, ↓q_rev, ↓q_oNo, ↓q_oSo, ↓q_dSl, ↓q_sRev, ↓q_lc2, ↓q_lc2Nil, ↓q_lc2Cons, ↓q_en, ↓q_lrg, ↓q_range2, ↓q_aug, ↓q_augI, ↓q_parO, ↓q_parO3, ↓q_sortSet, sat, List.cons_append, List.nil_append, List.append_nil, List.length_cons, List.length_nil, List.set_cons_succ, List.set_cons_zero, List.replicate, cond_true, cond_false, fzS, wipeE, Nat.blt, Nat.ble, eq_self, decide_true, decide_false, Bool.not_true, Bool.not_false, b2, b3, b4, if_true]
        exact evens_loop _ _ _ fun s6 => ih _ _ _ _
end
theorem hxways_eq {n : Nat} (hn : n < 200000000000) {k : S → Bool} : m_count_hex_ways [.sh (.int (n : Int))] k = k (.sh (.int (hxWays n))) := by
  have h3 : 0 ≤ 4 * (n : Int) / 3 := by omega
  have r := fun k => rootI_eq (z := 4 * (n : Int) / 3) (k := k) h3 (by omega)
  have tl := rootI_le (z := 4 * (n : Int) / 3) (b := 1000000) h3 (by omega) (by decide)
  have t0 := (rootI_spec h3).1
  have m0 := mulOk_of (i := 4) (j := (n : Int)) (a := 40) (b := 40) (by unfold Sz; decide) (by unfold Sz; omega) (by decide) (by decide)
  have d := fun k => q_div (i := 4 * (n : Int)) (j := 3) (k := k) (by decide) (by decide)
  have hxe : rootI (4 * (n : Int) / 3) = hxTop n := rfl
  rw [hxe] at r tl t0
  have c : -(2 ^ 62) ≤ -hxTop n ∧ -hxTop n < 2 ^ 62 ∧ -(2 ^ 62) ≤ hxTop n + 1 ∧ hxTop n + 1 < 2 ^ 62 := by omega
  have e : (hxTop n + 1 - -hxTop n).toNat = 2 * (hxTop n).toNat + 1 := by omega
  unfold m_count_hex_ways mkFn b_count_hex_ways
  simp -implicitDefEqProofs only [↓q_seq, ↓q_nil, ↓q_ret, ↓q_brk, ↓q_cont, ↓q_if, ↓q_set, ↓q_setF, ↓q_asg, ↓q_par, ↓q_par3, ↓q_expr, ↓q_for, ↓q_vN, ↓q_dN, ↓q_sN, ↓q_take, ↓q_toD, ↓q_toS, ↓q_aFz, ↓q_dC, ↓q_dOp, ↓q_sOp, ↓q_dUn, ↓q_dNil, ↓q_wNil, ↓q_aNil, ↓q_dCons, ↓q_wCons, ↓q_aCons, ↓q_dTup, ↓q_sLst, ↓q_dCall, ↓q_sCall, ↓q_sFn, ↓q_bV, ↓q_bC, ↓q_bAnd, ↓q_bOr, ↓q_bNot, ↓q_dIf, ↓q_sIf, ↓q_dAnd, ↓q_dOr, ↓q_dNot, ↓q_gN, ↓q_gsNil, ↓q_gsCons, ↓q_gTp, ↓q_seqT, ↓q_range1, ↓q_goNil, ↓q_goCons, ↓q_lc, ↓q_lcNil, ↓q_lcCons, ↓q_yes, ↓q_sub, ↓q_add, ↓q_neg, ↓q_lt, ↓q_le, ↓q_gt, ↓q_ge, ↓q_eq, ↓q_ne, ↓q_abs, ↓q_int, ↓q_gcd, ↓q_tupL, ↓q_tupT, ↓q_app, ↓q_is, ↓q_maxL, ↓q_or, ↓q_sum2, ↓q_gtT, ↓q_ltT, ↓q_leT, ↓q_geT, ↓q_rev, ↓q_oNo, ↓q_oSo, ↓q_dSl, ↓q_sRev, ↓q_lc2, ↓q_lc2Nil, ↓q_lc2Cons, ↓q_en, ↓q_lrg, ↓q_range2, ↓q_aug, ↓q_augI, ↓q_parO, ↓q_parO3, ↓q_sortSet, sat, List.cons_append, List.nil_append, List.append_nil, List.length_cons, List.length_nil, List.set_cons_succ, List.set_cons_zero, List.replicate, cond_true, cond_false, fzS, wipeE, Nat.blt, Nat.ble, eq_self, decide_true, decide_false, Bool.not_true, Bool.not_false, b2, b3, b4, if_true, ↓q_mul m0, ↓d, ↓r, if_pos c, e]
  refine hx_loop (n := n) (top := hxTop n) (by omega) (by omega) (by omega) _ _ _ _ _ _ _ (Int.le_refl _) (by omega) fun s3 s4 s5 s6 => ?_
  simp -implicitDefEqProofs only [↓q_seq, ↓q_nil, ↓q_ret, ↓q_brk, ↓q_cont, ↓q_if, ↓q_set, ↓q_setF, ↓q_asg, ↓q_par, ↓q_par3, ↓q_expr, ↓q_for, ↓q_vN, ↓q_dN, ↓q_sN, ↓q_take, ↓q_toD, ↓q_toS, ↓q_aFz, ↓q_dC, ↓q_dOp, ↓q_sOp, ↓q_dUn, ↓q_dNil, ↓q_wNil, ↓q_aNil, ↓q_dCons, ↓q_wCons, ↓q_aCons, ↓q_dTup, ↓q_sLst, ↓q_dCall, ↓q_sCall, ↓q_sFn, ↓q_bV, ↓q_bC, ↓q_bAnd, ↓q_bOr, ↓q_bNot, ↓q_dIf, ↓q_sIf, ↓q_dAnd, ↓q_dOr, ↓q_dNot, ↓q_gN, ↓q_gsNil, ↓q_gsCons, ↓q_gTp, ↓q_seqT, ↓q_range1, ↓q_goNil, ↓q_goCons, ↓q_lc, ↓q_lcNil, ↓q_lcCons, ↓q_yes, ↓q_sub, ↓q_add, ↓q_neg, ↓q_lt, ↓q_le, ↓q_gt, ↓q_ge, ↓q_eq, ↓q_ne, ↓q_abs, ↓q_int, ↓q_gcd, ↓q_tupL, ↓q_tupT, ↓q_app, ↓q_is, ↓q_maxL, ↓q_or, ↓q_sum2, ↓q_gtT, ↓q_ltT, ↓q_leT, ↓q_geT, ↓q_rev, ↓q_oNo, ↓q_oSo, ↓q_dSl, ↓q_sRev, ↓q_lc2, ↓q_lc2Nil, ↓q_lc2Cons, ↓q_en, ↓q_lrg, ↓q_range2, ↓q_aug, ↓q_augI, ↓q_parO, ↓q_parO3, ↓q_sortSet, sat, List.cons_append, List.nil_append, List.append_nil, List.length_cons, List.length_nil, List.set_cons_succ, List.set_cons_zero, List.replicate, cond_true, cond_false, fzS, wipeE, Nat.blt, Nat.ble, eq_self, decide_true, decide_false, Bool.not_true, Bool.not_false, b2, b3, b4, if_true]
  rfl
end Law

set_option Elab.async false
set_option linter.all false
set_option maxRecDepth 100000
set_option maxHeartbeats 4000000
set_option synthInstance.maxHeartbeats 0
set_option synthInstance.maxSize 100000
namespace Law
open PySem Orn
theorem lof_eq {t : Int × Int × Int} {x y : Int} (o : Okt t) (hy : y.natAbs ≤ 1000000) {k : S → Bool} : m__law_of [.sh (D3 t), .sh (.int x), .sh (.int y)] k = k (.sh (.bool (isOfI t x y))) := by
  obtain ⟨a, b, c⟩ := t
  obtain ⟨a0, a1, b0, b1, c0, c1⟩ := o
  dsimp only at a0 a1 b0 b1 c0 c1
  have hl : c.natAbs.log2 < 9000 := log2_lt (b := 9000) (by
      have h1 : c.natAbs < 2 ^ 10 := by omega
      exact Nat.lt_of_lt_of_le h1 (Nat.pow_le_pow_right (by decide) (by decide))) (by decide)
  have d := fun k => q_div (i := y) (k := k) c0 hl
  have m1 := fun i k => q_mod (i := i) (k := k) c0
  have m2 := fun i k => q_mod (i := i) (k := k) a0
  have sy : Sz 40 (y / c) := by
    have := Sz.ediv (a := 40) (i := y) (by unfold Sz; omega) c.toNat
    rw [show ((c.toNat : Nat) : Int) = c by omega] at this
    exact this
  have mu := mulOk_of (i := y / c) (j := b) (a := 40) (b := 40) sy (by unfold Sz; omega) (by decide) (by decide)
  unfold m__law_of mkFn b__law_of D3
  simp -implicitDefEqProofs only [↓q_seq, ↓q_nil, ↓q_ret, ↓q_brk, ↓q_cont, ↓q_if, ↓q_set, ↓q_setF, ↓q_asg, ↓q_par, ↓q_par3, ↓q_expr, ↓q_for, ↓q_vN, ↓q_dN, ↓q_sN, ↓q_take, ↓q_toD, ↓q_toS, ↓q_aFz, ↓q_dC, ↓q_dOp, ↓q_sOp, ↓q_dUn, ↓q_dNil, ↓q_wNil, ↓q_aNil, ↓q_dCons, ↓q_wCons, ↓q_aCons, ↓q_dTup, ↓q_sLst, ↓q_dCall, ↓q_sCall, ↓q_sFn, ↓q_bV, ↓q_bC, ↓q_bAnd, ↓q_bOr, ↓q_bNot, ↓q_dIf, ↓q_sIf, ↓q_dAnd, ↓q_dOr, ↓q_dNot, ↓q_gN, ↓q_gsNil, ↓q_gsCons, ↓q_gTp, ↓q_seqT, ↓q_range1, ↓q_goNil, ↓q_goCons, ↓q_lc, ↓q_lcNil, ↓q_lcCons, ↓q_yes, ↓q_sub, ↓q_add, ↓q_neg, ↓q_lt, ↓q_le, ↓q_gt, ↓q_ge, ↓q_eq, ↓q_ne, ↓q_abs, ↓q_int, ↓q_gcd, ↓q_tupL, ↓q_tupT, ↓q_app, ↓q_is, ↓q_maxL, ↓q_or, ↓q_sum2, ↓q_gtT, ↓q_ltT, ↓q_leT, ↓q_geT, ↓q_rev, ↓q_oNo, ↓q_oSo, ↓q_dSl, ↓q_sRev, ↓q_lc2, ↓q_lc2Nil, ↓q_lc2Cons, ↓q_en, ↓q_lrg, ↓q_range2, ↓q_aug, ↓q_augI, ↓q_parO, ↓q_parO3, ↓q_sortSet, sat, List.cons_append, List.nil_append, List.append_nil, List.length_cons, List.length_nil, List.set_cons_succ, List.set_cons_zero, List.replicate, cond_true, cond_false, fzS, wipeE, Nat.blt, Nat.ble, eq_self, decide_true, decide_false, Bool.not_true, Bool.not_false, b2, b3, b4, if_true, ↓d, ↓m1, ↓m2, ↓q_mul mu]
  unfold isOfI
  dsimp only
  cases decide (y % c = 0) <;> rfl
theorem lkeeps_eq {p q r s : Int} {t : Int × Int × Int} (hp : one1 p) (hq : one1 q) (hr : one1 r) (hs : one1 s) (o : Okt t) {k : S → Bool} : m__law_keeps [.sh (L4 p q r s), .sh (D3 t)] k = k (.sh (.bool (keepsI p q r s t))) := by
  have i1 := fun k => lof_eq (k := k) (t := t) (x := p * t.1) (y := r * t.1) o (by have := hr.mul (a := t.1) (by have := o.a0; have := o.a1; omega); omega)
  have i2 := fun k => lof_eq (k := k) (t := t) (x := p * t.2.1 + q * t.2.2) (y := r * t.2.1 + s * t.2.2) o (by
    have := hr.mul (a := t.2.1) (by have := o.b0; have := o.b1; omega)
    have := hs.mul (a := t.2.2) (by have := o.c0; have := o.c1; omega)
    omega)
  obtain ⟨a, b, c⟩ := t
  obtain ⟨a0, a1, b0, b1, c0, c1⟩ := o
  dsimp only at a0 a1 b0 b1 c0 c1 i1 i2
  have sa : Sz 40 a := by unfold Sz; omega
  have sb : Sz 40 b := by unfold Sz; omega
  have sc : Sz 40 c := by unfold Sz; omega
  have M := fun {i j : Int} (x : Sz 40 i) (y : Sz 40 j) => mulOk_of (i := i) (j := j) (a := 40) (b := 40) x y (by decide) (by decide)
  unfold m__law_keeps mkFn b__law_keeps L4 D3
  unfold D3 at i1 i2
  simp -implicitDefEqProofs only [↓q_seq, ↓q_nil, ↓q_ret, ↓q_brk, ↓q_cont, ↓q_if, ↓q_set, ↓q_setF, ↓q_asg, ↓q_par, ↓q_par3, ↓q_expr, ↓q_for, ↓q_vN, ↓q_dN, ↓q_sN, ↓q_take, ↓q_toD, ↓q_toS, ↓q_aFz, ↓q_dC, ↓q_dOp, ↓q_sOp, ↓q_dUn, ↓q_dNil, ↓q_wNil, ↓q_aNil, ↓q_dCons, ↓q_wCons, ↓q_aCons, ↓q_dTup, ↓q_sLst, ↓q_dCall, ↓q_sCall, ↓q_sFn, ↓q_bV, ↓q_bC, ↓q_bAnd, ↓q_bOr, ↓q_bNot, ↓q_dIf, ↓q_sIf, ↓q_dAnd, ↓q_dOr, ↓q_dNot, ↓q_gN, ↓q_gsNil, ↓q_gsCons, ↓q_gTp, ↓q_seqT, ↓q_range1, ↓q_goNil, ↓q_goCons, ↓q_lc, ↓q_lcNil, ↓q_lcCons, ↓q_yes, ↓q_sub, ↓q_add, ↓q_neg, ↓q_lt, ↓q_le, ↓q_gt, ↓q_ge, ↓q_eq, ↓q_ne, ↓q_abs, ↓q_int, ↓q_gcd, ↓q_tupL, ↓q_tupT, ↓q_app, ↓q_is, ↓q_maxL, ↓q_or, ↓q_sum2, ↓q_gtT, ↓q_ltT, ↓q_leT, ↓q_geT, ↓q_rev, ↓q_oNo, ↓q_oSo, ↓q_dSl, ↓q_sRev, ↓q_lc2, ↓q_lc2Nil, ↓q_lc2Cons, ↓q_en, ↓q_lrg, ↓q_range2, ↓q_aug, ↓q_augI, ↓q_parO, ↓q_parO3, ↓q_sortSet, sat, List.cons_append, List.nil_append, List.append_nil, List.length_cons, List.length_nil, List.set_cons_succ, List.set_cons_zero, List.replicate, cond_true, cond_false, fzS, wipeE, Nat.blt, Nat.ble, eq_self, decide_true, decide_false, Bool.not_true, Bool.not_false, b2, b3, b4, if_true, ↓q_mul (M hp.sz sa), ↓q_mul (M hr.sz sa), ↓q_mul (M hp.sz sb), ↓q_mul (M hq.sz sc), ↓q_mul (M hr.sz sb), ↓q_mul (M hs.sz sc), ↓i1, ↓i2]
  unfold keepsI
  dsimp only
  cases isOfI (a, b, c) (p * a) (r * a) <;> rfl
/-! how many there are -/
def tri : Nat → Nat → Nat
  | 0, _ => 0
  | k + 1, a => a + tri k (a + 1)
theorem rowT_len {n a : Int} : ∀ (k : Nat) (b : Int), (rowT n a k b).length = k
  | 0, _ => rfl
  | k + 1, b => by rw [rowT, List.length_cons, rowT_len k]
theorem subF_len {n : Int} : ∀ (k : Nat) (a : Nat), (subF n k (a : Int)).length ≤ tri k a
  | 0, _ => Nat.le_refl _
  | k + 1, a => by
    have := subF_len (n := n) k (a + 1)
    rw [show ((a + 1 : Nat) : Int) = (a : Int) + 1 from rfl] at this
    rw [subF, tri, List.length_append]
    have h : (bif decide (n % (a : Int) = 0) then rowT n a (a : Int).toNat 0 else []).length ≤ a := by
      cases decide (n % (a : Int) = 0)
      · exact Nat.zero_le _
      · rw [cond_true, rowT_len]; exact Nat.le_refl _
    omega
theorem tri_le : ∀ n, n < 400 → tri n 1 ≤ 80000 := by decide +kernel
theorem subl_len {n : Nat} (h : n < 400) : (subl n).length ≤ 80000 := Nat.le_trans (subF_len n 1) (tri_le n h)
section
variable {s0 s1 s5 s6 s7 s8 s9 s10 s11 s12 s13 s14 s15 s17 : S} {ks : Ks} {R : Bool}
theorem row_go2 {n a : Int} {s3 : S} (ha : 0 < a) (hl : a.natAbs.log2 < 9000) {kL : List D → Bool} : ∀ (k : Nat) (b : Int),
    lcGo [s0, s1, .sh (.int n), s3, .sh (.int a), s5, s6, s7, s8, s9, s10, s11, s12, s13, s14, s15, .un, s17] (gN 16) bYes (dTup (dCons (dN 4) (dCons (dN 16) (dCons (dOp gDiv (vN 2) (vN 4)) dNil)))) (rngL b k) kL = kL ((rowT n a k b).map D3)
  | 0, b => rfl
  | k + 1, b => by
    have ih := fun kL => row_go2 (n := n) (s3 := s3) ha hl (kL := kL) k (b + 1)
    have d := fun k => q_div (i := n) (k := k) ha hl
    rw [rngL]
    simp -implicitDefEqProofs only [↓q_seq, ↓q_nil, ↓q_ret, ↓q_brk, ↓q_cont, ↓q_if, ↓q_set, ↓q_setF, ↓q_asg, ↓q_par, ↓q_par3, ↓q_expr, ↓q_for, ↓q_vN, ↓q_dN, ↓q_sN, ↓q_take, ↓q_toD, ↓q_toS, ↓q_aFz, ↓q_dC, ↓q_dOp, ↓q_sOp, ↓q_dUn, ↓q_dNil, ↓q_wNil, ↓q_aNil, ↓q_dCons, ↓q_wCons, ↓q_aCons, ↓q_dTup, ↓q_sLst, ↓q_dCall, ↓q_sCall, ↓q_sFn, ↓q_bV, ↓q_bC, ↓q_bAnd, ↓q_bOr, ↓q_bNot, ↓q_dIf, ↓q_sIf, ↓q_dAnd, ↓q_dOr, ↓q_dNot, ↓q_gN, ↓q_gsNil, ↓q_gsCons, ↓q_gTp, ↓q_seqT, ↓q_range1, ↓q_goNil, ↓q_goCons, ↓q_lc, ↓q_lcNil, ↓q_lcCons, ↓q_yes, ↓q_sub, ↓q_add, ↓q_neg, ↓q_lt, ↓q_le, ↓q_gt, ↓q_ge, ↓q_eq, ↓q_ne, ↓q_abs, ↓q_int, ↓q_gcd, ↓q_tupL, ↓q_tupT, ↓q_app, ↓q_is, ↓q_maxL, ↓q_or, ↓q_sum2, ↓q_gtT, ↓q_ltT, ↓q_leT, ↓q_geT, ↓q_rev, ↓q_oNo, ↓q_oSo, ↓q_dSl, ↓q_sRev, ↓q_lc2, ↓q_lc2Nil, ↓q_lc2Cons, ↓q_en, ↓q_lrg, ↓q_range2, ↓q_aug, ↓q_augI, ↓q_parO, ↓q_parO3, ↓q_sortSet, sat, List.cons_append, List.nil_append, List.append_nil, List.length_cons, List.length_nil, List.set_cons_succ, List.set_cons_zero, List.replicate, cond_true, cond_false, fzS, wipeE, Nat.blt, Nat.ble, eq_self, decide_true, decide_false, Bool.not_true, Bool.not_false, b2, b3, b4, if_true, ↓d, ↓ih]
    rfl
theorem due_loop {n : Int} : ∀ (k : Nat) (a : Int) (L : List (Int × Int × Int)) (s4 : S), 0 < a → a + (k : Int) ≤ 1001 → L.length + (subF n k a).length ≤ 100000 →
    (∀ s4, ks.nx [s0, s1, .sh (.int n), .sh (.list ((L ++ subF n k a).map D3)), s4, s5, s6, s7, s8, s9, s10, s11, s12, s13, s14, s15, .un, s17] = R) →
    pForGo (gN 4) body_2 (rngL a k) [s0, s1, .sh (.int n), .sh (.list (L.map D3)), s4, s5, s6, s7, s8, s9, s10, s11, s12, s13, s14, s15, .un, s17] ks = R
  | 0, a, L, s4, _, _, _, h => by
    have := h s4
    rw [subF, List.append_nil] at this
    exact this
  | k + 1, a, L, s4, ha, hk, hL, h => by
    rw [subF] at hL h
    rw [List.length_append] at hL
    have ih := fun L' s4 hL' h => due_loop (n := n) k (a + 1) L' s4 (by omega) (by omega) hL' h
    have m := fun k => q_mod (i := n) (k := k) ha
    have hl : a.natAbs.log2 < 9000 := log2_lt (b := 9000) (by
      have h1 : a.natAbs < 2 ^ 10 := by omega
      exact Nat.lt_of_lt_of_le h1 (Nat.pow_le_pow_right (by decide) (by decide))) (by decide)
    have r := fun s3 kL => row_go2 (s0 := s0) (s1 := s1) (s5 := s5) (s6 := s6) (s7 := s7) (s8 := s8) (s9 := s9) (s10 := s10) (s11 := s11) (s12 := s12) (s13 := s13) (s14 := s14) (s15 := s15) (s17 := s17) (s3 := s3) (n := n) ha hl (kL := kL) a.toNat 0
    have c := b2_62 (j := a) (by omega) (by omega)
    have b1 : Nat.ble (rngL 0 a.toNat).length 100000 = true := by rw [Nat.ble_eq, rngL_len]; omega
    rw [rngL]
    unfold body_2 r_2_0 l_2_0
    cases hd : decide (n % a = 0) with
    | false =>
      rw [hd, cond_false, List.nil_append] at h
      simp -implicitDefEqProofs only [↓q_seq, ↓q_nil, ↓q_ret, ↓q_brk, ↓q_cont, ↓q_if, ↓q_set, ↓q_setF, ↓q_asg, ↓q_par, ↓q_par3, ↓q_expr, ↓q_for, ↓q_vN, ↓q_dN, ↓q_sN, ↓q_take, ↓q_toD, ↓q_toS, ↓q_aFz, ↓q_dC, ↓q_dOp, ↓q_sOp, ↓q_dUn, ↓q_dNil, ↓q_wNil, ↓q_aNil, ↓q_dCons, ↓q_wCons, ↓q_aCons, ↓q_dTup, ↓q_sLst, ↓q_dCall, ↓q_sCall, ↓q_sFn, ↓q_bV, ↓q_bC, ↓q_bAnd, ↓q_bOr, ↓q_bNot, ↓q_dIf, ↓q_sIf, ↓q_dAnd, ↓q_dOr, ↓q_dNot, ↓q_gN, ↓q_gsNil, ↓q_gsCons, ↓q_gTp, ↓q_seqT, ↓q_range1, ↓q_goNil, ↓q_goCons, ↓q_lc, ↓q_lcNil, ↓q_lcCons, ↓q_yes, ↓q_sub, ↓q_add, ↓q_neg, ↓q_lt, ↓q_le, ↓q_gt, ↓q_ge, ↓q_eq, ↓q_ne, ↓q_abs, ↓q_int, ↓q_gcd, ↓q_tupL, ↓q_tupT, ↓q_app, ↓q_is, ↓q_maxL, ↓q_or, ↓q_sum2, ↓q_gtT, ↓q_ltT, ↓q_leT, ↓q_geT, ↓q_rev, ↓q_oNo, ↓q_oSo, ↓q_dSl, ↓q_sRev, ↓q_lc2, ↓q_lc2Nil, ↓q_lc2Cons, ↓q_en, ↓q_lrg, ↓q_range2, ↓q_aug, ↓q_augI, ↓q_parO, ↓q_parO3, ↓q_sortSet, sat, List.cons_append, List.nil_append, List.append_nil, List.length_cons, List.length_nil, List.set_cons_succ, List.set_cons_zero, List.replicate, cond_true, cond_false, fzS, wipeE, Nat.blt, Nat.ble, eq_self, decide_true, decide_false, Bool.not_true, Bool.not_false, b2, b3, b4, if_true, ↓m, hd]
      exact ih L _ (by rw [hd] at hL; omega) h
    | true =>
      rw [hd, cond_true, ← List.append_assoc] at h
      rw [hd, cond_true] at hL
      have ct : ∀ k, gCat (.list (L.map D3)) (.list ((rowT n a a.toNat 0).map D3)) k = k (.ow ((L ++ rowT n a a.toNat 0).map D3)) := fun k => by
        unfold gCat
        dsimp only
        rw [if_pos (by simp only [List.length_map]; omega), ← List.map_append]
      simp -implicitDefEqProofs only [↓q_seq, ↓q_nil, ↓q_ret, ↓q_brk, ↓q_cont, ↓q_if, ↓q_set, ↓q_setF, ↓q_asg, ↓q_par, ↓q_par3, ↓q_expr, ↓q_for, ↓q_vN, ↓q_dN, ↓q_sN, ↓q_take, ↓q_toD, ↓q_toS, ↓q_aFz, ↓q_dC, ↓q_dOp, ↓q_sOp, ↓q_dUn, ↓q_dNil, ↓q_wNil, ↓q_aNil, ↓q_dCons, ↓q_wCons, ↓q_aCons, ↓q_dTup, ↓q_sLst, ↓q_dCall, ↓q_sCall, ↓q_sFn, ↓q_bV, ↓q_bC, ↓q_bAnd, ↓q_bOr, ↓q_bNot, ↓q_dIf, ↓q_sIf, ↓q_dAnd, ↓q_dOr, ↓q_dNot, ↓q_gN, ↓q_gsNil, ↓q_gsCons, ↓q_gTp, ↓q_seqT, ↓q_range1, ↓q_goNil, ↓q_goCons, ↓q_lc, ↓q_lcNil, ↓q_lcCons, ↓q_yes, ↓q_sub, ↓q_add, ↓q_neg, ↓q_lt, ↓q_le, ↓q_gt, ↓q_ge, ↓q_eq, ↓q_ne, ↓q_abs, ↓q_int, ↓q_gcd, ↓q_tupL, ↓q_tupT, ↓q_app, ↓q_is, ↓q_maxL, ↓q_or, ↓q_sum2, ↓q_gtT, ↓q_ltT, ↓q_leT, ↓q_geT, ↓q_rev, ↓q_oNo, ↓q_oSo, ↓q_dSl, ↓q_sRev, ↓q_lc2, ↓q_lc2Nil, ↓q_lc2Cons, ↓q_en, ↓q_lrg, ↓q_range2, ↓q_aug, ↓q_augI, ↓q_parO, ↓q_parO3, ↓q_sortSet, sat, List.cons_append, List.nil_append, List.append_nil, List.length_cons, List.length_nil, List.set_cons_succ, List.set_cons_zero, List.replicate, cond_true, cond_false, fzS, wipeE, Nat.blt, Nat.ble, eq_self, decide_true, decide_false, Bool.not_true, Bool.not_false, b2, b3, b4, if_true, ↓m, hd, if_pos c, b1, ↓r, ↓ct]
      exact ih _ _ (by rw [List.length_append]; omega) h
end
end Law

set_option Elab.async false
set_option linter.all false
set_option maxRecDepth 100000
set_option maxHeartbeats 4000000
set_option synthInstance.maxHeartbeats 0
set_option synthInstance.maxSize 100000
namespace Law
open PySem Orn
section
variable {α : Type} {f : α → D}
theorem lay_map (h : ∀ x, (f x).canLay0 = true) : ∀ L : List α, PyData.canLayAll0 (L.map f) = true
  | [] => rfl
  | a :: L => by
    rw [List.map_cons]
    show ((f a).canLay0 && PyData.canLayAll0 (L.map f)) = true
    rw [h a, lay_map h L]; rfl
theorem depth_map (h : ∀ x, (f x).depth ≤ 1) : ∀ L : List α, PyData.depthAll (L.map f) ≤ 1
  | [] => by simp [PyData.depthAll]
  | a :: L => by
    rw [List.map_cons]
    have := depth_map h L
    have := h a
    show max (f a).depth (PyData.depthAll (L.map f)) ≤ 1
    omega
theorem sh_map (h : ∀ x, (f x).canLay0 = true) (h2 : ∀ x, (f x).depth ≤ 1) (L : List α) : SeqAt.shaped (.list (L.map f)) = true := by
  unfold SeqAt.shaped
  rw [Bool.and_eq_true]
  refine ⟨lay_map h L, decide_eq_true ?_⟩
  have := depth_map h2 L
  show PyData.depthAll (L.map f) + 1 ≤ 64
  omega
theorem eqv_map [DecidableEq α] (h : ∀ x y, PyData.eqv (f x) (f y) = decide (x = y)) : ∀ L M : List α, PyData.eqvAll (L.map f) (M.map f) = decide (L = M)
  | [], [] => by simp [PyData.eqvAll]
  | [], b :: M => by simp [PyData.eqvAll]
  | a :: L, [] => by simp [PyData.eqvAll]
  | a :: L, b :: M => by
    rw [List.map_cons, List.map_cons]
    show (PyData.eqv (f a) (f b) && PyData.eqvAll (L.map f) (M.map f)) = _
    rw [h, eqv_map h L M]
    rw [Bool.eq_iff_iff]
    simp
end
def P2 (t : Int × Int) : D := .tuple [.int t.1, .int t.2]
theorem eqv_D3 (t u : Int × Int × Int) : PyData.eqv (D3 t) (D3 u) = decide (t = u) := by
  obtain ⟨a, b, c⟩ := t
  obtain ⟨x, y, z⟩ := u
  rw [Bool.eq_iff_iff]
  simp [D3, PyData.eqv, PyData.eqvAll]
theorem eqv_P2 (t u : Int × Int) : PyData.eqv (P2 t) (P2 u) = decide (t = u) := by
  obtain ⟨a, b⟩ := t
  obtain ⟨x, y⟩ := u
  rw [Bool.eq_iff_iff]
  simp [P2, PyData.eqv, PyData.eqvAll]
theorem lay_D3 (t : Int × Int × Int) : (D3 t).canLay0 = true := rfl
theorem lay_P2 (t : Int × Int) : (P2 t).canLay0 = true := rfl
theorem depth_D3 (t : Int × Int × Int) : (D3 t).depth ≤ 1 := by show max 0 (max 0 (max 0 0)) + 1 ≤ 1; decide
theorem depth_P2 (t : Int × Int) : (P2 t).depth ≤ 1 := by show max 0 (max 0 0) + 1 ≤ 1; decide
theorem in_D3 {t : Int × Int × Int} {L : List (Int × Int × Int)} {k : D → Bool} : gIn (D3 t) (.list (L.map D3)) k = k (.bool (decide (t ∈ L))) := by
  show (if (SeqAt.shaped (D3 t) && SeqAt.shaped (.list (L.map D3))) = true then kBl ((L.map D3).any fun z => PyData.eqv z (D3 t)) k else false) = _
  have h1 : SeqAt.shaped (D3 t) = true := by
    unfold SeqAt.shaped
    rw [Bool.and_eq_true]
    exact ⟨rfl, decide_eq_true (by have := depth_D3 t; omega)⟩
  rw [h1, sh_map lay_D3 depth_D3 L, Bool.and_self, if_pos rfl, kBl_eq]
  congr 2
  rw [Bool.eq_iff_iff, List.any_eq_true, decide_eq_true_eq]
  constructor
  · rintro ⟨z, hz, e⟩
    obtain ⟨u, hu, rfl⟩ := List.mem_map.mp hz
    rw [eqv_D3, decide_eq_true_eq] at e
    rw [← e]; exact hu
  · intro h
    exact ⟨D3 t, List.mem_map.mpr ⟨t, h, rfl⟩, by rw [eqv_D3]; exact decide_eq_true rfl⟩
theorem eq_P2s {L M : List (Int × Int)} {k : D → Bool} : gEq (.list (L.map P2)) (.list (M.map P2)) k = k (.bool (decide (L = M))) := by
  rw [gEq_val (sh_map lay_P2 depth_P2 L) (sh_map lay_P2 depth_P2 M)]
  show k (.bool (PyData.eqvAll (L.map P2) (M.map P2))) = _
  rw [eqv_map eqv_P2]
/-! divisors -/
def divF (n : Int) : Nat → Int → List Int
  | 0, _ => []
  | k + 1, a => bif decide (n % a = 0) then a :: divF n k (a + 1) else divF n k (a + 1)
def comF (n m : Int) : Nat → Int → List Int
  | 0, _ => []
  | k + 1, a => bif (decide (n % a = 0) && decide (m % a = 0)) then a :: comF n m k (a + 1) else comF n m k (a + 1)
def rowY (t : Int × Int × Int) (x : Int) : Nat → Int → List (Int × Int)
  | 0, _ => []
  | k + 1, y => bif isOfI t x y then (x, y) :: rowY t x k (y + 1) else rowY t x k (y + 1)
def rowX (t : Int × Int × Int) (n : Nat) : Nat → Int → List (Int × Int)
  | 0, _ => []
  | k + 1, x => rowY t x n 0 ++ rowX t n k (x + 1)
theorem rowY_len {t : Int × Int × Int} {x : Int} : ∀ (k : Nat) (y : Int), (rowY t x k y).length ≤ k
  | 0, _ => Nat.le_refl _
  | k + 1, y => by
    have := rowY_len (t := t) (x := x) k (y + 1)
    rw [rowY]
    cases isOfI t x y
    · rw [cond_false]; omega
    · rw [cond_true, List.length_cons]; omega
theorem rowX_len {t : Int × Int × Int} {n : Nat} : ∀ (k : Nat) (x : Int), (rowX t n k x).length ≤ k * n
  | 0, _ => Nat.zero_le _
  | k + 1, x => by
    have := rowX_len (t := t) (n := n) k (x + 1)
    have := rowY_len (t := t) (x := x) n 0
    rw [rowX, List.length_append, Nat.succ_mul]
    omega
section
variable {s0 s1 s3 s4 s5 s6 s7 s8 s9 s10 s11 s12 s13 s14 s15 s16 s17 : S}
theorem div_go {n : Int} {kL : List D → Bool} : ∀ (k : Nat) (a : Int), 0 < a →
    lcGo [s0, s1, .sh (.int n), s3, s4, s5, s6, s7, s8, s9, s10, s11, s12, s13, s14, s15, s16, .un] (gN 17) (bC (dOp gEq (dOp gMod (dCall gInt (wCons (vN 2) wNil)) (vN 17)) (dC (.int 0)))) (dN 17) (rngL a k) kL = kL ((divF n k a).map PyData.int)
  | 0, a, _ => rfl
  | k + 1, a, ha => by
    have ih := fun kL => div_go (n := n) (kL := kL) k (a + 1) (by omega)
    have m := fun k => q_mod (i := n) (k := k) ha
    rw [rngL, divF]
    simp -implicitDefEqProofs only [↓q_seq, ↓q_nil, ↓q_ret, ↓q_brk, ↓q_cont, ↓q_if, ↓q_set, ↓q_setF, ↓q_asg, ↓q_par, ↓q_par3, ↓q_expr, ↓q_for, ↓q_vN, ↓q_dN, ↓q_sN, ↓q_take, ↓q_toD, ↓q_toS, ↓q_aFz, ↓q_dC, ↓q_dOp, ↓q_sOp, ↓q_dUn, ↓q_dNil, ↓q_wNil, ↓q_aNil, ↓q_dCons, ↓q_wCons, ↓q_aCons, ↓q_dTup, ↓q_sLst, ↓q_dCall, ↓q_sCall, ↓q_sFn, ↓q_bV, ↓q_bC, ↓q_bAnd, ↓q_bOr, ↓q_bNot, ↓q_dIf, ↓q_sIf, ↓q_dAnd, ↓q_dOr, ↓q_dNot, ↓q_gN, ↓q_gsNil, ↓q_gsCons, ↓q_gTp, ↓q_seqT, ↓q_range1, ↓q_goNil, ↓q_goCons, ↓q_lc, ↓q_lcNil, ↓q_lcCons, ↓q_yes, ↓q_sub, ↓q_add, ↓q_neg, ↓q_lt, ↓q_le, ↓q_gt, ↓q_ge, ↓q_eq, ↓q_ne, ↓q_abs, ↓q_int, ↓q_gcd, ↓q_tupL, ↓q_tupT, ↓q_app, ↓q_is, ↓q_maxL, ↓q_or, ↓q_sum2, ↓q_gtT, ↓q_ltT, ↓q_leT, ↓q_geT, ↓q_rev, ↓q_oNo, ↓q_oSo, ↓q_dSl, ↓q_sRev, ↓q_lc2, ↓q_lc2Nil, ↓q_lc2Cons, ↓q_en, ↓q_lrg, ↓q_range2, ↓q_aug, ↓q_augI, ↓q_parO, ↓q_parO3, ↓q_sortSet, sat, List.cons_append, List.nil_append, List.append_nil, List.length_cons, List.length_nil, List.set_cons_succ, List.set_cons_zero, List.replicate, cond_true, cond_false, fzS, wipeE, Nat.blt, Nat.ble, eq_self, decide_true, decide_false, Bool.not_true, Bool.not_false, b2, b3, b4, if_true, ↓m]
    cases decide (n % a = 0) with
    | true => simp -implicitDefEqProofs only [↓q_seq, ↓q_nil, ↓q_ret, ↓q_brk, ↓q_cont, ↓q_if, ↓q_set, ↓q_setF, ↓q_asg, ↓q_par, ↓q_par3, ↓q_expr, ↓q_for, ↓q_vN, ↓q_dN, ↓q_sN, ↓q_take, ↓q_toD, ↓q_toS, ↓q_aFz, ↓q_dC, ↓q_dOp, ↓q_sOp, ↓q_dUn, ↓q_dNil, ↓q_wNil, ↓q_aNil, ↓q_dCons, ↓q_wCons, ↓q_aCons, ↓q_dTup, ↓q_sLst, ↓q_dCall, ↓q_sCall, ↓q_sFn, ↓q_bV, ↓q_bC, ↓q_bAnd, ↓q_bOr, ↓q_bNot, ↓q_dIf, ↓q_sIf, ↓q_dAnd, ↓q_dOr, ↓q_dNot, ↓q_gN, ↓q_gsNil, ↓q_gsCons, ↓q_gTp, ↓q_seqT, ↓q_range1, ↓q_goNil, ↓q_goCons, ↓q_lc, ↓q_lcNil, ↓q_lcCons, ↓q_yes, ↓q_sub, ↓q_add, ↓q_neg, ↓q_lt, ↓q_le, ↓q_gt, ↓q_ge, ↓q_eq, ↓q_ne, ↓q_abs, ↓q_int, ↓q_gcd, ↓q_tupL, ↓q_tupT, ↓q_app, ↓q_is, ↓q_maxL, ↓q_or, ↓q_sum2, ↓q_gtT, ↓q_ltT, ↓q_leT, ↓q_geT, ↓q_rev, ↓q_oNo, ↓q_oSo, ↓q_dSl, ↓q_sRev, ↓q_lc2, ↓q_lc2Nil, ↓q_lc2Cons, ↓q_en, ↓q_lrg, ↓q_range2, ↓q_aug, ↓q_augI, ↓q_parO, ↓q_parO3, ↓q_sortSet, sat, List.cons_append, List.nil_append, List.append_nil, List.length_cons, List.length_nil, List.set_cons_succ, List.set_cons_zero, List.replicate, cond_true, cond_false, fzS, wipeE, Nat.blt, Nat.ble, eq_self, decide_true, decide_false, Bool.not_true, Bool.not_false, b2, b3, b4, if_true, ↓ih]; rfl
    | false => simp -implicitDefEqProofs only [↓q_seq, ↓q_nil, ↓q_ret, ↓q_brk, ↓q_cont, ↓q_if, ↓q_set, ↓q_setF, ↓q_asg, ↓q_par, ↓q_par3, ↓q_expr, ↓q_for, ↓q_vN, ↓q_dN, ↓q_sN, ↓q_take, ↓q_toD, ↓q_toS, ↓q_aFz, ↓q_dC, ↓q_dOp, ↓q_sOp, ↓q_dUn, ↓q_dNil, ↓q_wNil, ↓q_aNil, ↓q_dCons, ↓q_wCons, ↓q_aCons, ↓q_dTup, ↓q_sLst, ↓q_dCall, ↓q_sCall, ↓q_sFn, ↓q_bV, ↓q_bC, ↓q_bAnd, ↓q_bOr, ↓q_bNot, ↓q_dIf, ↓q_sIf, ↓q_dAnd, ↓q_dOr, ↓q_dNot, ↓q_gN, ↓q_gsNil, ↓q_gsCons, ↓q_gTp, ↓q_seqT, ↓q_range1, ↓q_goNil, ↓q_goCons, ↓q_lc, ↓q_lcNil, ↓q_lcCons, ↓q_yes, ↓q_sub, ↓q_add, ↓q_neg, ↓q_lt, ↓q_le, ↓q_gt, ↓q_ge, ↓q_eq, ↓q_ne, ↓q_abs, ↓q_int, ↓q_gcd, ↓q_tupL, ↓q_tupT, ↓q_app, ↓q_is, ↓q_maxL, ↓q_or, ↓q_sum2, ↓q_gtT, ↓q_ltT, ↓q_leT, ↓q_geT, ↓q_rev, ↓q_oNo, ↓q_oSo, ↓q_dSl, ↓q_sRev, ↓q_lc2, ↓q_lc2Nil, ↓q_lc2Cons, ↓q_en, ↓q_lrg, ↓q_range2, ↓q_aug, ↓q_augI, ↓q_parO, ↓q_parO3, ↓q_sortSet, sat, List.cons_append, List.nil_append, List.append_nil, List.length_cons, List.length_nil, List.set_cons_succ, List.set_cons_zero, List.replicate, cond_true, cond_false, fzS, wipeE, Nat.blt, Nat.ble, eq_self, decide_true, decide_false, Bool.not_true, Bool.not_false, b2, b3, b4, if_true, ↓ih]
theorem com_go {n m : Int} {kL : List D → Bool} : ∀ (k : Nat) (a : Int), 0 < a →
    lcGo [s0, s1, .sh (.int n), s3, s4, s5, s6, s7, s8, s9, s10, s11, s12, s13, s14, .sh (.int m), s16, .un] (gN 17) (bAnd (bC (dOp gEq (dOp gMod (dCall gInt (wCons (vN 2) wNil)) (vN 17)) (dC (.int 0)))) (bC (dOp gEq (dOp gMod (dCall gInt (wCons (vN 15) wNil)) (vN 17)) (dC (.int 0))))) (dN 17) (rngL a k) kL = kL ((comF n m k a).map PyData.int)
  | 0, a, _ => rfl
  | k + 1, a, ha => by
    have ih := fun kL => com_go (n := n) (m := m) (kL := kL) k (a + 1) (by omega)
    have m1 := fun i k => q_mod (i := i) (k := k) ha
    rw [rngL, comF]
    simp -implicitDefEqProofs only [↓q_seq, ↓q_nil, ↓q_ret, ↓q_brk, ↓q_cont, ↓q_if, ↓q_set, ↓q_setF, ↓q_asg, ↓q_par, ↓q_par3, ↓q_expr, ↓q_for, ↓q_vN, ↓q_dN, ↓q_sN, ↓q_take, ↓q_toD, ↓q_toS, ↓q_aFz, ↓q_dC, ↓q_dOp, ↓q_sOp, ↓q_dUn, ↓q_dNil, ↓q_wNil, ↓q_aNil, ↓q_dCons, ↓q_wCons, ↓q_aCons, ↓q_dTup, ↓q_sLst, ↓q_dCall, ↓q_sCall, ↓q_sFn, ↓q_bV, ↓q_bC, ↓q_bAnd, ↓q_bOr, ↓q_bNot, ↓q_dIf, ↓q_sIf, ↓q_dAnd, ↓q_dOr, ↓q_dNot, ↓q_gN, ↓q_gsNil, ↓q_gsCons, ↓q_gTp, ↓q_seqT, ↓q_range1, ↓q_goNil, ↓q_goCons, ↓q_lc, ↓q_lcNil, ↓q_lcCons, ↓q_yes, ↓q_sub, ↓q_add, ↓q_neg, ↓q_lt, ↓q_le, ↓q_gt, ↓q_ge, ↓q_eq, ↓q_ne, ↓q_abs, ↓q_int, ↓q_gcd, ↓q_tupL, ↓q_tupT, ↓q_app, ↓q_is, ↓q_maxL, ↓q_or, ↓q_sum2, ↓q_gtT, ↓q_ltT, ↓q_leT, ↓q_geT, ↓q_rev, ↓q_oNo, ↓q_oSo, ↓q_dSl, ↓q_sRev, ↓q_lc2, ↓q_lc2Nil, ↓q_lc2Cons, ↓q_en, ↓q_lrg, ↓q_range2, ↓q_aug, ↓q_augI, ↓q_parO, ↓q_parO3, ↓q_sortSet, sat, List.cons_append, List.nil_append, List.append_nil, List.length_cons, List.length_nil, List.set_cons_succ, List.set_cons_zero, List.replicate, cond_true, cond_false, fzS, wipeE, Nat.blt, Nat.ble, eq_self, decide_true, decide_false, Bool.not_true, Bool.not_false, b2, b3, b4, if_true, ↓m1]
    cases decide (n % a = 0) with
    | false => simp -implicitDefEqProofs only [↓q_seq, ↓q_nil, ↓q_ret, ↓q_brk, ↓q_cont, ↓q_if, ↓q_set, ↓q_setF, ↓q_asg, ↓q_par, ↓q_par3, ↓q_expr, ↓q_for, ↓q_vN, ↓q_dN, ↓q_sN, ↓q_take, ↓q_toD, ↓q_toS, ↓q_aFz, ↓q_dC, ↓q_dOp, ↓q_sOp, ↓q_dUn, ↓q_dNil, ↓q_wNil, ↓q_aNil, ↓q_dCons, ↓q_wCons, ↓q_aCons, ↓q_dTup, ↓q_sLst, ↓q_dCall, ↓q_sCall, ↓q_sFn, ↓q_bV, ↓q_bC, ↓q_bAnd, ↓q_bOr, ↓q_bNot, ↓q_dIf, ↓q_sIf, ↓q_dAnd, ↓q_dOr, ↓q_dNot, ↓q_gN, ↓q_gsNil, ↓q_gsCons, ↓q_gTp, ↓q_seqT, ↓q_range1, ↓q_goNil, ↓q_goCons, ↓q_lc, ↓q_lcNil, ↓q_lcCons, ↓q_yes, ↓q_sub, ↓q_add, ↓q_neg, ↓q_lt, ↓q_le, ↓q_gt, ↓q_ge, ↓q_eq, ↓q_ne, ↓q_abs, ↓q_int, ↓q_gcd, ↓q_tupL, ↓q_tupT, ↓q_app, ↓q_is, ↓q_maxL, ↓q_or, ↓q_sum2, ↓q_gtT, ↓q_ltT, ↓q_leT, ↓q_geT, ↓q_rev, ↓q_oNo, ↓q_oSo, ↓q_dSl, ↓q_sRev, ↓q_lc2, ↓q_lc2Nil, ↓q_lc2Cons, ↓q_en, ↓q_lrg, ↓q_range2, ↓q_aug, ↓q_augI, ↓q_parO, ↓q_parO3, ↓q_sortSet, sat, List.cons_append, List.nil_append, List.append_nil, List.length_cons, List.length_nil, List.set_cons_succ, List.set_cons_zero, List.replicate, cond_true, cond_false, fzS, wipeE, Nat.blt, Nat.ble, eq_self, decide_true, decide_false, Bool.not_true, Bool.not_false, b2, b3, b4, if_true, ↓ih, Bool.false_and]
    | true =>
      cases decide (m % a = 0) with
      | true => simp -implicitDefEqProofs only [↓q_seq, ↓q_nil, ↓q_ret, ↓q_brk, ↓q_cont, ↓q_if, ↓q_set, ↓q_setF, ↓q_asg, ↓q_par, ↓q_par3, ↓q_expr, ↓q_for, ↓q_vN, ↓q_dN, ↓q_sN, ↓q_take, ↓q_toD, ↓q_toS, ↓q_aFz, ↓q_dC, ↓q_dOp, ↓q_sOp, ↓q_dUn, ↓q_dNil, ↓q_wNil, ↓q_aNil, ↓q_dCons, ↓q_wCons, ↓q_aCons, ↓q_dTup, ↓q_sLst, ↓q_dCall, ↓q_sCall, ↓q_sFn, ↓q_bV, ↓q_bC, ↓q_bAnd, ↓q_bOr, ↓q_bNot, ↓q_dIf, ↓q_sIf, ↓q_dAnd, ↓q_dOr, ↓q_dNot, ↓q_gN, ↓q_gsNil, ↓q_gsCons, ↓q_gTp, ↓q_seqT, ↓q_range1, ↓q_goNil, ↓q_goCons, ↓q_lc, ↓q_lcNil, ↓q_lcCons, ↓q_yes, ↓q_sub, ↓q_add, ↓q_neg, ↓q_lt, ↓q_le, ↓q_gt, ↓q_ge, ↓q_eq, ↓q_ne, ↓q_abs, ↓q_int, ↓q_gcd, ↓q_tupL, ↓q_tupT, ↓q_app, ↓q_is, ↓q_maxL, ↓q_or, ↓q_sum2, ↓q_gtT, ↓q_ltT, ↓q_leT, ↓q_geT, ↓q_rev, ↓q_oNo, ↓q_oSo, ↓q_dSl, ↓q_sRev, ↓q_lc2, ↓q_lc2Nil, ↓q_lc2Cons, ↓q_en, ↓q_lrg, ↓q_range2, ↓q_aug, ↓q_augI, ↓q_parO, ↓q_parO3, ↓q_sortSet, sat, List.cons_append, List.nil_append, List.append_nil, List.length_cons, List.length_nil, List.set_cons_succ, List.set_cons_zero, List.replicate, cond_true, cond_false, fzS, wipeE, Nat.blt, Nat.ble, eq_self, decide_true, decide_false, Bool.not_true, Bool.not_false, b2, b3, b4, if_true, ↓ih, Bool.true_and]; rfl
      | false => simp -implicitDefEqProofs only [↓q_seq, ↓q_nil, ↓q_ret, ↓q_brk, ↓q_cont, ↓q_if, ↓q_set, ↓q_setF, ↓q_asg, ↓q_par, ↓q_par3, ↓q_expr, ↓q_for, ↓q_vN, ↓q_dN, ↓q_sN, ↓q_take, ↓q_toD, ↓q_toS, ↓q_aFz, ↓q_dC, ↓q_dOp, ↓q_sOp, ↓q_dUn, ↓q_dNil, ↓q_wNil, ↓q_aNil, ↓q_dCons, ↓q_wCons, ↓q_aCons, ↓q_dTup, ↓q_sLst, ↓q_dCall, ↓q_sCall, ↓q_sFn, ↓q_bV, ↓q_bC, ↓q_bAnd, ↓q_bOr, ↓q_bNot, ↓q_dIf, ↓q_sIf, ↓q_dAnd, ↓q_dOr, ↓q_dNot, ↓q_gN, ↓q_gsNil, ↓q_gsCons, ↓q_gTp, ↓q_seqT, ↓q_range1, ↓q_goNil, ↓q_goCons, ↓q_lc, ↓q_lcNil, ↓q_lcCons, ↓q_yes, ↓q_sub, ↓q_add, ↓q_neg, ↓q_lt, ↓q_le, ↓q_gt, ↓q_ge, ↓q_eq, ↓q_ne, ↓q_abs, ↓q_int, ↓q_gcd, ↓q_tupL, ↓q_tupT, ↓q_app, ↓q_is, ↓q_maxL, ↓q_or, ↓q_sum2, ↓q_gtT, ↓q_ltT, ↓q_leT, ↓q_geT, ↓q_rev, ↓q_oNo, ↓q_oSo, ↓q_dSl, ↓q_sRev, ↓q_lc2, ↓q_lc2Nil, ↓q_lc2Cons, ↓q_en, ↓q_lrg, ↓q_range2, ↓q_aug, ↓q_augI, ↓q_parO, ↓q_parO3, ↓q_sortSet, sat, List.cons_append, List.nil_append, List.append_nil, List.length_cons, List.length_nil, List.set_cons_succ, List.set_cons_zero, List.replicate, cond_true, cond_false, fzS, wipeE, Nat.blt, Nat.ble, eq_self, decide_true, decide_false, Bool.not_true, Bool.not_false, b2, b3, b4, if_true, ↓ih, Bool.true_and]
theorem kept_go {p q r s : Int} (hp : one1 p) (hq : one1 q) (hr : one1 r) (hs : one1 s) {s2 : S} {kL : List D → Bool} : ∀ L : List (Int × Int × Int), (∀ t ∈ L, Okt t) →
    lcGo [s0, s1, s2, s3, s4, .sh (L4 p q r s), s6, .un, s8, s9, s10, s11, s12, s13, s14, s15, s16, s17] (gN 7) (bV (toD (sFn m__law_keeps (aCons (sN 5) (aCons (sN 7) aNil))))) (dN 7) (L.map D3) kL = kL ((L.filter (keepsI p q r s)).map D3)
  | [], _ => rfl
  | t :: L, h => by
    have ih := fun kL => kept_go hp hq hr hs (s2 := s2) (kL := kL) L fun x q => h x (List.mem_cons_of_mem _ q)
    have e := fun k => lkeeps_eq (k := k) hp hq hr hs (h t List.mem_cons_self)
    rw [List.map_cons, List.filter_cons]
    simp -implicitDefEqProofs only [↓q_seq, ↓q_nil, ↓q_ret, ↓q_brk, ↓q_cont, ↓q_if, ↓q_set, ↓q_setF, ↓q_asg, ↓q_par, ↓q_par3, ↓q_expr, ↓q_for, ↓q_vN, ↓q_dN, ↓q_sN, ↓q_take, ↓q_toD, ↓q_toS, ↓q_aFz, ↓q_dC, ↓q_dOp, ↓q_sOp, ↓q_dUn, ↓q_dNil, ↓q_wNil, ↓q_aNil, ↓q_dCons, ↓q_wCons, ↓q_aCons, ↓q_dTup, ↓q_sLst, ↓q_dCall, ↓q_sCall, ↓q_sFn, ↓q_bV, ↓q_bC, ↓q_bAnd, ↓q_bOr, ↓q_bNot, ↓q_dIf, ↓q_sIf, ↓q_dAnd, ↓q_dOr, ↓q_dNot, ↓q_gN, ↓q_gsNil, ↓q_gsCons, ↓q_gTp, ↓q_seqT, ↓q_range1, ↓q_goNil, ↓q_goCons, ↓q_lc, ↓q_lcNil, ↓q_lcCons, ↓q_yes, ↓q_sub, ↓q_add, ↓q_neg, ↓q_lt, ↓q_le, ↓q_gt, ↓q_ge, ↓q_eq, ↓q_ne, ↓q_abs, ↓q_int, ↓q_gcd, ↓q_tupL, ↓q_tupT, ↓q_app, ↓q_is, ↓q_maxL, ↓q_or, ↓q_sum2, ↓q_gtT, ↓q_ltT, ↓q_leT, ↓q_geT, ↓q_rev, ↓q_oNo, ↓q_oSo, ↓q_dSl, ↓q_sRev, ↓q_lc2, ↓q_lc2Nil, ↓q_lc2Cons, ↓q_en, ↓q_lrg, ↓q_range2, ↓q_aug, ↓q_augI, ↓q_parO, ↓q_parO3, ↓q_sortSet, sat, List.cons_append, List.nil_append, List.append_nil, List.length_cons, List.length_nil, List.set_cons_succ, List.set_cons_zero, List.replicate, cond_true, cond_false, fzS, wipeE, Nat.blt, Nat.ble, eq_self, decide_true, decide_false, Bool.not_true, Bool.not_false, b2, b3, b4, if_true, ↓e]
    cases keepsI p q r s t with
    | true => simp -implicitDefEqProofs only [↓q_seq, ↓q_nil, ↓q_ret, ↓q_brk, ↓q_cont, ↓q_if, ↓q_set, ↓q_setF, ↓q_asg, ↓q_par, ↓q_par3, ↓q_expr, ↓q_for, ↓q_vN, ↓q_dN, ↓q_sN, ↓q_take, ↓q_toD, ↓q_toS, ↓q_aFz, ↓q_dC, ↓q_dOp, ↓q_sOp, ↓q_dUn, ↓q_dNil, ↓q_wNil, ↓q_aNil, ↓q_dCons, ↓q_wCons, ↓q_aCons, ↓q_dTup, ↓q_sLst, ↓q_dCall, ↓q_sCall, ↓q_sFn, ↓q_bV, ↓q_bC, ↓q_bAnd, ↓q_bOr, ↓q_bNot, ↓q_dIf, ↓q_sIf, ↓q_dAnd, ↓q_dOr, ↓q_dNot, ↓q_gN, ↓q_gsNil, ↓q_gsCons, ↓q_gTp, ↓q_seqT, ↓q_range1, ↓q_goNil, ↓q_goCons, ↓q_lc, ↓q_lcNil, ↓q_lcCons, ↓q_yes, ↓q_sub, ↓q_add, ↓q_neg, ↓q_lt, ↓q_le, ↓q_gt, ↓q_ge, ↓q_eq, ↓q_ne, ↓q_abs, ↓q_int, ↓q_gcd, ↓q_tupL, ↓q_tupT, ↓q_app, ↓q_is, ↓q_maxL, ↓q_or, ↓q_sum2, ↓q_gtT, ↓q_ltT, ↓q_leT, ↓q_geT, ↓q_rev, ↓q_oNo, ↓q_oSo, ↓q_dSl, ↓q_sRev, ↓q_lc2, ↓q_lc2Nil, ↓q_lc2Cons, ↓q_en, ↓q_lrg, ↓q_range2, ↓q_aug, ↓q_augI, ↓q_parO, ↓q_parO3, ↓q_sortSet, sat, List.cons_append, List.nil_append, List.append_nil, List.length_cons, List.length_nil, List.set_cons_succ, List.set_cons_zero, List.replicate, cond_true, cond_false, fzS, wipeE, Nat.blt, Nat.ble, eq_self, decide_true, decide_false, Bool.not_true, Bool.not_false, b2, b3, b4, if_true, ↓ih]; rfl
    | false => simp -implicitDefEqProofs only [↓q_seq, ↓q_nil, ↓q_ret, ↓q_brk, ↓q_cont, ↓q_if, ↓q_set, ↓q_setF, ↓q_asg, ↓q_par, ↓q_par3, ↓q_expr, ↓q_for, ↓q_vN, ↓q_dN, ↓q_sN, ↓q_take, ↓q_toD, ↓q_toS, ↓q_aFz, ↓q_dC, ↓q_dOp, ↓q_sOp, ↓q_dUn, ↓q_dNil, ↓q_wNil, ↓q_aNil, ↓q_dCons, ↓q_wCons, ↓q_aCons, ↓q_dTup, ↓q_sLst, ↓q_dCall, ↓q_sCall, ↓q_sFn, ↓q_bV, ↓q_bC, ↓q_bAnd, ↓q_bOr, ↓q_bNot, ↓q_dIf, ↓q_sIf, ↓q_dAnd, ↓q_dOr, ↓q_dNot, ↓q_gN, ↓q_gsNil, ↓q_gsCons, ↓q_gTp, ↓q_seqT, ↓q_range1, ↓q_goNil, ↓q_goCons, ↓q_lc, ↓q_lcNil, ↓q_lcCons, ↓q_yes, ↓q_sub, ↓q_add, ↓q_neg, ↓q_lt, ↓q_le, ↓q_gt, ↓q_ge, ↓q_eq, ↓q_ne, ↓q_abs, ↓q_int, ↓q_gcd, ↓q_tupL, ↓q_tupT, ↓q_app, ↓q_is, ↓q_maxL, ↓q_or, ↓q_sum2, ↓q_gtT, ↓q_ltT, ↓q_leT, ↓q_geT, ↓q_rev, ↓q_oNo, ↓q_oSo, ↓q_dSl, ↓q_sRev, ↓q_lc2, ↓q_lc2Nil, ↓q_lc2Cons, ↓q_en, ↓q_lrg, ↓q_range2, ↓q_aug, ↓q_augI, ↓q_parO, ↓q_parO3, ↓q_sortSet, sat, List.cons_append, List.nil_append, List.append_nil, List.length_cons, List.length_nil, List.set_cons_succ, List.set_cons_zero, List.replicate, cond_true, cond_false, fzS, wipeE, Nat.blt, Nat.ble, eq_self, decide_true, decide_false, Bool.not_true, Bool.not_false, b2, b3, b4, if_true, ↓ih]; rfl
end
section
variable {s0 s1 s3 s5 : S} {ks : Ks} {R : Bool}
theorem rowY_go {t : Int × Int × Int} (o : Okt t) {x n : Int} {kL : List D → Bool} : ∀ (k : Nat) (y : Int), 0 ≤ y → y + (k : Int) ≤ 1000 →
    lcGo [s0, s1, .sh (.int n), s3, .sh (D3 t), s5, .sh (.int x), .un] (gN 7) (bV (toD (sFn m__law_of (aCons (sN 4) (aCons (sN 6) (aCons (sN 7) aNil)))))) (dTup (dCons (dN 6) (dCons (dN 7) dNil))) (rngL y k) kL = kL ((rowY t x k y).map P2)
  | 0, y, _, _ => rfl
  | k + 1, y, h0, h1 => by
    have ih := fun kL => rowY_go o (x := x) (n := n) (kL := kL) k (y + 1) (by omega) (by omega)
    have e := fun k => lof_eq (k := k) (x := x) (y := y) o (by omega)
    rw [rngL, rowY]
    simp -implicitDefEqProofs only [↓q_seq, ↓q_nil, ↓q_ret, ↓q_brk, ↓q_cont, ↓q_if, ↓q_set, ↓q_setF, ↓q_asg, ↓q_par, ↓q_par3, ↓q_expr, ↓q_for, ↓q_vN, ↓q_dN, ↓q_sN, ↓q_take, ↓q_toD, ↓q_toS, ↓q_aFz, ↓q_dC, ↓q_dOp, ↓q_sOp, ↓q_dUn, ↓q_dNil, ↓q_wNil, ↓q_aNil, ↓q_dCons, ↓q_wCons, ↓q_aCons, ↓q_dTup, ↓q_sLst, ↓q_dCall, ↓q_sCall, ↓q_sFn, ↓q_bV, ↓q_bC, ↓q_bAnd, ↓q_bOr, ↓q_bNot, ↓q_dIf, ↓q_sIf, ↓q_dAnd, ↓q_dOr, ↓q_dNot, ↓q_gN, ↓q_gsNil, ↓q_gsCons, ↓q_gTp, ↓q_seqT, ↓q_range1, ↓q_goNil, ↓q_goCons, ↓q_lc, ↓q_lcNil, ↓q_lcCons, ↓q_yes, ↓q_sub, ↓q_add, ↓q_neg, ↓q_lt, ↓q_le, ↓q_gt, ↓q_ge, ↓q_eq, ↓q_ne, ↓q_abs, ↓q_int, ↓q_gcd, ↓q_tupL, ↓q_tupT, ↓q_app, ↓q_is, ↓q_maxL, ↓q_or, ↓q_sum2, ↓q_gtT, ↓q_ltT, ↓q_leT, ↓q_geT, ↓q_rev, ↓q_oNo, ↓q_oSo, ↓q_dSl, ↓q_sRev, ↓q_lc2, ↓q_lc2Nil, ↓q_lc2Cons, ↓q_en, ↓q_lrg, ↓q_range2, ↓q_aug, ↓q_augI, ↓q_parO, ↓q_parO3, ↓q_sortSet, sat, List.cons_append, List.nil_append, List.append_nil, List.length_cons, List.length_nil, List.set_cons_succ, List.set_cons_zero, List.replicate, cond_true, cond_false, fzS, wipeE, Nat.blt, Nat.ble, eq_self, decide_true, decide_false, Bool.not_true, Bool.not_false, b2, b3, b4, if_true, ↓e]
    cases isOfI t x y with
    | true => simp -implicitDefEqProofs only [↓q_seq, ↓q_nil, ↓q_ret, ↓q_brk, ↓q_cont, ↓q_if, ↓q_set, ↓q_setF, ↓q_asg, ↓q_par, ↓q_par3, ↓q_expr, ↓q_for, ↓q_vN, ↓q_dN, ↓q_sN, ↓q_take, ↓q_toD, ↓q_toS, ↓q_aFz, ↓q_dC, ↓q_dOp, ↓q_sOp, ↓q_dUn, ↓q_dNil, ↓q_wNil, ↓q_aNil, ↓q_dCons, ↓q_wCons, ↓q_aCons, ↓q_dTup, ↓q_sLst, ↓q_dCall, ↓q_sCall, ↓q_sFn, ↓q_bV, ↓q_bC, ↓q_bAnd, ↓q_bOr, ↓q_bNot, ↓q_dIf, ↓q_sIf, ↓q_dAnd, ↓q_dOr, ↓q_dNot, ↓q_gN, ↓q_gsNil, ↓q_gsCons, ↓q_gTp, ↓q_seqT, ↓q_range1, ↓q_goNil, ↓q_goCons, ↓q_lc, ↓q_lcNil, ↓q_lcCons, ↓q_yes, ↓q_sub, ↓q_add, ↓q_neg, ↓q_lt, ↓q_le, ↓q_gt, ↓q_ge, ↓q_eq, ↓q_ne, ↓q_abs, ↓q_int, ↓q_gcd, ↓q_tupL, ↓q_tupT, ↓q_app, ↓q_is, ↓q_maxL, ↓q_or, ↓q_sum2, ↓q_gtT, ↓q_ltT, ↓q_leT, ↓q_geT, ↓q_rev, ↓q_oNo, ↓q_oSo, ↓q_dSl, ↓q_sRev, ↓q_lc2, ↓q_lc2Nil, ↓q_lc2Cons, ↓q_en, ↓q_lrg, ↓q_range2, ↓q_aug, ↓q_augI, ↓q_parO, ↓q_parO3, ↓q_sortSet, sat, List.cons_append, List.nil_append, List.append_nil, List.length_cons, List.length_nil, List.set_cons_succ, List.set_cons_zero, List.replicate, cond_true, cond_false, fzS, wipeE, Nat.blt, Nat.ble, eq_self, decide_true, decide_false, Bool.not_true, Bool.not_false, b2, b3, b4, if_true, ↓ih]; rfl
    | false => simp -implicitDefEqProofs only [↓q_seq, ↓q_nil, ↓q_ret, ↓q_brk, ↓q_cont, ↓q_if, ↓q_set, ↓q_setF, ↓q_asg, ↓q_par, ↓q_par3, ↓q_expr, ↓q_for, ↓q_vN, ↓q_dN, ↓q_sN, ↓q_take, ↓q_toD, ↓q_toS, ↓q_aFz, ↓q_dC, ↓q_dOp, ↓q_sOp, ↓q_dUn, ↓q_dNil, ↓q_wNil, ↓q_aNil, ↓q_dCons, ↓q_wCons, ↓q_aCons, ↓q_dTup, ↓q_sLst, ↓q_dCall, ↓q_sCall, ↓q_sFn, ↓q_bV, ↓q_bC, ↓q_bAnd, ↓q_bOr, ↓q_bNot, ↓q_dIf, ↓q_sIf, ↓q_dAnd, ↓q_dOr, ↓q_dNot, ↓q_gN, ↓q_gsNil, ↓q_gsCons, ↓q_gTp, ↓q_seqT, ↓q_range1, ↓q_goNil, ↓q_goCons, ↓q_lc, ↓q_lcNil, ↓q_lcCons, ↓q_yes, ↓q_sub, ↓q_add, ↓q_neg, ↓q_lt, ↓q_le, ↓q_gt, ↓q_ge, ↓q_eq, ↓q_ne, ↓q_abs, ↓q_int, ↓q_gcd, ↓q_tupL, ↓q_tupT, ↓q_app, ↓q_is, ↓q_maxL, ↓q_or, ↓q_sum2, ↓q_gtT, ↓q_ltT, ↓q_leT, ↓q_geT, ↓q_rev, ↓q_oNo, ↓q_oSo, ↓q_dSl, ↓q_sRev, ↓q_lc2, ↓q_lc2Nil, ↓q_lc2Cons, ↓q_en, ↓q_lrg, ↓q_range2, ↓q_aug, ↓q_augI, ↓q_parO, ↓q_parO3, ↓q_sortSet, sat, List.cons_append, List.nil_append, List.append_nil, List.length_cons, List.length_nil, List.set_cons_succ, List.set_cons_zero, List.replicate, cond_true, cond_false, fzS, wipeE, Nat.blt, Nat.ble, eq_self, decide_true, decide_false, Bool.not_true, Bool.not_false, b2, b3, b4, if_true, ↓ih]
theorem rowX_loop {t : Int × Int × Int} (o : Okt t) {n : Nat} (hn : n ≤ 100) : ∀ (k : Nat) (x : Int) (L : List (Int × Int)) (s6 : S), L.length + k * n ≤ 10000 →
    (∀ s6, ks.nx [s0, s1, .sh (.int (n : Int)), s3, .sh (D3 t), .sh (.list ((L ++ rowX t n k x).map P2)), s6, .un] = R) →
    pForGo (gN 6) (pSet 5 (toS (toD (sOp gCat (vN 5) (toD (sLc [7] (iRange1 (wCons (vN 2) wNil)) (gN 7) (bV (toD (sFn m__law_of (aCons (sN 4) (aCons (sN 6) (aCons (sN 7) aNil)))))) (dTup (dCons (dN 6) (dCons (dN 7) dNil)))))))))
      (rngL x k) [s0, s1, .sh (.int (n : Int)), s3, .sh (D3 t), .sh (.list (L.map P2)), s6, .un] ks = R
  | 0, x, L, s6, _, h => by
    have := h s6
    rw [rowX, List.append_nil] at this
    exact this
  | k + 1, x, L, s6, hL, h => by
    rw [Nat.succ_mul] at hL
    rw [rowX, ← List.append_assoc] at h
    have yl := rowY_len (t := t) (x := x) n 0
    have ih := fun s6 => rowX_loop o hn k (x + 1) (L ++ rowY t x n 0) s6 (by rw [List.length_append]; omega) h
    have r := fun s5 kL => rowY_go (s0 := s0) (s1 := s1) (s3 := s3) (s5 := s5) o (x := x) (n := (n : Int)) (kL := kL) n 0 (Int.le_refl _) (by omega)
    have c := b2_62 (j := (n : Int)) (by omega) (by omega)
    have b1 : Nat.ble (rngL 0 n).length 100000 = true := by rw [Nat.ble_eq, rngL_len]; omega
    have ct : ∀ k, gCat (.list (L.map P2)) (.list ((rowY t x n 0).map P2)) k = k (.ow ((L ++ rowY t x n 0).map P2)) := fun k => by
      unfold gCat
      dsimp only
      rw [if_pos (by simp only [List.length_map]; omega), ← List.map_append]
    rw [rngL]
    simp -implicitDefEqProofs only [↓q_seq, ↓q_nil, ↓q_ret, ↓q_brk, ↓q_cont, ↓q_if, ↓q_set, ↓q_setF, ↓q_asg, ↓q_par, ↓q_par3, ↓q_expr, ↓q_for, ↓q_vN, ↓q_dN, ↓q_sN, ↓q_take, ↓q_toD, ↓q_toS, ↓q_aFz, ↓q_dC, ↓q_dOp, ↓q_sOp, ↓q_dUn, ↓q_dNil, ↓q_wNil, ↓q_aNil, ↓q_dCons, ↓q_wCons, ↓q_aCons, ↓q_dTup, ↓q_sLst, ↓q_dCall, ↓q_sCall, ↓q_sFn, ↓q_bV, ↓q_bC, ↓q_bAnd, ↓q_bOr, ↓q_bNot, ↓q_dIf, ↓q_sIf, ↓q_dAnd, ↓q_dOr, ↓q_dNot, ↓q_gN, ↓q_gsNil, ↓q_gsCons, ↓q_gTp, ↓q_seqT, ↓q_range1, ↓q_goNil, ↓q_goCons, ↓q_lc, ↓q_lcNil, ↓q_lcCons, ↓q_yes, ↓q_sub, ↓q_add, ↓q_neg, ↓q_lt, ↓q_le, ↓q_gt, ↓q_ge, ↓q_eq, ↓q_ne, ↓q_abs, ↓q_int, ↓q_gcd, ↓q_tupL, ↓q_tupT, ↓q_app, ↓q_is, ↓q_maxL, ↓q_or, ↓q_sum2, ↓q_gtT, ↓q_ltT, ↓q_leT, ↓q_geT, ↓q_rev, ↓q_oNo, ↓q_oSo, ↓q_dSl, ↓q_sRev, ↓q_lc2, ↓q_lc2Nil, ↓q_lc2Cons, ↓q_en, ↓q_lrg, ↓q_range2, ↓q_aug, ↓q_augI, ↓q_parO, ↓q_parO3, ↓q_sortSet, sat, List.cons_append, List.nil_append, List.append_nil, List.length_cons, List.length_nil, List.set_cons_succ, List.set_cons_zero, List.replicate, cond_true, cond_false, fzS, wipeE, Nat.blt, Nat.ble, eq_self, decide_true, decide_false, Bool.not_true, Bool.not_false, b2, b3, b4, if_true, if_pos c, Int.toNat_natCast, b1, ↓r, ↓ct]
    exact ih _
end
theorem rows_eq {t u : Int × Int × Int} (o : Okt t) (o2 : Okt u) {n : Nat} (hn : n ≤ 100) {k : S → Bool} : m__law_rows [.sh (D3 t), .sh (D3 u), .sh (.int (n : Int))] k = k (.ow [.list ((rowX t n n 0).map P2), .list ((rowX u n n 0).map P2)]) := by
  have c := b2_62 (j := (n : Int)) (by omega) (by omega)
  have hnn : ([] : List (Int × Int)).length + n * n ≤ 10000 := by
    have := Nat.mul_le_mul hn hn
    rw [List.length_nil]; omega
  unfold m__law_rows mkFn b__law_rows
  simp -implicitDefEqProofs only [↓q_seq, ↓q_nil, ↓q_ret, ↓q_brk, ↓q_cont, ↓q_if, ↓q_set, ↓q_setF, ↓q_asg, ↓q_par, ↓q_par3, ↓q_expr, ↓q_for, ↓q_vN, ↓q_dN, ↓q_sN, ↓q_take, ↓q_toD, ↓q_toS, ↓q_aFz, ↓q_dC, ↓q_dOp, ↓q_sOp, ↓q_dUn, ↓q_dNil, ↓q_wNil, ↓q_aNil, ↓q_dCons, ↓q_wCons, ↓q_aCons, ↓q_dTup, ↓q_sLst, ↓q_dCall, ↓q_sCall, ↓q_sFn, ↓q_bV, ↓q_bC, ↓q_bAnd, ↓q_bOr, ↓q_bNot, ↓q_dIf, ↓q_sIf, ↓q_dAnd, ↓q_dOr, ↓q_dNot, ↓q_gN, ↓q_gsNil, ↓q_gsCons, ↓q_gTp, ↓q_seqT, ↓q_range1, ↓q_goNil, ↓q_goCons, ↓q_lc, ↓q_lcNil, ↓q_lcCons, ↓q_yes, ↓q_sub, ↓q_add, ↓q_neg, ↓q_lt, ↓q_le, ↓q_gt, ↓q_ge, ↓q_eq, ↓q_ne, ↓q_abs, ↓q_int, ↓q_gcd, ↓q_tupL, ↓q_tupT, ↓q_app, ↓q_is, ↓q_maxL, ↓q_or, ↓q_sum2, ↓q_gtT, ↓q_ltT, ↓q_leT, ↓q_geT, ↓q_rev, ↓q_oNo, ↓q_oSo, ↓q_dSl, ↓q_sRev, ↓q_lc2, ↓q_lc2Nil, ↓q_lc2Cons, ↓q_en, ↓q_lrg, ↓q_range2, ↓q_aug, ↓q_augI, ↓q_parO, ↓q_parO3, ↓q_sortSet, sat, List.cons_append, List.nil_append, List.append_nil, List.length_cons, List.length_nil, List.set_cons_succ, List.set_cons_zero, List.replicate, cond_true, cond_false, fzS, wipeE, Nat.blt, Nat.ble, eq_self, decide_true, decide_false, Bool.not_true, Bool.not_false, b2, b3, b4, if_true, if_pos c, Int.toNat_natCast]
  refine rowX_loop o hn n 0 [] _ hnn fun s6 => ?_
  rw [List.nil_append]
  simp -implicitDefEqProofs only [↓q_seq, ↓q_nil, ↓q_ret, ↓q_brk, ↓q_cont, ↓q_if, ↓q_set, ↓q_setF, ↓q_asg, ↓q_par, ↓q_par3, ↓q_expr, ↓q_for, ↓q_vN, ↓q_dN, ↓q_sN, ↓q_take, ↓q_toD, ↓q_toS, ↓q_aFz, ↓q_dC, ↓q_dOp, ↓q_sOp, ↓q_dUn, ↓q_dNil, ↓q_wNil, ↓q_aNil, ↓q_dCons, ↓q_wCons, ↓q_aCons, ↓q_dTup, ↓q_sLst, ↓q_dCall, ↓q_sCall, ↓q_sFn, ↓q_bV, ↓q_bC, ↓q_bAnd, ↓q_bOr, ↓q_bNot, ↓q_dIf, ↓q_sIf, ↓q_dAnd, ↓q_dOr, ↓q_dNot, ↓q_gN, ↓q_gsNil, ↓q_gsCons, ↓q_gTp, ↓q_seqT, ↓q_range1, ↓q_goNil, ↓q_goCons, ↓q_lc, ↓q_lcNil, ↓q_lcCons, ↓q_yes, ↓q_sub, ↓q_add, ↓q_neg, ↓q_lt, ↓q_le, ↓q_gt, ↓q_ge, ↓q_eq, ↓q_ne, ↓q_abs, ↓q_int, ↓q_gcd, ↓q_tupL, ↓q_tupT, ↓q_app, ↓q_is, ↓q_maxL, ↓q_or, ↓q_sum2, ↓q_gtT, ↓q_ltT, ↓q_leT, ↓q_geT, ↓q_rev, ↓q_oNo, ↓q_oSo, ↓q_dSl, ↓q_sRev, ↓q_lc2, ↓q_lc2Nil, ↓q_lc2Cons, ↓q_en, ↓q_lrg, ↓q_range2, ↓q_aug, ↓q_augI, ↓q_parO, ↓q_parO3, ↓q_sortSet, sat, List.cons_append, List.nil_append, List.append_nil, List.length_cons, List.length_nil, List.set_cons_succ, List.set_cons_zero, List.replicate, cond_true, cond_false, fzS, wipeE, Nat.blt, Nat.ble, eq_self, decide_true, decide_false, Bool.not_true, Bool.not_false, b2, b3, b4, if_true, if_pos c, Int.toNat_natCast]
  refine rowX_loop o2 hn n 0 [] _ hnn fun s6 => ?_
  rw [List.nil_append]
  simp -implicitDefEqProofs only [↓q_seq, ↓q_nil, ↓q_ret, ↓q_brk, ↓q_cont, ↓q_if, ↓q_set, ↓q_setF, ↓q_asg, ↓q_par, ↓q_par3, ↓q_expr, ↓q_for, ↓q_vN, ↓q_dN, ↓q_sN, ↓q_take, ↓q_toD, ↓q_toS, ↓q_aFz, ↓q_dC, ↓q_dOp, ↓q_sOp, ↓q_dUn, ↓q_dNil, ↓q_wNil, ↓q_aNil, ↓q_dCons, ↓q_wCons, ↓q_aCons, ↓q_dTup, ↓q_sLst, ↓q_dCall, ↓q_sCall, ↓q_sFn, ↓q_bV, ↓q_bC, ↓q_bAnd, ↓q_bOr, ↓q_bNot, ↓q_dIf, ↓q_sIf, ↓q_dAnd, ↓q_dOr, ↓q_dNot, ↓q_gN, ↓q_gsNil, ↓q_gsCons, ↓q_gTp, ↓q_seqT, ↓q_range1, ↓q_goNil, ↓q_goCons, ↓q_lc, ↓q_lcNil, ↓q_lcCons, ↓q_yes, ↓q_sub, ↓q_add, ↓q_neg, ↓q_lt, ↓q_le, ↓q_gt, ↓q_ge, ↓q_eq, ↓q_ne, ↓q_abs, ↓q_int, ↓q_gcd, ↓q_tupL, ↓q_tupT, ↓q_app, ↓q_is, ↓q_maxL, ↓q_or, ↓q_sum2, ↓q_gtT, ↓q_ltT, ↓q_leT, ↓q_geT, ↓q_rev, ↓q_oNo, ↓q_oSo, ↓q_dSl, ↓q_sRev, ↓q_lc2, ↓q_lc2Nil, ↓q_lc2Cons, ↓q_en, ↓q_lrg, ↓q_range2, ↓q_aug, ↓q_augI, ↓q_parO, ↓q_parO3, ↓q_sortSet, sat, List.cons_append, List.nil_append, List.append_nil, List.length_cons, List.length_nil, List.set_cons_succ, List.set_cons_zero, List.replicate, cond_true, cond_false, fzS, wipeE, Nat.blt, Nat.ble, eq_self, decide_true, decide_false, Bool.not_true, Bool.not_false, b2, b3, b4, if_true]
end Law

set_option Elab.async false
set_option linter.all false
set_option maxRecDepth 100000
set_option maxHeartbeats 4000000
set_option synthInstance.maxHeartbeats 0
set_option synthInstance.maxSize 100000
namespace Law
open PySem Orn
theorem keeps_r1 {p q r s a b c : Int} (hr : r * r = 1) (ha : 0 < a) (hc : 0 < c) : keepsI p q r s (a, b, c) = (decide (c ∣ a) && (decide (c ∣ b) && decide (a ∣ p * b + q * c - (r * (b / c) + s) * b))) := by
  unfold keepsI isOfI
  dsimp only
  have back : ∀ z, c ∣ r * z → c ∣ z := fun z ⟨w, hw⟩ => ⟨r * w, by
    have : r * (r * z) = r * (c * w) := by rw [hw]
    grind⟩
  by_cases h1 : c ∣ a
  · by_cases h2 : c ∣ b
    · obtain ⟨e, rfl⟩ := h1
      obtain ⟨f, rfl⟩ := h2
      have e1 : r * (c * e) = c * (r * e) := by grind
      have e2 : r * (c * f) + s * c = c * (r * f + s) := by grind
      have e3 : p * (c * e) - r * e * (c * f) = c * e * (p - r * f) := by grind
      rw [e1, e2, Int.mul_ediv_cancel_left _ (by omega), Int.mul_ediv_cancel_left _ (by omega), Int.mul_ediv_cancel_left _ (by omega), e3]
      rw [Int.mul_emod_right, Int.mul_emod_right, Int.mul_emod_right]
      simp only [decide_true, Bool.true_and, Int.dvd_mul_right]
      rw [Bool.eq_iff_iff, decide_eq_true_eq, decide_eq_true_eq, Int.dvd_iff_emod_eq_zero]
    · have : ¬ ((r * b + s * c) % c = 0) := fun z => by
        rw [Int.add_mul_emod_self_right] at z
        exact h2 (back b (Int.dvd_of_emod_eq_zero z))
      rw [decide_eq_false this, decide_eq_false h2]
      simp
  · have : ¬ ((r * a) % c = 0) := fun z => h1 (back a (Int.dvd_of_emod_eq_zero z))
    rw [decide_eq_false this, decide_eq_false h1]
    simp
theorem keeps_r0 {p q s a b c : Int} (ha : 0 < a) (hc : 0 < c) : keepsI p q 0 s (a, b, c) = decide (a ∣ p * b + q * c - s * b) := by
  unfold keepsI isOfI
  dsimp only
  have e1 : p * a - 0 * a / c * b = a * p := by rw [Int.zero_mul, Int.zero_ediv]; grind
  have e2 : 0 * b + s * c = c * s := by grind
  rw [e1, e2, Int.mul_ediv_cancel_left _ (by omega), Int.zero_mul, Int.zero_emod, Int.mul_emod_right, Int.mul_emod_right]
  simp only [decide_true, Bool.true_and]
  rw [Bool.eq_iff_iff, decide_eq_true_eq, decide_eq_true_eq, Int.dvd_iff_emod_eq_zero]
theorem mod_dvd {P Q a : Nat} : Nat.beq (P % a) (Q % a) = decide ((a : Int) ∣ (P : Int) - (Q : Int)) := by
  rw [Bool.eq_iff_iff, decide_eq_true_eq, Nat.beq_eq, Int.dvd_iff_emod_eq_zero, ← Int.emod_eq_emod_iff_emod_sub_eq_zero]
  constructor
  · intro h
    have := congrArg (fun n : Nat => (n : Int)) h
    simpa using this
  · intro h
    have e1 : ((P % a : Nat) : Int) = (P : Int) % (a : Int) := by simp
    have e2 : ((Q % a : Nat) : Int) = (Q : Int) % (a : Int) := by simp
    rw [← e1, ← e2] at h
    exact Int.ofNat.inj h
/-! counted by natural numbers -/
def one01 (b : Bool) : Nat := match b with | true => 1 | false => 0
def cntRow (f : Nat → Bool) : Nat → Nat → Nat
  | 0, _ => 0
  | k + 1, b => Nat.add (one01 (f b)) (cntRow f k (Nat.succ b))
def gate (b c : Nat) (x : Bool) : Bool := match Nat.beq (Nat.mod b c) 0 with | true => x | false => false
def rowA (a _c : Nat) : Nat := a
def rowB (a _c : Nat) : Nat := cntRow (fun b => Nat.beq (Nat.mod (Nat.add b b) a) (Nat.mod 0 a)) a 0
def rowG (t : Nat → Nat → Nat → Bool) (a c : Nat) : Nat := match Nat.beq (Nat.mod a c) 0 with | true => cntRow (fun b => gate b c (t a b c)) a 0 | false => 0
def tC (a b c : Nat) : Bool := Nat.beq (Nat.mod 0 a) (Nat.mod (Nat.add c (Nat.mul (Nat.div b c) b)) a)
def tE (a b c : Nat) : Bool := Nat.beq (Nat.mod b a) (Nat.mod (Nat.add c (Nat.mul (Nat.div b c) b)) a)
def tF (a b c : Nat) : Bool := Nat.beq (Nat.mod c a) (Nat.mod (Nat.mul (Nat.div b c) b) a)
def cntG (rw : Nat → Nat → Nat) (N : Nat) : Nat → Nat → Nat
  | 0, _ => 0
  | k + 1, a => Nat.add (match Nat.beq (Nat.mod N a) 0 with | true => rw a (Nat.div N a) | false => 0) (cntG rw N k (Nat.succ a))
def cntT (rw : Nat → Nat → Nat) (N : Nat) : Nat := cntG rw N N 1
theorem row_filter {K : Int × Int × Int → Bool} {f : Nat → Bool} {N a : Int} (h : ∀ b : Nat, K (a, (b : Int), N / a) = f b) : ∀ (k b : Nat), ((rowT N a k (b : Int)).filter K).length = cntRow f k b
  | 0, b => rfl
  | k + 1, b => by
    have ih := row_filter (N := N) (a := a) h k (b + 1)
    rw [show ((b + 1 : Nat) : Int) = (b : Int) + 1 from rfl] at ih
    rw [rowT, List.filter_cons, h b, cntRow]
    cases hf : f b with
    | true =>
      rw [if_pos rfl, List.length_cons, ih]
      show cntRow f k (b + 1) + 1 = 1 + cntRow f k (b + 1)
      omega
    | false =>
      rw [if_neg (by decide), ih]
      show _ = 0 + cntRow f k (b + 1)
      omega
theorem cnt_filter {K : Int × Int × Int → Bool} {rw : Nat → Nat → Nat} {N : Nat} (h : ∀ a c : Nat, 0 < a → 0 < c → (N : Int) / (a : Int) = (c : Int) → c = N / a → ((rowT (N : Int) (a : Int) a 0).filter K).length = rw a c) : ∀ (k a : Nat), 0 < a → a + k ≤ N + 1 → ((subF (N : Int) k (a : Int)).filter K).length = cntG rw N k a
  | 0, a, _, _ => rfl
  | k + 1, a, ha, hk => by
    have ih := cnt_filter (N := N) h k (a + 1) (by omega) (by omega)
    rw [show ((a + 1 : Nat) : Int) = (a : Int) + 1 from rfl] at ih
    rw [subF, List.filter_append, List.length_append, ih, cntG]
    have e : decide ((N : Int) % (a : Int) = 0) = Nat.beq (Nat.mod N a) 0 := by
      rw [Bool.eq_iff_iff, decide_eq_true_eq, Nat.beq_eq]
      have e1 : ((N % a : Nat) : Int) = (N : Int) % (a : Int) := by simp
      rw [← e1]
      show ((N % a : Nat) : Int) = 0 ↔ N % a = 0
      omega
    rw [e]
    show _ = _ + cntG rw N k (a + 1)
    congr 1
    cases hb : Nat.beq (Nat.mod N a) 0 with
    | false => rfl
    | true =>
      have hm : N % a = 0 := Nat.eq_of_beq_eq_true hb
      have hc : 0 < N / a := Nat.div_pos (by omega) ha
      rw [cond_true, Int.toNat_natCast, h a (N / a) ha hc (by simp) rfl]
      rfl
theorem cnt_all {p q r s : Int} {rw : Nat → Nat → Nat} {N : Nat} (h : ∀ a c : Nat, 0 < a → 0 < c → (N : Int) / (a : Int) = (c : Int) → c = N / a → ((rowT (N : Int) (a : Int) a 0).filter (keepsI p q r s)).length = rw a c) : cntI p q r s N = cntT rw N := cnt_filter h N 1 (by decide) (by omega)
theorem rowG_ok {p q r s : Int} {t : Nat → Nat → Nat → Bool} (hr : r * r = 1) (ht : ∀ a b c : Nat, 0 < a → 0 < c → decide ((a : Int) ∣ p * (b : Int) + q * (c : Int) - (r * ((b / c : Nat) : Int) + s) * (b : Int)) = t a b c) (N a c : Nat) (ha : 0 < a) (hc : 0 < c) (e : (N : Int) / (a : Int) = (c : Int)) :
    ((rowT (N : Int) (a : Int) a 0).filter (keepsI p q r s)).length = rowG t a c := by
  have d : ∀ x y : Nat, decide ((y : Int) ∣ (x : Int)) = Nat.beq (Nat.mod x y) 0 := fun x y => by
    have := mod_dvd (P := x) (Q := 0) (a := y)
    rw [Nat.zero_mod, Int.natCast_zero, Int.sub_zero] at this
    exact this.symm
  have k := fun b : Nat => keeps_r1 (p := p) (q := q) (r := r) (s := s) (a := (a : Int)) (b := (b : Int)) (c := (c : Int)) hr (by omega) (by omega)
  unfold rowG
  cases hb : Nat.beq (Nat.mod a c) 0 with
  | true =>
    refine (row_filter (f := fun b => gate b c (t a b c)) (fun b => ?_) a 0)
    rw [e, k b, d a c, hb, Bool.true_and, d b c]
    unfold gate
    cases Nat.beq (Nat.mod b c) 0 with
    | false => rfl
    | true =>
      rw [Bool.true_and, ← ht a b c ha hc]
      congr 2
  | false =>
    have := row_filter (K := keepsI p q r s) (f := fun _ => false) (N := (N : Int)) (a := (a : Int)) (fun b => by rw [e, k b, d a c, hb, Bool.false_and]) a 0
    rw [show ((0 : Nat) : Int) = 0 from rfl] at this
    rw [this]
    have z : ∀ k b, cntRow (fun _ => false) k b = 0 := fun k => by
      induction k with
      | zero => intro b; rfl
      | succ k ih => intro b; rw [cntRow, ih]; rfl
    exact z _ _
theorem cntA1 (N : Nat) : cntI 1 0 0 1 N = cntT rowA N := cnt_all fun a c ha hc e _ => by
  have := row_filter (K := keepsI 1 0 0 1) (f := fun _ => true) (N := (N : Int)) (a := (a : Int)) (fun b => by
    rw [e, keeps_r0 (by omega) (by omega)]
    exact decide_eq_true ⟨0, by grind⟩) a 0
  rw [show ((0 : Nat) : Int) = 0 from rfl] at this
  rw [this]
  have z : ∀ k b, cntRow (fun _ => true) k b = k := fun k => by
    induction k with
    | zero => intro b; rfl
    | succ k ih => intro b; rw [cntRow, ih]; show 1 + k = k + 1; omega
  exact z _ _
theorem cntA2 (N : Nat) : cntI (-1) 0 0 (-1) N = cntT rowA N := cnt_all fun a c ha hc e _ => by
  have := row_filter (K := keepsI (-1) 0 0 (-1)) (f := fun _ => true) (N := (N : Int)) (a := (a : Int)) (fun b => by
    rw [e, keeps_r0 (by omega) (by omega)]
    exact decide_eq_true ⟨0, by grind⟩) a 0
  rw [show ((0 : Nat) : Int) = 0 from rfl] at this
  rw [this]
  have z : ∀ k b, cntRow (fun _ => true) k b = k := fun k => by
    induction k with
    | zero => intro b; rfl
    | succ k ih => intro b; rw [cntRow, ih]; show 1 + k = k + 1; omega
  exact z _ _
theorem cntB1 (N : Nat) : cntI 1 0 0 (-1) N = cntT rowB N := cnt_all fun a c ha hc e _ => by
  refine row_filter (fun b => ?_) a 0
  rw [e, keeps_r0 (by omega) (by omega)]
  have := mod_dvd (P := b + b) (Q := 0) (a := a)
  refine Eq.trans ?_ this.symm
  congr 2
  push_cast
  grind
theorem cntC1 (N : Nat) : cntI 0 (-1) 1 0 N = cntT (rowG tC) N := cnt_all fun a c ha hc e _ => rowG_ok (by decide) (fun a b c ha hc => by
  have := mod_dvd (P := 0) (Q := c + b / c * b) (a := a)
  refine Eq.trans ?_ this.symm
  congr 2
  push_cast
  grind) N a c ha hc e
theorem cntE1 (N : Nat) : cntI 0 (-1) 1 (-1) N = cntT (rowG tE) N := cnt_all fun a c ha hc e _ => rowG_ok (by decide) (fun a b c ha hc => by
  have := mod_dvd (P := b) (Q := c + b / c * b) (a := a)
  refine Eq.trans ?_ this.symm
  congr 2
  push_cast
  grind) N a c ha hc e
theorem cntE2 (N : Nat) : cntI 1 (-1) 1 0 N = cntT (rowG tE) N := cnt_all fun a c ha hc e _ => rowG_ok (by decide) (fun a b c ha hc => by
  have := mod_dvd (P := b) (Q := c + b / c * b) (a := a)
  refine Eq.trans ?_ this.symm
  congr 2
  push_cast
  grind) N a c ha hc e
theorem cntF1 (N : Nat) : cntI 0 1 1 0 N = cntT (rowG tF) N := cnt_all fun a c ha hc e _ => rowG_ok (by decide) (fun a b c ha hc => by
  have := mod_dvd (P := c) (Q := b / c * b) (a := a)
  refine Eq.trans ?_ this.symm
  congr 2
  push_cast
  grind) N a c ha hc e
theorem dvd_negB {a x y : Int} (h : x = -y) : decide (a ∣ x) = decide (a ∣ y) := by
  subst h
  rw [Bool.eq_iff_iff, decide_eq_true_eq, decide_eq_true_eq, Int.dvd_neg]
theorem cntF2 (N : Nat) : cntI 0 (-1) (-1) 0 N = cntT (rowG tF) N := cnt_all fun a c ha hc e _ => rowG_ok (by decide) (fun a b c ha hc => by
  have := mod_dvd (P := c) (Q := b / c * b) (a := a)
  refine Eq.trans (dvd_negB ?_) this.symm
  push_cast
  grind) N a c ha hc e
end Law

set_option Elab.async false
set_option linter.all false
set_option maxRecDepth 100000
set_option maxHeartbeats 4000000
set_option synthInstance.maxHeartbeats 0
set_option synthInstance.maxSize 100000
namespace Law
open PySem Orn
def need : List Nat := [1, 2, 3, 4, 5, 6, 7, 8, 9, 10, 11, 12, 13, 14, 15, 16, 17, 18, 19, 20, 21, 22, 23, 24, 25, 26, 27, 28, 29, 30, 31, 32, 33, 34, 35, 36, 37, 38, 39, 40, 41, 42, 43, 44, 45, 46, 47, 48, 49, 50, 51, 52, 53, 54, 55, 56, 57, 58, 59, 60, 62, 63, 65, 66, 68, 69, 70, 72, 74, 75, 76, 77, 78, 80, 82, 84, 85, 86, 87, 88, 90, 91, 92, 93, 94, 95, 96, 98, 99, 100, 102, 104, 105, 106, 108, 110, 111, 112, 114, 115, 116, 117, 118, 119, 120, 123, 124, 126, 129, 130, 132, 133, 135, 136, 138, 140, 141, 143, 144, 145, 147, 148, 150, 152, 153, 154, 155, 156, 159, 160, 161, 164, 165, 168, 170, 171, 172, 174, 175, 176, 177, 180, 182, 184, 185, 186, 187, 188, 189, 190, 195, 196, 198, 200, 203, 204, 205, 207, 208, 209, 210, 212, 215, 216, 217, 220, 221, 222, 224, 225, 228, 230, 231, 232, 234, 235, 236, 238, 240, 245, 246, 247, 248, 252, 253, 255, 258, 259, 260, 261, 264, 265, 266, 270, 272, 273, 275, 276, 279, 280, 282, 285, 286, 287, 288, 290, 294, 295, 296, 297, 299, 300, 301, 304, 306, 308, 310, 312, 315, 318, 319, 322, 323, 325, 328, 329, 330, 333, 336, 340, 341, 342, 344, 345, 348, 350, 351, 352, 354, 357, 360, 364, 368, 369, 370, 371, 372, 374, 376, 377, 378, 380, 385, 387, 390, 391, 392, 396, 399]
def bigA : Nat := 10637288625724538015497204218470059521831291330338916295923111015359955459621522667525197895619326055605719846153670015301070803539447256769332334538038840359918643146179417602597038286795939653467360556792803174316434038721712726495656907119666820802061317004839476733485388249387727301700222731459633171464914137213424692697685849930960456088968353255334912603736459231254944433350396038594935841812730220261271912853416314376323123344443462193211818206601864271339080219379057271281652981466058133068663356816476529422984384028888788513274956072196743455942275177787833445914230639847679721708667136752715110587733873360619947148575649780286136250977358070312962906917715302498427057064348678675659222103838438654917686507777606374172567013418464831846232205966516117812952152814721124695827002023725444269568217495322872882750686562897924753331526175052397565909006499105179819826589282875554269453502883154287736761032334636784152525029754482242096482238222722320051949055111946079939907650473890813985068978613873502648995956766310462178005873329179516421193293880560858302181447836461659525510303858629847301212400478617767726436597966600231179435571673142825349664669208552319997364656991631455068099921414091505244271137469644700166938081005021967960905411357573977550209092858605046481945794364527713682285343541248
def bigB : Nat := 132966107853192528690917946194833574522291382572912564215773464501894657983961748162301193530134570495763283848908658178519788720670235654507173514087188358683004947564199615036166842783874284382156437426879730426394736861918710485393545636798282099724982581788604614382080444304684870150101749389757981099634047701731401529576354711143477739740242336242041388273471051599372653425754234226229375721835167550605871670880894609637141301410211510146951012074962307102424923337490056166539898279283632857407346147867041346387957122195367382428627910481750069889806093695119544187371491447111795977194104250820858153321925920609636326360239918945734658137929709404497239601156870100224418296056982990372526175296854101405130664392745285436810519057701053678969397029823441588739763180399733878114496883433574967229426597868064703026073537489158942067665690732700493040034094857318960256992499303707816806279392693643483478871964324043352092362551632804740370744117691242239497923435199790251469561625189128032485721501383938936571292932465649189560799984355148729171694849157975342048526462287318500086208719678946614293481920272922499554399388014220090949178943511753337382043559259890051929304310918224487608016750706154369121527138885885714742537387413810612160572616507377022197431439792744453480975184014730565185639024640
def bigC : Nat := 109986986494780100388264080284334494585724552142534031698965167273859699424290445338062968120816119480115791003121032435402363795694709685611620253363749508612377790554528404511996374758063253016476160849351084157328065006823510750521911068381311280869622947677227950234037348394728275701281728692263779076502373466282353559350427447109460887972332969065773567864023236124513205967438204928731173733591805821806609296109470079441839321244169951070329100029992250870188526504203445630164390020233329994434721489457710961044203729181795148801268093272166874282495662172239606732030237012748367705808784009674700414364103784031248357395214681200930934112897714234015510781982853144780423968677905577593882835507307798227803183167867233428418315599506565257126782543932829463638353471126797942438594802099114916354371324496170017113816255161773779329046935763648404247834511002584695030530863413948248955991032256968039870703735377559724394564041012076974946455593309756161815226866104697964470857647784102652931308919840705991498299399174930241908155377326527870361262371922427956219961244070232226863553067206397203900105976974906382187762833649988723137433955507990414636430006915660716196743228401325112205625771329618827712006134595098749783299944674948728628444513993468560312654546508193623705600
def bigE : Nat := 66483053897572591412245194917117247433911650810796450221681823017198642810670273201416285439058578070831430566264904201562307976851340630888148230869185944111731491151899196920134049689170986775045086827001322725518839922577463406245849272416843254766463451399934266022839627596529416424014537718005236924602179251052446786287862614169800867638822743465862577426785614744851322223950911337537542284835132787399312772050494096957630432752231229505216478906671783663533071448634011147841668571222298307171162588228207353895507866405290224239941502264329043098538220537206879627630057018228682459727648645014170760793873112670229889797148892012607138382138340009372713001264974577053080225653231408440294903605997114375836570580924244937663181723428712456145513074068881420367187731048235706185867681054007793527796755750100621651579407558496834925806836639602395417272641486662921454536748173680624165206935392271557579323292964223735406609511108901479072451582121098975195987773883101633412623482465843674627647467315159347572911667738206339576524427918170429907192689277637105468728951483655900634105993454504086152424363290916905892567124038030785295123989831764823697552521854527497785576376486988637153480789199043069483349305054163273195490625782813310004739048810589957512787524971045167065224840506022060606120527872
def bigF : Nat := 132966107829973590344347187705121036509140089077619362089974492744949343569046800257086317097725703406936137845957912288285052448568250992108538740019593420783148014522709795945602636114804384780949618863629799110788589413177906645728780305617753427653797095427518889314702470990592126543928971507012881994594170926704594462407455702043770577211719948379026682910250798464664187247882744213430085836417591592012915245552852676985838446324887960387242705057433518257668738671641276591889159827187535264613165260088914146972170588105592359426788348229746705907299771545567882440624694381950053728401333395368340155680346812896669142843777729508427085293443840652533057658881527354185406737236596114679983583903004638488477652879622914355137264023521997842766216692128460288959168449071008880953719405827136552910027693801376547414039428054891056277251370442577995015518214112144428031035869906905730956582579278172976987086437131737028646064359110599128872157147380657562657060861115777761721170957939979166788210240818655048379642985140521007419184024102984376378600003051993958792806120120983293038779139524925623413848316081116117095426808318395293454369055225493161424830053048996149123040332185305428595480533325450903305536906486561700003300960457823758594159822228786049681907988750892276701935093250127519972816062464
def tabAt (B N : Nat) : Nat := Nat.mod (Nat.shiftRight B (Nat.mul 11 N)) 2048
def okTab (rw : Nat → Nat → Nat) (B : Nat) : List Nat → Bool
  | [] => true
  | N :: L => match Nat.beq (cntT rw N) (tabAt B N) with | true => okTab rw B L | false => false
theorem okTab_mem {rw : Nat → Nat → Nat} {B N : Nat} : ∀ L : List Nat, okTab rw B L = true → N ∈ L → cntT rw N = tabAt B N
  | [], _, h => nomatch h
  | M :: L, hk, h => by
    rw [okTab] at hk
    cases hb : Nat.beq (cntT rw M) (tabAt B M) with
    | false => rw [hb] at hk; cases hk
    | true =>
      rw [hb] at hk
      rcases List.mem_cons.mp h with e | e
      · subst e; exact Nat.eq_of_beq_eq_true hb
      · exact okTab_mem L hk e
theorem tabA : okTab rowA bigA need = true := by decide +kernel
theorem tabB : okTab rowB bigB need = true := by decide +kernel
theorem tabC : okTab (rowG tC) bigC need = true := by decide +kernel
theorem tabE : okTab (rowG tE) bigE need = true := by decide +kernel
theorem tabF : okTab (rowG tF) bigF need = true := by decide +kernel
def mem (N : Nat) : List Nat → Bool
  | [] => false
  | M :: L => match Nat.beq N M with | true => true | false => mem N L
theorem mem_iff {N : Nat} : ∀ L : List Nat, mem N L = true → N ∈ L
  | [], h => by cases h
  | M :: L, h => by
    rw [mem] at h
    cases hb : Nat.beq N M with
    | true => rw [Nat.eq_of_beq_eq_true hb]; exact List.mem_cons_self
    | false => rw [hb] at h; exact List.mem_cons_of_mem _ (mem_iff L h)
def okMul (B n m : Nat) : Bool := match Nat.beq (Nat.gcd n m) 1 with
  | false => true
  | true => match Nat.ble 400 (Nat.mul n m) with
    | true => true
    | false => Nat.beq (tabAt B (Nat.mul n m)) (Nat.mul (tabAt B n) (tabAt B m))
def okNeed (n m : Nat) : Bool := match Nat.beq (Nat.gcd n m) 1 with
  | false => true
  | true => match Nat.ble 400 (Nat.mul n m) with
    | true => true
    | false => mem (Nat.mul n m) need
def upTo (f : Nat → Bool) : Nat → Bool
  | 0 => true
  | k + 1 => match f (Nat.succ k) with | true => upTo f k | false => false
theorem upTo_all {f : Nat → Bool} : ∀ k, upTo f k = true → ∀ n, 1 ≤ n → n ≤ k → f n = true
  | 0, _, n, h0, h1 => by omega
  | k + 1, h, n, h0, h1 => by
    rw [upTo] at h
    cases hb : f (Nat.succ k) with
    | false => rw [hb] at h; cases h
    | true =>
      rw [hb] at h
      by_cases e : n = k + 1
      · rw [e]; exact hb
      · exact upTo_all k h n h0 (by omega)
theorem need_all : upTo (fun n => upTo (okNeed n) 30) 60 = true := by decide +kernel
theorem mulA : upTo (fun n => upTo (okMul bigA n) 30) 60 = true := by decide +kernel
theorem mulB : upTo (fun n => upTo (okMul bigB n) 30) 60 = true := by decide +kernel
theorem mulC : upTo (fun n => upTo (okMul bigC n) 30) 60 = true := by decide +kernel
theorem mulE : upTo (fun n => upTo (okMul bigE n) 30) 60 = true := by decide +kernel
theorem mulF : upTo (fun n => upTo (okMul bigF n) 30) 60 = true := by decide +kernel
theorem need_one : upTo (fun n => mem n need) 60 = true := by decide +kernel
theorem cnt_mul {rw : Nat → Nat → Nat} {B : Nat} (h1 : okTab rw B need = true) (h2 : upTo (fun n => upTo (okMul B n) 30) 60 = true) {n m : Nat} (n0 : 1 ≤ n) (n1 : n ≤ 60) (m0 : 1 ≤ m) (m1 : m ≤ 30) (hg : Nat.gcd n m = 1) (hl : n * m < 400) :
    cntT rw (n * m) = cntT rw n * cntT rw m := by
  have a := upTo_all _ (upTo_all _ h2 n n0 n1) m m0 m1
  have b := upTo_all _ (upTo_all _ need_all n n0 n1) m m0 m1
  unfold okMul at a
  unfold okNeed at b
  have g : Nat.beq (Nat.gcd n m) 1 = true := by rw [hg]; rfl
  have l : Nat.ble 400 (Nat.mul n m) = false := by
    cases hb : Nat.ble 400 (Nat.mul n m) with
    | false => rfl
    | true => have h : 400 ≤ n * m := Nat.le_of_ble_eq_true hb; omega
  rw [g, l] at a b
  show cntT rw (Nat.mul n m) = _
  rw [okTab_mem need h1 (mem_iff need b), okTab_mem need h1 (mem_iff need (upTo_all _ need_one n n0 n1)), okTab_mem need h1 (mem_iff need (upTo_all _ need_one m m0 (by omega)))]
  exact Nat.eq_of_beq_eq_true a
end Law

set_option Elab.async false
set_option linter.all false
set_option maxRecDepth 100000
set_option maxHeartbeats 4000000
set_option synthInstance.maxHeartbeats 0
set_option synthInstance.maxSize 100000
namespace Law
open PySem Orn
/-! squares and hexes, counted by pairs -/
def inS (n x : Int) : Nat → Int → Int → Int
  | 0, _, acc => acc
  | k + 1, y, acc => inS n x k (y + 1) (acc + (bif decide (x * x + y * y = n) then 1 else 0))
def outS (n : Int) : Nat → Int → Int → Int
  | 0, _, acc => acc
  | k + 1, x, acc => outS n k (x + 1) (inS n x 17 (-8) acc)
def inH (n x : Int) : Nat → Int → Int → Int
  | 0, _, acc => acc
  | k + 1, y, acc => inH n x k (y + 1) (acc + (bif decide (x * x + x * y + y * y = n) then 1 else 0))
def outH (n : Int) : Nat → Int → Int → Int
  | 0, _, acc => acc
  | k + 1, x, acc => outH n k (x + 1) (inH n x 21 (-10) acc)
def sqW (n : Nat) : Int := outS n 17 (-8) 0
def hxW (n : Nat) : Int := outH n 21 (-10) 0
def up (f : Nat → Bool) : Nat → Bool
  | 0 => true
  | k + 1 => match f (Nat.succ k) with | true => up f k | false => false
theorem up_all {f : Nat → Bool} : ∀ k, up f k = true → ∀ n, 1 ≤ n → n ≤ k → f n = true
  | 0, _, n, h0, h1 => by omega
  | k + 1, h, n, h0, h1 => by
    rw [up] at h
    cases hb : f (Nat.succ k) with
    | false => rw [hb] at h; cases h
    | true =>
      rw [hb] at h
      by_cases e : n = k + 1
      · rw [e]; exact hb
      · exact up_all k h n h0 (by omega)
theorem f_sq : up (fun n => decide (sqWays n = sqW n)) 60 = true := by decide +kernel
theorem f_hx : up (fun n => decide (hxWays n = hxW n)) 60 = true := by decide +kernel
theorem f_4 : up (fun n => decide (4 * (cntT (rowG tC) n : Int) = sqW n)) 60 = true := by decide +kernel
theorem f_6 : up (fun n => decide (6 * (cntT (rowG tE) n : Int) = hxW n)) 60 = true := by decide +kernel
theorem f_len : up (fun n => Nat.ble (subl n).length 200 && decide (((subl n).length : Int) = (divF n n 1).sum) && decide ((subl n).length ≠ 0)) 60 = true := by decide +kernel
def nod : List (List (Int × Int)) → Bool
  | [] => true
  | r :: L => (L.all fun q => !decide (r = q)) && nod L
theorem nod_ne : ∀ {L : List (List (Int × Int))}, nod L = true → ∀ i j (hi : i < L.length) (hj : j < L.length), i ≠ j → L[i] ≠ L[j]
  | [], _, i, j, hi, _, _ => absurd hi (by simp)
  | r :: L, h, i, j, hi, hj, ne => by
    rw [nod, Bool.and_eq_true, List.all_eq_true] at h
    cases i with
    | zero =>
      cases j with
      | zero => exact absurd rfl ne
      | succ j =>
        have := h.1 (L[j]'(by simpa using hj)) (List.getElem_mem _)
        simpa using this
    | succ i =>
      cases j with
      | zero =>
        have := h.1 (L[i]'(by simpa using hi)) (List.getElem_mem _)
        have h2 : ¬ r = L[i]'(by simpa using hi) := by simpa using this
        exact fun e => h2 (by simpa using e.symm)
      | succ j =>
        have := nod_ne h.2 i j (by simpa using hi) (by simpa using hj) (fun e => ne (by rw [e]))
        simpa using this
theorem f_rows : up (fun n => nod ((subl n).map fun t => rowX t n n 0)) 12 = true := by decide +kernel
end Law

set_option Elab.async false
set_option linter.all false
set_option maxRecDepth 100000
set_option maxHeartbeats 4000000
set_option synthInstance.maxHeartbeats 0
set_option synthInstance.maxSize 100000
namespace Law
open PySem Orn
structure LinOk (p q r s : Int) : Prop where
  hp : one1 p
  hq : one1 q
  hr : one1 r
  hs : one1 s
  mul : ∀ n m : Nat, 1 ≤ n → n ≤ 60 → 1 ≤ m → m ≤ 30 → Nat.gcd n m = 1 → n * m < 400 → cntI p q r s (n * m) = cntI p q r s n * cntI p q r s m
theorem one1_0 : one1 0 := .inr (.inl rfl)
theorem one1_1 : one1 1 := .inr (.inr rfl)
theorem one1_m : one1 (-1) := .inl rfl
theorem LinOk.of {p q r s : Int} {rw : Nat → Nat → Nat} {B : Nat} (hp : one1 p) (hq : one1 q) (hr : one1 r) (hs : one1 s) (e : ∀ N, cntI p q r s N = cntT rw N) (h1 : okTab rw B need = true) (h2 : upTo (fun n => upTo (okMul B n) 30) 60 = true) : LinOk p q r s :=
  ⟨hp, hq, hr, hs, fun n m a b c d g l => by rw [e, e, e]; exact cnt_mul h1 h2 a b c d g l⟩
theorem lin_of {d : D} (hd : d ∈ [L4 1 0 0 1, L4 (-1) 0 0 (-1), L4 0 (-1) 1 0, L4 0 (-1) 1 (-1), L4 1 (-1) 1 0, L4 1 0 0 (-1), L4 0 1 1 0, L4 0 (-1) (-1) 0]) : ∃ p q r s, d = L4 p q r s ∧ LinOk p q r s := by
  simp only [List.mem_cons, List.not_mem_nil, or_false] at hd
  rcases hd with rfl | rfl | rfl | rfl | rfl | rfl | rfl | rfl
  · exact ⟨_, _, _, _, rfl, .of one1_1 one1_0 one1_0 one1_1 cntA1 tabA mulA⟩
  · exact ⟨_, _, _, _, rfl, .of one1_m one1_0 one1_0 one1_m cntA2 tabA mulA⟩
  · exact ⟨_, _, _, _, rfl, .of one1_0 one1_m one1_1 one1_0 cntC1 tabC mulC⟩
  · exact ⟨_, _, _, _, rfl, .of one1_0 one1_m one1_1 one1_m cntE1 tabE mulE⟩
  · exact ⟨_, _, _, _, rfl, .of one1_1 one1_m one1_1 one1_0 cntE2 tabE mulE⟩
  · exact ⟨_, _, _, _, rfl, .of one1_1 one1_0 one1_0 one1_m cntB1 tabB mulB⟩
  · exact ⟨_, _, _, _, rfl, .of one1_0 one1_1 one1_1 one1_0 cntF1 tabF mulF⟩
  · exact ⟨_, _, _, _, rfl, .of one1_0 one1_m one1_m one1_0 cntF2 tabF mulF⟩
theorem cntI_le {p q r s : Int} {n : Nat} (h : n < 400) : cntI p q r s n ≤ 80000 := Nat.le_trans (List.length_filter_le _ _) (subl_len h)
theorem comF_mem {n m x : Int} : ∀ (k : Nat) (a : Int), a ≤ x → x < a + (k : Int) → n % x = 0 → m % x = 0 → x ∈ comF n m k a
  | 0, a, h1, h2, _, _ => by omega
  | k + 1, a, h1, h2, h3, h4 => by
    rw [comF]
    by_cases e : x = a
    · subst e
      rw [decide_eq_true h3, decide_eq_true h4]
      exact List.mem_cons_self
    · have := comF_mem k (a + 1) (by omega) (by omega) h3 h4
      cases (decide (n % a = 0) && decide (m % a = 0))
      · exact this
      · exact List.mem_cons_of_mem _ this
theorem com_gcd {n m k : Nat} (n0 : 1 ≤ n) (m0 : 1 ≤ m) (hk : k = min n m - 1) (h : comF n m k 2 = []) : Nat.gcd n m = 1 := by
  have g1 := Nat.gcd_dvd_left n m
  have g2 := Nat.gcd_dvd_right n m
  have gp : 0 < Nat.gcd n m := Nat.gcd_pos_of_pos_left m (by omega)
  rcases Nat.lt_or_ge (Nat.gcd n m) 2 with z | z
  · omega
  · have l1 := Nat.le_of_dvd (by omega) g1
    have l2 := Nat.le_of_dvd (by omega) g2
    have := comF_mem (n := (n : Int)) (m := (m : Int)) (x := (Nat.gcd n m : Nat)) k 2 (by omega) (by omega) (Int.emod_eq_zero_of_dvd (Int.natCast_dvd_natCast.mpr g1)) (Int.emod_eq_zero_of_dvd (Int.natCast_dvd_natCast.mpr g2))
    rw [h] at this
    cases this
theorem comF_len {n m : Int} : ∀ (k : Nat) (a : Int), (comF n m k a).length ≤ k
  | 0, _ => Nat.le_refl _
  | k + 1, a => by
    have := comF_len (n := n) (m := m) k (a + 1)
    rw [comF]
    cases (decide (n % a = 0) && decide (m % a = 0))
    · rw [cond_false]; omega
    · rw [cond_true, List.length_cons]; omega
theorem len_map {α : Type} (f : α → D) (L : List α) {k : D → Bool} : gLen [.list (L.map f)] k = k (.int (L.length : Int)) := by
  show kInt (((L.map f).length : Nat) : Int) k = _
  rw [kInt_eq, List.length_map]
section
variable {s0 s3 s4 s6 s7 s8 s9 s10 s11 s12 s13 s14 s16 : S} {nx bk ct : List S → Bool}
theorem tail_ok {p q r s : Int} (hL : LinOk p q r s) {n : Nat} (n0 : 1 ≤ n) (n1 : n ≤ 60) :
    (pSeq l_15 (pSeq l_16 l_17)) [s0, .tk, .sh (.int (n : Int)), s3, s4, .sh (L4 p q r s), s6, s7, s8, s9, s10, s11, s12, s13, s14, .un, s16, .un] { nx := nx, rt := isTrueS, bk := bk, ct := ct } = true := by
  unfold l_15 l_16 l_17
  simp -implicitDefEqProofs only [↓q_seq, ↓q_nil, ↓q_ret, ↓q_brk, ↓q_cont, ↓q_if, ↓q_set, ↓q_setF, ↓q_asg, ↓q_par, ↓q_par3, ↓q_expr, ↓q_for, ↓q_vN, ↓q_dN, ↓q_sN, ↓q_take, ↓q_toD, ↓q_toS, ↓q_aFz, ↓q_dC, ↓q_dOp, ↓q_sOp, ↓q_dUn, ↓q_dNil, ↓q_wNil, ↓q_aNil, ↓q_dCons, ↓q_wCons, ↓q_aCons, ↓q_dTup, ↓q_sLst, ↓q_dCall, ↓q_sCall, ↓q_sFn, ↓q_bV, ↓q_bC, ↓q_bAnd, ↓q_bOr, ↓q_bNot, ↓q_dIf, ↓q_sIf, ↓q_dAnd, ↓q_dOr, ↓q_dNot, ↓q_gN, ↓q_gsNil, ↓q_gsCons, ↓q_gTp, ↓q_seqT, ↓q_range1, ↓q_goNil, ↓q_goCons, ↓q_lc, ↓q_lcNil, ↓q_lcCons, ↓q_yes, ↓q_sub, ↓q_add, ↓q_neg, ↓q_lt, ↓q_le, ↓q_gt, ↓q_ge, ↓q_eq, ↓q_ne, ↓q_abs, ↓q_int, ↓q_gcd, ↓q_tupL, ↓q_tupT, ↓q_app, ↓q_is, ↓q_maxL, ↓q_or, ↓q_sum2, ↓q_gtT, ↓q_ltT, ↓q_leT, ↓q_geT, ↓q_rev, ↓q_oNo, ↓q_oSo, ↓q_dSl, ↓q_sRev, ↓q_lc2, ↓q_lc2Nil, ↓q_lc2Cons, ↓q_en, ↓q_lrg, ↓q_range2, ↓q_aug, ↓q_augI, ↓q_parO, ↓q_parO3, ↓q_sortSet, sat, List.cons_append, List.nil_append, List.append_nil, List.length_cons, List.length_nil, List.set_cons_succ, List.set_cons_zero, List.replicate, cond_true, cond_false, fzS, wipeE, Nat.blt, Nat.ble, eq_self, decide_true, decide_false, Bool.not_true, Bool.not_false, b2, b3, b4, if_true]
  refine draw_all (by decide) (by decide) fun m' h0 h1 => ?_
  obtain ⟨m, hm⟩ : ∃ m : Nat, 1 + m' = (m : Int) := ⟨(1 + m').toNat, by omega⟩
  have m0 : 1 ≤ m := by omega
  have m1 : m ≤ 30 := by omega
  have mn : ∀ k, gMin2 [.int (n : Int), .int (m : Int)] k = k (.int ((min n m : Nat) : Int)) := fun k => by
    show kInt (if (m : Int) < (n : Int) then (m : Int) else (n : Int)) k = _
    rw [kInt_eq]
    by_cases h : m < n
    · rw [if_pos (by omega), show min n m = m by omega]
    · rw [if_neg (by omega), show min n m = n by omega]
  have c : -(2 ^ 62) ≤ (2 : Int) ∧ (2 : Int) < 2 ^ 62 ∧ -(2 ^ 62) ≤ ((min n m : Nat) : Int) + 1 ∧ ((min n m : Nat) : Int) + 1 < 2 ^ 62 := by omega
  have e : (((min n m : Nat) : Int) + 1 - 2).toNat = min n m - 1 := by omega
  have b1 : Nat.ble (rngL 2 (min n m - 1)).length 100000 = true := by rw [Nat.ble_eq, rngL_len]; omega
  have g := fun kL => com_go (s0 := s0) (s1 := .tk) (s3 := s3) (s4 := s4) (s5 := .sh (L4 p q r s)) (s6 := s6) (s7 := s7) (s8 := s8) (s9 := s9) (s10 := s10) (s11 := s11) (s12 := s12) (s13 := s13) (s14 := s14) (s16 := s16) (n := (n : Int)) (m := (m : Int)) (kL := kL) (min n m - 1) 2 (by decide)
  have lm := fun (L : List Int) k => len_map PyData.int L (k := k)
  have mu := mulOk_of (i := (n : Int)) (j := (m : Int)) (a := 40) (b := 40) (by unfold Sz; omega) (by unfold Sz; omega) (by decide) (by decide)
  simp -implicitDefEqProofs only [↓q_seq, ↓q_nil, ↓q_ret, ↓q_brk, ↓q_cont, ↓q_if, ↓q_set, ↓q_setF, ↓q_asg, ↓q_par, ↓q_par3, ↓q_expr, ↓q_for, ↓q_vN, ↓q_dN, ↓q_sN, ↓q_take, ↓q_toD, ↓q_toS, ↓q_aFz, ↓q_dC, ↓q_dOp, ↓q_sOp, ↓q_dUn, ↓q_dNil, ↓q_wNil, ↓q_aNil, ↓q_dCons, ↓q_wCons, ↓q_aCons, ↓q_dTup, ↓q_sLst, ↓q_dCall, ↓q_sCall, ↓q_sFn, ↓q_bV, ↓q_bC, ↓q_bAnd, ↓q_bOr, ↓q_bNot, ↓q_dIf, ↓q_sIf, ↓q_dAnd, ↓q_dOr, ↓q_dNot, ↓q_gN, ↓q_gsNil, ↓q_gsCons, ↓q_gTp, ↓q_seqT, ↓q_range1, ↓q_goNil, ↓q_goCons, ↓q_lc, ↓q_lcNil, ↓q_lcCons, ↓q_yes, ↓q_sub, ↓q_add, ↓q_neg, ↓q_lt, ↓q_le, ↓q_gt, ↓q_ge, ↓q_eq, ↓q_ne, ↓q_abs, ↓q_int, ↓q_gcd, ↓q_tupL, ↓q_tupT, ↓q_app, ↓q_is, ↓q_maxL, ↓q_or, ↓q_sum2, ↓q_gtT, ↓q_ltT, ↓q_leT, ↓q_geT, ↓q_rev, ↓q_oNo, ↓q_oSo, ↓q_dSl, ↓q_sRev, ↓q_lc2, ↓q_lc2Nil, ↓q_lc2Cons, ↓q_en, ↓q_lrg, ↓q_range2, ↓q_aug, ↓q_augI, ↓q_parO, ↓q_parO3, ↓q_sortSet, sat, List.cons_append, List.nil_append, List.append_nil, List.length_cons, List.length_nil, List.set_cons_succ, List.set_cons_zero, List.replicate, cond_true, cond_false, fzS, wipeE, Nat.blt, Nat.ble, eq_self, decide_true, decide_false, Bool.not_true, Bool.not_false, b2, b3, b4, if_true, hm, ↓mn, if_pos c, e, b1, ↓g, ↓lm]
  have nm : (n : Int) * (m : Int) = ((n * m : Nat) : Int) := (Int.natCast_mul n m).symm
  cases hc : comF (n : Int) (m : Int) (min n m - 1) 2 with
  | cons x L =>
    have d : decide ((((x :: L).length : Nat) : Int) = 0) = false := decide_eq_false (by rw [List.length_cons]; omega)
    rw [List.length_cons] at d
    simp -implicitDefEqProofs only [↓q_seq, ↓q_nil, ↓q_ret, ↓q_brk, ↓q_cont, ↓q_if, ↓q_set, ↓q_setF, ↓q_asg, ↓q_par, ↓q_par3, ↓q_expr, ↓q_for, ↓q_vN, ↓q_dN, ↓q_sN, ↓q_take, ↓q_toD, ↓q_toS, ↓q_aFz, ↓q_dC, ↓q_dOp, ↓q_sOp, ↓q_dUn, ↓q_dNil, ↓q_wNil, ↓q_aNil, ↓q_dCons, ↓q_wCons, ↓q_aCons, ↓q_dTup, ↓q_sLst, ↓q_dCall, ↓q_sCall, ↓q_sFn, ↓q_bV, ↓q_bC, ↓q_bAnd, ↓q_bOr, ↓q_bNot, ↓q_dIf, ↓q_sIf, ↓q_dAnd, ↓q_dOr, ↓q_dNot, ↓q_gN, ↓q_gsNil, ↓q_gsCons, ↓q_gTp, ↓q_seqT, ↓q_range1, ↓q_goNil, ↓q_goCons, ↓q_lc, ↓q_lcNil, ↓q_lcCons, ↓q_yes, ↓q_sub, ↓q_add, ↓q_neg, ↓q_lt, ↓q_le, ↓q_gt, ↓q_ge, ↓q_eq, ↓q_ne, ↓q_abs, ↓q_int, ↓q_gcd, ↓q_tupL, ↓q_tupT, ↓q_app, ↓q_is, ↓q_maxL, ↓q_or, ↓q_sum2, ↓q_gtT, ↓q_ltT, ↓q_leT, ↓q_geT, ↓q_rev, ↓q_oNo, ↓q_oSo, ↓q_dSl, ↓q_sRev, ↓q_lc2, ↓q_lc2Nil, ↓q_lc2Cons, ↓q_en, ↓q_lrg, ↓q_range2, ↓q_aug, ↓q_augI, ↓q_parO, ↓q_parO3, ↓q_sortSet, sat, List.cons_append, List.nil_append, List.append_nil, List.length_cons, List.length_nil, List.set_cons_succ, List.set_cons_zero, List.replicate, cond_true, cond_false, fzS, wipeE, Nat.blt, Nat.ble, eq_self, decide_true, decide_false, Bool.not_true, Bool.not_false, b2, b3, b4, if_true, d]
    rfl
  | nil =>
    have d : decide (((([] : List Int).length : Nat) : Int) = 0) = true := rfl
    rw [List.length_nil] at d
    simp -implicitDefEqProofs only [↓q_seq, ↓q_nil, ↓q_ret, ↓q_brk, ↓q_cont, ↓q_if, ↓q_set, ↓q_setF, ↓q_asg, ↓q_par, ↓q_par3, ↓q_expr, ↓q_for, ↓q_vN, ↓q_dN, ↓q_sN, ↓q_take, ↓q_toD, ↓q_toS, ↓q_aFz, ↓q_dC, ↓q_dOp, ↓q_sOp, ↓q_dUn, ↓q_dNil, ↓q_wNil, ↓q_aNil, ↓q_dCons, ↓q_wCons, ↓q_aCons, ↓q_dTup, ↓q_sLst, ↓q_dCall, ↓q_sCall, ↓q_sFn, ↓q_bV, ↓q_bC, ↓q_bAnd, ↓q_bOr, ↓q_bNot, ↓q_dIf, ↓q_sIf, ↓q_dAnd, ↓q_dOr, ↓q_dNot, ↓q_gN, ↓q_gsNil, ↓q_gsCons, ↓q_gTp, ↓q_seqT, ↓q_range1, ↓q_goNil, ↓q_goCons, ↓q_lc, ↓q_lcNil, ↓q_lcCons, ↓q_yes, ↓q_sub, ↓q_add, ↓q_neg, ↓q_lt, ↓q_le, ↓q_gt, ↓q_ge, ↓q_eq, ↓q_ne, ↓q_abs, ↓q_int, ↓q_gcd, ↓q_tupL, ↓q_tupT, ↓q_app, ↓q_is, ↓q_maxL, ↓q_or, ↓q_sum2, ↓q_gtT, ↓q_ltT, ↓q_leT, ↓q_geT, ↓q_rev, ↓q_oNo, ↓q_oSo, ↓q_dSl, ↓q_sRev, ↓q_lc2, ↓q_lc2Nil, ↓q_lc2Cons, ↓q_en, ↓q_lrg, ↓q_range2, ↓q_aug, ↓q_augI, ↓q_parO, ↓q_parO3, ↓q_sortSet, sat, List.cons_append, List.nil_append, List.append_nil, List.length_cons, List.length_nil, List.set_cons_succ, List.set_cons_zero, List.replicate, cond_true, cond_false, fzS, wipeE, Nat.blt, Nat.ble, eq_self, decide_true, decide_false, Bool.not_true, Bool.not_false, b2, b3, b4, if_true, d, ↓q_mul mu]
    cases hd : decide ((n : Int) * (m : Int) < 400) with
    | false => simp -implicitDefEqProofs only [↓q_seq, ↓q_nil, ↓q_ret, ↓q_brk, ↓q_cont, ↓q_if, ↓q_set, ↓q_setF, ↓q_asg, ↓q_par, ↓q_par3, ↓q_expr, ↓q_for, ↓q_vN, ↓q_dN, ↓q_sN, ↓q_take, ↓q_toD, ↓q_toS, ↓q_aFz, ↓q_dC, ↓q_dOp, ↓q_sOp, ↓q_dUn, ↓q_dNil, ↓q_wNil, ↓q_aNil, ↓q_dCons, ↓q_wCons, ↓q_aCons, ↓q_dTup, ↓q_sLst, ↓q_dCall, ↓q_sCall, ↓q_sFn, ↓q_bV, ↓q_bC, ↓q_bAnd, ↓q_bOr, ↓q_bNot, ↓q_dIf, ↓q_sIf, ↓q_dAnd, ↓q_dOr, ↓q_dNot, ↓q_gN, ↓q_gsNil, ↓q_gsCons, ↓q_gTp, ↓q_seqT, ↓q_range1, ↓q_goNil, ↓q_goCons, ↓q_lc, ↓q_lcNil, ↓q_lcCons, ↓q_yes, ↓q_sub, ↓q_add, ↓q_neg, ↓q_lt, ↓q_le, ↓q_gt, ↓q_ge, ↓q_eq, ↓q_ne, ↓q_abs, ↓q_int, ↓q_gcd, ↓q_tupL, ↓q_tupT, ↓q_app, ↓q_is, ↓q_maxL, ↓q_or, ↓q_sum2, ↓q_gtT, ↓q_ltT, ↓q_leT, ↓q_geT, ↓q_rev, ↓q_oNo, ↓q_oSo, ↓q_dSl, ↓q_sRev, ↓q_lc2, ↓q_lc2Nil, ↓q_lc2Cons, ↓q_en, ↓q_lrg, ↓q_range2, ↓q_aug, ↓q_augI, ↓q_parO, ↓q_parO3, ↓q_sortSet, sat, List.cons_append, List.nil_append, List.append_nil, List.length_cons, List.length_nil, List.set_cons_succ, List.set_cons_zero, List.replicate, cond_true, cond_false, fzS, wipeE, Nat.blt, Nat.ble, eq_self, decide_true, decide_false, Bool.not_true, Bool.not_false, b2, b3, b4, if_true]; rfl
    | true =>
      have hl : n * m < 400 := by
        have := of_decide_eq_true hd
        rw [nm] at this
        omega
      have hg := com_gcd n0 m0 rfl hc
      have k1 := fun k => cnt_eq (k := k) hL.hp hL.hq hL.hr hL.hs (n := n * m) (by omega) (Nat.le_trans (subl_len hl) (by decide))
      have k2 := fun k => cnt_eq (k := k) hL.hp hL.hq hL.hr hL.hs (n := n) (by omega) (Nat.le_trans (subl_len (by omega)) (by decide))
      have k3 := fun k => cnt_eq (k := k) hL.hp hL.hq hL.hr hL.hs (n := m) (by omega) (Nat.le_trans (subl_len (by omega)) (by decide))
      rw [← nm] at k1
      have z1 := cntI_le (p := p) (q := q) (r := r) (s := s) (n := n) (by omega)
      have z2 := cntI_le (p := p) (q := q) (r := r) (s := s) (n := m) (by omega)
      have mu2 := mulOk_of (i := (cntI p q r s n : Int)) (j := (cntI p q r s m : Int)) (a := 40) (b := 40) (by unfold Sz; omega) (by unfold Sz; omega) (by decide) (by decide)
      have fin : decide ((cntI p q r s (n * m) : Int) = (cntI p q r s n : Int) * (cntI p q r s m : Int)) = true := by
        rw [hL.mul n m n0 n1 m0 m1 hg hl]
        exact decide_eq_true (Int.natCast_mul _ _)
      simp -implicitDefEqProofs only [↓q_seq, ↓q_nil, ↓q_ret, ↓q_brk, ↓q_cont, ↓q_if, ↓q_set, ↓q_setF, ↓q_asg, ↓q_par, ↓q_par3, ↓q_expr, ↓q_for, ↓q_vN, ↓q_dN, ↓q_sN, ↓q_take, ↓q_toD, ↓q_toS, ↓q_aFz, ↓q_dC, ↓q_dOp, ↓q_sOp, ↓q_dUn, ↓q_dNil, ↓q_wNil, ↓q_aNil, ↓q_dCons, ↓q_wCons, ↓q_aCons, ↓q_dTup, ↓q_sLst, ↓q_dCall, ↓q_sCall, ↓q_sFn, ↓q_bV, ↓q_bC, ↓q_bAnd, ↓q_bOr, ↓q_bNot, ↓q_dIf, ↓q_sIf, ↓q_dAnd, ↓q_dOr, ↓q_dNot, ↓q_gN, ↓q_gsNil, ↓q_gsCons, ↓q_gTp, ↓q_seqT, ↓q_range1, ↓q_goNil, ↓q_goCons, ↓q_lc, ↓q_lcNil, ↓q_lcCons, ↓q_yes, ↓q_sub, ↓q_add, ↓q_neg, ↓q_lt, ↓q_le, ↓q_gt, ↓q_ge, ↓q_eq, ↓q_ne, ↓q_abs, ↓q_int, ↓q_gcd, ↓q_tupL, ↓q_tupT, ↓q_app, ↓q_is, ↓q_maxL, ↓q_or, ↓q_sum2, ↓q_gtT, ↓q_ltT, ↓q_leT, ↓q_geT, ↓q_rev, ↓q_oNo, ↓q_oSo, ↓q_dSl, ↓q_sRev, ↓q_lc2, ↓q_lc2Nil, ↓q_lc2Cons, ↓q_en, ↓q_lrg, ↓q_range2, ↓q_aug, ↓q_augI, ↓q_parO, ↓q_parO3, ↓q_sortSet, sat, List.cons_append, List.nil_append, List.append_nil, List.length_cons, List.length_nil, List.set_cons_succ, List.set_cons_zero, List.replicate, cond_true, cond_false, fzS, wipeE, Nat.blt, Nat.ble, eq_self, decide_true, decide_false, Bool.not_true, Bool.not_false, b2, b3, b4, if_true, ↓k1, ↓k2, ↓k3, ↓q_mul mu2, fin]
      rfl
end
end Law

set_option Elab.async false
set_option linter.all false
set_option maxRecDepth 100000
set_option maxHeartbeats 4000000
set_option synthInstance.maxHeartbeats 0
set_option synthInstance.maxSize 100000
namespace Law
open PySem Orn
section
variable {s0 s1 s3 s4 s5 s6 s7 s8 s9 s10 s11 s12 s13 s14 s15 s16 s17 : S} {ks : Ks} {R : Bool}
theorem int_bool {b : Bool} {k : D → Bool} : gInt [.bool b] k = k (.int (bif b then 1 else 0)) := by cases b <;> rfl
theorem mul20 {i j : Int} (h1 : i.natAbs ≤ 100) (h2 : j.natAbs ≤ 100) {k : D → Bool} : gMul (.int i) (.int j) k = k (.int (i * j)) := q_mul (mulOk_of (a := 40) (b := 40) (by unfold Sz; omega) (by unfold Sz; omega) (by decide) (by decide))
theorem inS_loop {n x : Int} (hx : x.natAbs ≤ 100) : ∀ (k : Nat) (y acc : Int) (s14 : S), -50 ≤ y → y + (k : Int) ≤ 50 →
    (∀ s14, ks.nx [s0, s1, .sh (.int n), s3, s4, s5, s6, s7, s8, s9, s10, .sh (.int (inS n x k y acc)), s12, .sh (.int x), s14, s15, s16, s17] = R) →
    pForGo (gN 14) (pSet 11 (toS (dOp gAdd (vN 11) (dCall gInt (wCons (dOp gEq (dOp gAdd (dOp gMul (vN 13) (vN 13)) (dOp gMul (vN 14) (vN 14))) (vN 2)) wNil)))))
      (rngL y k) [s0, s1, .sh (.int n), s3, s4, s5, s6, s7, s8, s9, s10, .sh (.int acc), s12, .sh (.int x), s14, s15, s16, s17] ks = R
  | 0, y, acc, s14, _, _, h => h s14
  | k + 1, y, acc, s14, h1, h2, h => by
    have ih := fun s14 => inS_loop hx k (y + 1) _ s14 (by omega) (by omega) h
    have m1 := fun k => mul20 (i := x) (j := x) (k := k) hx hx
    have m2 := fun k => mul20 (i := y) (j := y) (k := k) (by omega) (by omega)
    rw [rngL]
    simp -implicitDefEqProofs only [↓q_seq, ↓q_nil, ↓q_ret, ↓q_brk, ↓q_cont, ↓q_if, ↓q_set, ↓q_setF, ↓q_asg, ↓q_par, ↓q_par3, ↓q_expr, ↓q_for, ↓q_vN, ↓q_dN, ↓q_sN, ↓q_take, ↓q_toD, ↓q_toS, ↓q_aFz, ↓q_dC, ↓q_dOp, ↓q_sOp, ↓q_dUn, ↓q_dNil, ↓q_wNil, ↓q_aNil, ↓q_dCons, ↓q_wCons, ↓q_aCons, ↓q_dTup, ↓q_sLst, ↓q_dCall, ↓q_sCall, ↓q_sFn, ↓q_bV, ↓q_bC, ↓q_bAnd, ↓q_bOr, ↓q_bNot, ↓q_dIf, ↓q_sIf, ↓q_dAnd, ↓q_dOr, ↓q_dNot, ↓q_gN, ↓q_gsNil, ↓q_gsCons, ↓q_gTp, ↓q_seqT, ↓q_range1, ↓q_goNil, ↓q_goCons, ↓q_lc, ↓q_lcNil, ↓q_lcCons, ↓q_yes, ↓q_sub, ↓q_add, ↓q_neg, ↓q_lt, ↓q_le, ↓q_gt, ↓q_ge, ↓q_eq, ↓q_ne, ↓q_abs, ↓q_int, ↓q_gcd, ↓q_tupL, ↓q_tupT, ↓q_app, ↓q_is, ↓q_maxL, ↓q_or, ↓q_sum2, ↓q_gtT, ↓q_ltT, ↓q_leT, ↓q_geT, ↓q_rev, ↓q_oNo, ↓q_oSo, ↓q_dSl, ↓q_sRev, ↓q_lc2, ↓q_lc2Nil, ↓q_lc2Cons, ↓q_en, ↓q_lrg, ↓q_range2, ↓q_aug, ↓q_augI, ↓q_parO, ↓q_parO3, ↓q_sortSet, sat, List.cons_append, List.nil_append, List.append_nil, List.length_cons, List.length_nil, List.set_cons_succ, List.set_cons_zero, List.replicate, cond_true, cond_false, fzS, wipeE, Nat.blt, Nat.ble, eq_self, decide_true, decide_false, Bool.not_true, Bool.not_false, b2, b3, b4, if_true, ↓m1, ↓m2, ↓int_bool]
    exact ih _
theorem outS_loop {n : Int} : ∀ (k : Nat) (x acc : Int) (s13 s14 : S), -50 ≤ x → x + (k : Int) ≤ 50 →
    (∀ s13 s14, ks.nx [s0, s1, .sh (.int n), s3, s4, s5, s6, s7, s8, s9, s10, .sh (.int (outS n k x acc)), s12, s13, s14, s15, s16, s17] = R) →
    pForGo (gN 13) body_11 (rngL x k) [s0, s1, .sh (.int n), s3, s4, s5, s6, s7, s8, s9, s10, .sh (.int acc), s12, s13, s14, s15, s16, s17] ks = R
  | 0, x, acc, s13, s14, _, _, h => h s13 s14
  | k + 1, x, acc, s13, s14, h1, h2, h => by
    have ih := fun s13 s14 => outS_loop k (x + 1) (inS n x 17 (-8) acc) s13 s14 (by omega) (by omega) h
    have c : -(2 ^ 62) ≤ (-8 : Int) ∧ (-8 : Int) < 2 ^ 62 ∧ -(2 ^ 62) ≤ (9 : Int) ∧ (9 : Int) < 2 ^ 62 := by decide
    have e : ((9 : Int) - -8).toNat = 17 := rfl
    rw [rngL, q_goCons]
    unfold body_11 r_11_0 l_11_0
    simp -implicitDefEqProofs only [↓q_seq, ↓q_nil, ↓q_ret, ↓q_brk, ↓q_cont, ↓q_if, ↓q_set, ↓q_setF, ↓q_asg, ↓q_par, ↓q_par3, ↓q_expr, ↓q_for, ↓q_vN, ↓q_dN, ↓q_sN, ↓q_take, ↓q_toD, ↓q_toS, ↓q_aFz, ↓q_dC, ↓q_dOp, ↓q_sOp, ↓q_dUn, ↓q_dNil, ↓q_wNil, ↓q_aNil, ↓q_dCons, ↓q_wCons, ↓q_aCons, ↓q_dTup, ↓q_sLst, ↓q_dCall, ↓q_sCall, ↓q_sFn, ↓q_bV, ↓q_bC, ↓q_bAnd, ↓q_bOr, ↓q_bNot, ↓q_dIf, ↓q_sIf, ↓q_dAnd, ↓q_dOr, ↓q_dNot, ↓q_gN, ↓q_gsNil, ↓q_gsCons, ↓q_gTp, ↓q_seqT, ↓q_range1, ↓q_goNil, ↓q_goCons, ↓q_lc, ↓q_lcNil, ↓q_lcCons, ↓q_yes, ↓q_sub, ↓q_add, ↓q_neg, ↓q_lt, ↓q_le, ↓q_gt, ↓q_ge, ↓q_eq, ↓q_ne, ↓q_abs, ↓q_int, ↓q_gcd, ↓q_tupL, ↓q_tupT, ↓q_app, ↓q_is, ↓q_maxL, ↓q_or, ↓q_sum2, ↓q_gtT, ↓q_ltT, ↓q_leT, ↓q_geT, ↓q_rev, ↓q_oNo, ↓q_oSo, ↓q_dSl, ↓q_sRev, ↓q_lc2, ↓q_lc2Nil, ↓q_lc2Cons, ↓q_en, ↓q_lrg, ↓q_range2, ↓q_aug, ↓q_augI, ↓q_parO, ↓q_parO3, ↓q_sortSet, sat, List.cons_append, List.nil_append, List.append_nil, List.length_cons, List.length_nil, List.set_cons_succ, List.set_cons_zero, List.replicate, cond_true, cond_false, fzS, wipeE, Nat.blt, Nat.ble, eq_self, decide_true, decide_false, Bool.not_true, Bool.not_false, b2, b3, b4, if_true, if_pos c, e]
    exact inS_loop (by omega) 17 (-8) acc _ (by decide) (by decide) fun s14 => ih _ _
theorem inH_loop {n x : Int} (hx : x.natAbs ≤ 100) : ∀ (k : Nat) (y acc : Int) (s14 : S), -50 ≤ y → y + (k : Int) ≤ 50 →
    (∀ s14, ks.nx [s0, s1, .sh (.int n), s3, s4, s5, s6, s7, s8, s9, s10, s11, .sh (.int (inH n x k y acc)), .sh (.int x), s14, s15, s16, s17] = R) →
    pForGo (gN 14) (pSet 12 (toS (dOp gAdd (vN 12) (dCall gInt (wCons (dOp gEq (dOp gAdd (dOp gAdd (dOp gMul (vN 13) (vN 13)) (dOp gMul (vN 13) (vN 14))) (dOp gMul (vN 14) (vN 14))) (vN 2)) wNil)))))
      (rngL y k) [s0, s1, .sh (.int n), s3, s4, s5, s6, s7, s8, s9, s10, s11, .sh (.int acc), .sh (.int x), s14, s15, s16, s17] ks = R
  | 0, y, acc, s14, _, _, h => h s14
  | k + 1, y, acc, s14, h1, h2, h => by
    have ih := fun s14 => inH_loop hx k (y + 1) _ s14 (by omega) (by omega) h
    have m1 := fun k => mul20 (i := x) (j := x) (k := k) hx hx
    have m2 := fun k => mul20 (i := y) (j := y) (k := k) (by omega) (by omega)
    have m3 := fun k => mul20 (i := x) (j := y) (k := k) hx (by omega)
    rw [rngL]
    simp -implicitDefEqProofs only [↓q_seq, ↓q_nil, ↓q_ret, ↓q_brk, ↓q_cont, ↓q_if, ↓q_set, ↓q_setF, ↓q_asg, ↓q_par, ↓q_par3, ↓q_expr, ↓q_for, ↓q_vN, ↓q_dN, ↓q_sN, ↓q_take, ↓q_toD, ↓q_toS, ↓q_aFz, ↓q_dC, ↓q_dOp, ↓q_sOp, ↓q_dUn, ↓q_dNil, ↓q_wNil, ↓q_aNil, ↓q_dCons, ↓q_wCons, ↓q_aCons, ↓q_dTup, ↓q_sLst, ↓q_dCall, ↓q_sCall, ↓q_sFn, ↓q_bV, ↓q_bC, ↓q_bAnd, ↓q_bOr, ↓q_bNot, ↓q_dIf, ↓q_sIf, ↓q_dAnd, ↓q_dOr, ↓q_dNot, ↓q_gN, ↓q_gsNil, ↓q_gsCons, ↓q_gTp, ↓q_seqT, ↓q_range1, ↓q_goNil, ↓q_goCons, ↓q_lc, ↓q_lcNil, ↓q_lcCons, ↓q_yes, ↓q_sub, ↓q_add, ↓q_neg, ↓q_lt, ↓q_le, ↓q_gt, ↓q_ge, ↓q_eq, ↓q_ne, ↓q_abs, ↓q_int, ↓q_gcd, ↓q_tupL, ↓q_tupT, ↓q_app, ↓q_is, ↓q_maxL, ↓q_or, ↓q_sum2, ↓q_gtT, ↓q_ltT, ↓q_leT, ↓q_geT, ↓q_rev, ↓q_oNo, ↓q_oSo, ↓q_dSl, ↓q_sRev, ↓q_lc2, ↓q_lc2Nil, ↓q_lc2Cons, ↓q_en, ↓q_lrg, ↓q_range2, ↓q_aug, ↓q_augI, ↓q_parO, ↓q_parO3, ↓q_sortSet, sat, List.cons_append, List.nil_append, List.append_nil, List.length_cons, List.length_nil, List.set_cons_succ, List.set_cons_zero, List.replicate, cond_true, cond_false, fzS, wipeE, Nat.blt, Nat.ble, eq_self, decide_true, decide_false, Bool.not_true, Bool.not_false, b2, b3, b4, if_true, ↓m1, ↓m2, ↓m3, ↓int_bool]
    exact ih _
theorem outH_loop {n : Int} : ∀ (k : Nat) (x acc : Int) (s13 s14 : S), -50 ≤ x → x + (k : Int) ≤ 50 →
    (∀ s13 s14, ks.nx [s0, s1, .sh (.int n), s3, s4, s5, s6, s7, s8, s9, s10, s11, .sh (.int (outH n k x acc)), s13, s14, s15, s16, s17] = R) →
    pForGo (gN 13) body_12 (rngL x k) [s0, s1, .sh (.int n), s3, s4, s5, s6, s7, s8, s9, s10, s11, .sh (.int acc), s13, s14, s15, s16, s17] ks = R
  | 0, x, acc, s13, s14, _, _, h => h s13 s14
  | k + 1, x, acc, s13, s14, h1, h2, h => by
    have ih := fun s13 s14 => outH_loop k (x + 1) (inH n x 21 (-10) acc) s13 s14 (by omega) (by omega) h
    have c : -(2 ^ 62) ≤ (-10 : Int) ∧ (-10 : Int) < 2 ^ 62 ∧ -(2 ^ 62) ≤ (11 : Int) ∧ (11 : Int) < 2 ^ 62 := by decide
    have e : ((11 : Int) - -10).toNat = 21 := rfl
    rw [rngL, q_goCons]
    unfold body_12 r_12_0 l_12_0
    simp -implicitDefEqProofs only [↓q_seq, ↓q_nil, ↓q_ret, ↓q_brk, ↓q_cont, ↓q_if, ↓q_set, ↓q_setF, ↓q_asg, ↓q_par, ↓q_par3, ↓q_expr, ↓q_for, ↓q_vN, ↓q_dN, ↓q_sN, ↓q_take, ↓q_toD, ↓q_toS, ↓q_aFz, ↓q_dC, ↓q_dOp, ↓q_sOp, ↓q_dUn, ↓q_dNil, ↓q_wNil, ↓q_aNil, ↓q_dCons, ↓q_wCons, ↓q_aCons, ↓q_dTup, ↓q_sLst, ↓q_dCall, ↓q_sCall, ↓q_sFn, ↓q_bV, ↓q_bC, ↓q_bAnd, ↓q_bOr, ↓q_bNot, ↓q_dIf, ↓q_sIf, ↓q_dAnd, ↓q_dOr, ↓q_dNot, ↓q_gN, ↓q_gsNil, ↓q_gsCons, ↓q_gTp, ↓q_seqT, ↓q_range1, ↓q_goNil, ↓q_goCons, ↓q_lc, ↓q_lcNil, ↓q_lcCons, ↓q_yes, ↓q_sub, ↓q_add, ↓q_neg, ↓q_lt, ↓q_le, ↓q_gt, ↓q_ge, ↓q_eq, ↓q_ne, ↓q_abs, ↓q_int, ↓q_gcd, ↓q_tupL, ↓q_tupT, ↓q_app, ↓q_is, ↓q_maxL, ↓q_or, ↓q_sum2, ↓q_gtT, ↓q_ltT, ↓q_leT, ↓q_geT, ↓q_rev, ↓q_oNo, ↓q_oSo, ↓q_dSl, ↓q_sRev, ↓q_lc2, ↓q_lc2Nil, ↓q_lc2Cons, ↓q_en, ↓q_lrg, ↓q_range2, ↓q_aug, ↓q_augI, ↓q_parO, ↓q_parO3, ↓q_sortSet, sat, List.cons_append, List.nil_append, List.append_nil, List.length_cons, List.length_nil, List.set_cons_succ, List.set_cons_zero, List.replicate, cond_true, cond_false, fzS, wipeE, Nat.blt, Nat.ble, eq_self, decide_true, decide_false, Bool.not_true, Bool.not_false, b2, b3, b4, if_true, if_pos c, e]
    exact inH_loop (by omega) 21 (-10) acc _ (by decide) (by decide) fun s14 => ih _ _
end
def t_15 : ST := pSeq l_15 (pSeq l_16 l_17)
def t_10 : ST := pSeq l_10 (pSeq l_11 (pSeq l_12 (pSeq l_13 (pSeq l_14 t_15))))
section
variable {s0 s3 s4 s6 s7 s8 s9 s10 s11 s12 s13 s14 s16 : S} {nx bk ct : List S → Bool}
theorem mid_ok {p q r s : Int} (hL : LinOk p q r s) {n : Nat} (n0 : 1 ≤ n) (n1 : n ≤ 60) :
    t_10 [s0, .tk, .sh (.int (n : Int)), s3, s4, .sh (L4 p q r s), s6, s7, s8, s9, s10, s11, s12, s13, s14, .un, s16, .un] { nx := nx, rt := isTrueS, bk := bk, ct := ct } = true := by
  have c8 : -(2 ^ 62) ≤ (-8 : Int) ∧ (-8 : Int) < 2 ^ 62 ∧ -(2 ^ 62) ≤ (9 : Int) ∧ (9 : Int) < 2 ^ 62 := by decide
  have e8 : ((9 : Int) - -8).toNat = 17 := rfl
  have c10 : -(2 ^ 62) ≤ (-10 : Int) ∧ (-10 : Int) < 2 ^ 62 ∧ -(2 ^ 62) ≤ (11 : Int) ∧ (11 : Int) < 2 ^ 62 := by decide
  have e10 : ((11 : Int) - -10).toNat = 21 := rfl
  have f1 : sqWays n = sqW n := of_decide_eq_true (up_all _ f_sq n n0 n1)
  have f2 : hxWays n = hxW n := of_decide_eq_true (up_all _ f_hx n n0 n1)
  have f3 : 4 * (cntT (rowG tC) n : Int) = sqW n := of_decide_eq_true (up_all _ f_4 n n0 n1)
  have f4 : 6 * (cntT (rowG tE) n : Int) = hxW n := of_decide_eq_true (up_all _ f_6 n n0 n1)
  rw [← cntC1] at f3
  rw [← cntE1] at f4
  have w1 := fun k => sqways_eq (n := n) (by omega) (k := k)
  have w2 := fun k => hxways_eq (n := n) (by omega) (k := k)
  rw [f1] at w1
  rw [f2] at w2
  have lq : ∀ (z : Int) k, q__law_eq 8 [.sh (.int z), .sh (.int z)] k = k (.sh (.bool true)) := fun z k => law_eq_self 8 (.int z) trivial
  have k1 := fun k => cnt_eq (k := k) one1_0 one1_m one1_1 one1_0 (n := n) (by omega) (Nat.le_trans (subl_len (by omega)) (by decide))
  have k2 := fun k => cnt_eq (k := k) one1_0 one1_m one1_1 one1_m (n := n) (by omega) (Nat.le_trans (subl_len (by omega)) (by decide))
  have z1 := cntI_le (p := 0) (q := -1) (r := 1) (s := 0) (n := n) (by omega)
  have z2 := cntI_le (p := 0) (q := -1) (r := 1) (s := -1) (n := n) (by omega)
  have u1 := mulOk_of (i := 4) (j := (cntI 0 (-1) 1 0 n : Int)) (a := 40) (b := 40) (by unfold Sz; decide) (by unfold Sz; omega) (by decide) (by decide)
  have u2 := mulOk_of (i := 6) (j := (cntI 0 (-1) 1 (-1) n : Int)) (a := 40) (b := 40) (by unfold Sz; decide) (by unfold Sz; omega) (by decide) (by decide)
  unfold L4 at k1 k2
  unfold t_10 l_10 l_11
  simp -implicitDefEqProofs only [↓q_seq, ↓q_nil, ↓q_ret, ↓q_brk, ↓q_cont, ↓q_if, ↓q_set, ↓q_setF, ↓q_asg, ↓q_par, ↓q_par3, ↓q_expr, ↓q_for, ↓q_vN, ↓q_dN, ↓q_sN, ↓q_take, ↓q_toD, ↓q_toS, ↓q_aFz, ↓q_dC, ↓q_dOp, ↓q_sOp, ↓q_dUn, ↓q_dNil, ↓q_wNil, ↓q_aNil, ↓q_dCons, ↓q_wCons, ↓q_aCons, ↓q_dTup, ↓q_sLst, ↓q_dCall, ↓q_sCall, ↓q_sFn, ↓q_bV, ↓q_bC, ↓q_bAnd, ↓q_bOr, ↓q_bNot, ↓q_dIf, ↓q_sIf, ↓q_dAnd, ↓q_dOr, ↓q_dNot, ↓q_gN, ↓q_gsNil, ↓q_gsCons, ↓q_gTp, ↓q_seqT, ↓q_range1, ↓q_goNil, ↓q_goCons, ↓q_lc, ↓q_lcNil, ↓q_lcCons, ↓q_yes, ↓q_sub, ↓q_add, ↓q_neg, ↓q_lt, ↓q_le, ↓q_gt, ↓q_ge, ↓q_eq, ↓q_ne, ↓q_abs, ↓q_int, ↓q_gcd, ↓q_tupL, ↓q_tupT, ↓q_app, ↓q_is, ↓q_maxL, ↓q_or, ↓q_sum2, ↓q_gtT, ↓q_ltT, ↓q_leT, ↓q_geT, ↓q_rev, ↓q_oNo, ↓q_oSo, ↓q_dSl, ↓q_sRev, ↓q_lc2, ↓q_lc2Nil, ↓q_lc2Cons, ↓q_en, ↓q_lrg, ↓q_range2, ↓q_aug, ↓q_augI, ↓q_parO, ↓q_parO3, ↓q_sortSet, sat, List.cons_append, List.nil_append, List.append_nil, List.length_cons, List.length_nil, List.set_cons_succ, List.set_cons_zero, List.replicate, cond_true, cond_false, fzS, wipeE, Nat.blt, Nat.ble, eq_self, decide_true, decide_false, Bool.not_true, Bool.not_false, b2, b3, b4, if_true, if_pos c8, e8]
  refine outS_loop 17 (-8) 0 _ _ (by decide) (by decide) fun s13 s14 => ?_
  unfold l_12
  simp -implicitDefEqProofs only [↓q_seq, ↓q_nil, ↓q_ret, ↓q_brk, ↓q_cont, ↓q_if, ↓q_set, ↓q_setF, ↓q_asg, ↓q_par, ↓q_par3, ↓q_expr, ↓q_for, ↓q_vN, ↓q_dN, ↓q_sN, ↓q_take, ↓q_toD, ↓q_toS, ↓q_aFz, ↓q_dC, ↓q_dOp, ↓q_sOp, ↓q_dUn, ↓q_dNil, ↓q_wNil, ↓q_aNil, ↓q_dCons, ↓q_wCons, ↓q_aCons, ↓q_dTup, ↓q_sLst, ↓q_dCall, ↓q_sCall, ↓q_sFn, ↓q_bV, ↓q_bC, ↓q_bAnd, ↓q_bOr, ↓q_bNot, ↓q_dIf, ↓q_sIf, ↓q_dAnd, ↓q_dOr, ↓q_dNot, ↓q_gN, ↓q_gsNil, ↓q_gsCons, ↓q_gTp, ↓q_seqT, ↓q_range1, ↓q_goNil, ↓q_goCons, ↓q_lc, ↓q_lcNil, ↓q_lcCons, ↓q_yes, ↓q_sub, ↓q_add, ↓q_neg, ↓q_lt, ↓q_le, ↓q_gt, ↓q_ge, ↓q_eq, ↓q_ne, ↓q_abs, ↓q_int, ↓q_gcd, ↓q_tupL, ↓q_tupT, ↓q_app, ↓q_is, ↓q_maxL, ↓q_or, ↓q_sum2, ↓q_gtT, ↓q_ltT, ↓q_leT, ↓q_geT, ↓q_rev, ↓q_oNo, ↓q_oSo, ↓q_dSl, ↓q_sRev, ↓q_lc2, ↓q_lc2Nil, ↓q_lc2Cons, ↓q_en, ↓q_lrg, ↓q_range2, ↓q_aug, ↓q_augI, ↓q_parO, ↓q_parO3, ↓q_sortSet, sat, List.cons_append, List.nil_append, List.append_nil, List.length_cons, List.length_nil, List.set_cons_succ, List.set_cons_zero, List.replicate, cond_true, cond_false, fzS, wipeE, Nat.blt, Nat.ble, eq_self, decide_true, decide_false, Bool.not_true, Bool.not_false, b2, b3, b4, if_true, if_pos c10, e10]
  refine outH_loop 21 (-10) 0 _ _ (by decide) (by decide) fun s13 s14 => ?_
  unfold l_13
  rw [show outS (n : Int) 17 (-8) 0 = sqW n from rfl, show outH (n : Int) 21 (-10) 0 = hxW n from rfl]
  simp -implicitDefEqProofs only [↓q_seq, ↓q_nil, ↓q_ret, ↓q_brk, ↓q_cont, ↓q_if, ↓q_set, ↓q_setF, ↓q_asg, ↓q_par, ↓q_par3, ↓q_expr, ↓q_for, ↓q_vN, ↓q_dN, ↓q_sN, ↓q_take, ↓q_toD, ↓q_toS, ↓q_aFz, ↓q_dC, ↓q_dOp, ↓q_sOp, ↓q_dUn, ↓q_dNil, ↓q_wNil, ↓q_aNil, ↓q_dCons, ↓q_wCons, ↓q_aCons, ↓q_dTup, ↓q_sLst, ↓q_dCall, ↓q_sCall, ↓q_sFn, ↓q_bV, ↓q_bC, ↓q_bAnd, ↓q_bOr, ↓q_bNot, ↓q_dIf, ↓q_sIf, ↓q_dAnd, ↓q_dOr, ↓q_dNot, ↓q_gN, ↓q_gsNil, ↓q_gsCons, ↓q_gTp, ↓q_seqT, ↓q_range1, ↓q_goNil, ↓q_goCons, ↓q_lc, ↓q_lcNil, ↓q_lcCons, ↓q_yes, ↓q_sub, ↓q_add, ↓q_neg, ↓q_lt, ↓q_le, ↓q_gt, ↓q_ge, ↓q_eq, ↓q_ne, ↓q_abs, ↓q_int, ↓q_gcd, ↓q_tupL, ↓q_tupT, ↓q_app, ↓q_is, ↓q_maxL, ↓q_or, ↓q_sum2, ↓q_gtT, ↓q_ltT, ↓q_leT, ↓q_geT, ↓q_rev, ↓q_oNo, ↓q_oSo, ↓q_dSl, ↓q_sRev, ↓q_lc2, ↓q_lc2Nil, ↓q_lc2Cons, ↓q_en, ↓q_lrg, ↓q_range2, ↓q_aug, ↓q_augI, ↓q_parO, ↓q_parO3, ↓q_sortSet, sat, List.cons_append, List.nil_append, List.append_nil, List.length_cons, List.length_nil, List.set_cons_succ, List.set_cons_zero, List.replicate, cond_true, cond_false, fzS, wipeE, Nat.blt, Nat.ble, eq_self, decide_true, decide_false, Bool.not_true, Bool.not_false, b2, b3, b4, if_true, ↓w1, ↓w2, ↓lq]
  unfold l_14
  simp -implicitDefEqProofs only [↓q_seq, ↓q_nil, ↓q_ret, ↓q_brk, ↓q_cont, ↓q_if, ↓q_set, ↓q_setF, ↓q_asg, ↓q_par, ↓q_par3, ↓q_expr, ↓q_for, ↓q_vN, ↓q_dN, ↓q_sN, ↓q_take, ↓q_toD, ↓q_toS, ↓q_aFz, ↓q_dC, ↓q_dOp, ↓q_sOp, ↓q_dUn, ↓q_dNil, ↓q_wNil, ↓q_aNil, ↓q_dCons, ↓q_wCons, ↓q_aCons, ↓q_dTup, ↓q_sLst, ↓q_dCall, ↓q_sCall, ↓q_sFn, ↓q_bV, ↓q_bC, ↓q_bAnd, ↓q_bOr, ↓q_bNot, ↓q_dIf, ↓q_sIf, ↓q_dAnd, ↓q_dOr, ↓q_dNot, ↓q_gN, ↓q_gsNil, ↓q_gsCons, ↓q_gTp, ↓q_seqT, ↓q_range1, ↓q_goNil, ↓q_goCons, ↓q_lc, ↓q_lcNil, ↓q_lcCons, ↓q_yes, ↓q_sub, ↓q_add, ↓q_neg, ↓q_lt, ↓q_le, ↓q_gt, ↓q_ge, ↓q_eq, ↓q_ne, ↓q_abs, ↓q_int, ↓q_gcd, ↓q_tupL, ↓q_tupT, ↓q_app, ↓q_is, ↓q_maxL, ↓q_or, ↓q_sum2, ↓q_gtT, ↓q_ltT, ↓q_leT, ↓q_geT, ↓q_rev, ↓q_oNo, ↓q_oSo, ↓q_dSl, ↓q_sRev, ↓q_lc2, ↓q_lc2Nil, ↓q_lc2Cons, ↓q_en, ↓q_lrg, ↓q_range2, ↓q_aug, ↓q_augI, ↓q_parO, ↓q_parO3, ↓q_sortSet, sat, List.cons_append, List.nil_append, List.append_nil, List.length_cons, List.length_nil, List.set_cons_succ, List.set_cons_zero, List.replicate, cond_true, cond_false, fzS, wipeE, Nat.blt, Nat.ble, eq_self, decide_true, decide_false, Bool.not_true, Bool.not_false, b2, b3, b4, if_true, ↓k1, ↓q_mul u1, ↓k2, ↓q_mul u2, f3, f4]
  exact tail_ok hL n0 n1
end
end Law

set_option Elab.async false
set_option linter.all false
set_option maxRecDepth 100000
set_option maxHeartbeats 4000000
set_option synthInstance.maxHeartbeats 0
set_option synthInstance.maxSize 100000
namespace Law
open PySem Orn
def t_5 : ST := pSeq l_5 (pSeq l_6 (pSeq l_7 (pSeq l_8 (pSeq l_9 t_10))))
def t_3 : ST := pSeq l_3 (pSeq l_4 t_5)
theorem ok_D3s {L : List (Int × Int × Int)} (h : L.length ≤ 1000) : okD 8 (.list (L.map D3)) := by
  refine ⟨by rw [List.length_map]; exact h, fun y hy => ?_⟩
  obtain ⟨t, _, rfl⟩ := List.mem_map.mp hy
  refine ⟨by show 3 ≤ 1000; decide, fun z hz => ?_⟩
  rcases List.mem_cons.mp hz with rfl | hz
  · trivial
  rcases List.mem_cons.mp hz with rfl | hz
  · trivial
  rcases List.mem_cons.mp hz with rfl | hz
  · trivial
  cases hz
section
variable {s0 s4 : S} {nx bk ct : List S → Bool}
theorem from5 {p q r s : Int} (hL : LinOk p q r s) {n : Nat} (n0 : 1 ≤ n) (n1 : n ≤ 60) :
    t_5 [s0, .tk, .sh (.int (n : Int)), .sh (.list ((subl n).map D3)), s4, .sh (L4 p q r s), .un, .un, .un, .un, .un, .un, .un, .un, .un, .un, .un, .un] { nx := nx, rt := isTrueS, bk := bk, ct := ct } = true := by
  have fl := up_all _ f_len n n0 n1
  rw [Bool.and_eq_true, Bool.and_eq_true] at fl
  have l1 : (subl n).length ≤ 200 := Nat.le_of_ble_eq_true fl.1.1
  have l2 : (subl n).length ≠ 0 := of_decide_eq_true fl.2
  have hok : ∀ t ∈ subl n, Okt t := fun t h => subl_ok (by omega) h
  have b1 : Nat.ble ((subl n).map D3).length 100000 = true := by rw [Nat.ble_eq, List.length_map]; omega
  have g := fun kL => kept_go (s0 := s0) (s1 := .tk) (s2 := .sh (.int (n : Int))) (s3 := .sh (.list ((subl n).map D3))) (s4 := s4) (s6 := .un) (s8 := .un) (s9 := .un) (s10 := .un) (s11 := .un) (s12 := .un) (s13 := .un) (s14 := .un) (s15 := .un) (s16 := .un) (s17 := .un) hL.hp hL.hq hL.hr hL.hs (kL := kL) (subl n) hok
  unfold t_5 l_5
  simp -implicitDefEqProofs only [↓q_seq, ↓q_nil, ↓q_ret, ↓q_brk, ↓q_cont, ↓q_if, ↓q_set, ↓q_setF, ↓q_asg, ↓q_par, ↓q_par3, ↓q_expr, ↓q_for, ↓q_vN, ↓q_dN, ↓q_sN, ↓q_take, ↓q_toD, ↓q_toS, ↓q_aFz, ↓q_dC, ↓q_dOp, ↓q_sOp, ↓q_dUn, ↓q_dNil, ↓q_wNil, ↓q_aNil, ↓q_dCons, ↓q_wCons, ↓q_aCons, ↓q_dTup, ↓q_sLst, ↓q_dCall, ↓q_sCall, ↓q_sFn, ↓q_bV, ↓q_bC, ↓q_bAnd, ↓q_bOr, ↓q_bNot, ↓q_dIf, ↓q_sIf, ↓q_dAnd, ↓q_dOr, ↓q_dNot, ↓q_gN, ↓q_gsNil, ↓q_gsCons, ↓q_gTp, ↓q_seqT, ↓q_range1, ↓q_goNil, ↓q_goCons, ↓q_lc, ↓q_lcNil, ↓q_lcCons, ↓q_yes, ↓q_sub, ↓q_add, ↓q_neg, ↓q_lt, ↓q_le, ↓q_gt, ↓q_ge, ↓q_eq, ↓q_ne, ↓q_abs, ↓q_int, ↓q_gcd, ↓q_tupL, ↓q_tupT, ↓q_app, ↓q_is, ↓q_maxL, ↓q_or, ↓q_sum2, ↓q_gtT, ↓q_ltT, ↓q_leT, ↓q_geT, ↓q_rev, ↓q_oNo, ↓q_oSo, ↓q_dSl, ↓q_sRev, ↓q_lc2, ↓q_lc2Nil, ↓q_lc2Cons, ↓q_en, ↓q_lrg, ↓q_range2, ↓q_aug, ↓q_augI, ↓q_parO, ↓q_parO3, ↓q_sortSet, sat, List.cons_append, List.nil_append, List.append_nil, List.length_cons, List.length_nil, List.set_cons_succ, List.set_cons_zero, List.replicate, cond_true, cond_false, fzS, wipeE, Nat.blt, Nat.ble, eq_self, decide_true, decide_false, Bool.not_true, Bool.not_false, b2, b3, b4, if_true, b1, ↓g]
  unfold l_6
  simp -implicitDefEqProofs only [↓q_seq, ↓q_nil, ↓q_ret, ↓q_brk, ↓q_cont, ↓q_if, ↓q_set, ↓q_setF, ↓q_asg, ↓q_par, ↓q_par3, ↓q_expr, ↓q_for, ↓q_vN, ↓q_dN, ↓q_sN, ↓q_take, ↓q_toD, ↓q_toS, ↓q_aFz, ↓q_dC, ↓q_dOp, ↓q_sOp, ↓q_dUn, ↓q_dNil, ↓q_wNil, ↓q_aNil, ↓q_dCons, ↓q_wCons, ↓q_aCons, ↓q_dTup, ↓q_sLst, ↓q_dCall, ↓q_sCall, ↓q_sFn, ↓q_bV, ↓q_bC, ↓q_bAnd, ↓q_bOr, ↓q_bNot, ↓q_dIf, ↓q_sIf, ↓q_dAnd, ↓q_dOr, ↓q_dNot, ↓q_gN, ↓q_gsNil, ↓q_gsCons, ↓q_gTp, ↓q_seqT, ↓q_range1, ↓q_goNil, ↓q_goCons, ↓q_lc, ↓q_lcNil, ↓q_lcCons, ↓q_yes, ↓q_sub, ↓q_add, ↓q_neg, ↓q_lt, ↓q_le, ↓q_gt, ↓q_ge, ↓q_eq, ↓q_ne, ↓q_abs, ↓q_int, ↓q_gcd, ↓q_tupL, ↓q_tupT, ↓q_app, ↓q_is, ↓q_maxL, ↓q_or, ↓q_sum2, ↓q_gtT, ↓q_ltT, ↓q_leT, ↓q_geT, ↓q_rev, ↓q_oNo, ↓q_oSo, ↓q_dSl, ↓q_sRev, ↓q_lc2, ↓q_lc2Nil, ↓q_lc2Cons, ↓q_en, ↓q_lrg, ↓q_range2, ↓q_aug, ↓q_augI, ↓q_parO, ↓q_parO3, ↓q_sortSet, sat, List.cons_append, List.nil_append, List.append_nil, List.length_cons, List.length_nil, List.set_cons_succ, List.set_cons_zero, List.replicate, cond_true, cond_false, fzS, wipeE, Nat.blt, Nat.ble, eq_self, decide_true, decide_false, Bool.not_true, Bool.not_false, b2, b3, b4, if_true]
  refine pick_all (by rw [List.length_map]; omega) (by rw [List.length_map]; omega) fun d hd => ?_
  obtain ⟨t, ht, rfl⟩ := List.mem_map.mp hd
  have ce := fun k => cnt_eq (k := k) hL.hp hL.hq hL.hr hL.hs (n := n) (by omega) (by omega)
  have ke := fun k => keeps_eq (k := k) hL.hp hL.hq hL.hr hL.hs (hok t ht)
  have lm := fun (L : List (Int × Int × Int)) k => len_map D3 L (k := k)
  have lq : ∀ (z : Int) k, q__law_eq 8 [.sh (.int z), .sh (.int z)] k = k (.sh (.bool true)) := fun z k => law_eq_self 8 (.int z) trivial
  have lb : ∀ (z : Bool) k, q__law_eq 8 [.sh (.bool z), .sh (.bool z)] k = k (.sh (.bool true)) := fun z k => law_eq_self 8 (.bool z) trivial
  have ii : ∀ k, gIn (D3 t) (.list (((subl n).filter (keepsI p q r s)).map D3)) k = k (.bool (keepsI p q r s t)) := fun k => by
    rw [in_D3]
    congr 2
    rw [Bool.eq_iff_iff, decide_eq_true_eq, List.mem_filter]
    exact ⟨fun h => h.2, fun h => ⟨ht, h⟩⟩
  have ce2 : ∀ k, m_count_kept [.sh (L4 p q r s), .sh (.int (n : Int))] k = k (.sh (.int (((subl n).filter (keepsI p q r s)).length : Nat))) := ce
  unfold l_7
  simp -implicitDefEqProofs only [↓q_seq, ↓q_nil, ↓q_ret, ↓q_brk, ↓q_cont, ↓q_if, ↓q_set, ↓q_setF, ↓q_asg, ↓q_par, ↓q_par3, ↓q_expr, ↓q_for, ↓q_vN, ↓q_dN, ↓q_sN, ↓q_take, ↓q_toD, ↓q_toS, ↓q_aFz, ↓q_dC, ↓q_dOp, ↓q_sOp, ↓q_dUn, ↓q_dNil, ↓q_wNil, ↓q_aNil, ↓q_dCons, ↓q_wCons, ↓q_aCons, ↓q_dTup, ↓q_sLst, ↓q_dCall, ↓q_sCall, ↓q_sFn, ↓q_bV, ↓q_bC, ↓q_bAnd, ↓q_bOr, ↓q_bNot, ↓q_dIf, ↓q_sIf, ↓q_dAnd, ↓q_dOr, ↓q_dNot, ↓q_gN, ↓q_gsNil, ↓q_gsCons, ↓q_gTp, ↓q_seqT, ↓q_range1, ↓q_goNil, ↓q_goCons, ↓q_lc, ↓q_lcNil, ↓q_lcCons, ↓q_yes, ↓q_sub, ↓q_add, ↓q_neg, ↓q_lt, ↓q_le, ↓q_gt, ↓q_ge, ↓q_eq, ↓q_ne, ↓q_abs, ↓q_int, ↓q_gcd, ↓q_tupL, ↓q_tupT, ↓q_app, ↓q_is, ↓q_maxL, ↓q_or, ↓q_sum2, ↓q_gtT, ↓q_ltT, ↓q_leT, ↓q_geT, ↓q_rev, ↓q_oNo, ↓q_oSo, ↓q_dSl, ↓q_sRev, ↓q_lc2, ↓q_lc2Nil, ↓q_lc2Cons, ↓q_en, ↓q_lrg, ↓q_range2, ↓q_aug, ↓q_augI, ↓q_parO, ↓q_parO3, ↓q_sortSet, sat, List.cons_append, List.nil_append, List.append_nil, List.length_cons, List.length_nil, List.set_cons_succ, List.set_cons_zero, List.replicate, cond_true, cond_false, fzS, wipeE, Nat.blt, Nat.ble, eq_self, decide_true, decide_false, Bool.not_true, Bool.not_false, b2, b3, b4, if_true, ↓ce2, ↓lm, ↓lq, ↓ke, ↓ii, ↓lb]
  unfold l_8
  simp -implicitDefEqProofs only [↓q_seq, ↓q_nil, ↓q_ret, ↓q_brk, ↓q_cont, ↓q_if, ↓q_set, ↓q_setF, ↓q_asg, ↓q_par, ↓q_par3, ↓q_expr, ↓q_for, ↓q_vN, ↓q_dN, ↓q_sN, ↓q_take, ↓q_toD, ↓q_toS, ↓q_aFz, ↓q_dC, ↓q_dOp, ↓q_sOp, ↓q_dUn, ↓q_dNil, ↓q_wNil, ↓q_aNil, ↓q_dCons, ↓q_wCons, ↓q_aCons, ↓q_dTup, ↓q_sLst, ↓q_dCall, ↓q_sCall, ↓q_sFn, ↓q_bV, ↓q_bC, ↓q_bAnd, ↓q_bOr, ↓q_bNot, ↓q_dIf, ↓q_sIf, ↓q_dAnd, ↓q_dOr, ↓q_dNot, ↓q_gN, ↓q_gsNil, ↓q_gsCons, ↓q_gTp, ↓q_seqT, ↓q_range1, ↓q_goNil, ↓q_goCons, ↓q_lc, ↓q_lcNil, ↓q_lcCons, ↓q_yes, ↓q_sub, ↓q_add, ↓q_neg, ↓q_lt, ↓q_le, ↓q_gt, ↓q_ge, ↓q_eq, ↓q_ne, ↓q_abs, ↓q_int, ↓q_gcd, ↓q_tupL, ↓q_tupT, ↓q_app, ↓q_is, ↓q_maxL, ↓q_or, ↓q_sum2, ↓q_gtT, ↓q_ltT, ↓q_leT, ↓q_geT, ↓q_rev, ↓q_oNo, ↓q_oSo, ↓q_dSl, ↓q_sRev, ↓q_lc2, ↓q_lc2Nil, ↓q_lc2Cons, ↓q_en, ↓q_lrg, ↓q_range2, ↓q_aug, ↓q_augI, ↓q_parO, ↓q_parO3, ↓q_sortSet, sat, List.cons_append, List.nil_append, List.append_nil, List.length_cons, List.length_nil, List.set_cons_succ, List.set_cons_zero, List.replicate, cond_true, cond_false, fzS, wipeE, Nat.blt, Nat.ble, eq_self, decide_true, decide_false, Bool.not_true, Bool.not_false, b2, b3, b4, if_true, ↓lm]
  refine draw_all (by omega) (by omega) fun i' i0 i1 => ?_
  obtain ⟨i, rfl⟩ : ∃ i : Nat, i' = (i : Int) := ⟨i'.toNat, by omega⟩
  simp -implicitDefEqProofs only [↓q_seq, ↓q_nil, ↓q_ret, ↓q_brk, ↓q_cont, ↓q_if, ↓q_set, ↓q_setF, ↓q_asg, ↓q_par, ↓q_par3, ↓q_expr, ↓q_for, ↓q_vN, ↓q_dN, ↓q_sN, ↓q_take, ↓q_toD, ↓q_toS, ↓q_aFz, ↓q_dC, ↓q_dOp, ↓q_sOp, ↓q_dUn, ↓q_dNil, ↓q_wNil, ↓q_aNil, ↓q_dCons, ↓q_wCons, ↓q_aCons, ↓q_dTup, ↓q_sLst, ↓q_dCall, ↓q_sCall, ↓q_sFn, ↓q_bV, ↓q_bC, ↓q_bAnd, ↓q_bOr, ↓q_bNot, ↓q_dIf, ↓q_sIf, ↓q_dAnd, ↓q_dOr, ↓q_dNot, ↓q_gN, ↓q_gsNil, ↓q_gsCons, ↓q_gTp, ↓q_seqT, ↓q_range1, ↓q_goNil, ↓q_goCons, ↓q_lc, ↓q_lcNil, ↓q_lcCons, ↓q_yes, ↓q_sub, ↓q_add, ↓q_neg, ↓q_lt, ↓q_le, ↓q_gt, ↓q_ge, ↓q_eq, ↓q_ne, ↓q_abs, ↓q_int, ↓q_gcd, ↓q_tupL, ↓q_tupT, ↓q_app, ↓q_is, ↓q_maxL, ↓q_or, ↓q_sum2, ↓q_gtT, ↓q_ltT, ↓q_leT, ↓q_geT, ↓q_rev, ↓q_oNo, ↓q_oSo, ↓q_dSl, ↓q_sRev, ↓q_lc2, ↓q_lc2Nil, ↓q_lc2Cons, ↓q_en, ↓q_lrg, ↓q_range2, ↓q_aug, ↓q_augI, ↓q_parO, ↓q_parO3, ↓q_sortSet, sat, List.cons_append, List.nil_append, List.append_nil, List.length_cons, List.length_nil, List.set_cons_succ, List.set_cons_zero, List.replicate, cond_true, cond_false, fzS, wipeE, Nat.blt, Nat.ble, eq_self, decide_true, decide_false, Bool.not_true, Bool.not_false, b2, b3, b4, if_true, ↓lm]
  refine draw_all (by omega) (by omega) fun j' j0 j1 => ?_
  obtain ⟨j, rfl⟩ : ∃ j : Nat, j' = (j : Int) := ⟨j'.toNat, by omega⟩
  have hi : i < (subl n).length := by omega
  have hj : j < (subl n).length := by omega
  have x1 : ∀ k, gIx (.list ((subl n).map D3)) (.int (i : Int)) k = k (D3 (subl n)[i]) := fun k => ix_lst (by rw [List.getElem?_map, List.getElem?_eq_getElem hi]; rfl)
  have x2 : ∀ k, gIx (.list ((subl n).map D3)) (.int (j : Int)) k = k (D3 (subl n)[j]) := fun k => ix_lst (by rw [List.getElem?_map, List.getElem?_eq_getElem hj]; rfl)
  unfold l_9
  simp -implicitDefEqProofs only [↓q_seq, ↓q_nil, ↓q_ret, ↓q_brk, ↓q_cont, ↓q_if, ↓q_set, ↓q_setF, ↓q_asg, ↓q_par, ↓q_par3, ↓q_expr, ↓q_for, ↓q_vN, ↓q_dN, ↓q_sN, ↓q_take, ↓q_toD, ↓q_toS, ↓q_aFz, ↓q_dC, ↓q_dOp, ↓q_sOp, ↓q_dUn, ↓q_dNil, ↓q_wNil, ↓q_aNil, ↓q_dCons, ↓q_wCons, ↓q_aCons, ↓q_dTup, ↓q_sLst, ↓q_dCall, ↓q_sCall, ↓q_sFn, ↓q_bV, ↓q_bC, ↓q_bAnd, ↓q_bOr, ↓q_bNot, ↓q_dIf, ↓q_sIf, ↓q_dAnd, ↓q_dOr, ↓q_dNot, ↓q_gN, ↓q_gsNil, ↓q_gsCons, ↓q_gTp, ↓q_seqT, ↓q_range1, ↓q_goNil, ↓q_goCons, ↓q_lc, ↓q_lcNil, ↓q_lcCons, ↓q_yes, ↓q_sub, ↓q_add, ↓q_neg, ↓q_lt, ↓q_le, ↓q_gt, ↓q_ge, ↓q_eq, ↓q_ne, ↓q_abs, ↓q_int, ↓q_gcd, ↓q_tupL, ↓q_tupT, ↓q_app, ↓q_is, ↓q_maxL, ↓q_or, ↓q_sum2, ↓q_gtT, ↓q_ltT, ↓q_leT, ↓q_geT, ↓q_rev, ↓q_oNo, ↓q_oSo, ↓q_dSl, ↓q_sRev, ↓q_lc2, ↓q_lc2Nil, ↓q_lc2Cons, ↓q_en, ↓q_lrg, ↓q_range2, ↓q_aug, ↓q_augI, ↓q_parO, ↓q_parO3, ↓q_sortSet, sat, List.cons_append, List.nil_append, List.append_nil, List.length_cons, List.length_nil, List.set_cons_succ, List.set_cons_zero, List.replicate, cond_true, cond_false, fzS, wipeE, Nat.blt, Nat.ble, eq_self, decide_true, decide_false, Bool.not_true, Bool.not_false, b2, b3, b4, if_true]
  cases h13 : decide ((n : Int) < 13) with
  | false =>
    simp -implicitDefEqProofs only [↓q_seq, ↓q_nil, ↓q_ret, ↓q_brk, ↓q_cont, ↓q_if, ↓q_set, ↓q_setF, ↓q_asg, ↓q_par, ↓q_par3, ↓q_expr, ↓q_for, ↓q_vN, ↓q_dN, ↓q_sN, ↓q_take, ↓q_toD, ↓q_toS, ↓q_aFz, ↓q_dC, ↓q_dOp, ↓q_sOp, ↓q_dUn, ↓q_dNil, ↓q_wNil, ↓q_aNil, ↓q_dCons, ↓q_wCons, ↓q_aCons, ↓q_dTup, ↓q_sLst, ↓q_dCall, ↓q_sCall, ↓q_sFn, ↓q_bV, ↓q_bC, ↓q_bAnd, ↓q_bOr, ↓q_bNot, ↓q_dIf, ↓q_sIf, ↓q_dAnd, ↓q_dOr, ↓q_dNot, ↓q_gN, ↓q_gsNil, ↓q_gsCons, ↓q_gTp, ↓q_seqT, ↓q_range1, ↓q_goNil, ↓q_goCons, ↓q_lc, ↓q_lcNil, ↓q_lcCons, ↓q_yes, ↓q_sub, ↓q_add, ↓q_neg, ↓q_lt, ↓q_le, ↓q_gt, ↓q_ge, ↓q_eq, ↓q_ne, ↓q_abs, ↓q_int, ↓q_gcd, ↓q_tupL, ↓q_tupT, ↓q_app, ↓q_is, ↓q_maxL, ↓q_or, ↓q_sum2, ↓q_gtT, ↓q_ltT, ↓q_leT, ↓q_geT, ↓q_rev, ↓q_oNo, ↓q_oSo, ↓q_dSl, ↓q_sRev, ↓q_lc2, ↓q_lc2Nil, ↓q_lc2Cons, ↓q_en, ↓q_lrg, ↓q_range2, ↓q_aug, ↓q_augI, ↓q_parO, ↓q_parO3, ↓q_sortSet, sat, List.cons_append, List.nil_append, List.append_nil, List.length_cons, List.length_nil, List.set_cons_succ, List.set_cons_zero, List.replicate, cond_true, cond_false, fzS, wipeE, Nat.blt, Nat.ble, eq_self, decide_true, decide_false, Bool.not_true, Bool.not_false, b2, b3, b4, if_true]
    exact mid_ok hL n0 n1
  | true =>
    cases hij : decide ((i : Int) = (j : Int)) with
    | true =>
      simp -implicitDefEqProofs only [↓q_seq, ↓q_nil, ↓q_ret, ↓q_brk, ↓q_cont, ↓q_if, ↓q_set, ↓q_setF, ↓q_asg, ↓q_par, ↓q_par3, ↓q_expr, ↓q_for, ↓q_vN, ↓q_dN, ↓q_sN, ↓q_take, ↓q_toD, ↓q_toS, ↓q_aFz, ↓q_dC, ↓q_dOp, ↓q_sOp, ↓q_dUn, ↓q_dNil, ↓q_wNil, ↓q_aNil, ↓q_dCons, ↓q_wCons, ↓q_aCons, ↓q_dTup, ↓q_sLst, ↓q_dCall, ↓q_sCall, ↓q_sFn, ↓q_bV, ↓q_bC, ↓q_bAnd, ↓q_bOr, ↓q_bNot, ↓q_dIf, ↓q_sIf, ↓q_dAnd, ↓q_dOr, ↓q_dNot, ↓q_gN, ↓q_gsNil, ↓q_gsCons, ↓q_gTp, ↓q_seqT, ↓q_range1, ↓q_goNil, ↓q_goCons, ↓q_lc, ↓q_lcNil, ↓q_lcCons, ↓q_yes, ↓q_sub, ↓q_add, ↓q_neg, ↓q_lt, ↓q_le, ↓q_gt, ↓q_ge, ↓q_eq, ↓q_ne, ↓q_abs, ↓q_int, ↓q_gcd, ↓q_tupL, ↓q_tupT, ↓q_app, ↓q_is, ↓q_maxL, ↓q_or, ↓q_sum2, ↓q_gtT, ↓q_ltT, ↓q_leT, ↓q_geT, ↓q_rev, ↓q_oNo, ↓q_oSo, ↓q_dSl, ↓q_sRev, ↓q_lc2, ↓q_lc2Nil, ↓q_lc2Cons, ↓q_en, ↓q_lrg, ↓q_range2, ↓q_aug, ↓q_augI, ↓q_parO, ↓q_parO3, ↓q_sortSet, sat, List.cons_append, List.nil_append, List.append_nil, List.length_cons, List.length_nil, List.set_cons_succ, List.set_cons_zero, List.replicate, cond_true, cond_false, fzS, wipeE, Nat.blt, Nat.ble, eq_self, decide_true, decide_false, Bool.not_true, Bool.not_false, b2, b3, b4, if_true]
      exact mid_ok hL n0 n1
    | false =>
      have h13' : n ≤ 12 := by have := of_decide_eq_true h13; omega
      have re := fun k => rows_eq (k := k) (hok _ (List.getElem_mem hi)) (hok _ (List.getElem_mem hj)) (n := n) (by omega)
      have y0 : ∀ a b k, gIx (.list [a, b]) (.int 0) k = k a := fun a b k => ix_lst (ds := [a, b]) (j := 0) rfl
      have y1 : ∀ a b k, gIx (.list [a, b]) (.int 1) k = k b := fun a b k => ix_lst (ds := [a, b]) (j := 1) rfl
      have eq := fun (L M : List (Int × Int)) k => eq_P2s (L := L) (M := M) (k := k)
      have ne : decide (rowX (subl n)[i] n n 0 = rowX (subl n)[j] n n 0) = false := decide_eq_false (by
        have := nod_ne (up_all _ f_rows n n0 h13') i j (by rw [List.length_map]; exact hi) (by rw [List.length_map]; exact hj) (fun z => by
          have := of_decide_eq_false hij
          omega)
        simpa using this)
      simp -implicitDefEqProofs only [↓q_seq, ↓q_nil, ↓q_ret, ↓q_brk, ↓q_cont, ↓q_if, ↓q_set, ↓q_setF, ↓q_asg, ↓q_par, ↓q_par3, ↓q_expr, ↓q_for, ↓q_vN, ↓q_dN, ↓q_sN, ↓q_take, ↓q_toD, ↓q_toS, ↓q_aFz, ↓q_dC, ↓q_dOp, ↓q_sOp, ↓q_dUn, ↓q_dNil, ↓q_wNil, ↓q_aNil, ↓q_dCons, ↓q_wCons, ↓q_aCons, ↓q_dTup, ↓q_sLst, ↓q_dCall, ↓q_sCall, ↓q_sFn, ↓q_bV, ↓q_bC, ↓q_bAnd, ↓q_bOr, ↓q_bNot, ↓q_dIf, ↓q_sIf, ↓q_dAnd, ↓q_dOr, ↓q_dNot, ↓q_gN, ↓q_gsNil, ↓q_gsCons, ↓q_gTp, ↓q_seqT, ↓q_range1, ↓q_goNil, ↓q_goCons, ↓q_lc, ↓q_lcNil, ↓q_lcCons, ↓q_yes, ↓q_sub, ↓q_add, ↓q_neg, ↓q_lt, ↓q_le, ↓q_gt, ↓q_ge, ↓q_eq, ↓q_ne, ↓q_abs, ↓q_int, ↓q_gcd, ↓q_tupL, ↓q_tupT, ↓q_app, ↓q_is, ↓q_maxL, ↓q_or, ↓q_sum2, ↓q_gtT, ↓q_ltT, ↓q_leT, ↓q_geT, ↓q_rev, ↓q_oNo, ↓q_oSo, ↓q_dSl, ↓q_sRev, ↓q_lc2, ↓q_lc2Nil, ↓q_lc2Cons, ↓q_en, ↓q_lrg, ↓q_range2, ↓q_aug, ↓q_augI, ↓q_parO, ↓q_parO3, ↓q_sortSet, sat, List.cons_append, List.nil_append, List.append_nil, List.length_cons, List.length_nil, List.set_cons_succ, List.set_cons_zero, List.replicate, cond_true, cond_false, fzS, wipeE, Nat.blt, Nat.ble, eq_self, decide_true, decide_false, Bool.not_true, Bool.not_false, b2, b3, b4, if_true, ↓x1, ↓x2, ↓re, ↓y0, ↓y1, ↓eq, ne]
      exact mid_ok hL n0 n1
theorem from3 {n : Nat} (n0 : 1 ≤ n) (n1 : n ≤ 60) :
    t_3 [s0, .tk, .sh (.int (n : Int)), .sh (.list ((subl n).map D3)), s4, .un, .un, .un, .un, .un, .un, .un, .un, .un, .un, .un, .un, .un] { nx := nx, rt := isTrueS, bk := bk, ct := ct } = true := by
  have fl := up_all _ f_len n n0 n1
  rw [Bool.and_eq_true, Bool.and_eq_true] at fl
  have l1 : (subl n).length ≤ 200 := Nat.le_of_ble_eq_true fl.1.1
  have l3 : ((subl n).length : Int) = (divF n n 1).sum := of_decide_eq_true fl.1.2
  have se := fun k => subl_eq (k := k) (n := n) (by omega)
  have lq : ∀ k, q__law_eq 8 [.sh (.list ((subl n).map D3)), .sh (.list ((subl n).map D3))] k = k (.sh (.bool true)) := fun k => law_eq_self 8 _ (ok_D3s (by omega))
  have lm := fun (L : List (Int × Int × Int)) k => len_map D3 L (k := k)
  have c : -(2 ^ 62) ≤ (1 : Int) ∧ (1 : Int) < 2 ^ 62 ∧ -(2 ^ 62) ≤ (n : Int) + 1 ∧ (n : Int) + 1 < 2 ^ 62 := by omega
  have e : ((n : Int) + 1 - 1).toNat = n := by omega
  have b1 : Nat.ble (rngL 1 n).length 100000 = true := by rw [Nat.ble_eq, rngL_len]; omega
  have dg := fun kL => div_go (s0 := s0) (s1 := .tk) (s3 := .sh (.list ((subl n).map D3))) (s4 := s4) (s5 := .un) (s6 := .un) (s7 := .un) (s8 := .un) (s9 := .un) (s10 := .un) (s11 := .un) (s12 := .un) (s13 := .un) (s14 := .un) (s15 := .un) (s16 := .un) (n := (n : Int)) (kL := kL) n 1 (by decide)
  have gs : ∀ k, gSum [.list ((divF (n : Int) n 1).map PyData.int)] k = k (.int ((subl n).length : Int)) := fun k => by
    show asInts ((divF (n : Int) n 1).map PyData.int) (fun is => sumI is 0 fun z => k (.int z)) = _
    rw [asInts_map, sumI_eq, l3, Int.zero_add]
  unfold t_3 l_3
  simp -implicitDefEqProofs only [↓q_seq, ↓q_nil, ↓q_ret, ↓q_brk, ↓q_cont, ↓q_if, ↓q_set, ↓q_setF, ↓q_asg, ↓q_par, ↓q_par3, ↓q_expr, ↓q_for, ↓q_vN, ↓q_dN, ↓q_sN, ↓q_take, ↓q_toD, ↓q_toS, ↓q_aFz, ↓q_dC, ↓q_dOp, ↓q_sOp, ↓q_dUn, ↓q_dNil, ↓q_wNil, ↓q_aNil, ↓q_dCons, ↓q_wCons, ↓q_aCons, ↓q_dTup, ↓q_sLst, ↓q_dCall, ↓q_sCall, ↓q_sFn, ↓q_bV, ↓q_bC, ↓q_bAnd, ↓q_bOr, ↓q_bNot, ↓q_dIf, ↓q_sIf, ↓q_dAnd, ↓q_dOr, ↓q_dNot, ↓q_gN, ↓q_gsNil, ↓q_gsCons, ↓q_gTp, ↓q_seqT, ↓q_range1, ↓q_goNil, ↓q_goCons, ↓q_lc, ↓q_lcNil, ↓q_lcCons, ↓q_yes, ↓q_sub, ↓q_add, ↓q_neg, ↓q_lt, ↓q_le, ↓q_gt, ↓q_ge, ↓q_eq, ↓q_ne, ↓q_abs, ↓q_int, ↓q_gcd, ↓q_tupL, ↓q_tupT, ↓q_app, ↓q_is, ↓q_maxL, ↓q_or, ↓q_sum2, ↓q_gtT, ↓q_ltT, ↓q_leT, ↓q_geT, ↓q_rev, ↓q_oNo, ↓q_oSo, ↓q_dSl, ↓q_sRev, ↓q_lc2, ↓q_lc2Nil, ↓q_lc2Cons, ↓q_en, ↓q_lrg, ↓q_range2, ↓q_aug, ↓q_augI, ↓q_parO, ↓q_parO3, ↓q_sortSet, sat, List.cons_append, List.nil_append, List.append_nil, List.length_cons, List.length_nil, List.set_cons_succ, List.set_cons_zero, List.replicate, cond_true, cond_false, fzS, wipeE, Nat.blt, Nat.ble, eq_self, decide_true, decide_false, Bool.not_true, Bool.not_false, b2, b3, b4, if_true, ↓se, ↓lq, ↓lm, if_pos c, e, b1, ↓dg, ↓gs]
  unfold l_4
  simp -implicitDefEqProofs only [↓q_seq, ↓q_nil, ↓q_ret, ↓q_brk, ↓q_cont, ↓q_if, ↓q_set, ↓q_setF, ↓q_asg, ↓q_par, ↓q_par3, ↓q_expr, ↓q_for, ↓q_vN, ↓q_dN, ↓q_sN, ↓q_take, ↓q_toD, ↓q_toS, ↓q_aFz, ↓q_dC, ↓q_dOp, ↓q_sOp, ↓q_dUn, ↓q_dNil, ↓q_wNil, ↓q_aNil, ↓q_dCons, ↓q_wCons, ↓q_aCons, ↓q_dTup, ↓q_sLst, ↓q_dCall, ↓q_sCall, ↓q_sFn, ↓q_bV, ↓q_bC, ↓q_bAnd, ↓q_bOr, ↓q_bNot, ↓q_dIf, ↓q_sIf, ↓q_dAnd, ↓q_dOr, ↓q_dNot, ↓q_gN, ↓q_gsNil, ↓q_gsCons, ↓q_gTp, ↓q_seqT, ↓q_range1, ↓q_goNil, ↓q_goCons, ↓q_lc, ↓q_lcNil, ↓q_lcCons, ↓q_yes, ↓q_sub, ↓q_add, ↓q_neg, ↓q_lt, ↓q_le, ↓q_gt, ↓q_ge, ↓q_eq, ↓q_ne, ↓q_abs, ↓q_int, ↓q_gcd, ↓q_tupL, ↓q_tupT, ↓q_app, ↓q_is, ↓q_maxL, ↓q_or, ↓q_sum2, ↓q_gtT, ↓q_ltT, ↓q_leT, ↓q_geT, ↓q_rev, ↓q_oNo, ↓q_oSo, ↓q_dSl, ↓q_sRev, ↓q_lc2, ↓q_lc2Nil, ↓q_lc2Cons, ↓q_en, ↓q_lrg, ↓q_range2, ↓q_aug, ↓q_augI, ↓q_parO, ↓q_parO3, ↓q_sortSet, sat, List.cons_append, List.nil_append, List.append_nil, List.length_cons, List.length_nil, List.set_cons_succ, List.set_cons_zero, List.replicate, cond_true, cond_false, fzS, wipeE, Nat.blt, Nat.ble, eq_self, decide_true, decide_false, Bool.not_true, Bool.not_false, b2, b3, b4, if_true]
  refine pick_all (by decide) (by decide) fun d hd => ?_
  obtain ⟨p, q, r, s, rfl, hL⟩ := lin_of hd
  exact from5 hL n0 n1
end
theorem lawB_true : lawB = true := by
  unfold lawB lawM
  rw [show b_law = pSeq l_0 (pSeq l_1 (pSeq l_2 t_3)) from law_split]
  unfold l_0
  simp -implicitDefEqProofs only [↓q_seq, ↓q_nil, ↓q_ret, ↓q_brk, ↓q_cont, ↓q_if, ↓q_set, ↓q_setF, ↓q_asg, ↓q_par, ↓q_par3, ↓q_expr, ↓q_for, ↓q_vN, ↓q_dN, ↓q_sN, ↓q_take, ↓q_toD, ↓q_toS, ↓q_aFz, ↓q_dC, ↓q_dOp, ↓q_sOp, ↓q_dUn, ↓q_dNil, ↓q_wNil, ↓q_aNil, ↓q_dCons, ↓q_wCons, ↓q_aCons, ↓q_dTup, ↓q_sLst, ↓q_dCall, ↓q_sCall, ↓q_sFn, ↓q_bV, ↓q_bC, ↓q_bAnd, ↓q_bOr, ↓q_bNot, ↓q_dIf, ↓q_sIf, ↓q_dAnd, ↓q_dOr, ↓q_dNot, ↓q_gN, ↓q_gsNil, ↓q_gsCons, ↓q_gTp, ↓q_seqT, ↓q_range1, ↓q_goNil, ↓q_goCons, ↓q_lc, ↓q_lcNil, ↓q_lcCons, ↓q_yes, ↓q_sub, ↓q_add, ↓q_neg, ↓q_lt, ↓q_le, ↓q_gt, ↓q_ge, ↓q_eq, ↓q_ne, ↓q_abs, ↓q_int, ↓q_gcd, ↓q_tupL, ↓q_tupT, ↓q_app, ↓q_is, ↓q_maxL, ↓q_or, ↓q_sum2, ↓q_gtT, ↓q_ltT, ↓q_leT, ↓q_geT, ↓q_rev, ↓q_oNo, ↓q_oSo, ↓q_dSl, ↓q_sRev, ↓q_lc2, ↓q_lc2Nil, ↓q_lc2Cons, ↓q_en, ↓q_lrg, ↓q_range2, ↓q_aug, ↓q_augI, ↓q_parO, ↓q_parO3, ↓q_sortSet, sat, List.cons_append, List.nil_append, List.append_nil, List.length_cons, List.length_nil, List.set_cons_succ, List.set_cons_zero, List.replicate, cond_true, cond_false, fzS, wipeE, Nat.blt, Nat.ble, eq_self, decide_true, decide_false, Bool.not_true, Bool.not_false, b2, b3, b4, if_true]
  refine draw_all (by decide) (by decide) fun r h0 h1 => ?_
  obtain ⟨n, hn⟩ : ∃ n : Nat, 1 + r = (n : Int) := ⟨(1 + r).toNat, by omega⟩
  have n0 : 1 ≤ n := by omega
  have n1 : n ≤ 60 := by omega
  have c : -(2 ^ 62) ≤ (1 : Int) ∧ (1 : Int) < 2 ^ 62 ∧ -(2 ^ 62) ≤ (n : Int) + 1 ∧ (n : Int) + 1 < 2 ^ 62 := by omega
  have e : ((n : Int) + 1 - 1).toNat = n := by omega
  unfold l_1 l_2
  simp -implicitDefEqProofs only [↓q_seq, ↓q_nil, ↓q_ret, ↓q_brk, ↓q_cont, ↓q_if, ↓q_set, ↓q_setF, ↓q_asg, ↓q_par, ↓q_par3, ↓q_expr, ↓q_for, ↓q_vN, ↓q_dN, ↓q_sN, ↓q_take, ↓q_toD, ↓q_toS, ↓q_aFz, ↓q_dC, ↓q_dOp, ↓q_sOp, ↓q_dUn, ↓q_dNil, ↓q_wNil, ↓q_aNil, ↓q_dCons, ↓q_wCons, ↓q_aCons, ↓q_dTup, ↓q_sLst, ↓q_dCall, ↓q_sCall, ↓q_sFn, ↓q_bV, ↓q_bC, ↓q_bAnd, ↓q_bOr, ↓q_bNot, ↓q_dIf, ↓q_sIf, ↓q_dAnd, ↓q_dOr, ↓q_dNot, ↓q_gN, ↓q_gsNil, ↓q_gsCons, ↓q_gTp, ↓q_seqT, ↓q_range1, ↓q_goNil, ↓q_goCons, ↓q_lc, ↓q_lcNil, ↓q_lcCons, ↓q_yes, ↓q_sub, ↓q_add, ↓q_neg, ↓q_lt, ↓q_le, ↓q_gt, ↓q_ge, ↓q_eq, ↓q_ne, ↓q_abs, ↓q_int, ↓q_gcd, ↓q_tupL, ↓q_tupT, ↓q_app, ↓q_is, ↓q_maxL, ↓q_or, ↓q_sum2, ↓q_gtT, ↓q_ltT, ↓q_leT, ↓q_geT, ↓q_rev, ↓q_oNo, ↓q_oSo, ↓q_dSl, ↓q_sRev, ↓q_lc2, ↓q_lc2Nil, ↓q_lc2Cons, ↓q_en, ↓q_lrg, ↓q_range2, ↓q_aug, ↓q_augI, ↓q_parO, ↓q_parO3, ↓q_sortSet, sat, List.cons_append, List.nil_append, List.append_nil, List.length_cons, List.length_nil, List.set_cons_succ, List.set_cons_zero, List.replicate, cond_true, cond_false, fzS, wipeE, Nat.blt, Nat.ble, eq_self, decide_true, decide_false, Bool.not_true, Bool.not_false, b2, b3, b4, if_true, hn, if_pos c, e]
  refine due_loop (n := (n : Int)) n 1 [] _ (by decide) (by omega) (by
    have := subl_len (n := n) (by omega)
    show 0 + (subl n).length ≤ 100000
    omega) fun s4 => ?_
  rw [List.nil_append, show subF (n : Int) n 1 = subl n from rfl]
  dsimp only
  exact from3 n0 n1
end Law

set_option Elab.async false
set_option synthInstance.maxHeartbeats 0
set_option synthInstance.maxSize 100000
set_option linter.all false
set_option maxRecDepth 100000
set_option maxHeartbeats 4000000
namespace Law
open PySem PySem.Spec L2 Orn
def top (i : Nat) : Stmt := PySem.Challenge.pw_ornamentwright_k39_whole_smaller_lattice.main.body.getD i (.Pass ⟨0, 0, 0, 0⟩)
abbrev s_sublattices : Stmt := top 1
abbrev s_is_of : Stmt := top 2
abbrev s_keeps_steps : Stmt := top 3
abbrev s_count_kept : Stmt := top 4
abbrev s_root_below : Stmt := top 5
abbrev s_count_square_ways : Stmt := top 6
abbrev s_count_hex_ways : Stmt := top 7
abbrev s__law_state : Stmt := top 9
abbrev s__law_draw : Stmt := top 10
abbrev s__law_pick : Stmt := top 11
abbrev s__law_eq : Stmt := top 12
abbrev s__law_of : Stmt := top 13
abbrev s__law_keeps : Stmt := top 14
abbrev s__law_rows : Stmt := top 15
abbrev s_law : Stmt := top 16
structure Txt (K : PySem.W.Frag) (mg : Str → Option Value) : Prop where
  n_abs : mg "abs" = none
  n_bool : mg "bool" = none
  n_int : mg "int" = none
  n_isinstance : mg "isinstance" = none
  n_len : mg "len" = none
  n_list : mg "list" = none
  n_min : mg "min" = none
  n_range : mg "range" = none
  n_set : mg "set" = none
  n_sorted : mg "sorted" = none
  n_str : mg "str" = none
  n_sum : mg "sum" = none
  n_tuple : mg "tuple" = none
section
variable {P : Program} {w : World} {K : PySem.W.Frag} {mg : Str → Option Value} {base : Heap}
theorem scDraw : FnScope ["state", "many", "cells", "value", "mixed"] ["state", "many"] (defScope s__law_draw) := ⟨rfl, rfl, rfl, by decide +kernel, rfl, by decide +kernel, by decide +kernel⟩
theorem ok_draw {f : Addr} {fd : FuncData} (F : Fun K "_law_draw" "_law_draw" s__law_draw f fd) (ml : mg "len" = none) (mi : mg "int" = none) : FnOk P w K mg base CX0 1 f fd ["state", "many"] (spF K 2 mDraw) := by
  refine F.ok scDraw (fun vs H Q E h => ?_) (fun cdv A outer s H vs Q E hr h => ?_)
  · obtain ⟨st, c, n, rfl, _⟩ := draw_in h
    rfl
  obtain ⟨st, c, n, rfl, ht, n0, n1, q⟩ := draw_in h
  obtain ⟨hne, ns, seed, hst, hc, hz, s0, s1, hl⟩ := ht
  refine ⟨_, pss_cons (ps_set (i := 2) scDraw.nd rfl (.inl rfl) (pe_ix ix_list (pv 0) pe_int (fun _ _ => rfl)))
    (pss_cons (ps_while PassesOwn.never (PW.pt (pw_and (pt_cmpR op_gt (pe_callB call_len_seq rfl ml PySem.boot_len (pa_cons (pv 2) pa_nil)) pe_int (nomark _)) (pw_and1 (pt_cmpR op_eq (pe_ix ix_list (pv 2) pe_int (fun _ _ => rfl)) pe_int (nomark _)))))
      (pss_one (ps_expr (pe_bm PySem.F.plainAttrs_list PySem.F.slot_list_pop PySem.F.type_list_pop mt_popAt (pv 2) (pa_cons pe_int pa_nil)))))
    (pss_cons (ps_if (pt_cmpR op_gt (pe_callB call_len_seq rfl ml PySem.boot_len (pa_cons (pv 2) pa_nil)) pe_int (nomark _))
      (pss_cons (ps_set (i := 3) scDraw.nd rfl (.inl rfl) (pe_ix ix_list (pv 2) pe_int (fun _ _ => rfl)))
        (pss_cons (ps_asg (pe_op op_fdiv (pv 3) (pv 1)) (pg_sub (pv 2) pe_int set_list))
          (pss_one (ps_ret (pe_op op_mod (pe_callTy call_int1 rfl mi PyProof.Rows.boot_int (pa_cons (pv 3) pa_nil)) (pv 1))))))
      pss_nil)
    (pss_cons (ps_set (i := 4) scDraw.nd rfl (.inl rfl) (pe_op op_mod (pe_callTy call_int1 rfl mi PyProof.Rows.boot_int (pa_cons (pe_op op_add (pe_op op_mul (pe_ix ix_list (pv 0) pe_int (fun _ _ => rfl)) pe_int) pe_int) pa_nil)) pe_int))
    (pss_cons (ps_asg (pv 4) (pg_sub (pv 0) pe_int set_list))
    (pss_one (ps_ret (pe_op op_mod (pe_callTy call_int1 rfl mi PyProof.Rows.boot_int (pa_cons (pe_op op_fdiv (pv 4) pe_int) pa_nil)) (pv 1)))))))), ?_⟩
  -- cells = state[0]
  refine ⟨_, rfl, st, _, 0, .ref c, rfl, rfl, SqL.of hst, rfl, ?_⟩
  -- the zeros go
  refine ⟨fun m σ' H' => ∃ ms : List Int, σ' = [some (.ref st), some (.int n), some (.ref c), none, none] ∧ m = ms.length ∧ H' st = some (.lst [.ref c, .int seed]) ∧ H' c = some (.lst (ms.map V.int)) ∧ (∀ n ∈ ms, 0 ≤ n) ∧ ms.length ≤ 63 ∧ (∀ a, a ≠ st → a ≠ c → H' a = H a), ⟨ns.length, ns, rfl, rfl, hst, hc, hz, hl, fun _ _ _ => rfl⟩, ?_⟩
  rintro m σ' H' ⟨ms, rfl, rfl, gst, gc, gz, gl, gk⟩
  refine ⟨_, rfl, c, _, rfl, .inl (SqL.of gc), _, _, rfl, rfl, _, rfl, ?_⟩
  cases ms with
  | nil =>
    -- no numbers left: the seed
    refine iteF (iteF ?_)
    refine ⟨_, rfl, c, _, rfl, .inl (SqL.of gc), _, _, rfl, rfl, _, rfl, iteF ?_⟩
    refine ⟨_, rfl, st, _, 1, .int seed, rfl, rfl, SqL.of gst, rfl, _, _, rfl, rfl, .inl ⟨by omega, by omega⟩, _, _, rfl, rfl, .inl ⟨_, rfl, _, _, rfl, rfl, (by decide : (0 : Int) < 2147483647), ?_⟩⟩
    have b0 : 0 ≤ (seed * 48271 + 12345) % 2147483647 := Int.emod_nonneg _ (by decide)
    have b1 : (seed * 48271 + 12345) % 2147483647 < 2147483647 := Int.emod_lt_of_pos _ (by decide)
    refine ⟨_, rfl, _, rfl, st, _, 1, 1, rfl, rfl, gst, rfl, ?_⟩
    refine ⟨_, rfl, _, _, rfl, rfl, ⟨by decide, by decide⟩, .inl ⟨_, rfl, _, rfl, _, _, rfl, rfl, n0, ?_⟩⟩
    refine q _ _ (Int.emod_nonneg _ (by omega)) (Int.emod_lt_of_pos _ n0) (TokR.setS (ns := []) hne gc ⟨b0, by omega⟩ gz gl) fun a h1 h2 => ?_
    rw [upd_ne h1]
    exact gk a h1 h2
  | cons x ms =>
    have hx : 0 ≤ x := gz x List.mem_cons_self
    have e3 : atI ((x :: ms).map V.int) 0 = some (.int x) := atI_nat (j := 0) rfl
    have e4 : ixN ((x :: ms).map V.int).length 0 = some 0 := by
      unfold ixN
      rw [if_pos (Int.le_refl 0), List.length_map, List.length_cons, if_pos (by omega)]
      rfl
    have e1 : decide ((0 : Int) < (((x :: ms).map V.int).length : Int)) = true := decide_eq_true (by rw [List.length_map, List.length_cons]; omega)
    rw [e1]
    refine iteT ?_
    refine ⟨_, rfl, c, _, 0, .int x, rfl, rfl, SqL.of gc, e3, rfl, _, rfl, ?_⟩
    by_cases x0 : x = 0
    · -- a zero: away with it
      subst x0
      refine iteT ⟨fun σ' H' => ∃ ms' : List Int, ms'.length < (0 :: ms).length ∧ σ' = [some (.ref st), some (.int n), some (.ref c), none, none] ∧ H' st = some (.lst [.ref c, .int seed]) ∧ H' c = some (.lst (ms'.map V.int)) ∧ (∀ n ∈ ms', 0 ≤ n) ∧ ms'.length ≤ 63 ∧ (∀ a, a ≠ st → a ≠ c → H' a = H a), fun σ' H' h => ?_, ?_⟩
      · obtain ⟨ms', a1, a2, a3, a4, a5, a6, a7⟩ := h
        exact ⟨ms'.length, a1, ms', a2, rfl, a3, a4, a5, a6, a7⟩
      · refine ⟨_, rfl, .inl ⟨rfl, _, SqL.of gc⟩, c, _, 0, 0, .int 0, rfl, rfl, gc, by decide, by decide, (ixN_seq e4).1, rfl, ?_⟩
        refine ⟨ms, Nat.lt_succ_self _, rfl, ?_, upd_same, fun n h => gz n (List.mem_cons_of_mem _ h), by rw [List.length_cons] at gl; omega, fun a h1 h2 => ?_⟩
        · rw [upd_ne hne]; exact gst
        · rw [upd_ne h2]; exact gk a h1 h2
    · have e2 : decide (V.int x = V.int 0) = false := decide_eq_false fun z => x0 (V.int.inj z)
      rw [e2]
      refine iteF ?_
      refine ⟨_, rfl, c, _, rfl, .inl (SqL.of gc), _, _, rfl, rfl, _, rfl, ?_⟩
      rw [e1]
      refine iteT ?_
      refine ⟨_, rfl, c, _, 0, .int x, rfl, rfl, SqL.of gc, e3, ?_⟩
      refine ⟨_, rfl, _, rfl, _, _, rfl, rfl, ⟨n0, n1⟩, _, rfl, c, _, 0, 0, rfl, rfl, gc, e4, ?_⟩
      refine ⟨_, rfl, .inl ⟨_, rfl, _, rfl, _, _, rfl, rfl, n0, ?_⟩⟩
      refine q _ _ (Int.emod_nonneg _ (by omega)) (Int.emod_lt_of_pos _ n0) (TokR.setC (ns := (x / n) :: ms) hne gst ⟨s0, s1⟩ (fun z hz => ?_) (by rw [List.length_cons] at gl ⊢; exact gl)) fun a h1 h2 => ?_
      · rcases List.mem_cons.mp hz with h | h
        · rw [h]; exact Int.ediv_nonneg hx (by omega)
        · exact gz z (List.mem_cons_of_mem _ h)
      · rw [upd_ne h2]; exact gk a h1 h2
theorem scState : FnScope ["script", "seed", "cell"] ["script"] (defScope s__law_state) := ⟨rfl, rfl, rfl, by decide +kernel, rfl, by decide +kernel, by decide +kernel⟩
theorem ok_state {f : Addr} {fd : FuncData} (F : Fun K "_law_state" "_law_state" s__law_state f fd) (ma : mg "abs" = none) (mi : mg "int" = none) : FnOk P w K mg base CX0 1 f fd ["script"] (spState K) := by
  refine F.ok scState (fun vs H Q E h => ?_) (fun cdv A outer s H vs Q E hr h => ?_)
  · obtain ⟨a, ns, rfl, _⟩ := h
    rfl
  obtain ⟨a, ns, rfl, hS, hl, q⟩ := h
  refine ⟨_, pss_cons (ps_set (i := 1) scState.nd rfl (.inl rfl) pe_int)
    (pss_cons (ps_for PassesOwn.never rfl (pi_list (pv 0)) (pg_name (i := 2) scState.nd rfl (.inl rfl))
      (pss_one (ps_set (i := 1) scState.nd rfl (.inl rfl) (pe_op op_mod (pe_callTy call_int1 rfl mi PyProof.Rows.boot_int (pa_cons (pe_op op_add (pe_op op_mul (pv 1) pe_int) (pv 2)) pa_nil)) pe_int))))
    (pss_one (ps_ret (pe_lst (pa_cons (pe_lc (own := [("cell", 2)]) (g := gName 2) (tt := tYes) rfl scState.nd (pi_list (pv 0)) (blkOk_by (N := ["script", "seed", "cell"]) (sc := defScope s__law_state) (by decide +kernel)) (fun _ _ _ _ _ => pg_name (i := 2) scState.nd rfl (.inl rfl)) (fun _ _ _ _ _ => pts_nil)
      (fun _ _ _ _ _ => pe_callB call_abs rfl ma (by decide +kernel) (pa_cons (pv 2) pa_nil))) (pa_cons (pe_op op_add (pv 1) pe_int) pa_nil)))))), ?_⟩
  have small : ∀ {n : Nat}, n ≤ 100000 → n ≤ sizeLine := fun h => sz5 h
  refine ⟨_, rfl, a, rfl, ⟨_, hS⟩, for_list (K := K) (a := a) (xs := ns.map V.int) (fun i σ H2 => ∃ (sd : Int) (v : Option V), σ = [some (.ref a), some (.int sd), v] ∧ H2 = H ∧ 0 ≤ sd ∧ sd < 1000003) ⟨7, none, rfl, rfl, by decide, by decide⟩ (fun i σ H2 _ h => ?_) ?_ ?_⟩
  · obtain ⟨_, _, _, e, _⟩ := h
    rw [e]; exact hS
  · rintro i y σ H2 hi ⟨sd, v, rfl, rfl, s0, s1⟩
    obtain ⟨z, rfl⟩ : ∃ z, y = V.int z := by
      rw [List.getElem?_map] at hi
      cases e : ns[i]? with
      | none => rw [e] at hi; cases hi
      | some z => rw [e] at hi; exact ⟨z, (Option.some.inj hi).symm⟩
    refine ⟨_, rfl, _, _, rfl, rfl, .inl ⟨by omega, by omega⟩, _, rfl, _, _, rfl, rfl, .inl ⟨_, rfl, _, _, rfl, rfl, (by decide : (0 : Int) < 1000003), ?_⟩⟩
    exact ⟨_, _, rfl, rfl, Int.emod_nonneg _ (by decide), Int.emod_lt_of_pos _ (by decide)⟩
  · rintro σ H2 ⟨sd, v, rfl, rfl, s0, s1⟩
    refine ⟨_, rfl, a, rfl, ⟨_, hS⟩, fun D hD => ?_⟩
    have ex : ∀ o, SqL K (upd H2 D o) a (ns.map V.int) := fun o => by
      rcases hS with (h | ⟨u, h⟩) | h
      · exact .inl (.inl (by rw [upd_ne (ne_of_none h hD)]; exact h))
      · exact .inl (.inr ⟨u, by rw [upd_ne (ne_of_none h hD)]; exact h⟩)
      · exact .inr h
    refine lc_list (K := K) (a := a) (xs := ns.map V.int) (fun i H3 => ∃ ms : List Int, H3 = upd H2 D (.lst (ms.map V.int)) ∧ ms.length = i ∧ ∀ n ∈ ms, 0 ≤ n) ⟨[], rfl, rfl, fun n h => by cases h⟩ (fun i H3 _ h => ?_) (fun i x H3 hi h => ?_) (fun H3 h => ?_)
    · obtain ⟨ms, e, _⟩ := h
      rw [e]; exact ex _
    · obtain ⟨ms, rfl, hm, h0⟩ := h
      obtain ⟨z, rfl⟩ : ∃ z, x = V.int z := by
        rw [List.getElem?_map] at hi
        cases e : ns[i]? with
        | none => rw [e] at hi; cases hi
        | some z => rw [e] at hi; exact ⟨z, (Option.some.inj hi).symm⟩
      have hi2 : i < ns.length := by
        have := (List.getElem?_eq_some_iff.mp hi).1
        rw [List.length_map] at this; exact this
      refine ⟨rfl, ?_⟩
      dsimp only [tYes]
      rw [if_pos rfl]
      refine ⟨_, rfl, _, rfl, _, upd_same, ?_, ms ++ [if z < 0 then -z else z], ?_, ?_, ?_⟩
      · rw [List.length_map]; exact Nat.lt_of_lt_of_le (by omega : ms.length < 100001) (by decide)
      · rw [upd_upd, List.map_append]; rfl
      · rw [List.length_append, hm]; rfl
      · intro n hn
        rcases List.mem_append.mp hn with h | h
        · exact h0 n h
        · rw [List.mem_singleton.mp h]
          by_cases c : z < 0
          · rw [if_pos c]; omega
          · rw [if_neg c]; omega
    · obtain ⟨ms, rfl, hm, h0⟩ := h
      rw [List.length_map] at hm
      refine ⟨_, rfl, _, _, rfl, rfl, (by show 2 ≤ sizeLine; decide), fun p hp => ?_⟩
      have ne : D ≠ p := ne_of_none upd_same hp
      refine q p D _ ⟨Ne.symm ne, ms, sd + 1, upd_same, ?_, h0, by omega, by omega, by omega⟩
      rw [upd_ne ne, upd_same]

theorem sc_sublattices : FnScope ["n", "a", "b"] ["n"] (defScope s_sublattices) := ⟨rfl, rfl, rfl, by decide +kernel, rfl, by decide +kernel, by decide +kernel⟩
theorem ok_sublattices (T : Txt K mg) {f : Addr} {fd : FuncData} (F : Fun K "sublattices" "sublattices" s_sublattices f fd) (hm : mg "sublattices" = some (.ref f)) (hk : Binds K fd ["n"] [])  : Cal P w K mg base "sublattices" 1 1 m_sublattices :=
  ⟨f, fd, _, fn_ok (N := ["n", "a", "b"]) (g := b_sublattices) F sc_sublattices rfl fun cdv A outer s H E hr =>
  (sp_one (sp_ret (ss_lc2 (vs1 := [2]) rfl sc_sublattices.nd (si_range2 (by exact rfl) T.n_range (wl_cons (sv_d sd_int) (wl_cons (sv_d (sd_op oAdd (sv_n 0 (pv 0)) (sv_d sd_int))) wl_nil))) (blkOk_by (own := [("a", 1), ("b", 2)]) (by first | decide +kernel | kernel_rfl)) (fun _ _ _ _ _ => (sg_n 1 (pg_name (i := 1) sc_sublattices.nd rfl (by first | exact .inl rfl | exact .inr rfl)))) (fun _ _ _ _ _ => (pts_one (st_cmp (oEq hr.units) (nomark _) (sv_d (sd_op oMod (sv_n 0 (pv 0)) (sv_n 1 (pv 1)))) (sv_d sd_int)))) (fun _ _ _ _ _ => (si_range1 (by exact rfl) T.n_range (wl_cons (sv_n 1 (pv 1)) wl_nil))) (fun _ _ _ _ _ => (sg_n 2 (pg_name (i := 2) sc_sublattices.nd rfl (by first | exact .inl rfl | exact .inr rfl)))) (fun _ _ _ _ _ => st_yes) (fun _ _ _ _ _ => (sd_tup (dl_cons (sd_n 1 (pv 1)) (dl_cons (sd_n 2 (pv 2)) (dl_cons (sd_op oDiv (sv_n 0 (pv 0)) (sv_n 1 (pv 1))) dl_nil)))))))), hm, F.kp, hk⟩
theorem sc_is_of : FnScope ["steps", "x", "y", "a", "b", "c"] ["steps", "x", "y"] (defScope s_is_of) := ⟨rfl, rfl, rfl, by decide +kernel, rfl, by decide +kernel, by decide +kernel⟩
theorem ok_is_of (T : Txt K mg) {f : Addr} {fd : FuncData} (F : Fun K "is_of" "is_of" s_is_of f fd) (hm : mg "is_of" = some (.ref f)) (hk : Binds K fd ["steps", "x", "y"] [])  : Cal P w K mg base "is_of" 1 3 m_is_of :=
  ⟨f, fd, _, fn_ok (N := ["steps", "x", "y", "a", "b", "c"]) (g := b_is_of) F sc_is_of rfl fun cdv A outer s H E hr =>
  (sp_cons (sp_asg (sd_n 0 (pv 0)) (sg_tup rfl (sgs_cons (sg_n 3 (pg_name (i := 3) sc_is_of.nd rfl (by first | exact .inl rfl | exact .inr rfl))) (sgs_cons (sg_n 4 (pg_name (i := 4) sc_is_of.nd rfl (by first | exact .inl rfl | exact .inr rfl))) (sgs_cons (sg_n 5 (pg_name (i := 5) sc_is_of.nd rfl (by first | exact .inl rfl | exact .inr rfl))) sgs_nil)))))
  (sp_one (sp_ret (ss_d (sd_and (sd_cmp (oEq hr.units) (nomark _) (sv_d (sd_op oMod (sv_n 2 (pv 2)) (sv_n 5 (pv 5)))) (sv_d sd_int)) (sd_one (sd_cmp (oEq hr.units) (nomark _) (sv_d (sd_op oMod (sv_d (sd_op oSub (sv_n 1 (pv 1)) (sv_d (sd_op oMul (sv_d (sd_op oDiv (sv_n 2 (pv 2)) (sv_n 5 (pv 5)))) (sv_n 4 (pv 4)))))) (sv_n 3 (pv 3)))) (sv_d sd_int)))))))), hm, F.kp, hk⟩
theorem sc_keeps_steps : FnScope ["linear", "steps", "p", "q", "r", "s", "a", "b", "c"] ["linear", "steps"] (defScope s_keeps_steps) := ⟨rfl, rfl, rfl, by decide +kernel, rfl, by decide +kernel, by decide +kernel⟩
theorem ok_keeps_steps (T : Txt K mg) {f : Addr} {fd : FuncData} (F : Fun K "keeps_steps" "keeps_steps" s_keeps_steps f fd) (hm : mg "keeps_steps" = some (.ref f)) (hk : Binds K fd ["linear", "steps"] []) (c_is_of : Cal P w K mg base "is_of" 1 3 m_is_of) : Cal P w K mg base "keeps_steps" 2 2 m_keeps_steps :=
  ⟨f, fd, _, fn_ok (N := ["linear", "steps", "p", "q", "r", "s", "a", "b", "c"]) (g := b_keeps_steps) F sc_keeps_steps rfl fun cdv A outer s H E hr =>
  (sp_cons (sp_asg (sd_n 0 (pv 0)) (sg_tup rfl (sgs_cons (sg_tup rfl (sgs_cons (sg_n 2 (pg_name (i := 2) sc_keeps_steps.nd rfl (by first | exact .inl rfl | exact .inr rfl))) (sgs_cons (sg_n 3 (pg_name (i := 3) sc_keeps_steps.nd rfl (by first | exact .inl rfl | exact .inr rfl))) sgs_nil))) (sgs_cons (sg_tup rfl (sgs_cons (sg_n 4 (pg_name (i := 4) sc_keeps_steps.nd rfl (by first | exact .inl rfl | exact .inr rfl))) (sgs_cons (sg_n 5 (pg_name (i := 5) sc_keeps_steps.nd rfl (by first | exact .inl rfl | exact .inr rfl))) sgs_nil))) sgs_nil))))
  (sp_cons (sp_asg (sd_n 1 (pv 1)) (sg_tup rfl (sgs_cons (sg_n 6 (pg_name (i := 6) sc_keeps_steps.nd rfl (by first | exact .inl rfl | exact .inr rfl))) (sgs_cons (sg_n 7 (pg_name (i := 7) sc_keeps_steps.nd rfl (by first | exact .inl rfl | exact .inr rfl))) (sgs_cons (sg_n 8 (pg_name (i := 8) sc_keeps_steps.nd rfl (by first | exact .inl rfl | exact .inr rfl))) sgs_nil)))))
  (sp_one (sp_ret (ss_d (sd_and (sd_s (ss_c c_is_of hr (by first | decide | exact Nat.le_refl _ | omega) (by exact rfl) (al_cons (sf_n 1 (pv 1)) (al_cons (sf_d (sd_op oMul (sv_n 2 (pv 2)) (sv_n 6 (pv 6)))) (al_cons (sf_d (sd_op oMul (sv_n 4 (pv 4)) (sv_n 6 (pv 6)))) al_nil))))) (sd_one (sd_s (ss_c c_is_of hr (by first | decide | exact Nat.le_refl _ | omega) (by exact rfl) (al_cons (sf_n 1 (pv 1)) (al_cons (sf_d (sd_op oAdd (sv_d (sd_op oMul (sv_n 2 (pv 2)) (sv_n 7 (pv 7)))) (sv_d (sd_op oMul (sv_n 3 (pv 3)) (sv_n 8 (pv 8)))))) (al_cons (sf_d (sd_op oAdd (sv_d (sd_op oMul (sv_n 4 (pv 4)) (sv_n 7 (pv 7)))) (sv_d (sd_op oMul (sv_n 5 (pv 5)) (sv_n 8 (pv 8)))))) al_nil)))))))))))), hm, F.kp, hk⟩
theorem sc_count_kept : FnScope ["linear", "n", "steps"] ["linear", "n"] (defScope s_count_kept) := ⟨rfl, rfl, rfl, by decide +kernel, rfl, by decide +kernel, by decide +kernel⟩
theorem ok_count_kept (T : Txt K mg) {f : Addr} {fd : FuncData} (F : Fun K "count_kept" "count_kept" s_count_kept f fd) (hm : mg "count_kept" = some (.ref f)) (hk : Binds K fd ["linear", "n"] []) (c_keeps_steps : Cal P w K mg base "keeps_steps" 2 2 m_keeps_steps) (c_sublattices : Cal P w K mg base "sublattices" 1 1 m_sublattices) : Cal P w K mg base "count_kept" 3 2 m_count_kept :=
  ⟨f, fd, _, fn_ok (N := ["linear", "n", "steps"]) (g := b_count_kept) F sc_count_kept rfl fun cdv A outer s H E hr =>
  (sp_one (sp_ret (ss_d (cb_d (pe_callB cLen (by exact rfl) T.n_len (by decide +kernel) (wl_cons (sv_s (ss_lc rfl sc_count_kept.nd (si_seq (sd_s (ss_c c_sublattices hr (by first | decide | exact Nat.le_refl _ | omega) (by exact rfl) (al_cons (sf_n 1 (pv 1)) al_nil)))) (blkOk_by (own := [("steps", 2)]) (by first | decide +kernel | kernel_rfl)) (fun _ _ _ _ _ => (sg_n 2 (pg_name (i := 2) sc_count_kept.nd rfl (by first | exact .inl rfl | exact .inr rfl)))) (fun _ _ _ _ _ => (pts_one (st_v (sv_s (ss_c c_keeps_steps hr (by first | decide | exact Nat.le_refl _ | omega) (by exact rfl) (al_cons (sf_n 0 (pv 0)) (al_cons (sf_n 2 (pv 2)) al_nil))))))) (fun _ _ _ _ _ => (sd_n 2 (pv 2))))) wl_nil)))))), hm, F.kp, hk⟩
theorem sc_root_below : FnScope ["n", "told"] ["n"] (defScope s_root_below) := ⟨rfl, rfl, rfl, by decide +kernel, rfl, by decide +kernel, by decide +kernel⟩
theorem ok_root_below (T : Txt K mg) {f : Addr} {fd : FuncData} (F : Fun K "root_below" "root_below" s_root_below f fd) (hm : mg "root_below" = some (.ref f)) (hk : Binds K fd ["n"] [])  : Cal P w K mg base "root_below" 1 1 m_root_below :=
  ⟨f, fd, _, fn_ok (N := ["n", "told"]) (g := b_root_below) F sc_root_below rfl fun cdv A outer s H E hr =>
  (sp_cons (sp_st 1 (ps_set (i := 1) sc_root_below.nd rfl (by first | exact .inl rfl | exact .inr rfl) (ss_d sd_int)))
  (sp_cons (sp_while fuel PassesOwn.never (st_cmp (oLe) (nomark _) (sv_d (sd_op oMul (sv_d (sd_op oAdd (sv_n 1 (pv 1)) (sv_d sd_int))) (sv_d (sd_op oAdd (sv_n 1 (pv 1)) (sv_d sd_int))))) (sv_n 0 (pv 0)))
  (sp_one (sp_aug 1 (ps_aug (i := 1) sc_root_below.nd rfl (by first | exact .inl rfl | exact .inr rfl) (sv_d sd_int) iAdd))))
  (sp_one (sp_ret (ss_n 1 (pv 1)))))), hm, F.kp, hk⟩
theorem sc_count_square_ways : FnScope ["n", "top", "told", "x", "y"] ["n"] (defScope s_count_square_ways) := ⟨rfl, rfl, rfl, by decide +kernel, rfl, by decide +kernel, by decide +kernel⟩
theorem ok_count_square_ways (T : Txt K mg) {f : Addr} {fd : FuncData} (F : Fun K "count_square_ways" "count_square_ways" s_count_square_ways f fd) (hm : mg "count_square_ways" = some (.ref f)) (hk : Binds K fd ["n"] []) (c_root_below : Cal P w K mg base "root_below" 1 1 m_root_below) : Cal P w K mg base "count_square_ways" 2 1 m_count_square_ways :=
  ⟨f, fd, _, fn_ok (N := ["n", "top", "told", "x", "y"]) (g := b_count_square_ways) F sc_count_square_ways rfl fun cdv A outer s H E hr =>
  (sp_cons (sp_st 1 (ps_set (i := 1) sc_count_square_ways.nd rfl (by first | exact .inl rfl | exact .inr rfl) (ss_d (sd_s (ss_c c_root_below hr (by first | decide | exact Nat.le_refl _ | omega) (by exact rfl) (al_cons (sf_n 0 (pv 0)) al_nil))))))
  (sp_cons (sp_st 2 (ps_set (i := 2) sc_count_square_ways.nd rfl (by first | exact .inl rfl | exact .inr rfl) (ss_d sd_int)))
  (sp_cons (sp_for PassesOwn.never rfl (si_range2 (by exact rfl) T.n_range (wl_cons (sv_d (sd_un oNeg (sv_n 1 (pv 1)))) (wl_cons (sv_d (sd_op oAdd (sv_n 1 (pv 1)) (sv_d sd_int))) wl_nil))) (sg_n 3 (pg_name (i := 3) sc_count_square_ways.nd rfl (by first | exact .inl rfl | exact .inr rfl)))
  (sp_cons (sp_st 4 (ps_set (i := 4) sc_count_square_ways.nd rfl (by first | exact .inl rfl | exact .inr rfl) (ss_d (sd_s (ss_c c_root_below hr (by first | decide | exact Nat.le_refl _ | omega) (by exact rfl) (al_cons (sf_d (sd_op oSub (sv_n 0 (pv 0)) (sv_d (sd_op oMul (sv_n 3 (pv 3)) (sv_n 3 (pv 3)))))) al_nil))))))
  (sp_one (sp_if (st_cmp (oEq hr.units) (nomark _) (sv_d (sd_op oMul (sv_n 4 (pv 4)) (sv_n 4 (pv 4)))) (sv_d (sd_op oSub (sv_n 0 (pv 0)) (sv_d (sd_op oMul (sv_n 3 (pv 3)) (sv_n 3 (pv 3)))))))
  (sp_one (sp_aug 2 (ps_aug (i := 2) sc_count_square_ways.nd rfl (by first | exact .inl rfl | exact .inr rfl) (sv_d (sd_if (st_cmp (oEq hr.units) (nomark _) (sv_n 4 (pv 4)) (sv_d sd_int)) sd_int sd_int)) iAdd)))
  sp_nil))))
  (sp_one (sp_ret (ss_n 2 (pv 2))))))), hm, F.kp, hk⟩
theorem sc_count_hex_ways : FnScope ["n", "top", "told", "x", "rest", "root", "twice"] ["n"] (defScope s_count_hex_ways) := ⟨rfl, rfl, rfl, by decide +kernel, rfl, by decide +kernel, by decide +kernel⟩
theorem ok_count_hex_ways (T : Txt K mg) {f : Addr} {fd : FuncData} (F : Fun K "count_hex_ways" "count_hex_ways" s_count_hex_ways f fd) (hm : mg "count_hex_ways" = some (.ref f)) (hk : Binds K fd ["n"] []) (c_root_below : Cal P w K mg base "root_below" 1 1 m_root_below) : Cal P w K mg base "count_hex_ways" 2 1 m_count_hex_ways :=
  ⟨f, fd, _, fn_ok (N := ["n", "top", "told", "x", "rest", "root", "twice"]) (g := b_count_hex_ways) F sc_count_hex_ways rfl fun cdv A outer s H E hr =>
  (sp_cons (sp_st 1 (ps_set (i := 1) sc_count_hex_ways.nd rfl (by first | exact .inl rfl | exact .inr rfl) (ss_d (sd_s (ss_c c_root_below hr (by first | decide | exact Nat.le_refl _ | omega) (by exact rfl) (al_cons (sf_d (sd_op oDiv (sv_d (sd_op oMul (sv_d sd_int) (sv_n 0 (pv 0)))) (sv_d sd_int))) al_nil))))))
  (sp_cons (sp_st 2 (ps_set (i := 2) sc_count_hex_ways.nd rfl (by first | exact .inl rfl | exact .inr rfl) (ss_d sd_int)))
  (sp_cons (sp_for PassesOwn.never rfl (si_range2 (by exact rfl) T.n_range (wl_cons (sv_d (sd_un oNeg (sv_n 1 (pv 1)))) (wl_cons (sv_d (sd_op oAdd (sv_n 1 (pv 1)) (sv_d sd_int))) wl_nil))) (sg_n 3 (pg_name (i := 3) sc_count_hex_ways.nd rfl (by first | exact .inl rfl | exact .inr rfl)))
  (sp_cons (sp_st 4 (ps_set (i := 4) sc_count_hex_ways.nd rfl (by first | exact .inl rfl | exact .inr rfl) (ss_d (sd_op oSub (sv_d (sd_op oMul (sv_d sd_int) (sv_n 0 (pv 0)))) (sv_d (sd_op oMul (sv_d (sd_op oMul (sv_d sd_int) (sv_n 3 (pv 3)))) (sv_n 3 (pv 3))))))))
  (sp_cons (sp_st 5 (ps_set (i := 5) sc_count_hex_ways.nd rfl (by first | exact .inl rfl | exact .inr rfl) (ss_d (sd_if (st_cmp (oGe) (nomark _) (sv_n 4 (pv 4)) (sv_d sd_int)) (sd_s (ss_c c_root_below hr (by first | decide | exact Nat.le_refl _ | omega) (by exact rfl) (al_cons (sf_n 4 (pv 4)) al_nil))) sd_neg1))))
  (sp_one (sp_if (st_w (sw_and (st_cmp (oGe) (nomark _) (sv_n 5 (pv 5)) (sv_d sd_int)) (sw_and1 (st_cmp (oEq hr.units) (nomark _) (sv_d (sd_op oMul (sv_n 5 (pv 5)) (sv_n 5 (pv 5)))) (sv_n 4 (pv 4))))))
  (sp_one (sp_for PassesOwn.never rfl (si_seq (sd_s (ss_sortSet rfl (by exact rfl) T.n_sorted (by exact rfl) T.n_set (sv_s (ss_lst (dl_cons (sd_op oSub (sv_n 5 (pv 5)) (sv_n 3 (pv 3))) (dl_cons (sd_op oSub (sv_d (sd_un oNeg (sv_n 5 (pv 5)))) (sv_n 3 (pv 3))) dl_nil))))))) (sg_n 6 (pg_name (i := 6) sc_count_hex_ways.nd rfl (by first | exact .inl rfl | exact .inr rfl)))
  (sp_one (sp_aug 2 (ps_aug (i := 2) sc_count_hex_ways.nd rfl (by first | exact .inl rfl | exact .inr rfl) (sv_d (sd_if (st_cmp (oEq hr.units) (nomark _) (sv_d (sd_op oMod (sv_n 6 (pv 6)) (sv_d sd_int))) (sv_d sd_int)) sd_int sd_int)) iAdd)))))
  sp_nil)))))
  (sp_one (sp_ret (ss_n 2 (pv 2))))))), hm, F.kp, hk⟩
theorem sc__law_pick : FnScope ["state", "row"] ["state", "row"] (defScope s__law_pick) := ⟨rfl, rfl, rfl, by decide +kernel, rfl, by decide +kernel, by decide +kernel⟩
theorem ok__law_pick (T : Txt K mg) {f : Addr} {fd : FuncData} (F : Fun K "_law_pick" "_law_pick" s__law_pick f fd) (hm : mg "_law_pick" = some (.ref f)) (hk : Binds K fd ["state", "row"] []) (c__law_draw : Cal P w K mg base "_law_draw" 1 2 m__law_draw) : Cal P w K mg base "_law_pick" 2 2 m__law_pick :=
  ⟨f, fd, _, fn_ok (N := ["state", "row"]) (g := b__law_pick) F sc__law_pick rfl fun cdv A outer s H E hr =>
  (sp_one (sp_ret (ss_d (sd_ix oIx (sv_n 1 (pv 1)) (sv_s (ss_c c__law_draw hr (by first | decide | exact Nat.le_refl _ | omega) (by exact rfl) (al_cons (sf_n 0 (pv 0)) (al_cons (sf_d (cb_d (pe_callB cLen (by exact rfl) T.n_len (by decide +kernel) (wl_cons (sv_n 1 (pv 1)) wl_nil)))) al_nil)))))))), hm, F.kp, hk⟩
theorem sc__law_eq : FnScope ["told", "due", "k"] ["told", "due"] (defScope s__law_eq) := ⟨rfl, rfl, rfl, by decide +kernel, rfl, by decide +kernel, by decide +kernel⟩
theorem okr__law_eq (T : Txt K mg) {f : Addr} {fd : FuncData} (F : Fun K "_law_eq" "_law_eq" s__law_eq f fd) (hm : mg "_law_eq" = some (.ref f)) (hk : Binds K fd ["told", "due"] [])  : ∀ n : Nat, Cal P w K mg base "_law_eq" (1 + n) 2 (q__law_eq n)
  | 0 => ⟨f, fd, _, fn_ok (g := fun _ _ => false) F sc__law_eq rfl fun cdv A outer s H E hr => pss_false _, hm, F.kp, hk⟩
  | n + 1 => by
    have c__law_eq := okr__law_eq T F hm hk  n
    exact ⟨f, fd, _, fn_ok (N := ["told", "due", "k"]) (g := b__law_eq (q__law_eq n)) F sc__law_eq rfl fun cdv A outer s H E hr =>
  (sp_cons (sp_if (st_w (sw_or (st_v (sv_d (sd_isi (T := .list) (pe_callB call_isi (by exact rfl) T.n_isinstance (by decide +kernel) (pa_cons (sv_n 1 (pv 1)) (pa_cons (pe_bltn rfl T.n_list (by decide +kernel) rfl) pa_nil)))))) (sw_or1 (st_v (sv_d (sd_isi (T := .tuple) (pe_callB call_isi (by exact rfl) T.n_isinstance (by decide +kernel) (pa_cons (sv_n 1 (pv 1)) (pa_cons (pe_bltn rfl T.n_tuple (by decide +kernel) rfl) pa_nil)))))))))
  (sp_cons (sp_if (st_w (sw_or (st_cmp (oNe hr.units) (nomark _) (sv_d (sd_isi (T := .list) (pe_callB call_isi (by exact rfl) T.n_isinstance (by decide +kernel) (pa_cons (sv_n 0 (pv 0)) (pa_cons (pe_bltn rfl T.n_list (by decide +kernel) rfl) pa_nil))))) (sv_d (sd_isi (T := .list) (pe_callB call_isi (by exact rfl) T.n_isinstance (by decide +kernel) (pa_cons (sv_n 1 (pv 1)) (pa_cons (pe_bltn rfl T.n_list (by decide +kernel) rfl) pa_nil)))))) (sw_or1 (st_cmp (oNe hr.units) (nomark _) (sv_d (sd_isi (T := .tuple) (pe_callB call_isi (by exact rfl) T.n_isinstance (by decide +kernel) (pa_cons (sv_n 0 (pv 0)) (pa_cons (pe_bltn rfl T.n_tuple (by decide +kernel) rfl) pa_nil))))) (sv_d (sd_isi (T := .tuple) (pe_callB call_isi (by exact rfl) T.n_isinstance (by decide +kernel) (pa_cons (sv_n 1 (pv 1)) (pa_cons (pe_bltn rfl T.n_tuple (by decide +kernel) rfl) pa_nil)))))))))
  (sp_one (sp_ret (ss_d sd_bl)))
  sp_nil)
  (sp_cons (sp_if (st_cmp (oNe hr.units) (nomark _) (sv_d (cb_d (pe_callB cLen (by exact rfl) T.n_len (by decide +kernel) (wl_cons (sv_n 0 (pv 0)) wl_nil)))) (sv_d (cb_d (pe_callB cLen (by exact rfl) T.n_len (by decide +kernel) (wl_cons (sv_n 1 (pv 1)) wl_nil)))))
  (sp_one (sp_ret (ss_d sd_bl)))
  sp_nil)
  (sp_one (sp_ret (ss_d (sd_cmp (oEq hr.units) (nomark _) (sv_s (ss_lc rfl sc__law_eq.nd (si_range1 (by exact rfl) T.n_range (wl_cons (sv_d (cb_d (pe_callB cLen (by exact rfl) T.n_len (by decide +kernel) (wl_cons (sv_n 1 (pv 1)) wl_nil)))) wl_nil)) (blkOk_by (own := [("k", 2)]) (by first | decide +kernel | kernel_rfl)) (fun _ _ _ _ _ => (sg_n 2 (pg_name (i := 2) sc__law_eq.nd rfl (by first | exact .inl rfl | exact .inr rfl)))) (fun _ _ _ _ _ => (pts_one (st_not (st_v (sv_s (ss_c c__law_eq hr (by first | decide | exact Nat.le_refl _ | omega) (by exact rfl) (al_cons (sf_d (sd_ix oIx (sv_n 0 (pv 0)) (sv_n 2 (pv 2)))) (al_cons (sf_d (sd_ix oIx (sv_n 1 (pv 1)) (sv_n 2 (pv 2)))) al_nil)))))))) (fun _ _ _ _ _ => (sd_n 2 (pv 2))))) (sv_s (ss_lst dl_nil))))))))
  sp_nil)
  (sp_cons (sp_if (st_cmp (oIsN) (nomark _) (sv_n 1 (pv 1)) (sv_d sd_non))
  (sp_one (sp_ret (ss_d (sd_cmp (oIsN) (nomark _) (sv_n 0 (pv 0)) (sv_d sd_non)))))
  sp_nil)
  (sp_cons (sp_if (st_v (sv_d (sd_isi (T := .str) (pe_callB call_isi (by exact rfl) T.n_isinstance (by decide +kernel) (pa_cons (sv_n 1 (pv 1)) (pa_cons (pe_bltn rfl T.n_str (by decide +kernel) rfl) pa_nil))))))
  (sp_one (sp_ret (ss_d (sd_and (sd_isi (T := .str) (pe_callB call_isi (by exact rfl) T.n_isinstance (by decide +kernel) (pa_cons (sv_n 0 (pv 0)) (pa_cons (pe_bltn rfl T.n_str (by decide +kernel) rfl) pa_nil)))) (sd_one (sd_cmp (oEq hr.units) (nomark _) (sv_n 0 (pv 0)) (sv_n 1 (pv 1))))))))
  sp_nil)
  (sp_cons (sp_if (st_v (sv_d (sd_isi (T := .bool) (pe_callB call_isi (by exact rfl) T.n_isinstance (by decide +kernel) (pa_cons (sv_n 1 (pv 1)) (pa_cons (pe_bltn rfl T.n_bool (by decide +kernel) rfl) pa_nil))))))
  (sp_one (sp_ret (ss_d (sd_and (sd_isi (T := .bool) (pe_callB call_isi (by exact rfl) T.n_isinstance (by decide +kernel) (pa_cons (sv_n 0 (pv 0)) (pa_cons (pe_bltn rfl T.n_bool (by decide +kernel) rfl) pa_nil)))) (sd_one (sd_cmp (oEq hr.units) (nomark _) (sv_n 0 (pv 0)) (sv_n 1 (pv 1))))))))
  sp_nil)
  (sp_one (sp_ret (ss_d (sd_and (sd_isi (T := .int) (pe_callB call_isi (by exact rfl) T.n_isinstance (by decide +kernel) (pa_cons (sv_n 0 (pv 0)) (pa_cons (pe_bltn rfl T.n_int (by decide +kernel) rfl) pa_nil)))) (sd_and (sd_not (sv_d (sd_isi (T := .bool) (pe_callB call_isi (by exact rfl) T.n_isinstance (by decide +kernel) (pa_cons (sv_n 0 (pv 0)) (pa_cons (pe_bltn rfl T.n_bool (by decide +kernel) rfl) pa_nil)))))) (sd_one (sd_cmp (oEq hr.units) (nomark _) (sv_n 0 (pv 0)) (sv_n 1 (pv 1))))))))))))), hm, F.kp, hk⟩
theorem ok__law_eq (T : Txt K mg) {f : Addr} {fd : FuncData} (F : Fun K "_law_eq" "_law_eq" s__law_eq f fd) (hm : mg "_law_eq" = some (.ref f)) (hk : Binds K fd ["told", "due"] [])  : Cal P w K mg base "_law_eq" 9 2 m__law_eq := okr__law_eq T F hm hk  8
theorem sc__law_of : FnScope ["steps", "x", "y", "a", "b", "c"] ["steps", "x", "y"] (defScope s__law_of) := ⟨rfl, rfl, rfl, by decide +kernel, rfl, by decide +kernel, by decide +kernel⟩
theorem ok__law_of (T : Txt K mg) {f : Addr} {fd : FuncData} (F : Fun K "_law_of" "_law_of" s__law_of f fd) (hm : mg "_law_of" = some (.ref f)) (hk : Binds K fd ["steps", "x", "y"] [])  : Cal P w K mg base "_law_of" 1 3 m__law_of :=
  ⟨f, fd, _, fn_ok (N := ["steps", "x", "y", "a", "b", "c"]) (g := b__law_of) F sc__law_of rfl fun cdv A outer s H E hr =>
  (sp_cons (sp_asg (sd_n 0 (pv 0)) (sg_tup rfl (sgs_cons (sg_n 3 (pg_name (i := 3) sc__law_of.nd rfl (by first | exact .inl rfl | exact .inr rfl))) (sgs_cons (sg_n 4 (pg_name (i := 4) sc__law_of.nd rfl (by first | exact .inl rfl | exact .inr rfl))) (sgs_cons (sg_n 5 (pg_name (i := 5) sc__law_of.nd rfl (by first | exact .inl rfl | exact .inr rfl))) sgs_nil)))))
  (sp_one (sp_ret (ss_d (sd_and (sd_cmp (oEq hr.units) (nomark _) (sv_d (sd_op oMod (sv_d (cb_d (pe_callTy cInt (by exact rfl) T.n_int (by decide +kernel) (wl_cons (sv_n 2 (pv 2)) wl_nil)))) (sv_n 5 (pv 5)))) (sv_d sd_int)) (sd_one (sd_cmp (oEq hr.units) (nomark _) (sv_d (sd_op oMod (sv_d (cb_d (pe_callTy cInt (by exact rfl) T.n_int (by decide +kernel) (wl_cons (sv_d (sd_op oSub (sv_n 1 (pv 1)) (sv_d (sd_op oMul (sv_d (sd_op oDiv (sv_n 2 (pv 2)) (sv_n 5 (pv 5)))) (sv_n 4 (pv 4)))))) wl_nil)))) (sv_n 3 (pv 3)))) (sv_d sd_int)))))))), hm, F.kp, hk⟩
theorem sc__law_keeps : FnScope ["linear", "steps", "p", "q", "r", "s", "a", "b", "c"] ["linear", "steps"] (defScope s__law_keeps) := ⟨rfl, rfl, rfl, by decide +kernel, rfl, by decide +kernel, by decide +kernel⟩
theorem ok__law_keeps (T : Txt K mg) {f : Addr} {fd : FuncData} (F : Fun K "_law_keeps" "_law_keeps" s__law_keeps f fd) (hm : mg "_law_keeps" = some (.ref f)) (hk : Binds K fd ["linear", "steps"] []) (c__law_of : Cal P w K mg base "_law_of" 1 3 m__law_of) : Cal P w K mg base "_law_keeps" 2 2 m__law_keeps :=
  ⟨f, fd, _, fn_ok (N := ["linear", "steps", "p", "q", "r", "s", "a", "b", "c"]) (g := b__law_keeps) F sc__law_keeps rfl fun cdv A outer s H E hr =>
  (sp_cons (sp_asg (sd_n 0 (pv 0)) (sg_tup rfl (sgs_cons (sg_tup rfl (sgs_cons (sg_n 2 (pg_name (i := 2) sc__law_keeps.nd rfl (by first | exact .inl rfl | exact .inr rfl))) (sgs_cons (sg_n 3 (pg_name (i := 3) sc__law_keeps.nd rfl (by first | exact .inl rfl | exact .inr rfl))) sgs_nil))) (sgs_cons (sg_tup rfl (sgs_cons (sg_n 4 (pg_name (i := 4) sc__law_keeps.nd rfl (by first | exact .inl rfl | exact .inr rfl))) (sgs_cons (sg_n 5 (pg_name (i := 5) sc__law_keeps.nd rfl (by first | exact .inl rfl | exact .inr rfl))) sgs_nil))) sgs_nil))))
  (sp_cons (sp_asg (sd_n 1 (pv 1)) (sg_tup rfl (sgs_cons (sg_n 6 (pg_name (i := 6) sc__law_keeps.nd rfl (by first | exact .inl rfl | exact .inr rfl))) (sgs_cons (sg_n 7 (pg_name (i := 7) sc__law_keeps.nd rfl (by first | exact .inl rfl | exact .inr rfl))) (sgs_cons (sg_n 8 (pg_name (i := 8) sc__law_keeps.nd rfl (by first | exact .inl rfl | exact .inr rfl))) sgs_nil)))))
  (sp_one (sp_ret (ss_d (sd_and (sd_s (ss_c c__law_of hr (by first | decide | exact Nat.le_refl _ | omega) (by exact rfl) (al_cons (sf_n 1 (pv 1)) (al_cons (sf_d (sd_op oMul (sv_n 2 (pv 2)) (sv_n 6 (pv 6)))) (al_cons (sf_d (sd_op oMul (sv_n 4 (pv 4)) (sv_n 6 (pv 6)))) al_nil))))) (sd_one (sd_s (ss_c c__law_of hr (by first | decide | exact Nat.le_refl _ | omega) (by exact rfl) (al_cons (sf_n 1 (pv 1)) (al_cons (sf_d (sd_op oAdd (sv_d (sd_op oMul (sv_n 2 (pv 2)) (sv_n 7 (pv 7)))) (sv_d (sd_op oMul (sv_n 3 (pv 3)) (sv_n 8 (pv 8)))))) (al_cons (sf_d (sd_op oAdd (sv_d (sd_op oMul (sv_n 4 (pv 4)) (sv_n 7 (pv 7)))) (sv_d (sd_op oMul (sv_n 5 (pv 5)) (sv_n 8 (pv 8)))))) al_nil)))))))))))), hm, F.kp, hk⟩
theorem sc__law_rows : FnScope ["one", "other", "n", "told", "steps", "row", "x", "y"] ["one", "other", "n"] (defScope s__law_rows) := ⟨rfl, rfl, rfl, by decide +kernel, rfl, by decide +kernel, by decide +kernel⟩
theorem ok__law_rows (T : Txt K mg) {f : Addr} {fd : FuncData} (F : Fun K "_law_rows" "_law_rows" s__law_rows f fd) (hm : mg "_law_rows" = some (.ref f)) (hk : Binds K fd ["one", "other", "n"] []) (c__law_of : Cal P w K mg base "_law_of" 1 3 m__law_of) : Cal P w K mg base "_law_rows" 2 3 m__law_rows :=
  ⟨f, fd, _, fn_ok (N := ["one", "other", "n", "told", "steps", "row", "x", "y"]) (g := b__law_rows) F sc__law_rows rfl fun cdv A outer s H E hr =>
  (sp_cons (sp_st 3 (ps_set (i := 3) sc__law_rows.nd rfl (by first | exact .inl rfl | exact .inr rfl) (ss_lst dl_nil)))
  (sp_cons (sp_for PassesOwn.never rfl (si_seq (sd_s (ss_lst (dl_cons (sd_n 0 (pv 0)) (dl_cons (sd_n 1 (pv 1)) dl_nil))))) (sg_n 4 (pg_name (i := 4) sc__law_rows.nd rfl (by first | exact .inl rfl | exact .inr rfl)))
  (sp_cons (sp_st 5 (ps_set (i := 5) sc__law_rows.nd rfl (by first | exact .inl rfl | exact .inr rfl) (ss_d (sd_s (ss_lst dl_nil)))))
  (sp_cons (sp_for PassesOwn.never rfl (si_range1 (by exact rfl) T.n_range (wl_cons (sv_n 2 (pv 2)) wl_nil)) (sg_n 6 (pg_name (i := 6) sc__law_rows.nd rfl (by first | exact .inl rfl | exact .inr rfl)))
  (sp_one (sp_st 5 (ps_set (i := 5) sc__law_rows.nd rfl (by first | exact .inl rfl | exact .inr rfl) (ss_d (sd_s (ss_op oCat (sv_n 5 (pv 5)) (sv_s (ss_lc rfl sc__law_rows.nd (si_range1 (by exact rfl) T.n_range (wl_cons (sv_n 2 (pv 2)) wl_nil)) (blkOk_by (own := [("y", 7)]) (by first | decide +kernel | kernel_rfl)) (fun _ _ _ _ _ => (sg_n 7 (pg_name (i := 7) sc__law_rows.nd rfl (by first | exact .inl rfl | exact .inr rfl)))) (fun _ _ _ _ _ => (pts_one (st_v (sv_s (ss_c c__law_of hr (by first | decide | exact Nat.le_refl _ | omega) (by exact rfl) (al_cons (sf_n 4 (pv 4)) (al_cons (sf_n 6 (pv 6)) (al_cons (sf_n 7 (pv 7)) al_nil)))))))) (fun _ _ _ _ _ => (sd_tup (dl_cons (sd_n 6 (pv 6)) (dl_cons (sd_n 7 (pv 7)) dl_nil)))))))))))))
  (sp_one (sp_app 3 (ps_expr (pe_bm PySem.F.plainAttrs_list PySem.F.slot_list_append PySem.F.type_list_append mt_append (pv 3) (pa_cons (sd_n 5 (pv 5)) pa_nil))))))))
  (sp_one (sp_retN 3 (pv 3))))), hm, F.kp, hk⟩
theorem sc_law : FnScope ["script", "state", "n", "due", "a", "linear", "kept", "steps", "i", "j", "pairs", "squares", "hexes", "x", "y", "m", "b", "d"] ["script"] (defScope s_law) := ⟨rfl, rfl, rfl, by decide +kernel, rfl, by decide +kernel, by decide +kernel⟩
theorem ok_law (hg : lawB = true) {f fS : Addr} {fd fdS : FuncData} (F : Fun K "law" "law" s_law f fd) (T : Txt K mg) (GS : FnOk P w K mg base CX0 1 fS fdS ["script"] (spState K)) (mS : mg "_law_state" = some (.ref fS)) (kS : PySem.W.keepIn K (.ref fS) = true) (bS : Binds K fdS ["script"] []) (c__law_draw : Cal P w K mg base "_law_draw" 1 2 m__law_draw) (c__law_eq : Cal P w K mg base "_law_eq" 9 2 m__law_eq) (c__law_keeps : Cal P w K mg base "_law_keeps" 2 2 m__law_keeps) (c__law_pick : Cal P w K mg base "_law_pick" 2 2 m__law_pick) (c__law_rows : Cal P w K mg base "_law_rows" 2 3 m__law_rows) (c_count_hex_ways : Cal P w K mg base "count_hex_ways" 2 1 m_count_hex_ways) (c_count_kept : Cal P w K mg base "count_kept" 3 2 m_count_kept) (c_count_square_ways : Cal P w K mg base "count_square_ways" 2 1 m_count_square_ways) (c_keeps_steps : Cal P w K mg base "keeps_steps" 2 2 m_keeps_steps) (c_sublattices : Cal P w K mg base "sublattices" 1 1 m_sublattices) : FnOk P w K mg base CX0 10 f fd ["script"] (spLaw K) := by
  refine F.ok sc_law (fun vs H Q E h => ?_) (fun cdv A outer s H vs Q E hr h => ?_)
  · obtain ⟨a, ns, rfl, _⟩ := h
    rfl
  obtain ⟨a, ns, rfl, hS, hl, q⟩ := h
  refine ⟨_, pss_cons (ps_set (i := 1) sc_law.nd rfl (by first | exact .inl rfl | exact .inr rfl) (pe_call GS (hr.mono (by decide)) rfl mS kS bS .nil pass0 (pa_cons (pv 0) pa_nil)))
    (sp_cons (sp_st 2 (ps_set (i := 2) sc_law.nd rfl (by first | exact .inl rfl | exact .inr rfl) (ss_d (sd_op oAdd (sv_d sd_int) (sv_s (ss_c c__law_draw hr (by first | decide | exact Nat.le_refl _ | omega) (by exact rfl) (al_cons (sf_n 1 (pv 1)) (al_cons (sf_d sd_int) al_nil))))))))
  (sp_cons (sp_st 3 (ps_set (i := 3) sc_law.nd rfl (by first | exact .inl rfl | exact .inr rfl) (ss_d (sd_s (ss_lst dl_nil)))))
  (sp_cons (sp_for PassesOwn.never rfl (si_range2 (by exact rfl) T.n_range (wl_cons (sv_d sd_int) (wl_cons (sv_d (sd_op oAdd (sv_n 2 (pv 2)) (sv_d sd_int))) wl_nil))) (sg_n 4 (pg_name (i := 4) sc_law.nd rfl (by first | exact .inl rfl | exact .inr rfl)))
  (sp_one (sp_if (st_cmp (oEq hr.units) (nomark _) (sv_d (sd_op oMod (sv_d (cb_d (pe_callTy cInt (by exact rfl) T.n_int (by decide +kernel) (wl_cons (sv_n 2 (pv 2)) wl_nil)))) (sv_n 4 (pv 4)))) (sv_d sd_int))
  (sp_one (sp_st 3 (ps_set (i := 3) sc_law.nd rfl (by first | exact .inl rfl | exact .inr rfl) (ss_d (sd_s (ss_op oCat (sv_n 3 (pv 3)) (sv_s (ss_lc rfl sc_law.nd (si_range1 (by exact rfl) T.n_range (wl_cons (sv_n 4 (pv 4)) wl_nil)) (blkOk_by (own := [("b", 16)]) (by first | decide +kernel | kernel_rfl)) (fun _ _ _ _ _ => (sg_n 16 (pg_name (i := 16) sc_law.nd rfl (by first | exact .inl rfl | exact .inr rfl)))) (fun _ _ _ _ _ => st_yes) (fun _ _ _ _ _ => (sd_tup (dl_cons (sd_n 4 (pv 4)) (dl_cons (sd_n 16 (pv 16)) (dl_cons (sd_op oDiv (sv_n 2 (pv 2)) (sv_n 4 (pv 4))) dl_nil)))))))))))))
  sp_nil)))
  (sp_cons (sp_if (st_w (sw_or (st_not (st_v (sv_s (ss_c c__law_eq hr (by first | decide | exact Nat.le_refl _ | omega) (by exact rfl) (al_cons (sf_s (ss_c c_sublattices hr (by first | decide | exact Nat.le_refl _ | omega) (by exact rfl) (al_cons (sf_n 2 (pv 2)) al_nil))) (al_cons (sf_n 3 (pv 3)) al_nil)))))) (sw_or1 (st_cmp (oNe hr.units) (nomark _) (sv_d (cb_d (pe_callB cLen (by exact rfl) T.n_len (by decide +kernel) (wl_cons (sv_n 3 (pv 3)) wl_nil)))) (sv_d (cb_d (pe_callB (cSum rfl) (by exact rfl) T.n_sum (by decide +kernel) (wl_cons (sv_s (ss_lc rfl sc_law.nd (si_range2 (by exact rfl) T.n_range (wl_cons (sv_d sd_int) (wl_cons (sv_d (sd_op oAdd (sv_n 2 (pv 2)) (sv_d sd_int))) wl_nil))) (blkOk_by (own := [("d", 17)]) (by first | decide +kernel | kernel_rfl)) (fun _ _ _ _ _ => (sg_n 17 (pg_name (i := 17) sc_law.nd rfl (by first | exact .inl rfl | exact .inr rfl)))) (fun _ _ _ _ _ => (pts_one (st_cmp (oEq hr.units) (nomark _) (sv_d (sd_op oMod (sv_d (cb_d (pe_callTy cInt (by exact rfl) T.n_int (by decide +kernel) (wl_cons (sv_n 2 (pv 2)) wl_nil)))) (sv_n 17 (pv 17)))) (sv_d sd_int)))) (fun _ _ _ _ _ => (sd_n 17 (pv 17))))) wl_nil))))))))
  (sp_one (sp_ret (ss_d sd_bl)))
  sp_nil)
  (sp_cons (sp_st 5 (ps_set (i := 5) sc_law.nd rfl (by first | exact .inl rfl | exact .inr rfl) (ss_d (sd_s (ss_c c__law_pick hr (by first | decide | exact Nat.le_refl _ | omega) (by exact rfl) (al_cons (sf_n 1 (pv 1)) (al_cons (sf_s (ss_lst (dl_cons (sd_tup (dl_cons (sd_tup (dl_cons sd_int (dl_cons sd_int dl_nil))) (dl_cons (sd_tup (dl_cons sd_int (dl_cons sd_int dl_nil))) dl_nil))) (dl_cons (sd_tup (dl_cons (sd_tup (dl_cons sd_neg1 (dl_cons sd_int dl_nil))) (dl_cons (sd_tup (dl_cons sd_int (dl_cons sd_neg1 dl_nil))) dl_nil))) (dl_cons (sd_tup (dl_cons (sd_tup (dl_cons sd_int (dl_cons sd_neg1 dl_nil))) (dl_cons (sd_tup (dl_cons sd_int (dl_cons sd_int dl_nil))) dl_nil))) (dl_cons (sd_tup (dl_cons (sd_tup (dl_cons sd_int (dl_cons sd_neg1 dl_nil))) (dl_cons (sd_tup (dl_cons sd_int (dl_cons sd_neg1 dl_nil))) dl_nil))) (dl_cons (sd_tup (dl_cons (sd_tup (dl_cons sd_int (dl_cons sd_neg1 dl_nil))) (dl_cons (sd_tup (dl_cons sd_int (dl_cons sd_int dl_nil))) dl_nil))) (dl_cons (sd_tup (dl_cons (sd_tup (dl_cons sd_int (dl_cons sd_int dl_nil))) (dl_cons (sd_tup (dl_cons sd_int (dl_cons sd_neg1 dl_nil))) dl_nil))) (dl_cons (sd_tup (dl_cons (sd_tup (dl_cons sd_int (dl_cons sd_int dl_nil))) (dl_cons (sd_tup (dl_cons sd_int (dl_cons sd_int dl_nil))) dl_nil))) (dl_cons (sd_tup (dl_cons (sd_tup (dl_cons sd_int (dl_cons sd_neg1 dl_nil))) (dl_cons (sd_tup (dl_cons sd_neg1 (dl_cons sd_int dl_nil))) dl_nil))) dl_nil)))))))))) al_nil)))))))
  (sp_cons (sp_stLcF 6 (ps_setLc (i := 6) rfl sc_law.nd rfl rfl (sw_true rfl rfl rfl (by decide +kernel)) (si_seq (sd_n 3 (pv 3))) (blkOk_by (own := [("steps", 7)]) (by first | decide +kernel | kernel_rfl)) (fun _ _ _ _ _ => (sg_n 7 (pg_name (i := 7) sc_law.nd rfl (by first | exact .inl rfl | exact .inr rfl)))) (fun _ _ _ _ _ => (pts_one (st_v (sv_s (ss_c c__law_keeps hr (by first | decide | exact Nat.le_refl _ | omega) (by exact rfl) (al_cons (sf_n 5 (pv 5)) (al_cons (sf_n 7 (pv 7)) al_nil))))))) (fun _ _ _ _ _ => (sd_n 7 (pv 7)))))
  (sp_cons (sp_st 7 (ps_set (i := 7) sc_law.nd rfl (by first | exact .inl rfl | exact .inr rfl) (ss_d (sd_s (ss_c c__law_pick hr (by first | decide | exact Nat.le_refl _ | omega) (by exact rfl) (al_cons (sf_n 1 (pv 1)) (al_cons (sf_n 3 (pv 3)) al_nil)))))))
  (sp_cons (sp_if (st_w (sw_or (st_not (st_v (sv_s (ss_c c__law_eq hr (by first | decide | exact Nat.le_refl _ | omega) (by exact rfl) (al_cons (sf_s (ss_c c_count_kept hr (by first | decide | exact Nat.le_refl _ | omega) (by exact rfl) (al_cons (sf_n 5 (pv 5)) (al_cons (sf_n 2 (pv 2)) al_nil)))) (al_cons (sf_d (cb_d (pe_callB cLen (by exact rfl) T.n_len (by decide +kernel) (wl_cons (sv_n 6 (pv 6)) wl_nil)))) al_nil)))))) (sw_or1 (st_not (st_v (sv_s (ss_c c__law_eq hr (by first | decide | exact Nat.le_refl _ | omega) (by exact rfl) (al_cons (sf_s (ss_c c_keeps_steps hr (by first | decide | exact Nat.le_refl _ | omega) (by exact rfl) (al_cons (sf_n 5 (pv 5)) (al_cons (sf_n 7 (pv 7)) al_nil)))) (al_cons (sf_d (sd_cmp (oIn (hu65 hr)) (by rfl) (sv_n 7 (pv 7)) (sv_n 6 (pv 6)))) al_nil)))))))))
  (sp_one (sp_ret (ss_d sd_bl)))
  sp_nil)
  (sp_cons (sp_par 8 9 (ps_par (i := 8) (j := 9) rfl sc_law.nd rfl rfl (by first | decide | exact Nat.le_refl _ | omega) (by exact rfl) rfl (dl_cons (sd_s (ss_c c__law_draw hr (by first | decide | exact Nat.le_refl _ | omega) (by exact rfl) (al_cons (sf_n 1 (pv 1)) (al_cons (sf_d (cb_d (pe_callB cLen (by exact rfl) T.n_len (by decide +kernel) (wl_cons (sv_n 3 (pv 3)) wl_nil)))) al_nil)))) (dl_cons (sd_s (ss_c c__law_draw hr (by first | decide | exact Nat.le_refl _ | omega) (by exact rfl) (al_cons (sf_n 1 (pv 1)) (al_cons (sf_d (cb_d (pe_callB cLen (by exact rfl) T.n_len (by decide +kernel) (wl_cons (sv_n 3 (pv 3)) wl_nil)))) al_nil)))) dl_nil)) (by rfl)))
  (sp_cons (sp_if (st_w (sw_and (st_cmp (oLt) (nomark _) (sv_n 2 (pv 2)) (sv_d sd_int)) (sw_and1 (st_cmp (oNe hr.units) (nomark _) (sv_n 8 (pv 8)) (sv_n 9 (pv 9))))))
  (sp_cons (sp_st 10 (ps_set (i := 10) sc_law.nd rfl (by first | exact .inl rfl | exact .inr rfl) (ss_d (sd_s (ss_c c__law_rows hr (by first | decide | exact Nat.le_refl _ | omega) (by exact rfl) (al_cons (sf_d (sd_ix oIx (sv_n 3 (pv 3)) (sv_n 8 (pv 8)))) (al_cons (sf_d (sd_ix oIx (sv_n 3 (pv 3)) (sv_n 9 (pv 9)))) (al_cons (sf_n 2 (pv 2)) al_nil))))))))
  (sp_one (sp_if (st_cmp (oEq hr.units) (nomark _) (sv_d (sd_ix oIx (sv_n 10 (pv 10)) (sv_d sd_int))) (sv_d (sd_ix oIx (sv_n 10 (pv 10)) (sv_d sd_int))))
  (sp_one (sp_ret (ss_d sd_bl)))
  sp_nil)))
  sp_nil)
  (sp_cons (sp_asg (sd_tup (dl_cons sd_int (dl_cons sd_int dl_nil))) (sg_tup rfl (sgs_cons (sg_n 11 (pg_name (i := 11) sc_law.nd rfl (by first | exact .inl rfl | exact .inr rfl))) (sgs_cons (sg_n 12 (pg_name (i := 12) sc_law.nd rfl (by first | exact .inl rfl | exact .inr rfl))) sgs_nil))))
  (sp_cons (sp_for PassesOwn.never rfl (si_range2 (by exact rfl) T.n_range (wl_cons (sv_d sd_neg1) (wl_cons (sv_d sd_int) wl_nil))) (sg_n 13 (pg_name (i := 13) sc_law.nd rfl (by first | exact .inl rfl | exact .inr rfl)))
  (sp_one (sp_for PassesOwn.never rfl (si_range2 (by exact rfl) T.n_range (wl_cons (sv_d sd_neg1) (wl_cons (sv_d sd_int) wl_nil))) (sg_n 14 (pg_name (i := 14) sc_law.nd rfl (by first | exact .inl rfl | exact .inr rfl)))
  (sp_one (sp_st 11 (ps_set (i := 11) sc_law.nd rfl (by first | exact .inl rfl | exact .inr rfl) (ss_d (sd_op oAdd (sv_n 11 (pv 11)) (sv_d (cb_d (pe_callTy cInt (by exact rfl) T.n_int (by decide +kernel) (wl_cons (sv_d (sd_cmp (oEq hr.units) (nomark _) (sv_d (sd_op oAdd (sv_d (sd_op oMul (sv_n 13 (pv 13)) (sv_n 13 (pv 13)))) (sv_d (sd_op oMul (sv_n 14 (pv 14)) (sv_n 14 (pv 14)))))) (sv_n 2 (pv 2)))) wl_nil))))))))))))
  (sp_cons (sp_for PassesOwn.never rfl (si_range2 (by exact rfl) T.n_range (wl_cons (sv_d sd_neg1) (wl_cons (sv_d sd_int) wl_nil))) (sg_n 13 (pg_name (i := 13) sc_law.nd rfl (by first | exact .inl rfl | exact .inr rfl)))
  (sp_one (sp_for PassesOwn.never rfl (si_range2 (by exact rfl) T.n_range (wl_cons (sv_d sd_neg1) (wl_cons (sv_d sd_int) wl_nil))) (sg_n 14 (pg_name (i := 14) sc_law.nd rfl (by first | exact .inl rfl | exact .inr rfl)))
  (sp_one (sp_st 12 (ps_set (i := 12) sc_law.nd rfl (by first | exact .inl rfl | exact .inr rfl) (ss_d (sd_op oAdd (sv_n 12 (pv 12)) (sv_d (cb_d (pe_callTy cInt (by exact rfl) T.n_int (by decide +kernel) (wl_cons (sv_d (sd_cmp (oEq hr.units) (nomark _) (sv_d (sd_op oAdd (sv_d (sd_op oAdd (sv_d (sd_op oMul (sv_n 13 (pv 13)) (sv_n 13 (pv 13)))) (sv_d (sd_op oMul (sv_n 13 (pv 13)) (sv_n 14 (pv 14)))))) (sv_d (sd_op oMul (sv_n 14 (pv 14)) (sv_n 14 (pv 14)))))) (sv_n 2 (pv 2)))) wl_nil))))))))))))
  (sp_cons (sp_if (st_w (sw_or (st_not (st_v (sv_s (ss_c c__law_eq hr (by first | decide | exact Nat.le_refl _ | omega) (by exact rfl) (al_cons (sf_s (ss_c c_count_square_ways hr (by first | decide | exact Nat.le_refl _ | omega) (by exact rfl) (al_cons (sf_n 2 (pv 2)) al_nil))) (al_cons (sf_n 11 (pv 11)) al_nil)))))) (sw_or1 (st_not (st_v (sv_s (ss_c c__law_eq hr (by first | decide | exact Nat.le_refl _ | omega) (by exact rfl) (al_cons (sf_s (ss_c c_count_hex_ways hr (by first | decide | exact Nat.le_refl _ | omega) (by exact rfl) (al_cons (sf_n 2 (pv 2)) al_nil))) (al_cons (sf_n 12 (pv 12)) al_nil)))))))))
  (sp_one (sp_ret (ss_d sd_bl)))
  sp_nil)
  (sp_cons (sp_if (st_w (sw_or (st_cmp (oNe hr.units) (nomark _) (sv_d (sd_op oMul (sv_d sd_int) (sv_s (ss_c c_count_kept hr (by first | decide | exact Nat.le_refl _ | omega) (by exact rfl) (al_cons (sf_d (sd_tup (dl_cons (sd_tup (dl_cons sd_int (dl_cons sd_neg1 dl_nil))) (dl_cons (sd_tup (dl_cons sd_int (dl_cons sd_int dl_nil))) dl_nil)))) (al_cons (sf_n 2 (pv 2)) al_nil)))))) (sv_n 11 (pv 11))) (sw_or1 (st_cmp (oNe hr.units) (nomark _) (sv_d (sd_op oMul (sv_d sd_int) (sv_s (ss_c c_count_kept hr (by first | decide | exact Nat.le_refl _ | omega) (by exact rfl) (al_cons (sf_d (sd_tup (dl_cons (sd_tup (dl_cons sd_int (dl_cons sd_neg1 dl_nil))) (dl_cons (sd_tup (dl_cons sd_int (dl_cons sd_neg1 dl_nil))) dl_nil)))) (al_cons (sf_n 2 (pv 2)) al_nil)))))) (sv_n 12 (pv 12))))))
  (sp_one (sp_ret (ss_d sd_bl)))
  sp_nil)
  (sp_cons (sp_st 15 (ps_set (i := 15) sc_law.nd rfl (by first | exact .inl rfl | exact .inr rfl) (ss_d (sd_op oAdd (sv_d sd_int) (sv_s (ss_c c__law_draw hr (by first | decide | exact Nat.le_refl _ | omega) (by exact rfl) (al_cons (sf_n 1 (pv 1)) (al_cons (sf_d sd_int) al_nil))))))))
  (sp_cons (sp_if (st_w (sw_and (st_cmp (oEq hr.units) (nomark _) (sv_d (cb_d (pe_callB cLen (by exact rfl) T.n_len (by decide +kernel) (wl_cons (sv_s (ss_lc rfl sc_law.nd (si_range2 (by exact rfl) T.n_range (wl_cons (sv_d sd_int) (wl_cons (sv_d (sd_op oAdd (sv_d (cb_d (pe_callB (cMin2 rfl) (by exact rfl) T.n_min (by decide +kernel) (wl_cons (sv_n 2 (pv 2)) (wl_cons (sv_n 15 (pv 15)) wl_nil))))) (sv_d sd_int))) wl_nil))) (blkOk_by (own := [("d", 17)]) (by first | decide +kernel | kernel_rfl)) (fun _ _ _ _ _ => (sg_n 17 (pg_name (i := 17) sc_law.nd rfl (by first | exact .inl rfl | exact .inr rfl)))) (fun _ _ _ _ _ => (pts_one (st_w (sw_and (st_cmp (oEq hr.units) (nomark _) (sv_d (sd_op oMod (sv_d (cb_d (pe_callTy cInt (by exact rfl) T.n_int (by decide +kernel) (wl_cons (sv_n 2 (pv 2)) wl_nil)))) (sv_n 17 (pv 17)))) (sv_d sd_int)) (sw_and1 (st_cmp (oEq hr.units) (nomark _) (sv_d (sd_op oMod (sv_d (cb_d (pe_callTy cInt (by exact rfl) T.n_int (by decide +kernel) (wl_cons (sv_n 15 (pv 15)) wl_nil)))) (sv_n 17 (pv 17)))) (sv_d sd_int))))))) (fun _ _ _ _ _ => (sd_n 17 (pv 17))))) wl_nil)))) (sv_d sd_int)) (sw_and1 (st_cmp (oLt) (nomark _) (sv_d (sd_op oMul (sv_n 2 (pv 2)) (sv_n 15 (pv 15)))) (sv_d sd_int)))))
  (sp_one (sp_ret (ss_d (sd_cmp (oEq hr.units) (nomark _) (sv_s (ss_c c_count_kept hr (by first | decide | exact Nat.le_refl _ | omega) (by exact rfl) (al_cons (sf_n 5 (pv 5)) (al_cons (sf_d (sd_op oMul (sv_n 2 (pv 2)) (sv_n 15 (pv 15)))) al_nil)))) (sv_d (sd_op oMul (sv_s (ss_c c_count_kept hr (by first | decide | exact Nat.le_refl _ | omega) (by exact rfl) (al_cons (sf_n 5 (pv 5)) (al_cons (sf_n 2 (pv 2)) al_nil)))) (sv_s (ss_c c_count_kept hr (by first | decide | exact Nat.le_refl _ | omega) (by exact rfl) (al_cons (sf_n 5 (pv 5)) (al_cons (sf_n 15 (pv 15)) al_nil))))))))))
  sp_nil)
  (sp_one (sp_ret (ss_d sd_bl)))))))))))))))))))), ?_⟩
  refine ⟨_, rfl, a, ns, rfl, hS, hl, fun st c H' ht => ?_⟩
  exact law_read (n := 18) (g := b_law) hg (a := a) (st := st) (c := c) (Nat.le_refl 18) (by first | decide | exact Nat.le_refl _ | omega) (by exact rfl) ht q
end
theorem all_mk (hg : lawB = true) {l : PySem.W.OpenLaw} {w : World} {K : PySem.W.Frag} {h : Heap} {mg : Str → Option Value} {fa : Addr} (X : K.In h) (G : h.Ns mainGlobals mg) (hfa : mg "law" = some (.ref fa))
  {od0 an0 : Option Addr} {sl0 : Array (Option Value)} {oc0 kV0 dc0 pm0 cd0 ct0 : Value} {f0 : Addr}
  {od1 an1 : Option Addr} {sl1 : Array (Option Value)} {oc1 kV1 dc1 pm1 cd1 ct1 : Value} {f1 : Addr}
  {od2 an2 : Option Addr} {sl2 : Array (Option Value)} {oc2 kV2 dc2 pm2 cd2 ct2 : Value} {f2 : Addr}
  {od3 an3 : Option Addr} {sl3 : Array (Option Value)} {oc3 kV3 dc3 pm3 cd3 ct3 : Value} {f3 : Addr}
  {od4 an4 : Option Addr} {sl4 : Array (Option Value)} {oc4 kV4 dc4 pm4 cd4 ct4 : Value} {f4 : Addr}
  {od5 an5 : Option Addr} {sl5 : Array (Option Value)} {oc5 kV5 dc5 pm5 cd5 ct5 : Value} {f5 : Addr}
  {od6 an6 : Option Addr} {sl6 : Array (Option Value)} {oc6 kV6 dc6 pm6 cd6 ct6 : Value} {f6 : Addr}
  {od7 an7 : Option Addr} {sl7 : Array (Option Value)} {oc7 kV7 dc7 pm7 cd7 ct7 : Value} {f7 : Addr}
  {od8 an8 : Option Addr} {sl8 : Array (Option Value)} {oc8 kV8 dc8 pm8 cd8 ct8 : Value} {f8 : Addr}
  {od9 an9 : Option Addr} {sl9 : Array (Option Value)} {oc9 kV9 dc9 pm9 cd9 ct9 : Value} {f9 : Addr}
  {od10 an10 : Option Addr} {sl10 : Array (Option Value)} {oc10 kV10 dc10 pm10 cd10 ct10 : Value} {f10 : Addr}
  {od11 an11 : Option Addr} {sl11 : Array (Option Value)} {oc11 kV11 dc11 pm11 cd11 ct11 : Value} {f11 : Addr}
  {od12 an12 : Option Addr} {sl12 : Array (Option Value)} {oc12 kV12 dc12 pm12 cd12 ct12 : Value} {f12 : Addr}
  {od13 an13 : Option Addr} {sl13 : Array (Option Value)} {oc13 kV13 dc13 pm13 cd13 ct13 : Value} {f13 : Addr}
  {od14 an14 : Option Addr} {sl14 : Array (Option Value)} {oc14 kV14 dc14 pm14 cd14 ct14 : Value} {f14 : Addr}
  (a0 : PySem.W.nsIn K mainGlobals "sublattices" = some (some (.ref f0))) (l0 : K.lookup f0 = some ⟨oc0, od0, .func (PySem.W.fnOf "sublattices" "sublattices" (defArgs s_sublattices) (defBody s_sublattices) (defScope s_sublattices) .none kV0 dc0 pm0 an0 cd0 ct0), sl0⟩) (c0 : PySem.W.codeIn K cd0 "sublattices" = true) (k0 : PySem.W.keepIn K (.ref f0) = true)
  (a1 : PySem.W.nsIn K mainGlobals "is_of" = some (some (.ref f1))) (l1 : K.lookup f1 = some ⟨oc1, od1, .func (PySem.W.fnOf "is_of" "is_of" (defArgs s_is_of) (defBody s_is_of) (defScope s_is_of) .none kV1 dc1 pm1 an1 cd1 ct1), sl1⟩) (c1 : PySem.W.codeIn K cd1 "is_of" = true) (k1 : PySem.W.keepIn K (.ref f1) = true)
  (a2 : PySem.W.nsIn K mainGlobals "keeps_steps" = some (some (.ref f2))) (l2 : K.lookup f2 = some ⟨oc2, od2, .func (PySem.W.fnOf "keeps_steps" "keeps_steps" (defArgs s_keeps_steps) (defBody s_keeps_steps) (defScope s_keeps_steps) .none kV2 dc2 pm2 an2 cd2 ct2), sl2⟩) (c2 : PySem.W.codeIn K cd2 "keeps_steps" = true) (k2 : PySem.W.keepIn K (.ref f2) = true)
  (a3 : PySem.W.nsIn K mainGlobals "count_kept" = some (some (.ref f3))) (l3 : K.lookup f3 = some ⟨oc3, od3, .func (PySem.W.fnOf "count_kept" "count_kept" (defArgs s_count_kept) (defBody s_count_kept) (defScope s_count_kept) .none kV3 dc3 pm3 an3 cd3 ct3), sl3⟩) (c3 : PySem.W.codeIn K cd3 "count_kept" = true) (k3 : PySem.W.keepIn K (.ref f3) = true)
  (a4 : PySem.W.nsIn K mainGlobals "root_below" = some (some (.ref f4))) (l4 : K.lookup f4 = some ⟨oc4, od4, .func (PySem.W.fnOf "root_below" "root_below" (defArgs s_root_below) (defBody s_root_below) (defScope s_root_below) .none kV4 dc4 pm4 an4 cd4 ct4), sl4⟩) (c4 : PySem.W.codeIn K cd4 "root_below" = true) (k4 : PySem.W.keepIn K (.ref f4) = true)
  (a5 : PySem.W.nsIn K mainGlobals "count_square_ways" = some (some (.ref f5))) (l5 : K.lookup f5 = some ⟨oc5, od5, .func (PySem.W.fnOf "count_square_ways" "count_square_ways" (defArgs s_count_square_ways) (defBody s_count_square_ways) (defScope s_count_square_ways) .none kV5 dc5 pm5 an5 cd5 ct5), sl5⟩) (c5 : PySem.W.codeIn K cd5 "count_square_ways" = true) (k5 : PySem.W.keepIn K (.ref f5) = true)
  (a6 : PySem.W.nsIn K mainGlobals "count_hex_ways" = some (some (.ref f6))) (l6 : K.lookup f6 = some ⟨oc6, od6, .func (PySem.W.fnOf "count_hex_ways" "count_hex_ways" (defArgs s_count_hex_ways) (defBody s_count_hex_ways) (defScope s_count_hex_ways) .none kV6 dc6 pm6 an6 cd6 ct6), sl6⟩) (c6 : PySem.W.codeIn K cd6 "count_hex_ways" = true) (k6 : PySem.W.keepIn K (.ref f6) = true)
  (a7 : PySem.W.nsIn K mainGlobals "_law_state" = some (some (.ref f7))) (l7 : K.lookup f7 = some ⟨oc7, od7, .func (PySem.W.fnOf "_law_state" "_law_state" (defArgs s__law_state) (defBody s__law_state) (defScope s__law_state) .none kV7 dc7 pm7 an7 cd7 ct7), sl7⟩) (c7 : PySem.W.codeIn K cd7 "_law_state" = true) (k7 : PySem.W.keepIn K (.ref f7) = true)
  (a8 : PySem.W.nsIn K mainGlobals "_law_draw" = some (some (.ref f8))) (l8 : K.lookup f8 = some ⟨oc8, od8, .func (PySem.W.fnOf "_law_draw" "_law_draw" (defArgs s__law_draw) (defBody s__law_draw) (defScope s__law_draw) .none kV8 dc8 pm8 an8 cd8 ct8), sl8⟩) (c8 : PySem.W.codeIn K cd8 "_law_draw" = true) (k8 : PySem.W.keepIn K (.ref f8) = true)
  (a9 : PySem.W.nsIn K mainGlobals "_law_pick" = some (some (.ref f9))) (l9 : K.lookup f9 = some ⟨oc9, od9, .func (PySem.W.fnOf "_law_pick" "_law_pick" (defArgs s__law_pick) (defBody s__law_pick) (defScope s__law_pick) .none kV9 dc9 pm9 an9 cd9 ct9), sl9⟩) (c9 : PySem.W.codeIn K cd9 "_law_pick" = true) (k9 : PySem.W.keepIn K (.ref f9) = true)
  (a10 : PySem.W.nsIn K mainGlobals "_law_eq" = some (some (.ref f10))) (l10 : K.lookup f10 = some ⟨oc10, od10, .func (PySem.W.fnOf "_law_eq" "_law_eq" (defArgs s__law_eq) (defBody s__law_eq) (defScope s__law_eq) .none kV10 dc10 pm10 an10 cd10 ct10), sl10⟩) (c10 : PySem.W.codeIn K cd10 "_law_eq" = true) (k10 : PySem.W.keepIn K (.ref f10) = true)
  (a11 : PySem.W.nsIn K mainGlobals "_law_of" = some (some (.ref f11))) (l11 : K.lookup f11 = some ⟨oc11, od11, .func (PySem.W.fnOf "_law_of" "_law_of" (defArgs s__law_of) (defBody s__law_of) (defScope s__law_of) .none kV11 dc11 pm11 an11 cd11 ct11), sl11⟩) (c11 : PySem.W.codeIn K cd11 "_law_of" = true) (k11 : PySem.W.keepIn K (.ref f11) = true)
  (a12 : PySem.W.nsIn K mainGlobals "_law_keeps" = some (some (.ref f12))) (l12 : K.lookup f12 = some ⟨oc12, od12, .func (PySem.W.fnOf "_law_keeps" "_law_keeps" (defArgs s__law_keeps) (defBody s__law_keeps) (defScope s__law_keeps) .none kV12 dc12 pm12 an12 cd12 ct12), sl12⟩) (c12 : PySem.W.codeIn K cd12 "_law_keeps" = true) (k12 : PySem.W.keepIn K (.ref f12) = true)
  (a13 : PySem.W.nsIn K mainGlobals "_law_rows" = some (some (.ref f13))) (l13 : K.lookup f13 = some ⟨oc13, od13, .func (PySem.W.fnOf "_law_rows" "_law_rows" (defArgs s__law_rows) (defBody s__law_rows) (defScope s__law_rows) .none kV13 dc13 pm13 an13 cd13 ct13), sl13⟩) (c13 : PySem.W.codeIn K cd13 "_law_rows" = true) (k13 : PySem.W.keepIn K (.ref f13) = true)
  (a14 : PySem.W.nsIn K mainGlobals "law" = some (some (.ref f14))) (l14 : K.lookup f14 = some ⟨oc14, od14, .func (PySem.W.fnOf "law" "law" (defArgs s_law) (defBody s_law) (defScope s_law) .none kV14 dc14 pm14 an14 cd14 ct14), sl14⟩) (c14 : PySem.W.codeIn K cd14 "law" = true) (k14 : PySem.W.keepIn K (.ref f14) = true)
  (z_abs : PySem.W.nsIn K mainGlobals "abs" = some none)
  (z_bool : PySem.W.nsIn K mainGlobals "bool" = some none)
  (z_int : PySem.W.nsIn K mainGlobals "int" = some none)
  (z_isinstance : PySem.W.nsIn K mainGlobals "isinstance" = some none)
  (z_len : PySem.W.nsIn K mainGlobals "len" = some none)
  (z_list : PySem.W.nsIn K mainGlobals "list" = some none)
  (z_min : PySem.W.nsIn K mainGlobals "min" = some none)
  (z_range : PySem.W.nsIn K mainGlobals "range" = some none)
  (z_set : PySem.W.nsIn K mainGlobals "set" = some none)
  (z_sorted : PySem.W.nsIn K mainGlobals "sorted" = some none)
  (z_str : PySem.W.nsIn K mainGlobals "str" = some none)
  (z_sum : PySem.W.nsIn K mainGlobals "sum" = some none)
  (z_tuple : PySem.W.nsIn K mainGlobals "tuple" = some none) :
  ∃ fd : FuncData, (∀ (s : Shared) (v : Value), BindsTo s fd ⟨[v], []⟩ [("script", v)]) ∧ ∀ base : Heap, K.In base → base.Ns mainGlobals mg → FnOk l.prog w K mg base CX0 10 fa fd ["script"] (spLaw K) := by
  have e := hfa.symm.trans (PySem.W.mg_of X G a14)
  cases e
  have T : Txt K mg := { n_abs := PySem.W.mg_none_of X G z_abs, n_bool := PySem.W.mg_none_of X G z_bool, n_int := PySem.W.mg_none_of X G z_int, n_isinstance := PySem.W.mg_none_of X G z_isinstance, n_len := PySem.W.mg_none_of X G z_len, n_list := PySem.W.mg_none_of X G z_list, n_min := PySem.W.mg_none_of X G z_min, n_range := PySem.W.mg_none_of X G z_range, n_set := PySem.W.mg_none_of X G z_set, n_sorted := PySem.W.mg_none_of X G z_sorted, n_str := PySem.W.mg_none_of X G z_str, n_sum := PySem.W.mg_none_of X G z_sum, n_tuple := PySem.W.mg_none_of X G z_tuple }
  have F0 := fun_mk (st := s_sublattices) l0 c0 k0
  have b0 := F0.binds (ps := ["n"]) fun _ _ _ _ _ _ us hl => match us, hl with | [_], _ => rfl
  have F1 := fun_mk (st := s_is_of) l1 c1 k1
  have b1 := F1.binds (ps := ["steps", "x", "y"]) fun _ _ _ _ _ _ us hl => match us, hl with | [_, _, _], _ => rfl
  have F2 := fun_mk (st := s_keeps_steps) l2 c2 k2
  have b2 := F2.binds (ps := ["linear", "steps"]) fun _ _ _ _ _ _ us hl => match us, hl with | [_, _], _ => rfl
  have F3 := fun_mk (st := s_count_kept) l3 c3 k3
  have b3 := F3.binds (ps := ["linear", "n"]) fun _ _ _ _ _ _ us hl => match us, hl with | [_, _], _ => rfl
  have F4 := fun_mk (st := s_root_below) l4 c4 k4
  have b4 := F4.binds (ps := ["n"]) fun _ _ _ _ _ _ us hl => match us, hl with | [_], _ => rfl
  have F5 := fun_mk (st := s_count_square_ways) l5 c5 k5
  have b5 := F5.binds (ps := ["n"]) fun _ _ _ _ _ _ us hl => match us, hl with | [_], _ => rfl
  have F6 := fun_mk (st := s_count_hex_ways) l6 c6 k6
  have b6 := F6.binds (ps := ["n"]) fun _ _ _ _ _ _ us hl => match us, hl with | [_], _ => rfl
  have F7 := fun_mk (st := s__law_state) l7 c7 k7
  have b7 := F7.binds (ps := ["script"]) fun _ _ _ _ _ _ us hl => match us, hl with | [_], _ => rfl
  have F8 := fun_mk (st := s__law_draw) l8 c8 k8
  have b8 := F8.binds (ps := ["state", "many"]) fun _ _ _ _ _ _ us hl => match us, hl with | [_, _], _ => rfl
  have F9 := fun_mk (st := s__law_pick) l9 c9 k9
  have b9 := F9.binds (ps := ["state", "row"]) fun _ _ _ _ _ _ us hl => match us, hl with | [_, _], _ => rfl
  have F10 := fun_mk (st := s__law_eq) l10 c10 k10
  have b10 := F10.binds (ps := ["told", "due"]) fun _ _ _ _ _ _ us hl => match us, hl with | [_, _], _ => rfl
  have F11 := fun_mk (st := s__law_of) l11 c11 k11
  have b11 := F11.binds (ps := ["steps", "x", "y"]) fun _ _ _ _ _ _ us hl => match us, hl with | [_, _, _], _ => rfl
  have F12 := fun_mk (st := s__law_keeps) l12 c12 k12
  have b12 := F12.binds (ps := ["linear", "steps"]) fun _ _ _ _ _ _ us hl => match us, hl with | [_, _], _ => rfl
  have F13 := fun_mk (st := s__law_rows) l13 c13 k13
  have b13 := F13.binds (ps := ["one", "other", "n"]) fun _ _ _ _ _ _ us hl => match us, hl with | [_, _, _], _ => rfl
  have F14 := fun_mk (st := s_law) l14 c14 k14
  have b14 := F14.binds (ps := ["script"]) fun _ _ _ _ _ _ us hl => match us, hl with | [_], _ => rfl
  refine ⟨PySem.W.fnOf "law" "law" (defArgs s_law) (defBody s_law) (defScope s_law) .none kV14 dc14 pm14 an14 cd14 ct14, fun s v => .of_eq rfl, fun base _ _ => ?_⟩
  have g_sublattices := ok_sublattices (P := l.prog) (w := w) (base := base) T F0 (PySem.W.mg_of X G a0) b0 
  have g_is_of := ok_is_of (P := l.prog) (w := w) (base := base) T F1 (PySem.W.mg_of X G a1) b1 
  have g_keeps_steps := ok_keeps_steps (P := l.prog) (w := w) (base := base) T F2 (PySem.W.mg_of X G a2) b2 g_is_of
  have g_count_kept := ok_count_kept (P := l.prog) (w := w) (base := base) T F3 (PySem.W.mg_of X G a3) b3 g_keeps_steps g_sublattices
  have g_root_below := ok_root_below (P := l.prog) (w := w) (base := base) T F4 (PySem.W.mg_of X G a4) b4 
  have g_count_square_ways := ok_count_square_ways (P := l.prog) (w := w) (base := base) T F5 (PySem.W.mg_of X G a5) b5 g_root_below
  have g_count_hex_ways := ok_count_hex_ways (P := l.prog) (w := w) (base := base) T F6 (PySem.W.mg_of X G a6) b6 g_root_below
  have GS := ok_state (P := l.prog) (w := w) (base := base) F7 T.n_abs T.n_int
  have g__law_draw : Cal l.prog w K mg base "_law_draw" 1 2 mDraw := ⟨_, _, _, ok_draw F8 T.n_len T.n_int, PySem.W.mg_of X G a8, k8, b8⟩
  have g__law_pick := ok__law_pick (P := l.prog) (w := w) (base := base) T F9 (PySem.W.mg_of X G a9) b9 g__law_draw
  have g__law_eq := ok__law_eq (P := l.prog) (w := w) (base := base) T F10 (PySem.W.mg_of X G a10) b10 
  have g__law_of := ok__law_of (P := l.prog) (w := w) (base := base) T F11 (PySem.W.mg_of X G a11) b11 
  have g__law_keeps := ok__law_keeps (P := l.prog) (w := w) (base := base) T F12 (PySem.W.mg_of X G a12) b12 g__law_of
  have g__law_rows := ok__law_rows (P := l.prog) (w := w) (base := base) T F13 (PySem.W.mg_of X G a13) b13 g__law_of
  exact ok_law hg F14 T GS (PySem.W.mg_of X G a7) k7 b7 g__law_draw g__law_eq g__law_keeps g__law_pick g__law_rows g_count_hex_ways g_count_kept g_count_square_ways g_keeps_steps g_sublattices
theorem walk (hg : lawB = true) {l : PySem.W.OpenLaw} {q : Program} {loose : List Str} {XP : (Str → Option Value) → Heap → Prop} {YP : World → Heap → Prop} {d : DefRec} {K : Params → PySem.W.Frag} (hn : l.most = some 63) (hdf : d.params.defaults = [])
    (hY : ∀ (w : World) (h : Heap), YP w h → (K w.params).In h)
    (F : ∀ (w : World) (mg : Str → Option Value) (fa : Addr) (h : Heap), (K w.params).In h → h.Ns mainGlobals mg → mg d.name = some (.ref fa) →
      ∃ fd : FuncData, (∀ (s : Shared) (u : Value), BindsTo s fd ⟨[u], []⟩ [("script", u)]) ∧ ∀ base : Heap, (K w.params).In base → base.Ns mainGlobals mg → FnOk l.prog w (K w.params) mg base CX0 10 fa fd ["script"] (spLaw (K w.params))) :
    PySem.W.WalkO q loose XP YP l.row.toRowW d [] (fun f vs => PySem.call f vs) :=
  L2.walk_of (n := 63) (k := 10) (x := "script") (CX := fun _ => CX0) (sp := fun w => spLaw (K w.params)) hn (by decide) hdf ⟨rfl, by decide, by decide⟩ hY F (fun _ _ a ns hl _ hS => ⟨a, ns, rfl, hS, hl, fun _ => rfl⟩) fun _ _ _ _ _ z => z
end Law

open PySem PySem.W PyProof.Rows
set_option maxRecDepth 100000 in
set_option maxHeartbeats 0 in
theorem PySem.Challenge.cw_ornamentwright_k39_whole_smaller_lattice_holds : PySem.Challenge.rw_ornamentwright_k39_whole_smaller_lattice.Holds := by
  w_on; o_law; k_head; (case hw => w_witness2)
  k_fill
  refine Law.walk Law.lawB_true (l := PySem.Challenge.rw_ornamentwright_k39_whole_smaller_lattice) rfl rfl (fun w h Y => PySem.W.kIn_of Y) ?F
  case F =>
    intro w mg fa h KX G hmg
    refine' Law.all_mk Law.lawB_true KX G hmg ?a0 ?l0 ?c0 ?k0 ?a1 ?l1 ?c1 ?k1 ?a2 ?l2 ?c2 ?k2 ?a3 ?l3 ?c3 ?k3 ?a4 ?l4 ?c4 ?k4 ?a5 ?l5 ?c5 ?k5 ?a6 ?l6 ?c6 ?k6 ?a7 ?l7 ?c7 ?k7 ?a8 ?l8 ?c8 ?k8 ?a9 ?l9 ?c9 ?k9 ?a10 ?l10 ?c10 ?k10 ?a11 ?l11 ?c11 ?k11 ?a12 ?l12 ?c12 ?k12 ?a13 ?l13 ?c13 ?k13 ?a14 ?l14 ?c14 ?k14 ?z_abs ?z_bool ?z_int ?z_isinstance ?z_len ?z_list ?z_min ?z_range ?z_set ?z_sorted ?z_str ?z_sum ?z_tuple
    (case a0 => k_is); (case l0 => k_is); (case c0 => k_is); (case k0 => k_is); (case a1 => k_is); (case l1 => k_is); (case c1 => k_is); (case k1 => k_is); (case a2 => k_is); (case l2 => k_is); (case c2 => k_is); (case k2 => k_is); (case a3 => k_is); (case l3 => k_is); (case c3 => k_is); (case k3 => k_is); (case a4 => k_is); (case l4 => k_is); (case c4 => k_is); (case k4 => k_is); (case a5 => k_is); (case l5 => k_is); (case c5 => k_is); (case k5 => k_is); (case a6 => k_is); (case l6 => k_is); (case c6 => k_is); (case k6 => k_is); (case a7 => k_is); (case l7 => k_is); (case c7 => k_is); (case k7 => k_is); (case a8 => k_is); (case l8 => k_is); (case c8 => k_is); (case k8 => k_is); (case a9 => k_is); (case l9 => k_is); (case c9 => k_is); (case k9 => k_is); (case a10 => k_is); (case l10 => k_is); (case c10 => k_is); (case k10 => k_is); (case a11 => k_is); (case l11 => k_is); (case c11 => k_is); (case k11 => k_is); (case a12 => k_is); (case l12 => k_is); (case c12 => k_is); (case k12 => k_is); (case a13 => k_is); (case l13 => k_is); (case c13 => k_is); (case k13 => k_is); (case a14 => k_is); (case l14 => k_is); (case c14 => k_is); (case k14 => k_is); (case z_abs => k_is); (case z_bool => k_is); (case z_int => k_is); (case z_isinstance => k_is); (case z_len => k_is); (case z_list => k_is); (case z_min => k_is); (case z_range => k_is); (case z_set => k_is); (case z_sorted => k_is); (case z_str => k_is); (case z_sum => k_is); (case z_tuple => k_is)

