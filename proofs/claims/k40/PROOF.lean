import PyProof.Rows.All
import Wide.All
import OpenK.AllK
import Wide.FinOn
import HandS.ForMost
import HandS.Exc
import HandS.TryOnly
import HandS.ExcOwn
import HandS.WordsExc
import HandS.IsInst
import HandS.TupAny
import HandS.Deep
import HandS.StrMore
import HandS.RaiseMore
import HandS.TupLe
import HandS.CallLocal
import HandS.ExcInit
import HandS.ExcField
import HandS.TryMany
import HandS.Iter
import HandS.Zip
import HandS.Style
import KE.GoesEnum
import PySem.Challenge.RW_joinedagain_k40_spelling_at_breaks
set_option Elab.async false
set_option linter.all false
set_option maxRecDepth 100000
set_option maxHeartbeats 8000000
set_option autoImplicit false
/-! The data layer: what a Python function does, over plain data (PyData), with lists of its own that it fills. -/
namespace DL
open PySem PySem.Spec L2

abbrev D := PyData
abbrev Fg := PySem.W.Frag

/-- a number of few bits (told by Nat, so that nothing is counted down) -/
def fitZ (b : Nat) (n : Int) : Bool := Nat.blt n.natAbs b
theorem fitZ_ok {b : Nat} {n : Int} (h : fitZ b n = true) : -(b : Int) < n ∧ n < b := by
  unfold fitZ at h
  have h := Nat.le_of_ble_eq_true h
  omega
theorem fitZ_of {b : Nat} {n : Int} (h : n.natAbs < b) : fitZ b n = true := Nat.ble_eq_true_of_le h
/-! ### heaps -/
theorem same_rd {H H' : Hp} {a : Addr} {u : HO} (e : Same H H') (h : Rd H a u) : Rd H' a u := by
  rcases h with h | ⟨o, h⟩
  · exact .inl (e a _ h)
  · exact .inr ⟨o, e a _ h⟩
theorem same_l {K : Fg} {H H' : Hp} {a : Addr} {xs : List V} (e : Same H H') (h : SqL K H a xs) : SqL K H' a xs := by
  rcases h with h | h
  · exact .inl (same_rd e h)
  · exact .inr h
theorem same_t {K : Fg} {H H' : Hp} {a : Addr} {xs : List V} (e : Same H H') (h : SqT K H a xs) : SqT K H' a xs := by
  rcases h with h | h
  · exact .inl (same_rd e h)
  · exact .inr h
/-! a value is plain data: numbers, texts, lists and tuples of such (lists that stand in H) -/
mutual
inductive Rp (K : Fg) (H : Hp) : V → D → Prop
  | non : Rp K H .non .none
  | bl (b : Bool) : Rp K H (.bl b) (.bool b)
  | int (i : Int) : Rp K H (.int i) (.int i)
  | str (x : Str) : Rp K H (.str x) (.str x)
  | lst {a : Addr} {xs : List V} {ds : List D} : SqL K H a xs → RpAll K H xs ds → Rp K H (.ref a) (.list ds)
  | tup {a : Addr} {xs : List V} {ds : List D} : SqT K H a xs → RpAll K H xs ds → Rp K H (.ref a) (.tuple ds)
inductive RpAll (K : Fg) (H : Hp) : List V → List D → Prop
  | nil : RpAll K H [] []
  | cons {v : V} {vs : List V} {d : D} {ds : List D} : Rp K H v d → RpAll K H vs ds → RpAll K H (v :: vs) (d :: ds)
end
mutual
theorem dp_mono {K : Fg} {H H' : Hp} (e : Same H H') : ∀ (d : D) (v : V), Rp K H v d → Rp K H' v d
  | .none, _, h => by cases h; exact .non
  | .bool b, _, h => by cases h; exact .bl b
  | .int i, _, h => by cases h; exact .int i
  | .str x, _, h => by cases h; exact .str x
  | .list ds, _, h => by
    cases h with
    | lst hs ha => exact .lst (same_l e hs) (dps_mono e ds _ ha)
  | .tuple ds, _, h => by
    cases h with
    | tup hs ha => exact .tup (same_t e hs) (dps_mono e ds _ ha)
  | .dict _, _, h => by cases h
theorem dps_mono {K : Fg} {H H' : Hp} (e : Same H H') : ∀ (ds : List D) (vs : List V), RpAll K H vs ds → RpAll K H' vs ds
  | [], _, h => by cases h; exact .nil
  | d :: ds, _, h => by
    cases h with
    | cons h1 h2 => exact .cons (dp_mono e d _ h1) (dps_mono e ds _ h2)
end
mutual
theorem rp_dp {K : Fg} {H : Hp} : ∀ (d : D) (v : V), Rp K H v d → Dp K H v d
  | .none, _, h => by cases h; exact .non
  | .bool b, _, h => by cases h; exact .bl b
  | .int i, _, h => by cases h; exact .int i
  | .str x, _, h => by cases h; exact .str x
  | .list ds, _, h => by
    cases h with
    | lst hs ha => exact .lst hs (rps_dp ds _ ha)
  | .tuple ds, _, h => by
    cases h with
    | tup hs ha => exact .tup hs (rps_dp ds _ ha)
  | .dict _, _, h => by cases h
theorem rps_dp {K : Fg} {H : Hp} : ∀ (ds : List D) (vs : List V), RpAll K H vs ds → DpAll K H vs ds
  | [], _, h => by cases h; exact .nil
  | d :: ds, _, h => by
    cases h with
    | cons h1 h2 => exact .cons (rp_dp d _ h1) (rps_dp ds _ h2)
end
section
variable {K : Fg} {J H : Hp}
theorem dps_len : ∀ {vs : List V} {ds : List D}, RpAll K H vs ds → vs.length = ds.length
  | _, _, .nil => rfl
  | _, _, .cons _ t => congrArg (· + 1) (dps_len t)
theorem dps_get : ∀ {vs : List V} {ds : List D} {i : Nat} {d : D}, RpAll K H vs ds → ds[i]? = some d → ∃ v, vs[i]? = some v ∧ Rp K H v d
  | _, _, _, _, .nil, e => by simp at e
  | _, _, 0, _, .cons r _, e => by simp at e; subst e; exact ⟨_, rfl, r⟩
  | _, _, i + 1, d, .cons _ t, e => by
    obtain ⟨u, h1, h2⟩ := dps_get (i := i) (d := d) t (by simpa using e)
    exact ⟨u, by simpa using h1, h2⟩
theorem dps_get' {vs : List V} {ds : List D} {i : Nat} {v : V} (h : RpAll K H vs ds) (e : vs[i]? = some v) : ∃ d, ds[i]? = some d ∧ Rp K H v d := by
  have hi := (List.getElem?_eq_some_iff.mp e).1
  rw [dps_len h] at hi
  obtain ⟨u, h1, h2⟩ := dps_get h (List.getElem?_eq_getElem hi)
  rw [e] at h1
  cases h1
  exact ⟨_, List.getElem?_eq_getElem hi, h2⟩
theorem dps_append : ∀ {xs ys : List V} {ds es : List D}, RpAll K H xs ds → RpAll K H ys es → RpAll K H (xs ++ ys) (ds ++ es)
  | _, _, _, _, .nil, s => s
  | _, _, _, _, .cons r t, s => .cons r (dps_append t s)
theorem dps_take : ∀ {xs : List V} {ds : List D} (n : Nat), RpAll K H xs ds → RpAll K H (xs.take n) (ds.take n)
  | _, _, 0, _ => .nil
  | _, _, _ + 1, .nil => .nil
  | _, _, n + 1, .cons r t => .cons r (dps_take n t)
theorem dps_drop : ∀ {xs : List V} {ds : List D} (n : Nat), RpAll K H xs ds → RpAll K H (xs.drop n) (ds.drop n)
  | _, _, 0, r => r
  | _, _, _ + 1, .nil => .nil
  | _, _, n + 1, .cons _ t => dps_drop n t
theorem dps_set {x : V} {d : D} (r : Rp K H x d) : ∀ {xs : List V} {ds : List D} (i : Nat), RpAll K H xs ds → RpAll K H (xs.set i x) (ds.set i d)
  | _, _, _, .nil => .nil
  | _, _, 0, .cons _ t => .cons r t
  | _, _, i + 1, .cons q t => .cons q (dps_set r i t)
theorem dps_erase : ∀ {xs : List V} {ds : List D} (i : Nat), RpAll K H xs ds → RpAll K H (xs.eraseIdx i) (ds.eraseIdx i)
  | _, _, _, .nil => .nil
  | _, _, 0, .cons _ t => t
  | _, _, i + 1, .cons q t => .cons q (dps_erase i t)
theorem dps_dropLast {xs : List V} {ds : List D} (h : RpAll K H xs ds) : RpAll K H xs.dropLast ds.dropLast := by
  rw [List.dropLast_eq_take, List.dropLast_eq_take, dps_len h]
  exact dps_take _ h
theorem dps_rep {xs : List V} {ds : List D} (h : RpAll K H xs ds) : ∀ k : Nat, RpAll K H (List.replicate k xs).flatten (List.replicate k ds).flatten
  | 0 => .nil
  | k + 1 => by
    rw [List.replicate_succ, List.replicate_succ, List.flatten_cons, List.flatten_cons]
    exact dps_append h (dps_rep h k)
theorem dps_ints : ∀ (ns : List Int), RpAll K H (ns.map V.int) (ns.map PyData.int)
  | [] => .nil
  | n :: ns => .cons (.int n) (dps_ints ns)
theorem dps_strs : ∀ (ns : List Str), RpAll K H (ns.map V.str) (ns.map PyData.str)
  | [] => .nil
  | n :: ns => .cons (.str n) (dps_strs ns)
end

/-- from J, H to J', H': new objects alone, some of them plain data -/
structure Grow (J H J' H' : Hp) : Prop where
  j : Same J J'
  jh : Same J' H'
  old : ∀ a o, H a = some o → H' a = some o ∧ J' a = J a
theorem Grow.refl {J H : Hp} (e : Same J H) : Grow J H J H := ⟨.refl _, e, fun _ _ h => ⟨h, rfl⟩⟩
theorem Grow.h {J H J' H' : Hp} (g : Grow J H J' H') : Same H H' := fun a o h => (g.old a o h).1
theorem Grow.trans {J H J1 H1 J2 H2 : Hp} (a : Grow J H J1 H1) (b : Grow J1 H1 J2 H2) : Grow J H J2 H2 :=
  ⟨a.j.trans b.j, b.jh, fun x o h => by
    obtain ⟨h1, h2⟩ := a.old x o h
    obtain ⟨h3, h4⟩ := b.old x o h1
    exact ⟨h3, h4.trans h2⟩⟩
theorem same_new {H : Hp} {p : Addr} {o : HO} (h : H p = none) : Same H (upd H p o) := fun b x e => by
  rw [upd_ne (ne_of_none e h)]
  exact e
theorem same_upd2 {J H : Hp} {p : Addr} {o : HO} (e : Same J H) : Same (upd J p o) (upd H p o) := fun b x h => by
  by_cases q : b = p
  · subst q
    rw [upd_same] at h ⊢
    exact h
  · rw [upd_ne q] at h ⊢
    exact e _ _ h
theorem same_free {J H : Hp} {p : Addr} (e : Same J H) (h : H p = none) : J p = none := e.free h
theorem Grow.new {J H : Hp} {p : Addr} {o : HO} (e : Same J H) (h : H p = none) : Grow J H (upd J p o) (upd H p o) :=
  ⟨same_new (same_free e h), same_upd2 e, fun a u q => by
    have ne := ne_of_none q h
    rw [upd_ne ne, upd_ne ne]
    exact ⟨q, rfl⟩⟩
/-- a new object that is not plain data (yet) -/
theorem Grow.side {J H : Hp} {p : Addr} {o : HO} (e : Same J H) (h : H p = none) : Grow J H J (upd H p o) :=
  ⟨.refl _, e.trans (same_new h), fun a u q => by
    rw [upd_ne (ne_of_none q h)]
    exact ⟨q, rfl⟩⟩

/-! ### objects of one's own -/
inductive Own where
  | lst (xs : List D)
  | tape (cells : List Int) (seed : Int)
  | tapB (b : Addr) (cells : List Int) (seed : Int)
inductive SV where
  | un
  | d (x : D)
  | own (fx : Bool) (o : Own)
  | rf (a : Addr)
abbrev Env := List SV

def OwnAt (K : Fg) (J H : Hp) : Own → List Addr → Prop
  | .lst xs, f => ∃ a vs, f = [a] ∧ H a = some (.lst vs) ∧ RpAll K J vs xs
  | .tape cs sd, f => ∃ a b, f = [a, b] ∧ a ≠ b ∧ H a = some (.lst [.ref b, .int sd]) ∧ H b = some (.lst (cs.map V.int))
  | .tapB b cs sd, f => ∃ a, f = [a, b] ∧ a ≠ b ∧ H a = some (.lst [.ref b, .int sd]) ∧ H b = some (.lst (cs.map V.int))
theorem OwnAt.known {K : Fg} {J H : Hp} {o : Own} {f : List Addr} (h : OwnAt K J H o f) : ∀ a ∈ f, ∃ u, H a = some u := by
  cases o with
  | lst xs =>
    obtain ⟨a, vs, rfl, e, _⟩ := h
    intro b hb
    have : b = a := by simpa using hb
    subst this
    exact ⟨_, e⟩
  | tape cs sd =>
    obtain ⟨a, b, rfl, _, e, e'⟩ := h
    intro c hc
    rcases (by simpa using hc : c = a ∨ c = b) with rfl | rfl
    · exact ⟨_, e⟩
    · exact ⟨_, e'⟩
  | tapB b cs sd =>
    obtain ⟨a, rfl, _, e, e'⟩ := h
    intro c hc
    rcases (by simpa using hc : c = a ∨ c = b) with rfl | rfl
    · exact ⟨_, e⟩
    · exact ⟨_, e'⟩
/-- the foot's objects stay, the plain data grows -/
theorem OwnAt.keep {K : Fg} {J H J' H' : Hp} {o : Own} {f : List Addr} (h : OwnAt K J H o f) (hj : Same J J') (hk : ∀ a ∈ f, ∀ u, H a = some u → H' a = some u) : OwnAt K J' H' o f := by
  cases o with
  | lst xs =>
    obtain ⟨a, vs, rfl, e, r⟩ := h
    exact ⟨a, vs, rfl, hk a (by simp) _ e, dps_mono hj _ _ r⟩
  | tape cs sd =>
    obtain ⟨a, b, rfl, n, e, e'⟩ := h
    exact ⟨a, b, rfl, n, hk a (by simp) _ e, hk b (by simp) _ e'⟩
  | tapB b cs sd =>
    obtain ⟨a, rfl, n, e, e'⟩ := h
    exact ⟨a, rfl, n, hk a (by simp) _ e, hk b (by simp) _ e'⟩

inductive SlOk (K : Fg) (J H : Hp) : Option V → SV → List Addr → Prop where
  | un (x : Option V) : SlOk K J H x .un []
  | d {v : V} {x : D} (h : Rp K J v x) : SlOk K J H (some v) (.d x) []
  | own {a : Addr} {r : List Addr} {fx : Bool} {o : Own} (h : OwnAt K J H o (a :: r)) : SlOk K J H (some (.ref a)) (.own fx o) (a :: r)
  | rf (a : Addr) : SlOk K J H (some (.ref a)) (.rf a) []
inductive SlsOk (K : Fg) (J H : Hp) : List (Option V) → List SV → List (List Addr) → Prop where
  | nil : SlsOk K J H [] [] []
  | cons {x : Option V} {s : SV} {f : List Addr} {xs : List (Option V)} {ss : List SV} {fs : List (List Addr)} : SlOk K J H x s f → SlsOk K J H xs ss fs → SlsOk K J H (x :: xs) (s :: ss) (f :: fs)
section
variable {K : Fg} {J H J' H' : Hp}
theorem SlOk.known {x : Option V} {s : SV} {f : List Addr} (h : SlOk K J H x s f) : ∀ a ∈ f, ∃ u, H a = some u := by
  cases h with
  | un => intro a h; cases h
  | d => intro a h; cases h
  | rf => intro a h; cases h
  | own h => exact h.known
theorem SlOk.keep {x : Option V} {s : SV} {f : List Addr} (h : SlOk K J H x s f) (hj : Same J J') (hk : ∀ a ∈ f, ∀ u, H a = some u → H' a = some u) : SlOk K J' H' x s f := by
  cases h with
  | un => exact .un _
  | d h => exact .d (dp_mono hj _ _ h)
  | rf a => exact .rf a
  | own h => exact .own (h.keep hj hk)
theorem SlsOk.keep {xs : List (Option V)} {ss : List SV} {fs : List (List Addr)} (h : SlsOk K J H xs ss fs) (hj : Same J J') (hk : ∀ f ∈ fs, ∀ a ∈ f, ∀ u, H a = some u → H' a = some u) : SlsOk K J' H' xs ss fs := by
  induction h with
  | nil => exact .nil
  | cons h t ih => exact .cons (h.keep hj (hk _ (List.mem_cons_self))) (ih fun f hf => hk f (List.mem_cons_of_mem _ hf))
theorem SlsOk.known {xs : List (Option V)} {ss : List SV} {fs : List (List Addr)} (h : SlsOk K J H xs ss fs) : ∀ f ∈ fs, ∀ a ∈ f, ∃ u, H a = some u := by
  induction h with
  | nil => intro f hf; cases hf
  | cons h t ih =>
    intro f hf
    rcases List.mem_cons.mp hf with rfl | hf
    · exact h.known
    · exact ih f hf
theorem SlsOk.len {xs : List (Option V)} {ss : List SV} {fs : List (List Addr)} (h : SlsOk K J H xs ss fs) : xs.length = ss.length ∧ fs.length = ss.length := by
  induction h with
  | nil => exact ⟨rfl, rfl⟩
  | cons h t ih => exact ⟨congrArg (· + 1) ih.1, congrArg (· + 1) ih.2⟩
theorem SlsOk.get : ∀ {xs : List (Option V)} {ss : List SV} {fs : List (List Addr)} {i : Nat} {s : SV}, SlsOk K J H xs ss fs → ss[i]? = some s → ∃ x f, xs[i]? = some x ∧ fs[i]? = some f ∧ SlOk K J H x s f
  | _, _, _, _, _, .nil, e => by simp at e
  | _, _, _, 0, _, .cons h _, e => by simp at e; subst e; exact ⟨_, _, rfl, rfl, h⟩
  | _, _, _, i + 1, s, .cons _ t, e => by
    obtain ⟨x, f, h1, h2, h3⟩ := SlsOk.get (i := i) (s := s) t (by simpa using e)
    exact ⟨x, f, by simpa using h1, by simpa using h2, h3⟩
theorem SlsOk.set {x : Option V} {s : SV} {f : List Addr} (h : SlOk K J H x s f) : ∀ {xs : List (Option V)} {ss : List SV} {fs : List (List Addr)} (i : Nat), SlsOk K J H xs ss fs → SlsOk K J H (xs.set i x) (ss.set i s) (fs.set i f)
  | _, _, _, _, .nil => .nil
  | _, _, _, 0, .cons _ t => .cons h t
  | _, _, _, i + 1, .cons q t => .cons q (SlsOk.set h i t)
/-- the environment's slot alone changes -/
theorem SlsOk.setS {s : SV} {f : List Addr} : ∀ {xs : List (Option V)} {ss : List SV} {fs : List (List Addr)} (i : Nat) (x : Option V), xs[i]? = some x → SlOk K J H x s f → SlsOk K J H xs ss fs → SlsOk K J H xs (ss.set i s) (fs.set i f)
  | _, _, _, _, _, e, _, .nil => .nil
  | _, _, _, 0, _, e, h, .cons _ t => by
    simp at e
    subst e
    exact .cons h t
  | _, _, _, i + 1, x, e, h, .cons q t => .cons q (SlsOk.setS i x (by simpa using e) h t)
end
/-- no object stands in two feet -/
def Apart (fs : List (List Addr)) : Prop := ∀ (i j : Nat) (f g : List Addr) (a : Addr), fs[i]? = some f → fs[j]? = some g → a ∈ f → a ∈ g → i = j
theorem Apart.set {fs : List (List Addr)} (h : Apart fs) (i : Nat) {f : List Addr} (hf : ∀ j g, j ≠ i → fs[j]? = some g → ∀ a ∈ f, a ∉ g) : Apart (fs.set i f) := by
  intro j k g1 g2 a e1 e2 h1 h2
  by_cases hj : j = i
  · by_cases hk : k = i
    · exact hj.trans hk.symm
    · subst hj
      rw [List.getElem?_set_ne (Ne.symm hk)] at e2
      by_cases hl : j < fs.length
      · rw [List.getElem?_set_self hl] at e1
        cases e1
        exact absurd h2 (hf k _ hk e2 a h1)
      · rw [List.getElem?_eq_none (by simpa using hl)] at e1
        cases e1
  · rw [List.getElem?_set_ne (Ne.symm hj)] at e1
    by_cases hk : k = i
    · subst hk
      by_cases hl : k < fs.length
      · rw [List.getElem?_set_self hl] at e2
        cases e2
        exact absurd h1 (hf j _ hj e1 a h2)
      · rw [List.getElem?_eq_none (by simpa using hl)] at e2
        cases e2
    · rw [List.getElem?_set_ne (Ne.symm hk)] at e2
      exact h j k _ _ a e1 e2 h1 h2
theorem Apart.nilSet {fs : List (List Addr)} (h : Apart fs) (i : Nat) : Apart (fs.set i []) := h.set i (by intro _ _ _ _ a ha; cases ha)
theorem mem_set_of {fs : List (List Addr)} {i : Nat} {f g : List Addr} (h : g ∈ fs.set i f) : g = f ∨ g ∈ fs := by
  rcases List.mem_or_eq_of_mem_set h with h | h
  · exact .inr h
  · exact .inl h

/-! ### the relation of an environment to slots and heap -/
structure Gd where
  P : Addr → Prop
  H0 : Hp
  J0 : Hp
  fx : Option (Nat × Addr)
structure ER (K : Fg) (G : Gd) (J H : Hp) (σ : L2.St) (ρ : Env) : Prop where
  ex : Same J H
  j0 : Same G.J0 J
  keep : ∀ a, G.P a → H a = G.H0 a ∧ J a = G.J0 a
  pn : ∀ a, G.P a → ∃ o, G.H0 a = some o
  ft : ∃ fs, SlsOk K J H σ ρ fs ∧ Apart fs ∧ ∀ f ∈ fs, ∀ a ∈ f, J a = none ∧ ¬ G.P a
  fx : ∀ i a, G.fx = some (i, a) → σ[i]? = some (some (.ref a)) ∧ ∃ o, ρ[i]? = some (.own true o)
section
variable {K : Fg} {G : Gd} {J H J' H' : Hp} {σ : L2.St} {ρ : Env}
theorem ER.len (e : ER K G J H σ ρ) : σ.length = ρ.length := by
  obtain ⟨fs, h, _⟩ := e.ft
  exact h.len.1
theorem ER.grow (e : ER K G J H σ ρ) (g : Grow J H J' H') : ER K G J' H' σ ρ := by
  obtain ⟨fs, h, ap, q⟩ := e.ft
  refine ⟨g.jh, e.j0.trans g.j, fun a p => ?_, e.pn, ⟨fs, h.keep g.j fun f hf a ha u hu => (g.old a u hu).1, ap, fun f hf a ha => ⟨?_, (q f hf a ha).2⟩⟩, e.fx⟩
  · obtain ⟨o, ho⟩ := e.pn a p
    obtain ⟨k1, k2⟩ := e.keep a p
    obtain ⟨g1, g2⟩ := g.old a o (k1.trans ho)
    exact ⟨g1.trans ho.symm, g2.trans k2⟩
  · obtain ⟨u, hu⟩ := h.known f hf a ha
    rw [(g.old a u hu).2]
    exact (q f hf a ha).1
/-- a slot that is not held fixed -/
def loose (ρ : Env) (i : Nat) : Bool := match ρ[i]? with
  | some (.own true _) => false
  | some _ => true
  | none => false
theorem ER.fx_ne (e : ER K G J H σ ρ) {i : Nat} (hl : loose ρ i = true) {j : Nat} {a : Addr} (h : G.fx = some (j, a)) : j ≠ i := by
  rintro rfl
  obtain ⟨_, o, ho⟩ := e.fx j a h
  unfold loose at hl
  rw [ho] at hl
  cases hl
theorem ER.setD {i : Nat} {v : V} {d : D} (e : ER K G J H σ ρ) (hv : Rp K J v d) (hl : loose ρ i = true) : ER K G J H (σ.set i (some v)) (ρ.set i (.d d)) := by
  obtain ⟨fs, h, ap, q⟩ := e.ft
  refine ⟨e.ex, e.j0, e.keep, e.pn, ⟨fs.set i [], SlsOk.set (.d hv) i h, ap.nilSet i, fun f hf a ha => ?_⟩, fun j a hj => ?_⟩
  · rcases mem_set_of hf with rfl | hf
    · cases ha
    · exact q f hf a ha
  · have ne := e.fx_ne hl hj
    rw [List.getElem?_set_ne ne.symm, List.getElem?_set_ne ne.symm]
    exact e.fx j a hj
/-- a slot is forgotten, whatever it holds from now on -/
theorem ER.setU {i : Nat} {x : Option V} (e : ER K G J H σ ρ) (hl : loose ρ i = true) : ER K G J H (σ.set i x) (ρ.set i .un) := by
  obtain ⟨fs, h, ap, q⟩ := e.ft
  refine ⟨e.ex, e.j0, e.keep, e.pn, ⟨fs.set i [], SlsOk.set (.un x) i h, ap.nilSet i, fun f hf a ha => ?_⟩, fun j a hj => ?_⟩
  · rcases mem_set_of hf with rfl | hf
    · cases ha
    · exact q f hf a ha
  · have ne := e.fx_ne hl hj
    rw [List.getElem?_set_ne ne.symm, List.getElem?_set_ne ne.symm]
    exact e.fx j a hj
theorem ER.dropS {i : Nat} (e : ER K G J H σ ρ) (hl : loose ρ i = true) : ER K G J H σ (ρ.set i .un) := by
  obtain ⟨fs, h, ap, q⟩ := e.ft
  have hi : i < ρ.length := by
    unfold loose at hl
    split at hl
    · cases hl
    · rename_i h1
      exact (List.getElem?_eq_some_iff.mp h1).1
    · cases hl
  have hs : i < σ.length := by rw [e.len]; exact hi
  have eq : σ.set i σ[i] = σ := List.set_getElem_self hs
  have := e.setU (x := σ[i]) hl
  rw [eq] at this
  exact this
/-- a new object of one's own comes to a slot -/
theorem ER.setO {i : Nat} {p : Addr} {u : HO} {o : Own} (e : ER K G J H σ ρ) (hp : H p = none) (hl : loose ρ i = true) (ho : OwnAt K J (upd H p u) o [p]) : ER K G J (upd H p u) (σ.set i (some (.ref p))) (ρ.set i (.own false o)) := by
  have g := Grow.side (o := u) e.ex hp
  have e1 := e.grow g
  obtain ⟨fs, h, ap, q⟩ := e1.ft
  obtain ⟨fs0, h0, ap0, q0⟩ := e.ft
  have fresh : ∀ f ∈ fs0, p ∉ f := fun f hf hm => by
    obtain ⟨u, hu⟩ := h0.known f hf p hm
    rw [hp] at hu
    cases hu
  have h1 : SlsOk K J (upd H p u) σ ρ fs0 := h0.keep (.refl _) fun f hf a ha w hw => (g.old a w hw).1
  refine ⟨g.jh, e.j0, e1.keep, e.pn, ⟨fs0.set i [p], SlsOk.set (.own ho) i h1, ap0.set i fun j f hj ef a ha => ?_, fun f hf a ha => ?_⟩, fun j a hj => ?_⟩
  · have : a = p := by simpa using ha
    subst this
    exact fresh f (List.mem_of_getElem? ef)
  · rcases mem_set_of hf with rfl | hf
    · have : a = p := by simpa using ha
      subst this
      refine ⟨same_free e.ex hp, fun hP => ?_⟩
      obtain ⟨o, ho⟩ := e.pn _ hP
      rw [(e.keep _ hP).1, ho] at hp
      cases hp
    · exact q0 f hf a ha
  · have ne := e.fx_ne hl hj
    rw [List.getElem?_set_ne ne.symm, List.getElem?_set_ne ne.symm]
    exact e.fx j a hj
/-- the list of a slot changes -/
theorem ER.mutL {i : Nat} {a : Addr} {fx : Bool} {xs xs' : List D} {vs' : List V} (e : ER K G J H σ ρ) (hi : ρ[i]? = some (.own fx (.lst xs))) (hs : σ[i]? = some (some (.ref a))) (hv : RpAll K J vs' xs') :
    ER K G J (upd H a (.lst vs')) σ (ρ.set i (.own fx (.lst xs'))) := by
  obtain ⟨fs, h, ap, q⟩ := e.ft
  obtain ⟨x, f, e1, e2, r⟩ := h.get hi
  rw [hs] at e1
  cases e1
  cases r with
  | own ho =>
  obtain ⟨a', vs, ef, ha, hd⟩ := ho
  injection ef with ea er
  subst ea er
  have qa := q _ (List.mem_of_getElem? e2) a (by simp)
  have other : ∀ j f, j ≠ i → fs[j]? = some f → a ∉ f := fun j f hj ef hm => hj (ap j i f [a] a ef e2 hm (by simp))
  refine ⟨fun b u hu => ?_, e.j0, fun b hb => ?_, e.pn, ⟨fs, ?_, ap, q⟩, fun j b hj => ?_⟩
  · have ne : b ≠ a := ne_of_none hu qa.1
    rw [upd_ne ne]
    exact e.ex _ _ hu
  · have ne : b ≠ a := fun z => qa.2 (z ▸ hb)
    rw [upd_ne ne]
    exact e.keep b hb
  · -- the slots
    have key : ∀ (σ : List (Option V)) (ρ : List SV) (fs : List (List Addr)) (i : Nat), SlsOk K J H σ ρ fs → ρ[i]? = some (.own fx (.lst xs)) → σ[i]? = some (some (.ref a)) → fs[i]? = some [a] → (∀ j f, j ≠ i → fs[j]? = some f → a ∉ f) →
        SlsOk K J (upd H a (.lst vs')) σ (ρ.set i (.own fx (.lst xs'))) fs := by
      intro σ ρ fs i h
      induction h generalizing i with
      | nil => intro e; simp at e
      | @cons x s f xs ss fs h t ih =>
        intro e1 e2 e3 e4
        cases i with
        | zero =>
          simp at e1 e2 e3
          subst e1 e2 e3
          refine .cons (.own ⟨a, vs', rfl, upd_same, hv⟩) (t.keep (.refl _) fun g hg b hb u hu => ?_)
          obtain ⟨k, hk, hk2⟩ := List.getElem_of_mem hg
          have : a ∉ g := e4 (k + 1) g (by omega) (by simp [hk, hk2])
          rw [upd_ne (show b ≠ a from fun z => this (z ▸ hb))]
          exact hu
        | succ i =>
          refine .cons (h.keep (.refl _) fun b hb u hu => ?_) (ih i (by simpa using e1) (by simpa using e2) (by simpa using e3) fun j g hj hg => e4 (j + 1) g (by omega) (by simpa using hg))
          have : a ∉ f := e4 0 f (by omega) rfl
          rw [upd_ne (show b ≠ a from fun z => this (z ▸ hb))]
          exact hu
    exact key σ ρ fs i h hi hs e2 other
  · obtain ⟨f1, o, f2⟩ := e.fx j b hj
    refine ⟨f1, ?_⟩
    by_cases hij : i = j
    · subst hij
      rw [hi] at f2
      cases f2
      refine ⟨.lst xs', ?_⟩
      rw [List.getElem?_set_self (List.getElem?_eq_some_iff.mp hi).1]
    · rw [List.getElem?_set_ne hij]
      exact ⟨o, f2⟩
/-- a list of a slot becomes plain data; the slot is left -/
theorem ER.freeze {i : Nat} {xs : List D} (e : ER K G J H σ ρ) (hi : ρ[i]? = some (.own false (.lst xs))) : ∃ a J', σ[i]? = some (some (.ref a)) ∧ Same J J' ∧ Rp K J' (.ref a) (.list xs) ∧ ER K G J' H σ (ρ.set i .un) := by
  obtain ⟨fs, h, ap, q⟩ := e.ft
  obtain ⟨x, f, e1, e2, r⟩ := h.get hi
  have hl : loose ρ i = true := by unfold loose; rw [hi]
  cases r with
  | own ho =>
  rename_i a r
  obtain ⟨a', vs, ef, ha, hd⟩ := ho
  injection ef with ea er
  subst ea er
  have qa := q _ (List.mem_of_getElem? e2) a (by simp)
  have sj : Same J (upd J a (.lst vs)) := same_new qa.1
  refine ⟨a, upd J a (.lst vs), e1, sj, .lst (.of upd_same) (dps_mono sj _ _ hd), ?_⟩
  have hs : SlsOk K (upd J a (.lst vs)) H σ (ρ.set i .un) (fs.set i []) := SlsOk.setS i _ e1 (.un _) (h.keep sj fun _ _ _ _ _ hu => hu)
  refine ⟨fun b u hu => ?_, e.j0.trans sj, fun b hb => ?_, e.pn, ⟨fs.set i [], hs, ap.nilSet i, fun f hf b hb => ?_⟩, fun j b hj => ?_⟩
  · by_cases z : b = a
    · subst z
      rw [upd_same] at hu
      cases hu
      exact ha
    · rw [upd_ne z] at hu
      exact e.ex _ _ hu
  · have ne : b ≠ a := fun z => qa.2 (z ▸ hb)
    rw [upd_ne ne]
    exact e.keep b hb
  · obtain ⟨k, hk, hk2⟩ := List.getElem_of_mem hf
    by_cases z : k = i
    · subst z
      have : f = [] := by
        rw [← hk2, List.getElem_set_self]
      subst this
      cases hb
    · rw [List.length_set] at hk
      rw [List.getElem_set_ne (Ne.symm z)] at hk2
      have hfk : fs[k]? = some f := by rw [List.getElem?_eq_getElem hk, hk2]
      have ne : b ≠ a := fun w => z (ap k i f [a] a hfk e2 (w ▸ hb) (by simp))
      rw [upd_ne ne]
      exact q f (List.mem_of_getElem? hfk) b hb
  · have ne := e.fx_ne hl hj
    rw [List.getElem?_set_ne ne.symm]
    exact e.fx j b hj
end
end DL

namespace DL
open PySem PySem.Spec L2

/-! ### what running gives -/
structure EV where
  cls : String
  fs : List (Str × D)
inductive VV where
  | val (d : D)
  | slot (i : Nat)
inductive Out (α : Type) where
  | ok (a : α) (ρ : Env)
  | exc (e : EV) (ρ : Env)
  | bad
@[reducible, simp] def Out.bind {α β : Type} (x : Out α) (k : α → Env → Out β) : Out β := match x with
  | .ok a ρ => k a ρ
  | .exc e ρ => .exc e ρ
  | .bad => .bad
structure Yx where
  ct : String → Option Value
  W : WX
/-- the fields of an exception, in its own dict -/
def FsOk (K : Fg) (J : Hp) : List (Str × V) → List (Str × D) → Prop
  | [], [] => True
  | (f, v) :: vs, (g, d) :: ds => f = g ∧ Rp K J v d ∧ FsOk K J vs ds
  | _, _ => False
def ExcAt (Y : Yx) (K : Fg) (J H : Hp) (e : EV) (c : Value) (dx : Option Addr) : Prop :=
  Y.ct e.cls = some c ∧ ((e.fs = [] ∧ dx = none) ∨ ∃ a vs, dx = some a ∧ J a = none ∧ H a = some (.xd vs) ∧ FsOk K J vs e.fs)

def RV (K : Fg) (σ : L2.St) (J : Hp) (v : V) : VV → Prop
  | .val d => Rp K J v d
  | .slot i => σ[i]? = some (some v)
def RVs (K : Fg) (σ : L2.St) (J : Hp) : List V → List VV → Prop
  | [], [] => True
  | v :: vs, x :: xs => RV K σ J v x ∧ RVs K σ J vs xs
  | _, _ => False
theorem RV.mono {K : Fg} {σ : L2.St} {J J' : Hp} (s : Same J J') {v : V} : ∀ {x : VV}, RV K σ J v x → RV K σ J' v x
  | .val _, h => dp_mono s _ _ h
  | .slot _, h => h
theorem RVs.mono {K : Fg} {σ : L2.St} {J J' : Hp} (s : Same J J') : ∀ {vs : List V} {xs : List VV}, RVs K σ J vs xs → RVs K σ J' vs xs
  | [], [], _ => trivial
  | _ :: _, _ :: _, h => ⟨h.1.mono s, RVs.mono s h.2⟩
  | [], _ :: _, h => h.elim
  | _ :: _, [], h => h.elim
@[simp] def deref (ρ : Env) : VV → Option D
  | .val d => some d
  | .slot i => match ρ[i]? with
    | some (.own _ (.lst xs)) => some (.list xs)
    | _ => none
@[simp] def derefs (ρ : Env) : List VV → Option (List D)
  | [] => some []
  | x :: xs => match deref ρ x with
    | some d => match derefs ρ xs with
      | some ds => some (d :: ds)
      | none => none
    | none => none
/-- v is the datum d here and now: plain data, or a list of one's own that holds plain data -/
def Wk (K : Fg) (J H : Hp) (v : V) (d : D) : Prop := Rp K J v d ∨ ∃ a vs xs, v = .ref a ∧ d = .list xs ∧ H a = some (.lst vs) ∧ RpAll K J vs xs
def Wks (K : Fg) (J H : Hp) : List V → List D → Prop
  | [], [] => True
  | v :: vs, x :: xs => Wk K J H v x ∧ Wks K J H vs xs
  | _, _ => False
section
variable {K : Fg} {G : Gd} {J H J' H' : Hp} {σ : L2.St} {ρ : Env} {Y : Yx}
theorem deref_ok (e : ER K G J H σ ρ) {v : V} {x : VV} {d : D} (r : RV K σ J v x) (h : deref ρ x = some d) : Wk K J H v d := by
  cases x with
  | val d' =>
    cases h
    exact .inl r
  | slot i =>
    have h : (match ρ[i]? with
      | some (.own _ (.lst xs)) => some (PyData.list xs)
      | _ => none) = some d := h
    split at h
    · rename_i fx xs hi
      cases h
      obtain ⟨fs, hs, _⟩ := e.ft
      obtain ⟨y, f, e1, _, so⟩ := hs.get hi
      have e2 : σ[i]? = some (some v) := r
      rw [e2] at e1
      cases e1
      cases so with
      | own ho =>
        obtain ⟨a, vs, ef, ha, hd⟩ := ho
        injection ef with ea er
        subst ea er
        exact .inr ⟨_, vs, xs, rfl, rfl, ha, hd⟩
    · cases h
theorem derefs_ok (e : ER K G J H σ ρ) : ∀ {vs : List V} {xs : List VV} {ds : List D}, RVs K σ J vs xs → derefs ρ xs = some ds → Wks K J H vs ds
  | [], [], ds, _, h => by
    cases h
    trivial
  | v :: vs, x :: xs, ds, r, h => by
    unfold derefs at h
    split at h
    · rename_i d hd
      split at h
      · rename_i ds' hds
        cases h
        exact ⟨deref_ok e r.1 hd, derefs_ok e r.2 hds⟩
      · cases h
    · cases h
  | [], _ :: _, _, r, _ => r.elim
  | _ :: _, [], _, r, _ => r.elim
/-- seen with all of H -/
theorem Wk.rp {v : V} {d : D} (s : Same J H) (h : Wk K J H v d) : Rp K H v d := by
  rcases h with h | ⟨a, vs, xs, rfl, rfl, ha, r⟩
  · exact dp_mono s _ _ h
  · exact .lst (.of ha) (dps_mono s _ _ r)
theorem Wk.dp {v : V} {d : D} (s : Same J H) (h : Wk K J H v d) : Dp K H v d := rp_dp _ _ (h.rp s)
theorem Wk.list {v : V} {xs : List D} (s : Same J H) (h : Wk K J H v (.list xs)) : ∃ a vs, v = .ref a ∧ SqL K H a vs ∧ RpAll K J vs xs := by
  rcases h with h | ⟨a, vs, xs', rfl, e, ha, r⟩
  · cases h with
    | lst hs ha => exact ⟨_, _, rfl, same_l s hs, ha⟩
  · cases e
    exact ⟨_, _, rfl, .of ha, r⟩
theorem Wk.tup {v : V} {xs : List D} (s : Same J H) (h : Wk K J H v (.tuple xs)) : ∃ a vs, v = .ref a ∧ SqT K H a vs ∧ RpAll K J vs xs ∧ Rp K J v (.tuple xs) := by
  rcases h with h | ⟨a, vs, xs', rfl, e, ha, r⟩
  · have h' := h
    cases h with
    | tup hs ha => exact ⟨_, _, rfl, same_t s hs, ha, h'⟩
  · cases e
theorem Wk.int {v : V} {i : Int} (h : Wk K J H v (.int i)) : v = .int i := by
  rcases h with h | ⟨_, _, _, _, e, _⟩
  · cases h; rfl
  · cases e
theorem Wk.str {v : V} {i : Str} (h : Wk K J H v (.str i)) : v = .str i := by
  rcases h with h | ⟨_, _, _, _, e, _⟩
  · cases h; rfl
  · cases e
theorem Wk.bl {v : V} {i : Bool} (h : Wk K J H v (.bool i)) : v = .bl i := by
  rcases h with h | ⟨_, _, _, _, e, _⟩
  · cases h; rfl
  · cases e
theorem Wk.non {v : V} (h : Wk K J H v .none) : v = .non := by
  rcases h with h | ⟨_, _, _, _, e, _⟩
  · cases h; rfl
  · cases e

/-- what is wanted behind a run, told over the run's end -/
def Post {α β : Type} (K : Fg) (Y : Yx) (G : Gd) (J : Hp) (σ : L2.St) (R : Hp → β → α → Prop) (o : Out α) (Q : β → Hp → Prop) : Prop := match o with
  | .ok x ρ => ∀ v J' H', Same J J' → R J' v x → ER K G J' H' σ ρ → Q v H'
  | .exc e ρ => ∀ c dx J' H', Same J J' → ExcAt Y K J' H' e c dx → ER K G J' H' σ ρ → Y.W c dx σ H'
  | .bad => False
theorem Post.mono {α β : Type} {R : Hp → β → α → Prop} {o : Out α} {Q : β → Hp → Prop} (s : Same J J') (h : Post K Y G J σ R o Q) : Post K Y G J' σ R o Q := by
  cases o with
  | ok x ρ => exact fun v J1 H1 s1 r e => h v J1 H1 (s.trans s1) r e
  | exc e ρ => exact fun c dx J1 H1 s1 r e => h c dx J1 H1 (s.trans s1) r e
  | bad => exact h
theorem Post.bind {α β α' β' : Type} {R : Hp → β → α → Prop} {R' : Hp → β' → α' → Prop} {o : Out α} {k : α → Env → Out α'} {Q : β' → Hp → Prop} (h : Post K Y G J σ R' (o.bind k) Q) {Q' : β → Hp → Prop}
    (hk : ∀ x ρ v J' H', Same J J' → R J' v x → ER K G J' H' σ ρ → Post K Y G J' σ R' (k x ρ) Q → Q' v H') : Post K Y G J σ R o Q' := by
  cases o with
  | ok x ρ => exact fun v J1 H1 s1 r e => hk x ρ v J1 H1 s1 r e (Post.mono s1 h)
  | exc e ρ => exact h
  | bad => exact h
theorem Post.now {α β : Type} {R : Hp → β → α → Prop} {x : α} {Q : β → Hp → Prop} {v : β} (h : Post K Y G J σ R (.ok x ρ) Q) (r : R J v x) (e : ER K G J H σ ρ) : Q v H := h v J H (.refl J) r e
theorem Post.grow {α β : Type} {R : Hp → β → α → Prop} {x : α} {Q : β → Hp → Prop} {v : β} (h : Post K Y G J σ R (.ok x ρ) Q) (e : ER K G J H σ ρ) (g : Grow J H J' H') (r : R J' v x) : Q v H' := h v J' H' g.j r (e.grow g)
end

/-! ### readings -/
abbrev EC := Env → Out VV
abbrev TC := Env → Out Bool
def tE (K : Fg) (Y : Yx) (f : EC) : TE := fun σ H Q => ∃ G J ρ, ER K G J H σ ρ ∧ Post K Y G J σ (RV K σ) (f ρ) Q
def tT (K : Fg) (Y : Yx) (f : TC) : TT := fun σ H Q => ∃ G J ρ, ER K G J H σ ρ ∧ Post K Y G J σ (fun _ v x => v = x) (f ρ) Q
def tA (K : Fg) (Y : Yx) (f : Env → Out (List VV)) : TA := fun σ H Q => ∃ G J ρ, ER K G J H σ ρ ∧ Post K Y G J σ (RVs K σ) (f ρ) Q
/-- a new list -/
def PostN (K : Fg) (Y : Yx) (G : Gd) (J : Hp) (σ : L2.St) (o : Out (List D)) (Q : VK) : Prop := match o with
  | .ok xs ρ => ∀ p vs J' H', Same J J' → H' p = none → RpAll K J' vs xs → ER K G J' H' σ ρ → Q (.ref p) (upd H' p (.lst vs))
  | .exc e ρ => ∀ c dx J' H', Same J J' → ExcAt Y K J' H' e c dx → ER K G J' H' σ ρ → Y.W c dx σ H'
  | .bad => False
def tN (K : Fg) (Y : Yx) (f : Env → Out (List D)) : TE := fun σ H Q => ∃ G J ρ, ER K G J H σ ρ ∧ PostN K Y G J σ (f ρ) Q
theorem PE.imp {X : Cx} {e : Expr} {t t' : TE} (h : PE X e t) (i : ∀ σ H Q, t' σ H Q → t σ H Q) : PE X e t' := ⟨fun pins s σ H Q I hw => h.run pins s σ H Q I (i _ _ _ hw)⟩
theorem PT.imp {X : Cx} {e : Expr} {t t' : TT} (h : PT X e t) (i : ∀ σ H Q, t' σ H Q → t σ H Q) : PT X e t' := ⟨fun pins s σ H Q I hw => h.run pins s σ H Q I (i _ _ _ hw)⟩
theorem PW.imp {X : Cx} {e : Expr} {t t' : TT} (h : PW X e t) (i : ∀ σ H Q, t' σ H Q → t σ H Q) : PW X e t' := ⟨fun wh pins s σ H Q I hw => h.run wh pins s σ H Q I (i _ _ _ hw)⟩
theorem PA.imp {X : Cx} {e : List Expr} {t t' : TA} (h : PA X e t) (i : ∀ σ H Q, t' σ H Q → t σ H Q) : PA X e t' := ⟨fun pos pins s σ H Q I hw => h.run pos pins s σ H Q I (i _ _ _ hw)⟩
abbrev DE (X : Cx) (Y : Yx) (e : Expr) (f : EC) : Prop := PE X e (tE X.K Y f)
abbrev DT (X : Cx) (Y : Yx) (e : Expr) (f : TC) : Prop := PT X e (tT X.K Y f)
abbrev DW (X : Cx) (Y : Yx) (e : Expr) (f : TC) : Prop := PW X e (tT X.K Y f)
abbrev DA (X : Cx) (Y : Yx) (es : List Expr) (f : Env → Out (List VV)) : Prop := PA X es (tA X.K Y f)
abbrev DN (X : Cx) (Y : Yx) (e : Expr) (f : Env → Out (List D)) : Prop := PE X e (tN X.K Y f)

/-! ### names, constants -/
@[simp] def eVar (i : Nat) (ρ : Env) : Out VV := match ρ[i]? with
  | some (.d d) => .ok (.val d) ρ
  | some (.own _ (.lst _)) => .ok (.slot i) ρ
  | _ => .bad
@[simp] def eC (d : D) (ρ : Env) : Out VV := .ok (.val d) ρ
section
variable {X : Cx} {Y : Yx} {a b c : Expr} {pos : Pos}
theorem de_var (i : Nat) {x : Str} (hN : X.N[i]? = some x := by rfl) (hv : Vis X.env.scope x := by first | exact Or.inl rfl | exact Or.inr (Or.inl rfl) | exact Or.inr (Or.inr rfl)) (hd : (x == ("__debug__" : Str)) = false := by decide)
    (hcd : (x == ("__classdict__" : Str)) = false := by decide) : DE X Y (.Name x pos) (eVar i) := by
  refine PE.imp (pe_var (i := i) hN hv hd hcd) fun σ H Q ⟨G, J, ρ, er, h⟩ => ?_
  unfold eVar at h
  split at h
  · rename_i d hi
    obtain ⟨fs, hs, _⟩ := er.ft
    obtain ⟨y, f, e1, _, so⟩ := hs.get hi
    cases so with
    | d hd => exact ⟨_, e1, h.now hd er⟩
  · rename_i fx xs hi
    obtain ⟨fs, hs, _⟩ := er.ft
    obtain ⟨y, f, e1, _, so⟩ := hs.get hi
    cases so with
    | own ho => exact ⟨_, e1, h.now (v := .ref _) (show RV X.K σ J (.ref _) (.slot i) from e1) er⟩
  · exact h.elim
theorem de_of_c {v : V} {d : D} (h : PE X a (tC v)) (r : ∀ J, Rp X.K J v d) : DE X Y a (eC d) := PE.imp h fun σ H Q ⟨G, J, ρ, er, h⟩ => Post.now h (r J) er
theorem de_int {i : Int} {j} : DE X Y (.Constant (.int i) j pos) (eC (.int i)) := de_of_c pe_int fun _ => .int i
theorem de_bl {i : Bool} {j} : DE X Y (.Constant (.bool i) j pos) (eC (.bool i)) := de_of_c pe_bl fun _ => .bl i
theorem de_str {i : Str} {j} : DE X Y (.Constant (.str i) j pos) (eC (.str i)) := de_of_c pe_str fun _ => .str i
theorem de_non {j} : DE X Y (.Constant .none j pos) (eC .none) := de_of_c pe_non fun _ => .non
/-- a module's constant -/
structure GlD (K : Fg) (mg : Str → Option Value) (x : Str) (d : D) : Prop where
  ex : ∃ v u, mg x = some u ∧ RelV v u ∧ ∀ J, Rp K J v d
theorem de_glob {x : Str} {d : D} (g : GlD X.K X.mg x d) (hg : Gl X x := by rfl) (hd : (x == ("__debug__" : Str)) = false := by decide) : DE X Y (.Name x pos) (eC d) := by
  obtain ⟨v, u, h1, h2, h3⟩ := g.ex
  exact de_of_c (pe_glob hg h1 h2 hd) h3

/-! ### operators -/
def rD (K : Fg) (g : D → D → Option D) : R2 := fun x y H Q => ∃ J dx dy d, Same J H ∧ Wk K J H x dx ∧ Wk K J H y dy ∧ g dx dy = some d ∧ ∀ v J' H', Grow J H J' H' → Rp K J' v d → Q v H'
abbrev OpD (X : Cx) (f : Value → Value → Sem Value) (g : D → D → Option D) : Prop := OpR X f (rD X.K g)
@[simp] def eBin (g : D → D → Option D) (fa fb : EC) (ρ : Env) : Out VV := (fa ρ).bind fun x ρ1 => (fb ρ1).bind fun y ρ2 => match deref ρ2 x, deref ρ2 y with
  | some dx, some dy => match g dx dy with
    | some d => .ok (.val d) ρ2
    | none => .bad
  | _, _ => .bad
theorem bin_end {K : Fg} {Y : Yx} {G : Gd} {J H : Hp} {σ : L2.St} {ρ : Env} {g : D → D → Option D} {x y : VV} {v w : V} {Q : VK} (er : ER K G J H σ ρ) (rx : RV K σ J v x) (ry : RV K σ J w y)
    (h : Post K Y G J σ (RV K σ) (match deref ρ x, deref ρ y with
      | some dx, some dy => match g dx dy with
        | some d => Out.ok (.val d) ρ
        | none => .bad
      | _, _ => .bad) Q) : rD K g v w H Q := by
  split at h
  · rename_i dx dy h1 h2
    split at h
    · rename_i d h3
      exact ⟨J, dx, dy, d, er.ex, deref_ok er rx h1, deref_ok er ry h2, h3, fun v J' H' gr r => h.grow er gr r⟩
    · exact h.elim
  · exact h.elim
theorem bin_imp {K : Fg} {Y : Yx} {g : D → D → Option D} {fa fb : EC} : ∀ σ H Q, tE K Y (eBin g fa fb) σ H Q → tOp (rD K g) (tE K Y fa) (tE K Y fb) σ H Q := fun σ H Q ⟨G, J, ρ, er, h⟩ =>
  ⟨G, J, ρ, er, Post.bind h fun x ρ1 v J1 H1 s1 r1 e1 h1 => ⟨G, J1, ρ1, e1, Post.bind h1 fun y ρ2 w J2 H2 s2 r2 e2 h2 => bin_end e2 (r1.mono s2) r2 h2⟩⟩
theorem de_op {op : Operator} {g : D → D → Option D} {fa fb : EC} (ho : OpD X (binaryOp op) g) (ha : DE X Y a fa) (hb : DE X Y b fb) : DE X Y (.BinOp a op b pos) (eBin g fa fb) := PE.imp (pe_op ho ha hb) bin_imp
theorem de_cmp {op : CmpOp} {g : D → D → Option D} {fa fb : EC} (ho : OpD X (compareOp op) g) (ha : DE X Y a fa) (hb : DE X Y b fb) (hm : behindInMarks op b = false := by first | exact nomark _ | rfl) : DE X Y (.Compare a [op] [b] pos) (eBin g fa fb) :=
  PE.imp (pe_cmpR ho ha hb hm) bin_imp
/-- a bool, as a test -/
@[simp] def eTest (f : EC) (ρ : Env) : Out Bool := (f ρ).bind fun x ρ1 => match x with
  | .val (.bool b) => .ok b ρ1
  | _ => .bad
theorem dt_cmp {op : CmpOp} {g : D → D → Option D} {fa fb : EC} (ho : OpD X (compareOp op) g) (ha : DE X Y a fa) (hb : DE X Y b fb) (hm : behindInMarks op b = false := by first | exact nomark _ | rfl) : DT X Y (.Compare a [op] [b] pos) (eTest (eBin g fa fb)) := by
  refine PT.imp (pt_cmpR ho ha hb hm) fun σ H Q ⟨G, J, ρ, er, h⟩ => ?_
  refine bin_imp (Y := Y) σ H _ ⟨G, J, ρ, er, Post.bind h fun x ρ1 v J1 H1 s1 r1 e1 h1 => ?_⟩
  split at h1
  · cases r1
    exact ⟨_, rfl, h1.now rfl e1⟩
  · exact h1.elim
/-- a value's truth -/
@[simp] def truth : D → Option Bool
  | .none => some false
  | .bool b => some b
  | .int i => some (i != 0)
  | .str x => if x.length ≤ sizeLine then some ((x.length : Int) != 0) else none
  | .list xs => some (!xs.isEmpty)
  | .tuple xs => some (!xs.isEmpty)
  | .dict _ => none
@[simp] def eTruth (f : EC) (ρ : Env) : Out Bool := (f ρ).bind fun x ρ1 => match deref ρ1 x with
  | some d => match truth d with
    | some b => .ok b ρ1
    | none => .bad
  | none => .bad
theorem rps_empty {K : Fg} {J : Hp} {vs : List V} {xs : List D} (h : RpAll K J vs xs) : (!xs.isEmpty) = !vs.isEmpty := by
  cases h <;> rfl
theorem truth_ok {K : Fg} {J H : Hp} {v : V} {d : D} {b : Bool} (s : Same J H) (h : Wk K J H v d) (t : truth d = some b) : TruV K v H b := by
  cases d with
  | none =>
    cases h.non
    exact (Option.some.inj t).symm
  | bool i =>
    cases h.bl
    exact (Option.some.inj t).symm
  | int i =>
    cases h.int
    exact (Option.some.inj t).symm
  | str i =>
    cases h.str
    have t : (if i.length ≤ sizeLine then some ((i.length : Int) != 0) else none) = some b := t
    split at t
    · rename_i hl
      exact ⟨hl, (Option.some.inj t).symm⟩
    · cases t
  | list xs =>
    obtain ⟨a, vs, rfl, hr, hd⟩ := h.list s
    exact .inl ⟨vs, hr, ((Option.some.inj t).symm.trans (rps_empty hd))⟩
  | tuple xs =>
    obtain ⟨a, vs, rfl, hr, hd, _⟩ := h.tup s
    exact .inr (.inl ⟨vs, hr, ((Option.some.inj t).symm.trans (rps_empty hd))⟩)
  | dict _ => cases t
theorem dt_truth {f : EC} (ha : DE X Y a f) (he : ∀ whole, isTrue a X.env whole = (do let v ← whole; standAt a.pos; holding [v] (truthy v)) := by intro _; rfl) : DT X Y a (eTruth f) := by
  refine PT.imp (pt_truth ha he) fun σ H Q ⟨G, J, ρ, er, h⟩ => ⟨G, J, ρ, er, Post.bind h fun x ρ1 v J1 H1 s1 r1 e1 h1 => ?_⟩
  split at h1
  · rename_i d hd
    split at h1
    · rename_i b hb
      exact ⟨b, truth_ok e1.ex (deref_ok e1 r1 hd) hb, h1.now rfl e1⟩
    · exact h1.elim
  · exact h1.elim
@[simp] def eAnd (f g : TC) (ρ : Env) : Out Bool := (f ρ).bind fun x ρ1 => if x = true then g ρ1 else .ok false ρ1
@[simp] def eOr (f g : TC) (ρ : Env) : Out Bool := (f ρ).bind fun x ρ1 => if x = true then .ok true ρ1 else g ρ1
@[simp] def eNot (f : TC) (ρ : Env) : Out Bool := (f ρ).bind fun x ρ1 => .ok (!x) ρ1
variable {rest : List Expr} {f g : TC}
theorem dw_and1 (ha : DT X Y a f) : DW X Y (.BoolOp .And [a] pos) f := pw_and1 ha
theorem dw_or1 (ha : DT X Y a f) : DW X Y (.BoolOp .Or [a] pos) f := pw_or1 ha
theorem dw_and (ha : DT X Y a f) (hb : DW X Y (.BoolOp .And (b :: rest) pos) g) : DW X Y (.BoolOp .And (a :: b :: rest) pos) (eAnd f g) := by
  refine PW.imp (pw_and ha hb) fun σ H Q ⟨G, J, ρ, er, h⟩ => ⟨G, J, ρ, er, Post.bind h fun x ρ1 v J1 H1 s1 r1 e1 h1 => ?_⟩
  cases r1
  cases x with
  | true => exact ⟨G, J1, ρ1, e1, h1⟩
  | false => exact h1.now rfl e1
theorem dw_or (ha : DT X Y a f) (hb : DW X Y (.BoolOp .Or (b :: rest) pos) g) : DW X Y (.BoolOp .Or (a :: b :: rest) pos) (eOr f g) := by
  refine PW.imp (pw_or ha hb) fun σ H Q ⟨G, J, ρ, er, h⟩ => ⟨G, J, ρ, er, Post.bind h fun x ρ1 v J1 H1 s1 r1 e1 h1 => ?_⟩
  cases r1
  cases x with
  | true => exact h1.now rfl e1
  | false => exact ⟨G, J1, ρ1, e1, h1⟩
theorem dt_not (ha : DT X Y a f) : DT X Y (.UnaryOp .Not a pos) (eNot f) := by
  refine PT.imp (pt_not ha) fun σ H Q ⟨G, J, ρ, er, h⟩ => ⟨G, J, ρ, er, Post.bind h fun x ρ1 v J1 H1 s1 r1 e1 h1 => ?_⟩
  cases r1
  exact h1.now rfl e1
/-- and, or, not as values -/
@[simp] def eAndV (f g : EC) (ρ : Env) : Out VV := (f ρ).bind fun x ρ1 => match x with
  | .val (.bool true) => g ρ1
  | .val (.bool false) => .ok (.val (.bool false)) ρ1
  | _ => .bad
@[simp] def eOrV (f g : EC) (ρ : Env) : Out VV := (f ρ).bind fun x ρ1 => match x with
  | .val (.bool true) => .ok (.val (.bool true)) ρ1
  | .val (.bool false) => g ρ1
  | _ => .bad
@[simp] def eNotV (f : EC) (ρ : Env) : Out VV := (f ρ).bind fun x ρ1 => match x with
  | .val (.bool c) => .ok (.val (.bool (!c))) ρ1
  | _ => .bad
theorem de_one {op} {f : EC} (h : DE X Y a f) : DE X Y (.BoolOp op [a] pos) f := pe_one h
theorem de_and {f g : EC} (ha : DE X Y a f) (hb : DE X Y (.BoolOp .And (b :: rest) pos) g) : DE X Y (.BoolOp .And (a :: b :: rest) pos) (eAndV f g) := by
  refine PE.imp (pe_and ha hb) fun σ H Q ⟨G, J, ρ, er, h⟩ => ⟨G, J, ρ, er, Post.bind h fun x ρ1 v J1 H1 s1 r1 e1 h1 => ?_⟩
  split at h1
  · cases r1
    exact ⟨true, rfl, G, J1, ρ1, e1, h1⟩
  · cases r1
    exact ⟨false, rfl, h1.now (.bl false) e1⟩
  · exact h1.elim
theorem de_or {f g : EC} (ha : DE X Y a f) (hb : DE X Y (.BoolOp .Or (b :: rest) pos) g) : DE X Y (.BoolOp .Or (a :: b :: rest) pos) (eOrV f g) := by
  refine PE.imp (pe_or ha hb) fun σ H Q ⟨G, J, ρ, er, h⟩ => ⟨G, J, ρ, er, Post.bind h fun x ρ1 v J1 H1 s1 r1 e1 h1 => ?_⟩
  split at h1
  · cases r1
    exact ⟨true, rfl, h1.now (.bl true) e1⟩
  · cases r1
    exact ⟨false, rfl, G, J1, ρ1, e1, h1⟩
  · exact h1.elim
theorem de_not {f : EC} (ha : DE X Y a f) : DE X Y (.UnaryOp .Not a pos) (eNotV f) := by
  refine PE.imp (pe_not ha) fun σ H Q ⟨G, J, ρ, er, h⟩ => ⟨G, J, ρ, er, Post.bind h fun x ρ1 v J1 H1 s1 r1 e1 h1 => ?_⟩
  split at h1
  · cases r1
    exact ⟨_, rfl, h1.now (.bl _) e1⟩
  · exact h1.elim
@[simp] def eIf (t : TC) (f g : EC) (ρ : Env) : Out VV := (t ρ).bind fun x ρ1 => if x = true then f ρ1 else g ρ1
theorem de_if {t : TC} {f g : EC} (hc : DT X Y c t) (ha : DE X Y a f) (hb : DE X Y b g) : DE X Y (.IfExp c a b pos) (eIf t f g) := by
  refine PE.imp (pe_ifExp hc ha hb) fun σ H Q ⟨G, J, ρ, er, h⟩ => ⟨G, J, ρ, er, Post.bind h fun x ρ1 v J1 H1 s1 r1 e1 h1 => ?_⟩
  cases r1
  cases x with
  | true => exact ⟨G, J1, ρ1, e1, h1⟩
  | false => exact ⟨G, J1, ρ1, e1, h1⟩
/-- a op b op c -/
@[simp] def eChain (g g' : D → D → Option D) (fa fb fc : EC) (ρ : Env) : Out VV := (fa ρ).bind fun x ρ1 => (fb ρ1).bind fun y ρ2 => match deref ρ2 x, deref ρ2 y with
  | some dx, some dy => match g dx dy with
    | some (.bool true) => (fc ρ2).bind fun z ρ3 => match deref ρ3 y, deref ρ3 z with
      | some dy', some dz => match g' dy' dz with
        | some d => .ok (.val d) ρ3
        | none => .bad
      | _, _ => .bad
    | some (.bool false) => .ok (.val (.bool false)) ρ2
    | _ => .bad
  | _, _ => .bad
theorem chain_imp {K : Fg} {Y : Yx} {g g' : D → D → Option D} {fa fb fc : EC} : ∀ σ H Q, tE K Y (eChain g g' fa fb fc) σ H Q → tChain (rD K g) (rD K g') (tE K Y fa) (tE K Y fb) (tE K Y fc) σ H Q := fun σ H Q ⟨G, J, ρ, er, h⟩ =>
  ⟨G, J, ρ, er, Post.bind h fun x ρ1 v J1 H1 s1 r1 e1 h1 => ⟨G, J1, ρ1, e1, Post.bind h1 fun y ρ2 w J2 H2 s2 r2 e2 h2 => by
    split at h2
    · rename_i dx dy d1 d2
      split at h2
      · rename_i h3
        refine ⟨J2, dx, dy, _, e2.ex, deref_ok e2 (r1.mono s2) d1, deref_ok e2 r2 d2, h3, fun k J' H' gr r => ?_⟩
        cases r
        refine ⟨true, rfl, ?_⟩
        rw [if_pos rfl]
        exact ⟨G, J', ρ2, e2.grow gr, Post.bind (h2.mono gr.j) fun z ρ3 u J3 H3 s3 r3 e3 h4 => bin_end e3 ((r2.mono gr.j).mono s3) r3 h4⟩
      · rename_i h3
        refine ⟨J2, dx, dy, _, e2.ex, deref_ok e2 (r1.mono s2) d1, deref_ok e2 r2 d2, h3, fun k J' H' gr r => ?_⟩
        cases r
        refine ⟨false, rfl, ?_⟩
        rw [if_neg Bool.false_ne_true]
        exact h2.grow e2 gr (.bl false)
      · exact h2.elim
    · exact h2.elim⟩⟩
theorem de_chain {op op' : CmpOp} {g g' : D → D → Option D} {fa fb fc : EC} (ho : OpD X (compareOp op) g) (ho' : OpD X (compareOp op') g') (ha : DE X Y a fa) (hb : DE X Y b fb) (hc : DE X Y c fc) (hm : lastMarks [op, op'] [b, c] = false := by with_unfolding_all rfl) :
    DE X Y (.Compare a [op, op'] [b, c] pos) (eChain g g' fa fb fc) := PE.imp (pe_chain ho ho' ha hb hc hm) chain_imp
theorem dt_chain {op op' : CmpOp} {g g' : D → D → Option D} {fa fb fc : EC} (ho : OpD X (compareOp op) g) (ho' : OpD X (compareOp op') g') (ha : DE X Y a fa) (hb : DE X Y b fb) (hc : DE X Y c fc) (hm : lastMarks [op, op'] [b, c] = false := by with_unfolding_all rfl) :
    DT X Y (.Compare a [op, op'] [b, c] pos) (eTest (eChain g g' fa fb fc)) := by
  refine PT.imp (pt_chain ho ho' ha hb hc hm) fun σ H Q ⟨G, J, ρ, er, h⟩ => ?_
  refine chain_imp (Y := Y) σ H _ ⟨G, J, ρ, er, Post.bind h fun x ρ1 v J1 H1 s1 r1 e1 h1 => ?_⟩
  split at h1
  · cases r1
    exact ⟨_, rfl, h1.now rfl e1⟩
  · exact h1.elim

/-! ### argument lists, displays -/
@[simp] def aNil (ρ : Env) : Out (List VV) := .ok [] ρ
@[simp] def aCons (f : EC) (g : Env → Out (List VV)) (ρ : Env) : Out (List VV) := (f ρ).bind fun x ρ1 => (g ρ1).bind fun xs ρ2 => .ok (x :: xs) ρ2
variable {es : List Expr} {fa : Env → Out (List VV)}
theorem da_nil : DA X Y [] aNil := PA.imp pa_nil fun σ H Q ⟨G, J, ρ, er, h⟩ => Post.now h (v := []) trivial er
theorem da_cons {f : EC} (ha : DE X Y a f) (hr : DA X Y es fa) (hs : starEach (a :: es) X.env = (false, eval a X.env) :: starEach es X.env := by rfl) : DA X Y (a :: es) (aCons f fa) := by
  refine PA.imp (pa_cons ha hr hs) fun σ H Q ⟨G, J, ρ, er, h⟩ => ⟨G, J, ρ, er, Post.bind h fun x ρ1 v J1 H1 s1 r1 e1 h1 => ⟨G, J1, ρ1, e1, Post.bind h1 fun xs ρ2 vs J2 H2 s2 r2 e2 h2 => ?_⟩⟩
  exact h2.now (v := v :: vs) ⟨r1.mono s2, r2⟩ e2
/-- plain data all -/
@[simp] def vals : List VV → Option (List D)
  | [] => some []
  | .val d :: xs => match vals xs with
    | some ds => some (d :: ds)
    | none => none
  | .slot _ :: _ => none
theorem vals_ok {K : Fg} {σ : L2.St} {J : Hp} : ∀ {vs : List V} {xs : List VV} {ds : List D}, RVs K σ J vs xs → vals xs = some ds → RpAll K J vs ds
  | [], [], ds, _, h => by
    cases h
    exact .nil
  | v :: vs, .val d :: xs, ds, r, h => by
    unfold vals at h
    split at h
    · rename_i ds' hds
      cases h
      exact .cons r.1 (vals_ok r.2 hds)
    · cases h
  | v :: vs, .slot _ :: xs, ds, r, h => by cases h
  | [], _ :: _, _, r, _ => r.elim
  | _ :: _, [], _, r, _ => r.elim
@[simp] def eTup (fa : Env → Out (List VV)) (ρ : Env) : Out VV := (fa ρ).bind fun xs ρ1 => match vals xs with
  | some ds => if ds.length ≤ sizeLine then .ok (.val (.tuple ds)) ρ1 else .bad
  | none => .bad
theorem de_tup {k} (h : DA X Y es fa) : DE X Y (.Tuple es k pos) (eTup fa) := by
  refine PE.imp (pe_tup h) fun σ H Q ⟨G, J, ρ, er, h⟩ => ⟨G, J, ρ, er, Post.bind h fun xs ρ1 vs J1 H1 s1 r1 e1 h1 => ?_⟩
  split at h1
  · rename_i ds hds
    split at h1
    · rename_i hl
      have r := vals_ok r1 hds
      refine ⟨by rw [dps_len r]; exact hl, fun p hp => ?_⟩
      have gr := Grow.new (o := .tup vs) e1.ex hp
      exact h1.grow e1 gr (.tup (.of upd_same) (dps_mono gr.j _ _ r))
    · exact h1.elim
  · exact h1.elim
@[simp] def nLst (fa : Env → Out (List VV)) (ρ : Env) : Out (List D) := (fa ρ).bind fun xs ρ1 => match vals xs with
  | some ds => if ds.length ≤ sizeLine then .ok ds ρ1 else .bad
  | none => .bad
theorem PostN.of {α β : Type} {K : Fg} {Y : Yx} {G : Gd} {J : Hp} {σ : L2.St} {R : Hp → β → α → Prop} {o : Out α} {k : α → Env → Out (List D)} {Q : VK} (h : PostN K Y G J σ (o.bind k) Q) {Q' : β → Hp → Prop}
    (hk : ∀ x ρ v J' H', Same J J' → R J' v x → ER K G J' H' σ ρ → PostN K Y G J' σ (k x ρ) Q → Q' v H') : Post K Y G J σ R o Q' := by
  cases o with
  | ok x ρ =>
    refine fun v J1 H1 s1 r e => hk x ρ v J1 H1 s1 r e ?_
    have h : PostN K Y G J σ (k x ρ) Q := h
    show PostN K Y G J1 σ (k x ρ) Q
    cases hkx : k x ρ with
    | ok y ρ' =>
      rw [hkx] at h
      exact fun p vs J2 H2 s2 => h p vs J2 H2 (s1.trans s2)
    | exc e ρ' =>
      rw [hkx] at h
      exact fun c dx J2 H2 s2 => h c dx J2 H2 (s1.trans s2)
    | bad =>
      rw [hkx] at h
      exact h
  | exc e ρ => exact h
  | bad => exact h
theorem PostN.now {K : Fg} {Y : Yx} {G : Gd} {J H : Hp} {σ : L2.St} {ρ : Env} {xs : List D} {vs : List V} {Q : VK} {p : Addr} (h : PostN K Y G J σ (.ok xs ρ) Q) (e : ER K G J H σ ρ) (hp : H p = none) (r : RpAll K J vs xs) : Q (.ref p) (upd H p (.lst vs)) :=
  h p vs J H (.refl J) hp r e
theorem dn_lst (h : DA X Y es fa) : DN X Y (.List es pos) (nLst fa) := by
  refine PE.imp (pe_lst h) fun σ H Q ⟨G, J, ρ, er, h⟩ => ⟨G, J, ρ, er, PostN.of h fun xs ρ1 vs J1 H1 s1 r1 e1 h1 => ?_⟩
  split at h1
  · rename_i ds hds
    split at h1
    · rename_i hl
      have r := vals_ok r1 hds
      exact ⟨by rw [dps_len r]; exact hl, fun p hp => h1.now e1 hp r⟩
    · exact h1.elim
  · exact h1.elim
/-- a new list as plain data -/
@[simp] def eN (fn : Env → Out (List D)) (ρ : Env) : Out VV := (fn ρ).bind fun xs ρ1 => .ok (.val (.list xs)) ρ1
theorem de_n {fn : Env → Out (List D)} (h : DN X Y a fn) : DE X Y a (eN fn) := by
  refine PE.imp h fun σ H Q ⟨G, J, ρ, er, h⟩ => ⟨G, J, ρ, er, ?_⟩
  unfold eN at h
  cases hf : fn ρ with
  | ok xs ρ1 =>
    rw [hf] at h
    intro p vs J' H' s hp r e
    have gr := Grow.new (o := .lst vs) e.ex hp
    exact h _ _ _ (s.trans gr.j) (.lst (.of upd_same) (dps_mono gr.j _ _ r)) (e.grow gr)
  | exc e ρ1 =>
    rw [hf] at h
    exact h
  | bad =>
    rw [hf] at h
    exact h

/-! ### calls of built-ins -/
def rCD (K : Fg) (g : List D → Option D) : List V → Hp → VK → Prop := fun vs H Q => ∃ J ds d, Same J H ∧ Wks K J H vs ds ∧ g ds = some d ∧ ∀ v J' H', Grow J H J' H' → Rp K J' v d → Q v H'
abbrev CallD (X : Cx) (f : Value) (g : List D → Option D) : Prop := CallR X f (rCD X.K g)
@[simp] def eCallB (g : List D → Option D) (fa : Env → Out (List VV)) (ρ : Env) : Out VV := (fa ρ).bind fun xs ρ1 => match derefs ρ1 xs with
  | some ds => match g ds with
    | some d => .ok (.val d) ρ1
    | none => .bad
  | none => .bad
theorem callB_imp {K : Fg} {Y : Yx} {g : List D → Option D} {fa : Env → Out (List VV)} : ∀ σ H Q, tE K Y (eCallB g fa) σ H Q → tCB (rCD K g) (tA K Y fa) σ H Q := fun σ H Q ⟨G, J, ρ, er, h⟩ =>
  ⟨G, J, ρ, er, Post.bind h fun xs ρ1 vs J1 H1 s1 r1 e1 h1 => by
    split at h1
    · rename_i ds hds
      split at h1
      · rename_i d hd
        exact ⟨J1, ds, d, e1.ex, derefs_ok e1 r1 hds, hd, fun v J' H' gr r => h1.grow e1 gr r⟩
      · exact h1.elim
    · exact h1.elim⟩
theorem de_callB {x : Str} {e : Expr} {id : String} {p : Pos} {g : List D → Option D} (hc : CallD X (.builtin id) g) (hm : X.mg x = none) (hv : bootBuiltins x = some (.builtin id)) (ha : DA X Y (e :: es) fa) (hg : Gl X x := by rfl) (hn : x ≠ "__name__" := by decide)
    (hdb : (x == ("__debug__" : Str)) = false := by decide) (he : starEach (e :: es) X.env = (false, eval e X.env) :: starEach es X.env := by rfl) (hpl : (backTo pos (starEach es X.env)).any (·.1) = false := by rfl) : DE X Y (.Call (.Name x p) (e :: es) [] pos) (eCallB g fa) :=
  PE.imp (pe_callB hc hg hm hv ha hn hdb he hpl) callB_imp
theorem de_callTy {x : Str} {e : Expr} {T : String} {p : Pos} {g : List D → Option D} (hc : CallD X (.type T) g) (hm : X.mg x = none) (hv : bootBuiltins x = some (.type T)) (ha : DA X Y (e :: es) fa) (hg : Gl X x := by rfl) (hn : x ≠ "__name__" := by decide)
    (hdb : (x == ("__debug__" : Str)) = false := by decide) (he : starEach (e :: es) X.env = (false, eval e X.env) :: starEach es X.env := by rfl) (hpl : (backTo pos (starEach es X.env)).any (·.1) = false := by rfl) : DE X Y (.Call (.Name x p) (e :: es) [] pos) (eCallB g fa) :=
  PE.imp (pe_callTy hc hg hm hv ha hn hdb he hpl) callB_imp
/-- .. that lay a new list -/
def rCN (K : Fg) (g : List D → Option (List D)) : List V → Hp → VK → Prop := fun vs H Q => ∃ J ds xs, Same J H ∧ Wks K J H vs ds ∧ g ds = some xs ∧ ∀ p us, H p = none → RpAll K J us xs → Q (.ref p) (upd H p (.lst us))
abbrev CallN (X : Cx) (f : Value) (g : List D → Option (List D)) : Prop := CallR X f (rCN X.K g)
@[simp] def nCallB (g : List D → Option (List D)) (fa : Env → Out (List VV)) (ρ : Env) : Out (List D) := (fa ρ).bind fun xs ρ1 => match derefs ρ1 xs with
  | some ds => match g ds with
    | some d => .ok d ρ1
    | none => .bad
  | none => .bad
theorem callN_imp {K : Fg} {Y : Yx} {g : List D → Option (List D)} {fa : Env → Out (List VV)} : ∀ σ H Q, tN K Y (nCallB g fa) σ H Q → tCB (rCN K g) (tA K Y fa) σ H Q := fun σ H Q ⟨G, J, ρ, er, h⟩ =>
  ⟨G, J, ρ, er, PostN.of h fun xs ρ1 vs J1 H1 s1 r1 e1 h1 => by
    split at h1
    · rename_i ds hds
      split at h1
      · rename_i d hd
        exact ⟨J1, ds, d, e1.ex, derefs_ok e1 r1 hds, hd, fun p us hp r => h1.now e1 hp r⟩
      · exact h1.elim
    · exact h1.elim⟩
theorem dn_callB {x : Str} {e : Expr} {id : String} {p : Pos} {g : List D → Option (List D)} (hc : CallN X (.builtin id) g) (hm : X.mg x = none) (hv : bootBuiltins x = some (.builtin id)) (ha : DA X Y (e :: es) fa) (hg : Gl X x := by rfl) (hn : x ≠ "__name__" := by decide)
    (hdb : (x == ("__debug__" : Str)) = false := by decide) (he : starEach (e :: es) X.env = (false, eval e X.env) :: starEach es X.env := by rfl) (hpl : (backTo pos (starEach es X.env)).any (·.1) = false := by rfl) : DN X Y (.Call (.Name x p) (e :: es) [] pos) (nCallB g fa) :=
  PE.imp (pe_callB hc hg hm hv ha hn hdb he hpl) callN_imp
theorem dn_callTy {x : Str} {e : Expr} {T : String} {p : Pos} {g : List D → Option (List D)} (hc : CallN X (.type T) g) (hm : X.mg x = none) (hv : bootBuiltins x = some (.type T)) (ha : DA X Y (e :: es) fa) (hg : Gl X x := by rfl) (hn : x ≠ "__name__" := by decide)
    (hdb : (x == ("__debug__" : Str)) = false := by decide) (he : starEach (e :: es) X.env = (false, eval e X.env) :: starEach es X.env := by rfl) (hpl : (backTo pos (starEach es X.env)).any (·.1) = false := by rfl) : DN X Y (.Call (.Name x p) (e :: es) [] pos) (nCallB g fa) :=
  PE.imp (pe_callTy hc hg hm hv ha hn hdb he hpl) callN_imp
/-- a two-place operation that lays a new list -/
def rN (K : Fg) (g : D → D → Option (List D)) : R2 := fun x y H Q => ∃ J dx dy xs, Same J H ∧ Wk K J H x dx ∧ Wk K J H y dy ∧ g dx dy = some xs ∧ ∀ p us, H p = none → RpAll K J us xs → Q (.ref p) (upd H p (.lst us))
abbrev OpN (X : Cx) (f : Value → Value → Sem Value) (g : D → D → Option (List D)) : Prop := OpR X f (rN X.K g)
@[simp] def nBin (g : D → D → Option (List D)) (fa fb : EC) (ρ : Env) : Out (List D) := (fa ρ).bind fun x ρ1 => (fb ρ1).bind fun y ρ2 => match deref ρ2 x, deref ρ2 y with
  | some dx, some dy => match g dx dy with
    | some d => .ok d ρ2
    | none => .bad
  | _, _ => .bad
theorem dn_op {op : Operator} {g : D → D → Option (List D)} {fa fb : EC} (ho : OpN X (binaryOp op) g) (ha : DE X Y a fa) (hb : DE X Y b fb) : DN X Y (.BinOp a op b pos) (nBin g fa fb) := by
  refine PE.imp (pe_op ho ha hb) fun σ H Q ⟨G, J, ρ, er, h⟩ => ⟨G, J, ρ, er, PostN.of h fun x ρ1 v J1 H1 s1 r1 e1 h1 => ⟨G, J1, ρ1, e1, PostN.of h1 fun y ρ2 w J2 H2 s2 r2 e2 h2 => ?_⟩⟩
  split at h2
  · rename_i dx dy d1 d2
    split at h2
    · rename_i d h3
      exact ⟨J2, dx, dy, d, e2.ex, deref_ok e2 (r1.mono s2) d1, deref_ok e2 r2 d2, h3, fun p us hp r => h2.now e2 hp r⟩
    · exact h2.elim
  · exact h2.elim

/-! ### methods of built-in types -/
def rMD (K : Fg) (g : D → List D → Option D) : V → List V → Hp → VK → Prop := fun x xs H Q => ∃ J dx ds d, Same J H ∧ Wk K J H x dx ∧ Wks K J H xs ds ∧ g dx ds = some d ∧ ∀ v J' H', Grow J H J' H' → Rp K J' v d → Q v H'
abbrev MtD (X : Cx) (id : String) (g : D → List D → Option D) : Prop := MtR X id (rMD X.K g)
def dTy (T : String) : D → Bool
  | .str _ => T == "str"
  | .int _ => T == "int"
  | .list _ => T == "list"
  | _ => false
@[simp] def eMeth (T : String) (g : D → List D → Option D) (fo : EC) (fa : Env → Out (List VV)) (ρ : Env) : Out VV := (fo ρ).bind fun o ρ1 => match deref ρ1 o with
  | some d0 => if dTy T d0 = true then (fa ρ1).bind fun xs ρ2 => match deref ρ2 o, derefs ρ2 xs with
      | some dx, some ds => match g dx ds with
        | some d => .ok (.val d) ρ2
        | none => .bad
      | _, _ => .bad
    else .bad
  | none => .bad
theorem dTy_ok {K : Fg} {J H : Hp} {T : String} {v : V} {d : D} (s : Same J H) (h : Wk K J H v d) (t : dTy T d = true) : tyV K T v H := by
  cases d with
  | str x =>
    cases h.str
    exact eq_of_beq t
  | int x =>
    cases h.int
    exact eq_of_beq t
  | list xs =>
    obtain ⟨a, vs, rfl, hr, _⟩ := h.list s
    exact .inl ⟨eq_of_beq t, vs, hr⟩
  | _ => cases t
theorem de_meth {o e : Expr} {T id : String} {name : Str} {apos : Pos} {g : D → List D → Option D} {fo : EC} (pa : PlainAttrs T) (slot : Slot T name id) (hty : typeOf (.builtin id) = pure (.type "method_descriptor")) (hm : MtD X id g) (ho : DE X Y o fo) (ha : DA X Y (e :: es) fa)
    (hbase : attributeBase o name X.env (eval o X.env) = eval o X.env := by rfl)
    (hfew : ((backTo pos (starEach (e :: es) X.env)).all (fun x => !x.1) && (backToKw pos (keywordEach [] X.env)).all (fun x => x.1.isSome)
      && decide ((e :: es).length + ([] : List Keyword).length + (if ([] : List Keyword).isEmpty then 0 else 1) < 30)) = true := by rfl)
    (hline : (apos.endLine == pos.line) = true := by rfl) (hs : starEach (e :: es) X.env = (false, eval e X.env) :: starEach es X.env := by rfl) (hplain : (backTo pos (starEach es X.env)).any (·.1) = false := by rfl) :
    DE X Y (.Call (.Attribute o name apos) (e :: es) [] pos) (eMeth T g fo fa) := by
  refine PE.imp (pe_bm pa slot hty hm ho ha hbase hfew hline hs hplain) fun σ H Q ⟨G, J, ρ, er, h⟩ => ⟨G, J, ρ, er, Post.bind h fun x ρ1 v J1 H1 s1 r1 e1 h1 => ?_⟩
  split at h1
  · rename_i d0 h0
    split at h1
    · rename_i ht
      refine ⟨dTy_ok e1.ex (deref_ok e1 r1 h0) ht, G, J1, ρ1, e1, Post.bind h1 fun xs ρ2 vs J2 H2 s2 r2 e2 h2 => ?_⟩
      split at h2
      · rename_i dx ds d1 d2
        split at h2
        · rename_i d h3
          exact ⟨J2, dx, ds, d, e2.ex, deref_ok e2 (r1.mono s2) d1, derefs_ok e2 r2 d2, h3, fun v J' H' gr r => h2.grow e2 gr r⟩
        · exact h2.elim
      · exact h2.elim
    · exact h1.elim
  · exact h1.elim
theorem de_meth0 {o : Expr} {T id : String} {name : Str} {apos : Pos} {g : D → List D → Option D} {fo : EC} (pa : PlainAttrs T) (slot : Slot T name id) (hty : typeOf (.builtin id) = pure (.type "method_descriptor")) (hm : MtD X id g) (ho : DE X Y o fo)
    (hbase : attributeBase o name X.env (eval o X.env) = eval o X.env := by rfl) (hline : (apos.endLine == pos.line) = true := by rfl) :
    DE X Y (.Call (.Attribute o name apos) [] [] pos) (eMeth T g fo aNil) := by
  refine PE.imp (pe_bm0 pa slot hty hm ho hbase hline) fun σ H Q ⟨G, J, ρ, er, h⟩ => ⟨G, J, ρ, er, Post.bind h fun x ρ1 v J1 H1 s1 r1 e1 h1 => ?_⟩
  split at h1
  · rename_i d0 h0
    split at h1
    · rename_i ht
      refine ⟨dTy_ok e1.ex (deref_ok e1 r1 h0) ht, ?_⟩
      have h2 : Post X.K Y G J1 σ (RV X.K σ) (match deref ρ1 x, derefs ρ1 [] with
        | some dx, some ds => match g dx ds with
          | some d => Out.ok (.val d) ρ1
          | none => .bad
        | _, _ => .bad) Q := h1
      split at h2
      · rename_i dx ds d1 d2
        split at h2
        · rename_i d h3
          exact ⟨J1, dx, ds, d, e1.ex, deref_ok e1 r1 d1, derefs_ok e1 (vs := []) (xs := []) trivial d2, h3, fun v J' H' gr r => h2.grow e1 gr r⟩
        · exact h2.elim
      · exact h2.elim
    · exact h1.elim
  · exact h1.elim

/-! ### subscripts, slices -/
abbrev IxD (X : Cx) (g : D → D → Option D) : Prop := IxR X (rD X.K g)
theorem de_ix {g : D → D → Option D} {fa fb : EC} (hr : IxD X g) (ha : DE X Y a fa) (hb : DE X Y b fb) (hs : PlainIx b := by exact fun _ _ => rfl) : DE X Y (.Subscript a b pos) (eBin g fa fb) := PE.imp (pe_ix hr ha hb hs) bin_imp
def tOp1 (K : Fg) (Y : Yx) (f : Env → Out (Option Int)) : TO := fun σ H Q => ∃ G J ρ, ER K G J H σ ρ ∧ Post K Y G J σ (fun _ v x => v = x) (f ρ) Q
abbrev DO (X : Cx) (Y : Yx) (e : Option Expr) (f : Env → Out (Option Int)) : Prop := PO X e (tOp1 X.K Y f)
@[simp] def oNone (ρ : Env) : Out (Option Int) := .ok none ρ
@[simp] def oSome (f : EC) (ρ : Env) : Out (Option Int) := (f ρ).bind fun x ρ1 => match x with
  | .val (.int i) => .ok (some i) ρ1
  | _ => .bad
theorem PO.imp {X : Cx} {e : Option Expr} {t t' : TO} (h : PO X e t) (i : ∀ σ H Q, t' σ H Q → t σ H Q) : PO X e t' := ⟨fun pins s σ H Q I hw => h.run pins s σ H Q I (i _ _ _ hw)⟩
theorem do_none : DO X Y none oNone := PO.imp po_none fun σ H Q ⟨G, J, ρ, er, h⟩ => Post.now h rfl er
theorem do_some {f : EC} (h : DE X Y a f) : DO X Y (some a) (oSome f) := by
  refine PO.imp (po_some h) fun σ H Q ⟨G, J, ρ, er, h⟩ => ⟨G, J, ρ, er, Post.bind h fun x ρ1 v J1 H1 s1 r1 e1 h1 => ?_⟩
  split at h1
  · cases r1
    exact ⟨_, rfl, h1.now rfl e1⟩
  · exact h1.elim
def rSD (K : Fg) (g : D → Option Int → Option Int → Option D) : V → Option Int → Option Int → Hp → VK → Prop := fun x lo hi H Q => ∃ J dx d, Same J H ∧ Wk K J H x dx ∧ g dx lo hi = some d ∧ ∀ v J' H', Grow J H J' H' → Rp K J' v d → Q v H'
abbrev SlD (X : Cx) (g : D → Option Int → Option Int → Option D) : Prop := SlR X (rSD X.K g)
@[simp] def eSl (g : D → Option Int → Option Int → Option D) (fa : EC) (fl fh : Env → Out (Option Int)) (ρ : Env) : Out VV := (fa ρ).bind fun x ρ1 => (fl ρ1).bind fun lo ρ2 => (fh ρ2).bind fun hi ρ3 => match deref ρ3 x with
  | some dx => match g dx lo hi with
    | some d => .ok (.val d) ρ3
    | none => .bad
  | none => .bad
theorem de_sl {g : D → Option Int → Option Int → Option D} {fo : EC} {lo hi : Option Expr} {fl fh : Env → Out (Option Int)} {p2 : Pos} (hr : SlD X g) (ha : DE X Y a fo) (hl : DO X Y lo fl) (hu : DO X Y hi fh) : DE X Y (.Subscript a (.Slice lo hi none p2) pos) (eSl g fo fl fh) := by
  refine PE.imp (pe_slice hr ha hl hu) fun σ H Q ⟨G, J, ρ, er, h⟩ => ⟨G, J, ρ, er, Post.bind h fun x ρ1 v J1 H1 s1 r1 e1 h1 => ⟨G, J1, ρ1, e1, Post.bind h1 fun l ρ2 w J2 H2 s2 r2 e2 h2 => ⟨G, J2, ρ2, e2, Post.bind h2 fun u ρ3 w3 J3 H3 s3 r3 e3 h3 => ?_⟩⟩⟩
  cases r2
  cases r3
  split at h3
  · rename_i dx d1
    split at h3
    · rename_i d h4
      exact ⟨J3, dx, d, e3.ex, deref_ok e3 ((r1.mono s2).mono s3) d1, h4, fun v J' H' gr r => h3.grow e3 gr r⟩
    · exact h3.elim
  · exact h3.elim
end
end DL

namespace DL
open PySem PySem.Spec L2

/-! ### operations on data -/
def mulOk (i j : Int) : Bool := fitZ (2 ^ 64) i || fitZ (2 ^ 64) j
def strRep (x : Str) (n : Int) : Str := if n < 1 then Str.empty else x
@[simp] def dAdd : D → D → Option D
  | .int i, .int j => some (.int (i + j))
  | .str a, .str b => if a.length + b.length ≤ sizeLine then some (.str (a ++ b)) else none
  | .list xs, .list ys => if xs.length + ys.length ≤ sizeLine then some (.list (xs ++ ys)) else none
  | .tuple xs, .tuple ys => if xs.length + ys.length ≤ sizeLine then some (.tuple (xs ++ ys)) else none
  | _, _ => none
@[simp] def nAdd : D → D → Option (List D)
  | .list xs, .list ys => if xs.length + ys.length ≤ sizeLine then some (xs ++ ys) else none
  | _, _ => none
@[simp] def dSub : D → D → Option D
  | .int i, .int j => some (.int (i - j))
  | _, _ => none
def dMul : D → D → Option D
  | .int i, .int j => if mulOk i j = true then some (.int (i * j)) else none
  | .str a, .int n => if n < 1 then (if fitZ (2 ^ 63) n = true then some (.str Str.empty) else none) else if n = 1 then some (.str a) else none
  | _, _ => none
@[simp] def nMul : D → D → Option (List D)
  | .list xs, .int k => if fitZ (2 ^ 63) k = true ∧ xs.length * k.toNat ≤ sizeLine then some (List.replicate k.toNat xs).flatten else none
  | _, _ => none
@[simp] def dFdiv : D → D → Option D
  | .int i, .int j => if 0 < j ∧ fitZ 1073741824 j = true then some (.int (i / j)) else none
  | _, _ => none
@[simp] def dMod : D → D → Option D
  | .int i, .int j => if 0 < j then some (.int (i % j)) else none
  | _, _ => none
def dEq (d e : D) : Option D := if SeqAt.shaped d = true ∧ SeqAt.shaped e = true then some (.bool (PyData.eqv d e)) else none
def dNe (d e : D) : Option D := if SeqAt.shaped d = true ∧ SeqAt.shaped e = true then some (.bool (!PyData.eqv d e)) else none
@[simp] def dLt : D → D → Option D
  | .int i, .int j => some (.bool (decide (i < j)))
  | .str a, .str b => some (.bool (decide (a.cps.toList < b.cps.toList)))
  | _, _ => none
@[simp] def dLe : D → D → Option D
  | .int i, .int j => some (.bool (decide (i ≤ j)))
  | .str a, .str b => some (.bool (!decide (b.cps.toList < a.cps.toList)))
  | _, _ => none
@[simp] def dGt : D → D → Option D
  | .int i, .int j => some (.bool (decide (j < i)))
  | .str a, .str b => some (.bool (decide (b.cps.toList < a.cps.toList)))
  | _, _ => none
@[simp] def dGe : D → D → Option D
  | .int i, .int j => some (.bool (decide (j ≤ i)))
  | .str a, .str b => some (.bool (!decide (a.cps.toList < b.cps.toList)))
  | _, _ => none
def strIn (a b : Str) : Bool := !(Builtin.Str.occurrences b a 0 b.length 1).isEmpty
def dIn : D → D → Option D
  | .str a, .str b => some (.bool (strIn a b))
  | x, .list ys => if SeqAt.shaped x = true ∧ SeqAt.shaped (.list ys) = true then some (.bool (ys.any fun z => PyData.eqv z x)) else none
  | x, .tuple ys => if SeqAt.shaped x = true ∧ SeqAt.shaped (.tuple ys) = true then some (.bool (ys.any fun z => PyData.eqv z x)) else none
  | _, _ => none
def dNotIn : D → D → Option D
  | .str a, .str b => some (.bool (!strIn a b))
  | x, .list ys => if SeqAt.shaped x = true ∧ SeqAt.shaped (.list ys) = true then some (.bool (!ys.any fun z => PyData.eqv z x)) else none
  | x, .tuple ys => if SeqAt.shaped x = true ∧ SeqAt.shaped (.tuple ys) = true then some (.bool (!ys.any fun z => PyData.eqv z x)) else none
  | _, _ => none
@[simp] def isNone : D → Bool
  | .none => true
  | _ => false
@[simp] def dIs : D → D → Option D
  | .bool a, .bool b => some (.bool (decide (a = b)))
  | x, .none => some (.bool (isNone x))
  | _, _ => none
@[simp] def dIsNot : D → D → Option D
  | .bool a, .bool b => some (.bool (!decide (a = b)))
  | x, .none => some (.bool (!isNone x))
  | _, _ => none

section
variable {K : Fg} {J H : Hp}
theorem wk_isN {v : V} {d : D} (h : Wk K J H v d) : decide (v = .non) = isNone d := by
  cases d with
  | none => cases h.non; rfl
  | bool i => cases h.bl; rfl
  | int i => cases h.int; rfl
  | str i => cases h.str; rfl
  | list xs =>
    rcases h with h | ⟨a, vs, xs', rfl, e, ha, r⟩
    · cases h; rfl
    · rfl
  | tuple xs =>
    rcases h with h | ⟨a, vs, xs', rfl, e, ha, r⟩
    · cases h; rfl
    · rfl
  | dict _ =>
    rcases h with h | ⟨a, vs, xs', rfl, e, ha, r⟩
    · cases h
    · cases e
end

section
variable {X : Cx}
theorem opd_of {f : Value → Value → Sem Value} {r : R2} {g : D → D → Option D} (h : OpR X f r) (i : ∀ x y H Q, rD X.K g x y H Q → r x y H Q) : OpD X f g := fun pins s σ H x y v u Q I rx ry q => h pins s σ H x y v u Q I rx ry (i _ _ _ _ q)
/-- a list that is read, its object -/
def rCatL (K : Fg) : R2 := fun x y H Q => ∃ l b xs zs, x = .ref l ∧ y = .ref b ∧ SqL K H l xs ∧ SqL K H b zs ∧ xs.length + zs.length ≤ sizeLine ∧ ∀ p, H p = none → Q (.ref p) (upd H p (.lst (xs ++ zs)))
theorem op_catL : OpR X (binaryOp .Add) (rCatL X.K) := by
  intro pins s σ H x y v u Q I rx ry h
  obtain ⟨l, b, xs, zs, rfl, rfl, hH, hB, hz, q⟩ := h
  cases rx
  cases ry
  obtain ⟨its, r, ⟨⟨cls, dd, data, sl⟩, n, ho, hc, hd0, hd⟩, hl⟩ := I.list hH
  obtain ⟨its2, r2, ⟨⟨cls2, dd2, data2, sl2⟩, n2, ho2, hc2, hd02, hd2⟩, hl2⟩ := I.list hB
  simp only at hc hd hc2 hd2
  subst hc hd hc2 hd2
  have e : its.toArray ++ its2.toArray = (its ++ its2).toArray := by simp
  have n1 := r.length
  have n2' := r2.length
  refine concat_meets ⟨_, ho, rfl⟩ ⟨_, ho2, rfl⟩ noFill_list_add seq_list_add PySem.F.slot_list_add PySem.F.entry_list_add (PySem.F.args_list_add_2 _ _) (PyProof.Rows.list_addW l b its.toArray its2.toArray n n2 dd dd2 sl sl2 (by simp; omega)) ⟨ho, ho2, ?_⟩
  rw [e]
  exact ⟨.ref _, _, I.lnew (t' := s.toks) (r.append r2) (by rw [List.length_append]; omega), rfl, q _ I.fresh⟩
theorem rd_lst {pins : List (Addr × Obj)} {σ : L2.St} {H : Hp} {s : Shared} {l : Addr} {xs : List V} (I : Inv X pins σ H s) (h : Rd H l (.lst xs)) :
    xs.length ≤ sizeLine ∧ ∃ (its : List Value) (n : Nat), Vals xs its ∧ xs.length = its.length ∧ s.heap.get? l = some { cls := .type "list", data := .seq its.toArray n } := by
  obtain ⟨z, its, n, r, e⟩ := h.ok I.hok
  exact ⟨z, its, n, r, r.length, e⟩
def rRepR : R2 := fun x y H Q => ∃ l k xs, x = .ref l ∧ y = .int k ∧ Rd H l (.lst xs) ∧ -(2 ^ 63) ≤ k ∧ k < 2 ^ 63 ∧ xs.length * k.toNat ≤ sizeLine ∧
  ∀ p, H p = none → Q (.ref p) (upd H p (.lst (List.replicate k.toNat xs).flatten))
theorem op_repR : OpR X (binaryOp .Mult) rRepR := by
  intro pins s σ H x y v u Q I rx ry h
  obtain ⟨l, k, xs, rfl, rfl, hH, h1, h2, hz, q⟩ := h
  cases rx
  obtain ⟨t, rfl⟩ := ry
  obtain ⟨z, its, n, r, hl, e⟩ := rd_lst I hH
  have hlen : its.toArray.size * k.toNat ≤ sizeLine := by rw [List.size_toArray, ← hl]; exact hz
  have hcap : ¬ its.toArray.size * k.toNat > (2 ^ 63 - 1) / 8 := by
    have : (sizeLine : Nat) ≤ (2 ^ 63 - 1) / 8 := by decide
    omega
  have hfit : ¬ (!Builtin.List.listFitsIndex k) = true := by
    rw [fitsIndex_both h1 h2]
    exact Bool.false_ne_true
  have hlong : ¬ Builtin.List.listTooLong (its.toArray.size * k.toNat) = true := by
    rw [notLongL hlen]
    exact Bool.false_ne_true
  have hnew : List.foldl (fun x1 x2 => x1 ++ x2) #[] (List.replicate (if its.toArray.isEmpty = true then 0 else k.toNat) its.toArray) = (List.replicate k.toNat its).flatten.toArray := by
    have f0 : ∀ m : Nat, List.foldl (fun x1 x2 => x1 ++ x2) #[] (List.replicate m its.toArray) = (List.replicate m its).flatten.toArray := fun m => by
      have := foldl_rep its m []
      rw [List.nil_append] at this
      exact this
    rw [f0]
    cases its with
    | nil => simp
    | cons a r' => rw [if_neg (by simp)]
  refine wpAny_binaryOp_repeat_ref (T := "list") (U := "int") (by decide) ⟨_, e, rfl⟩ (fun s' => typeIs_int s' k t) noFill_list_mul F.fills_int_mul F.slot_int_rmul repeat_list F.slot_int_index.lookup
    (call_meets F.slot_int_rmul (typeIs_int s k t) F.entry_int_rmul (F.args_int_rmul_2 _ _) (int___rmul___int_list k t l its.toArray n)
      ⟨e, rfl, ⟨_, e, rfl⟩, call_meets F.slot_list_mul ⟨_, e, rfl⟩ F.entry_list_mul (F.args_list_mul_2 _ _) (AutoListH.list___mul___list_int_3 l its.toArray n k t hfit hcap hlong) ⟨e, ?_⟩⟩)
  rw [hnew]
  exact ⟨.ref _, _, I.lnew (t' := s.toks) (r.rep k.toNat) (by rw [PyProof.Rows.lm_len_rep_flat, Nat.mul_comm]; exact hz), rfl, q _ I.fresh⟩
theorem od_add : OpD X (binaryOp .Add) dAdd := by
  refine opd_of (op_add.or (op_add_str.or (op_catL.or op_catA))) fun x y H Q ⟨J, dx, dy, d, s, wx, wy, e, q⟩ => ?_
  unfold dAdd at e
  split at e
  · cases e
    cases wx.int
    cases wy.int
    exact .inl ⟨_, _, rfl, rfl, q _ J H (.refl s) (.int _)⟩
  · split at e
    · rename_i hl
      cases e
      cases wx.str
      cases wy.str
      exact .inr (.inl ⟨_, _, rfl, rfl, hl, q _ J H (.refl s) (.str _)⟩)
    · cases e
  · split at e
    · rename_i hl
      cases e
      obtain ⟨a, vs, rfl, h1, r1⟩ := wx.list s
      obtain ⟨b, ws, rfl, h2, r2⟩ := wy.list s
      refine .inr (.inr (.inl ⟨a, b, vs, ws, rfl, rfl, h1, h2, by rw [dps_len r1, dps_len r2]; exact hl, fun p hp => ?_⟩))
      have gr := Grow.new (o := .lst (vs ++ ws)) s hp
      exact q _ _ _ gr (.lst (.of upd_same) (dps_mono gr.j _ _ (dps_append r1 r2)))
    · cases e
  · split at e
    · rename_i hl
      cases e
      obtain ⟨a, vs, rfl, h1, r1, p1⟩ := wx.tup s
      obtain ⟨b, ws, rfl, h2, r2, p2⟩ := wy.tup s
      refine .inr (.inr (.inr ⟨a, b, vs, ws, rfl, rfl, h1, h2, by rw [dps_len r1, dps_len r2]; exact hl, fun e => ?_, fun _ e => ?_, fun _ _ p hp => ?_⟩))
      · subst e
        cases r1
        exact q _ J H (.refl s) p2
      · subst e
        cases r2
        rw [List.append_nil] at q
        exact q _ J H (.refl s) p1
      · have gr := Grow.new (o := .tup (vs ++ ws)) s hp
        exact q _ _ _ gr (.tup (.of upd_same) (dps_mono gr.j _ _ (dps_append r1 r2)))
    · cases e
  · cases e
theorem opn_of {f : Value → Value → Sem Value} {r : R2} {g : D → D → Option (List D)} (h : OpR X f r) (i : ∀ x y H Q, rN X.K g x y H Q → r x y H Q) : OpN X f g := fun pins s σ H x y v u Q I rx ry q => h pins s σ H x y v u Q I rx ry (i _ _ _ _ q)
theorem on_add : OpN X (binaryOp .Add) nAdd := by
  refine opn_of op_catL fun x y H Q ⟨J, dx, dy, d, s, wx, wy, e, q⟩ => ?_
  unfold nAdd at e
  split at e
  · split at e
    · rename_i hl
      cases e
      obtain ⟨a, vs, rfl, h1, r1⟩ := wx.list s
      obtain ⟨b, ws, rfl, h2, r2⟩ := wy.list s
      exact ⟨a, b, vs, ws, rfl, rfl, h1, h2, by rw [dps_len r1, dps_len r2]; exact hl, fun p hp => q p _ hp (dps_append r1 r2)⟩
    · cases e
  · cases e
theorem PostN.mono {K : Fg} {Y : Yx} {G : Gd} {J J' : Hp} {σ : L2.St} {o : Out (List D)} {Q : VK} (s : Same J J') (h : PostN K Y G J σ o Q) : PostN K Y G J' σ o Q := by
  cases o with
  | ok xs ρ => exact fun p vs J2 H2 s2 => h p vs J2 H2 (s.trans s2)
  | exc e ρ => exact fun c dx J2 H2 s2 => h c dx J2 H2 (s.trans s2)
  | bad => exact h
/-- a new list, n times -/
@[simp] def nRep (fn : Env → Out (List D)) (fb : EC) (ρ : Env) : Out (List D) := (fn ρ).bind fun xs ρ1 => (fb ρ1).bind fun y ρ2 => match deref ρ2 y with
  | some dy => match nMul (.list xs) dy with
    | some d => .ok d ρ2
    | none => .bad
  | none => .bad
theorem dn_rep {Y : Yx} {a b : Expr} {pos : Pos} {fn : Env → Out (List D)} {fb : EC} (ha : DN X Y a fn) (hb : DE X Y b fb) : DN X Y (.BinOp a .Mult b pos) (nRep fn fb) := by
  refine PE.imp (pe_op op_repR ha hb) fun σ H Q ⟨G, J, ρ, er, h⟩ => ⟨G, J, ρ, er, ?_⟩
  unfold nRep at h
  cases hf : fn ρ with
  | bad =>
    rw [hf] at h
    exact h
  | exc e ρ1 =>
    rw [hf] at h
    exact h
  | ok xs ρ1 =>
    rw [hf] at h
    intro p vs J1 H1 s1 hp r1 e1
    have gr := Grow.new (o := .lst vs) e1.ex hp
    have h : PostN X.K Y G J σ ((fb ρ1).bind fun y ρ2 => match deref ρ2 y with
      | some dy => match nMul (.list xs) dy with
        | some d => .ok d ρ2
        | none => .bad
      | none => .bad) Q := h
    refine ⟨G, _, ρ1, e1.grow gr, ?_⟩
    have hrd : Rd (upd J1 p (.lst vs)) p (.lst vs) := Rd.of upd_same
    refine PostN.of (PostN.mono (s1.trans gr.j) h) fun y ρ2 w J2 H2 s2 r2 e2 h2 => ?_
    split at h2
    · rename_i dy hy
      split at h2
      · rename_i d hd
        obtain ⟨k, rfl, hl⟩ : ∃ k, dy = .int k ∧ nMul (.list xs) (.int k) = some d := by
          cases dy with
          | int k => exact ⟨k, rfl, hd⟩
          | _ => cases hd
        have hl : (if fitZ (2 ^ 63) k = true ∧ xs.length * k.toNat ≤ sizeLine then some (List.replicate k.toNat xs).flatten else none) = some d := hl
        split at hl
        · rename_i hl'
          cases hl
          have hw := deref_ok e2 r2 hy
          cases hw.int
          exact ⟨p, k, vs, rfl, rfl, same_rd (s2.trans e2.ex) hrd, by have := fitZ_ok hl'.1; omega, by have := fitZ_ok hl'.1; omega, by rw [dps_len r1]; exact hl'.2, fun p' hp' => h2.now e2 hp' (dps_rep (dps_mono (gr.j.trans s2) _ _ r1) _)⟩
        · cases hl
      · exact h2.elim
    · exact h2.elim
theorem od_sub : OpD X (binaryOp .Sub) dSub := by
  refine opd_of op_sub fun x y H Q ⟨J, dx, dy, d, s, wx, wy, e, q⟩ => ?_
  unfold dSub at e
  split at e
  · cases e
    cases wx.int
    cases wy.int
    exact ⟨_, _, rfl, rfl, q _ J H (.refl s) (.int _)⟩
  · cases e
theorem op_repS : OpR X (binaryOp .Mult) (fun x y H Q => ∃ a n, x = .str a ∧ y = .int n ∧ ((n < 1 ∧ -(2 ^ 63) ≤ n ∧ Q (.str Str.empty) H) ∨ (n = 1 ∧ Q (.str a) H))) := by
  intro pins s σ H x y v u Q I rx ry h
  obtain ⟨a, n, rfl, rfl, h⟩ := h
  obtain ⟨t, rfl⟩ := rx
  obtain ⟨t', rfl⟩ := ry
  rcases h with ⟨h1, h2, q⟩ | ⟨rfl, q⟩
  · exact PySem.P.mul_str_none h1 (by omega) ⟨.str _, H, I.tok _, ⟨_, rfl⟩, q⟩
  · refine PySem.P.mul_str (by decide) (fun _ z => ?_) (fun _ z => ?_) ?_
    · cases z
    · cases z
    · rw [if_neg (by decide), if_pos (show ((1 : Int) == 1 || a.length == 0) = true from rfl)]
      exact ⟨.str a, H, I, ⟨_, rfl⟩, q⟩
theorem od_mul : OpD X (binaryOp .Mult) dMul := by
  refine opd_of (op_mul.or op_repS) fun x y H Q ⟨J, dx, dy, d, s, wx, wy, e, q⟩ => ?_
  unfold dMul at e
  split at e
  · split at e
    · rename_i hm
      cases e
      cases wx.int
      cases wy.int
      refine .inl ⟨_, _, rfl, rfl, ?_, q _ J H (.refl s) (.int _)⟩
      unfold mulOk at hm
      rcases Bool.or_eq_true_iff.mp hm with hm | hm
      · have := fitZ_ok hm
        exact .inl ⟨by omega, by omega⟩
      · have := fitZ_ok hm
        exact .inr ⟨by omega, by omega⟩
    · cases e
  · cases wx.str
    cases wy.int
    split at e
    · split at e
      · cases e
        exact .inr ⟨_, _, rfl, rfl, .inl ⟨by assumption, by rename_i hf; have := fitZ_ok hf; omega, q _ J H (.refl s) (.str _)⟩⟩
      · cases e
    · split at e
      · cases e
        exact .inr ⟨_, _, rfl, rfl, .inr ⟨by assumption, q _ J H (.refl s) (.str _)⟩⟩
      · cases e
  · cases e
theorem od_fdiv : OpD X (binaryOp .FloorDiv) dFdiv := by
  refine opd_of op_fdiv fun x y H Q ⟨J, dx, dy, d, s, wx, wy, e, q⟩ => ?_
  unfold dFdiv at e
  split at e
  · split at e
    · rename_i hm
      cases e
      cases wx.int
      cases wy.int
      exact ⟨_, _, rfl, rfl, ⟨hm.1, by have := fitZ_ok hm.2; omega⟩, q _ J H (.refl s) (.int _)⟩
    · cases e
  · cases e
theorem od_mod : OpD X (binaryOp .Mod) dMod := by
  refine opd_of op_mod fun x y H Q ⟨J, dx, dy, d, s, wx, wy, e, q⟩ => ?_
  unfold dMod at e
  split at e
  · split at e
    · rename_i hm
      cases e
      cases wx.int
      cases wy.int
      exact ⟨_, _, rfl, rfl, hm, q _ J H (.refl s) (.int _)⟩
    · cases e
  · cases e
/-! ### comparisons -/
theorem od_eq (hu : X.A.units + 64 < cLine) : OpD X (compareOp .Eq) dEq := by
  refine opd_of (op_eqD hu) fun x y H Q ⟨J, dx, dy, d, s, wx, wy, e, q⟩ => ?_
  unfold dEq at e
  split at e
  · rename_i h
    cases e
    exact ⟨dx, dy, wx.dp s, wy.dp s, h.1, h.2, q _ J H (.refl s) (.bl _)⟩
  · cases e
theorem od_ne (hu : X.A.units + 64 < cLine) : OpD X (compareOp .NotEq) dNe := by
  refine opd_of (op_neD hu) fun x y H Q ⟨J, dx, dy, d, s, wx, wy, e, q⟩ => ?_
  unfold dNe at e
  split at e
  · rename_i h
    cases e
    exact ⟨dx, dy, wx.dp s, wy.dp s, h.1, h.2, q _ J H (.refl s) (.bl _)⟩
  · cases e
theorem od_lt : OpD X (compareOp .Lt) dLt := by
  refine opd_of (op_lt.or op_lt_str) fun x y H Q ⟨J, dx, dy, d, s, wx, wy, e, q⟩ => ?_
  unfold dLt at e
  split at e
  · cases e
    cases wx.int
    cases wy.int
    exact .inl ⟨_, _, rfl, rfl, q _ J H (.refl s) (.bl _)⟩
  · cases e
    cases wx.str
    cases wy.str
    exact .inr ⟨_, _, rfl, rfl, q _ J H (.refl s) (.bl _)⟩
  · cases e
theorem od_le : OpD X (compareOp .LtE) dLe := by
  refine opd_of (op_le.or op_le_str) fun x y H Q ⟨J, dx, dy, d, s, wx, wy, e, q⟩ => ?_
  unfold dLe at e
  split at e
  · cases e
    cases wx.int
    cases wy.int
    exact .inl ⟨_, _, rfl, rfl, q _ J H (.refl s) (.bl _)⟩
  · cases e
    cases wx.str
    cases wy.str
    exact .inr ⟨_, _, rfl, rfl, q _ J H (.refl s) (.bl _)⟩
  · cases e
theorem od_gt : OpD X (compareOp .Gt) dGt := by
  refine opd_of (op_gt.or op_gt_str) fun x y H Q ⟨J, dx, dy, d, s, wx, wy, e, q⟩ => ?_
  unfold dGt at e
  split at e
  · cases e
    cases wx.int
    cases wy.int
    exact .inl ⟨_, _, rfl, rfl, q _ J H (.refl s) (.bl _)⟩
  · cases e
    cases wx.str
    cases wy.str
    exact .inr ⟨_, _, rfl, rfl, q _ J H (.refl s) (.bl _)⟩
  · cases e
theorem od_ge : OpD X (compareOp .GtE) dGe := by
  refine opd_of (op_ge.or op_ge_str) fun x y H Q ⟨J, dx, dy, d, s, wx, wy, e, q⟩ => ?_
  unfold dGe at e
  split at e
  · cases e
    cases wx.int
    cases wy.int
    exact .inl ⟨_, _, rfl, rfl, q _ J H (.refl s) (.bl _)⟩
  · cases e
    cases wx.str
    cases wy.str
    exact .inr ⟨_, _, rfl, rfl, q _ J H (.refl s) (.bl _)⟩
  · cases e
def rInT (K : Fg) : R2 := fun x y H Q => ∃ d ds, Dp K H x d ∧ Dp K H y (.tuple ds) ∧ SeqAt.shaped d = true ∧ SeqAt.shaped (.tuple ds) = true ∧ Q (.bl (ds.any fun z => PyData.eqv z d)) H
def rNotInT (K : Fg) : R2 := fun x y H Q => ∃ d ds, Dp K H x d ∧ Dp K H y (.tuple ds) ∧ SeqAt.shaped d = true ∧ SeqAt.shaped (.tuple ds) = true ∧ Q (.bl (!ds.any fun z => PyData.eqv z d)) H
theorem op_inT (hu : X.A.units + 65 < cLine) : OpR X (compareOp .In) (rInT X.K) := by
  intro pins s σ H x y v u Q I rx ry h
  obtain ⟨d, ds, hd, he, sd, se, q⟩ := h
  obtain ⟨as, r1⟩ := Dp.reads I d x v hd rx
  obtain ⟨bs, r2⟩ := Dp.reads I (.tuple ds) y u he ry
  exact SeqAt.in_tuple_reads r2 r1 (SeqAt.canLay_of_shaped se) (SeqAt.canLay_of_shaped sd) (PyProof.Rows.room_in_shaped sd hu) ⟨.bl _, H, I, rfl, q⟩
theorem op_notInT (hu : X.A.units + 65 < cLine) : OpR X (compareOp .NotIn) (rNotInT X.K) := by
  intro pins s σ H x y v u Q I rx ry h
  obtain ⟨d, ds, hd, he, sd, se, q⟩ := h
  obtain ⟨as, r1⟩ := Dp.reads I d x v hd rx
  obtain ⟨bs, r2⟩ := Dp.reads I (.tuple ds) y u he ry
  exact SeqAt.notIn_tuple_reads r2 r1 (SeqAt.canLay_of_shaped se) (SeqAt.canLay_of_shaped sd) (PyProof.Rows.room_in_shaped sd hu) ⟨.bl _, H, I, rfl, q⟩
theorem od_in (hu : X.A.units + 65 < cLine) : OpD X (compareOp .In) dIn := by
  refine opd_of (op_in_str.or ((op_inD hu).or (op_inT hu))) fun x y H Q ⟨J, dx, dy, d, s, wx, wy, e, q⟩ => ?_
  unfold dIn at e
  split at e
  · cases e
    cases wx.str
    cases wy.str
    exact .inl ⟨_, _, rfl, rfl, q _ J H (.refl s) (.bl _)⟩
  · split at e
    · rename_i h
      cases e
      exact .inr (.inl ⟨_, _, wx.dp s, wy.dp s, h.1, h.2, q _ J H (.refl s) (.bl _)⟩)
    · cases e
  · split at e
    · rename_i h
      cases e
      exact .inr (.inr ⟨_, _, wx.dp s, wy.dp s, h.1, h.2, q _ J H (.refl s) (.bl _)⟩)
    · cases e
  · cases e
theorem od_notIn (hu : X.A.units + 65 < cLine) : OpD X (compareOp .NotIn) dNotIn := by
  refine opd_of (op_notin_str.or ((op_notInD hu).or (op_notInT hu))) fun x y H Q ⟨J, dx, dy, d, s, wx, wy, e, q⟩ => ?_
  unfold dNotIn at e
  split at e
  · cases e
    cases wx.str
    cases wy.str
    exact .inl ⟨_, _, rfl, rfl, q _ J H (.refl s) (.bl _)⟩
  · split at e
    · rename_i h
      cases e
      exact .inr (.inl ⟨_, _, wx.dp s, wy.dp s, h.1, h.2, q _ J H (.refl s) (.bl _)⟩)
    · cases e
  · split at e
    · rename_i h
      cases e
      exact .inr (.inr ⟨_, _, wx.dp s, wy.dp s, h.1, h.2, q _ J H (.refl s) (.bl _)⟩)
    · cases e
  · cases e
theorem od_is : OpD X (compareOp .Is) dIs := by
  refine opd_of (op_is_bl.or op_isN) fun x y H Q ⟨J, dx, dy, d, s, wx, wy, e, q⟩ => ?_
  unfold dIs at e
  split at e
  · cases e
    cases wx.bl
    cases wy.bl
    exact .inl ⟨_, _, rfl, rfl, q _ J H (.refl s) (.bl _)⟩
  · cases e
    cases wy.non
    exact .inr ⟨rfl, by rw [wk_isN wx]; exact q _ J H (.refl s) (.bl _)⟩
  · cases e
theorem od_isNot : OpD X (compareOp .IsNot) dIsNot := by
  refine opd_of (op_isnot_bl.or op_notN) fun x y H Q ⟨J, dx, dy, d, s, wx, wy, e, q⟩ => ?_
  unfold dIsNot at e
  split at e
  · cases e
    cases wx.bl
    cases wy.bl
    exact .inl ⟨_, _, rfl, rfl, q _ J H (.refl s) (.bl _)⟩
  · cases e
    cases wy.non
    exact .inr ⟨rfl, by rw [wk_isN wx]; exact q _ J H (.refl s) (.bl _)⟩
  · cases e
end
end DL

namespace DL
open PySem PySem.Spec L2

/-! ### subscripts and slices -/
@[simp] def dIx : D → D → Option D
  | .list xs, .int i => atI xs i
  | .tuple xs, .int i => atI xs i
  | .str z, .int i => if z.length ≤ sizeLine then (match atI z.cps.toList i with
    | some c => some (.str ⟨#[c]⟩)
    | none => none) else none
  | _, _ => none
def cutD (xs : List D) (lo hi : Option Int) : List D := (xs.drop (HT.sIx xs.length 0 lo)).take (HT.sIx xs.length xs.length hi - HT.sIx xs.length 0 lo)
@[simp] def dSl : D → Option Int → Option Int → Option D
  | .list xs, lo, hi => some (.list (cutD xs lo hi))
  | .tuple xs, lo, hi => some (.tuple (cutD xs lo hi))
  | .str z, lo, hi => if z.length ≤ sizeLine then some (.str (cutS z lo hi)) else none
  | _, _, _ => none
section
variable {X : Cx} {K : Fg} {J H : Hp}
theorem atI_dps {vs : List V} {ds : List D} {i : Int} {d : D} (r : RpAll K J vs ds) (h : atI ds i = some d) : ∃ v, atI vs i = some v ∧ Rp K J v d := by
  unfold atI at h ⊢
  rw [dps_len r]
  cases e : ixN ds.length i with
  | none =>
    rw [e] at h
    cases h
  | some j =>
    rw [e] at h
    exact dps_get r h
theorem cut_dps {vs : List V} {ds : List D} (lo hi : Option Int) (r : RpAll K J vs ds) : RpAll K J (cutV vs lo hi) (cutD ds lo hi) := by
  unfold cutV cutD
  rw [dps_len r]
  exact dps_take _ (dps_drop _ r)
theorem ixd_of {r : R2} {g : D → D → Option D} (h : IxR X r) (i : ∀ x y H Q, rD X.K g x y H Q → r x y H Q) : IxD X g := fun a b pins s σ H x y v u Q I rx ry q hs => h a b pins s σ H x y v u Q I rx ry (i _ _ _ _ q) hs
theorem od_ix : IxD X dIx := by
  refine ixd_of ix_seq fun x y H Q ⟨J, dx, dy, d, s, wx, wy, e, q⟩ => ?_
  unfold dIx at e
  split at e
  · obtain ⟨a, vs, rfl, h1, r1⟩ := wx.list s
    cases wy.int
    obtain ⟨v, h2, r2⟩ := atI_dps r1 e
    exact .inl ⟨a, vs, _, v, rfl, rfl, h1, h2, q _ J H (.refl s) r2⟩
  · obtain ⟨a, vs, rfl, h1, r1, _⟩ := wx.tup s
    cases wy.int
    obtain ⟨v, h2, r2⟩ := atI_dps r1 e
    exact .inr (.inl ⟨a, vs, _, v, rfl, rfl, h1, h2, q _ J H (.refl s) r2⟩)
  · split at e
    · rename_i hl
      cases wx.str
      cases wy.int
      split at e
      · rename_i c hc
        cases e
        exact .inr (.inr ⟨_, _, c, rfl, rfl, hl, hc, q _ J H (.refl s) (.str _)⟩)
      · cases e
    · cases e
  · cases e
theorem sld_of {r : V → Option Int → Option Int → Hp → VK → Prop} {g : D → Option Int → Option Int → Option D} (h : SlR X r) (i : ∀ x lo hi H Q, rSD X.K g x lo hi H Q → r x lo hi H Q) : SlD X g :=
  fun pins s σ H x v vl vu lo hi sl Q I rx hs pl pu q => h pins s σ H x v vl vu lo hi sl Q I rx hs pl pu (i _ _ _ _ _ q)
theorem od_sl : SlD X dSl := by
  refine sld_of (sl_list.or (sl_tupA.or sl_str)) fun x lo hi H Q ⟨J, dx, d, s, wx, e, q⟩ => ?_
  cases dx with
  | list xs =>
    cases (show some (PyData.list (cutD xs lo hi)) = some d from e)
    obtain ⟨a, vs, rfl, h1, r1⟩ := wx.list s
    refine .inl ⟨a, vs, rfl, h1, fun p hp => ?_⟩
    have gr := Grow.new (o := .lst (cutV vs lo hi)) s hp
    exact q _ _ _ gr (.lst (.of upd_same) (dps_mono gr.j _ _ (cut_dps lo hi r1)))
  | tuple xs =>
    cases (show some (PyData.tuple (cutD xs lo hi)) = some d from e)
    obtain ⟨a, vs, rfl, h1, r1, p1⟩ := wx.tup s
    refine .inr (.inl ⟨a, vs, rfl, h1, fun hw => ?_, fun _ p hp => ?_⟩)
    · have e : cutD xs lo hi = xs := by
        unfold cutD
        rw [← dps_len r1, hw.1, hw.2, List.drop_zero, Nat.sub_zero, dps_len r1, List.take_length]
      rw [e] at q
      exact q _ J H (.refl s) p1
    · have gr := Grow.new (o := .tup (cutV vs lo hi)) s hp
      exact q _ _ _ gr (.tup (.of upd_same) (dps_mono gr.j _ _ (cut_dps lo hi r1)))
  | str z =>
    have e : (if z.length ≤ sizeLine then some (PyData.str (cutS z lo hi)) else none) = some d := e
    split at e
    · rename_i hl
      cases e
      cases wx.str
      exact .inr (.inr ⟨_, rfl, hl, q _ J H (.refl s) (.str _)⟩)
    · cases e
  | _ => cases e
end

/-! ### built-in functions -/
def intsD : List D → Option (List Int)
  | [] => some []
  | .int i :: r => match intsD r with
    | some l => some (i :: l)
    | none => none
  | _ => none
def strsD : List D → Option (List Str)
  | [] => some []
  | .str i :: r => match strsD r with
    | some l => some (i :: l)
    | none => none
  | _ => none
def boolsD : List D → Option (List Bool)
  | [] => some []
  | .bool i :: r => match boolsD r with
    | some l => some (i :: l)
    | none => none
  | _ => none
theorem ints_map (l : List Int) : intsD (l.map PyData.int) = some l := by
  induction l with
  | nil => rfl
  | cons a l ih => simp [intsD, ih]
theorem strs_map (l : List Str) : strsD (l.map PyData.str) = some l := by
  induction l with
  | nil => rfl
  | cons a l ih => simp [strsD, ih]
theorem bools_map (l : List Bool) : boolsD (l.map PyData.bool) = some l := by
  induction l with
  | nil => rfl
  | cons a l ih => simp [boolsD, ih]
theorem ints_inv : ∀ {ds : List D} {l : List Int}, intsD ds = some l → ds = l.map PyData.int
  | [], l, h => by cases h; rfl
  | .int i :: r, l, h => by
    unfold intsD at h
    split at h
    · rename_i l' e
      cases h
      rw [ints_inv e]
      rfl
    · cases h
  | .none :: _, _, h => by cases h
  | .bool _ :: _, _, h => by cases h
  | .str _ :: _, _, h => by cases h
  | .list _ :: _, _, h => by cases h
  | .tuple _ :: _, _, h => by cases h
  | .dict _ :: _, _, h => by cases h
theorem strs_inv : ∀ {ds : List D} {l : List Str}, strsD ds = some l → ds = l.map PyData.str
  | [], l, h => by cases h; rfl
  | .str i :: r, l, h => by
    unfold strsD at h
    split at h
    · rename_i l' e
      cases h
      rw [strs_inv e]
      rfl
    · cases h
  | .none :: _, _, h => by cases h
  | .bool _ :: _, _, h => by cases h
  | .int _ :: _, _, h => by cases h
  | .list _ :: _, _, h => by cases h
  | .tuple _ :: _, _, h => by cases h
  | .dict _ :: _, _, h => by cases h
theorem bools_inv : ∀ {ds : List D} {l : List Bool}, boolsD ds = some l → ds = l.map PyData.bool
  | [], l, h => by cases h; rfl
  | .bool i :: r, l, h => by
    unfold boolsD at h
    split at h
    · rename_i l' e
      cases h
      rw [bools_inv e]
      rfl
    · cases h
  | .none :: _, _, h => by cases h
  | .str _ :: _, _, h => by cases h
  | .int _ :: _, _, h => by cases h
  | .list _ :: _, _, h => by cases h
  | .tuple _ :: _, _, h => by cases h
  | .dict _ :: _, _, h => by cases h
theorem dps_ints_inv {K : Fg} {J : Hp} : ∀ {vs : List V} {l : List Int}, RpAll K J vs (l.map PyData.int) → vs = l.map V.int
  | [], [], _ => rfl
  | [], _ :: _, h => by cases h
  | _ :: _, [], h => by cases h
  | v :: vs, i :: l, h => by
    cases h with
    | cons h1 h2 =>
      cases h1
      rw [dps_ints_inv h2]
      rfl
theorem dps_strs_inv {K : Fg} {J : Hp} : ∀ {vs : List V} {l : List Str}, RpAll K J vs (l.map PyData.str) → vs = l.map V.str
  | [], [], _ => rfl
  | [], _ :: _, h => by cases h
  | _ :: _, [], h => by cases h
  | v :: vs, i :: l, h => by
    cases h with
    | cons h1 h2 =>
      cases h1
      rw [dps_strs_inv h2]
      rfl
theorem dps_bools_inv {K : Fg} {J : Hp} : ∀ {vs : List V} {l : List Bool}, RpAll K J vs (l.map PyData.bool) → vs = l.map V.bl
  | [], [], _ => rfl
  | [], _ :: _, h => by cases h
  | _ :: _, [], h => by cases h
  | v :: vs, i :: l, h => by
    cases h with
    | cons h1 h2 =>
      cases h1
      rw [dps_bools_inv h2]
      rfl
@[simp] def dLen : List D → Option D
  | [.list xs] => some (.int xs.length)
  | [.tuple xs] => some (.int xs.length)
  | [.str z] => if z.length ≤ sizeLine then some (.int z.length) else none
  | _ => none
def dAll : List D → Option D
  | [.list xs] => match boolsD xs with
    | some l => some (.bool (l.all id))
    | none => none
  | _ => none
def dAny : List D → Option D
  | [.list xs] => match boolsD xs with
    | some l => some (.bool (l.any id))
    | none => none
  | _ => none
def dSum : List D → Option D
  | [.list xs] => match intsD xs with
    | some l => some (.int l.sum)
    | none => none
  | _ => none
def maxL : List Int → Int
  | [] => 0
  | [a] => a
  | a :: r => max a (maxL r)
def minL : List Int → Int
  | [] => 0
  | [a] => a
  | a :: r => min a (minL r)
theorem maxL_mem : ∀ (l : List Int), l ≠ [] → maxL l ∈ l ∧ ∀ y ∈ l, y ≤ maxL l
  | [], h => (h rfl).elim
  | [a], _ => ⟨by simp [maxL], by simp [maxL]⟩
  | a :: b :: r, _ => by
    obtain ⟨h1, h2⟩ := maxL_mem (b :: r) (by simp)
    show max a (maxL (b :: r)) ∈ a :: b :: r ∧ ∀ y ∈ a :: b :: r, y ≤ max a (maxL (b :: r))
    refine ⟨?_, fun y hy => ?_⟩
    · by_cases h : a ≤ maxL (b :: r)
      · rw [Int.max_eq_right h]
        exact List.mem_cons_of_mem _ h1
      · rw [Int.max_eq_left (by omega)]
        exact List.mem_cons_self
    · rcases List.mem_cons.mp hy with rfl | hy
      · omega
      · have := h2 y hy
        omega
theorem minL_mem : ∀ (l : List Int), l ≠ [] → minL l ∈ l ∧ ∀ y ∈ l, minL l ≤ y
  | [], h => (h rfl).elim
  | [a], _ => ⟨by simp [minL], by simp [minL]⟩
  | a :: b :: r, _ => by
    obtain ⟨h1, h2⟩ := minL_mem (b :: r) (by simp)
    show min a (minL (b :: r)) ∈ a :: b :: r ∧ ∀ y ∈ a :: b :: r, min a (minL (b :: r)) ≤ y
    refine ⟨?_, fun y hy => ?_⟩
    · by_cases h : a ≤ minL (b :: r)
      · rw [Int.min_eq_left h]
        exact List.mem_cons_self
      · rw [Int.min_eq_right (by omega)]
        exact List.mem_cons_of_mem _ h1
    · rcases List.mem_cons.mp hy with rfl | hy
      · omega
      · have := h2 y hy
        omega
def dMax : List D → Option D
  | [.list xs] => match intsD xs with
    | some l => if l ≠ [] then some (.int (maxL l)) else none
    | none => none
  | [.int i, .int j] => some (.int (if j > i then j else i))
  | _ => none
def dMin : List D → Option D
  | [.list xs] => match intsD xs with
    | some l => if l ≠ [] then some (.int (minL l)) else none
    | none => none
  | [.int i, .int j] => some (.int (if j < i then j else i))
  | _ => none
@[simp] def dAbs : List D → Option D
  | [.int i] => some (.int (if i < 0 then -i else i))
  | _ => none
@[simp] def dInt : List D → Option D
  | [.int i] => some (.int i)
  | [.bool b] => some (.int (if b then 1 else 0))
  | [.str a] => if a.length ≤ 640 then (match PySem.intText? a with
    | some n => some (.int n)
    | none => none) else none
  | _ => none
def dStr : List D → Option D
  | [.int i] => if i.natAbs.log2 < 1920 then some (.str (toString i)) else none
  | [.str a] => some (.str a)
  | _ => none
def dRepr : List D → Option D
  | [.int i] => if i.natAbs.log2 < 1920 then some (.str (toString i)) else none
  | [.bool b] => some (.str (if b then "True" else "False"))
  | _ => none
@[simp] def dTuple : List D → Option D
  | [.list xs] => some (.tuple xs)
  | [.tuple xs] => some (.tuple xs)
  | _ => none
@[simp] def nList : List D → Option (List D)
  | [.list xs] => some xs
  | [.tuple xs] => some xs
  | _ => none
section
variable {X : Cx} {K : Fg} {J H : Hp}
theorem cd_of {f : Value} {r : List V → Hp → VK → Prop} {g : List D → Option D} (h : CallR X f r) (i : ∀ xs H Q, rCD X.K g xs H Q → r xs H Q) : CallD X f g := fun pins s σ H xs us Q I r q => h pins s σ H xs us Q I r (i _ _ _ q)
theorem cn_of {f : Value} {r : List V → Hp → VK → Prop} {g : List D → Option (List D)} (h : CallR X f r) (i : ∀ xs H Q, rCN X.K g xs H Q → r xs H Q) : CallN X f g := fun pins s σ H xs us Q I r q => h pins s σ H xs us Q I r (i _ _ _ q)
theorem wks1 {vs : List V} {d : D} (h : Wks K J H vs [d]) : ∃ v, vs = [v] ∧ Wk K J H v d := by
  cases vs with
  | nil => exact h.elim
  | cons v vs =>
    cases vs with
    | nil => exact ⟨v, rfl, h.1⟩
    | cons _ _ => exact h.2.elim
theorem wks2 {vs : List V} {d e : D} (h : Wks K J H vs [d, e]) : ∃ v w, vs = [v, w] ∧ Wk K J H v d ∧ Wk K J H w e := by
  cases vs with
  | nil => exact h.elim
  | cons v vs =>
    obtain ⟨w, rfl, h2⟩ := wks1 h.2
    exact ⟨v, w, rfl, h.1, h2⟩
theorem cd_len : CallD X (.builtin "len") dLen := by
  refine cd_of call_len fun xs H Q ⟨J, ds, d, s, w, e, q⟩ => ?_
  unfold dLen at e
  split at e
  · cases e
    obtain ⟨v, rfl, wv⟩ := wks1 w
    obtain ⟨a, vs, rfl, h1, r1⟩ := wv.list s
    exact ⟨_, vs.length, rfl, .inl ⟨vs, h1, rfl⟩, by rw [dps_len r1]; exact q _ J H (.refl s) (.int _)⟩
  · cases e
    obtain ⟨v, rfl, wv⟩ := wks1 w
    obtain ⟨a, vs, rfl, h1, r1, _⟩ := wv.tup s
    exact ⟨_, vs.length, rfl, .inr ⟨vs, h1, rfl⟩, by rw [dps_len r1]; exact q _ J H (.refl s) (.int _)⟩
  · split at e
    · rename_i hl
      cases e
      obtain ⟨v, rfl, wv⟩ := wks1 w
      cases wv.str
      exact ⟨_, _, rfl, ⟨hl, rfl⟩, q _ J H (.refl s) (.int _)⟩
    · cases e
  · cases e
theorem cd_all (hc : X.calm = true) : CallD X (.builtin "all") dAll := by
  refine cd_of (cr_all hc) fun xs H Q ⟨J, ds, d, s, w, e, q⟩ => ?_
  unfold dAll at e
  split at e
  · split at e
    · rename_i l hl
      cases e
      obtain ⟨v, rfl, wv⟩ := wks1 w
      obtain ⟨a, vs, rfl, h1, r1⟩ := wv.list s
      rw [bools_inv hl] at r1
      have := dps_bools_inv r1
      subst this
      exact ⟨a, l, rfl, h1, q _ J H (.refl s) (.bl _)⟩
    · cases e
  · cases e
theorem cd_any (hc : X.calm = true) : CallD X (.builtin "any") dAny := by
  refine cd_of (cr_any hc) fun xs H Q ⟨J, ds, d, s, w, e, q⟩ => ?_
  unfold dAny at e
  split at e
  · split at e
    · rename_i l hl
      cases e
      obtain ⟨v, rfl, wv⟩ := wks1 w
      obtain ⟨a, vs, rfl, h1, r1⟩ := wv.list s
      rw [bools_inv hl] at r1
      have := dps_bools_inv r1
      subst this
      exact ⟨a, l, rfl, h1, q _ J H (.refl s) (.bl _)⟩
    · cases e
  · cases e
theorem cd_sum (hc : X.calm = true) : CallD X (.builtin "sum") dSum := by
  refine cd_of (cr_sum hc) fun xs H Q ⟨J, ds, d, s, w, e, q⟩ => ?_
  unfold dSum at e
  split at e
  · split at e
    · rename_i l hl
      cases e
      obtain ⟨v, rfl, wv⟩ := wks1 w
      obtain ⟨a, vs, rfl, h1, r1⟩ := wv.list s
      rw [ints_inv hl] at r1
      have := dps_ints_inv r1
      subst this
      exact ⟨a, l, rfl, h1, q _ J H (.refl s) (.int _)⟩
    · cases e
  · cases e
theorem cd_max (hc : X.calm = true) : CallD X (.builtin "max") dMax := by
  refine cd_of ((cr_max hc).or (call_max2 hc)) fun xs H Q ⟨J, ds, d, s, w, e, q⟩ => ?_
  unfold dMax at e
  split at e
  · split at e
    · rename_i l hl
      split at e
      · rename_i hne
        cases e
        obtain ⟨v, rfl, wv⟩ := wks1 w
        obtain ⟨a, vs, rfl, h1, r1⟩ := wv.list s
        rw [ints_inv hl] at r1
        have := dps_ints_inv r1
        subst this
        refine .inl ⟨a, l, rfl, h1, List.length_pos_iff.mpr hne, fun m hm hy => ?_⟩
        obtain ⟨k1, k2⟩ := maxL_mem l hne
        have e : m = maxL l := by
          have a1 := k2 m hm
          have a2 := hy _ k1
          omega
        subst e
        exact q _ J H (.refl s) (.int _)
      · cases e
    · cases e
  · cases e
    obtain ⟨v, u, rfl, wv, wu⟩ := wks2 w
    cases wv.int
    cases wu.int
    exact .inr ⟨_, _, rfl, q _ J H (.refl s) (.int _)⟩
  · cases e
theorem cd_min (hc : X.calm = true) : CallD X (.builtin "min") dMin := by
  refine cd_of ((cr_min hc).or (call_min2 hc)) fun xs H Q ⟨J, ds, d, s, w, e, q⟩ => ?_
  unfold dMin at e
  split at e
  · split at e
    · rename_i l hl
      split at e
      · rename_i hne
        cases e
        obtain ⟨v, rfl, wv⟩ := wks1 w
        obtain ⟨a, vs, rfl, h1, r1⟩ := wv.list s
        rw [ints_inv hl] at r1
        have := dps_ints_inv r1
        subst this
        refine .inl ⟨a, l, rfl, h1, List.length_pos_iff.mpr hne, fun m hm hy => ?_⟩
        obtain ⟨k1, k2⟩ := minL_mem l hne
        have e : m = minL l := by
          have a1 := k2 m hm
          have a2 := hy _ k1
          omega
        subst e
        exact q _ J H (.refl s) (.int _)
      · cases e
    · cases e
  · cases e
    obtain ⟨v, u, rfl, wv, wu⟩ := wks2 w
    cases wv.int
    cases wu.int
    exact .inr ⟨_, _, rfl, q _ J H (.refl s) (.int _)⟩
  · cases e
theorem cd_abs : CallD X (.builtin "abs") dAbs := by
  refine cd_of call_abs fun xs H Q ⟨J, ds, d, s, w, e, q⟩ => ?_
  unfold dAbs at e
  split at e
  · cases e
    obtain ⟨v, rfl, wv⟩ := wks1 w
    cases wv.int
    exact ⟨_, rfl, q _ J H (.refl s) (.int _)⟩
  · cases e
theorem cd_int : CallD X (.type "int") dInt := by
  refine cd_of (call_int1.or call_int_str) fun xs H Q ⟨J, ds, d, s, w, e, q⟩ => ?_
  unfold dInt at e
  split at e
  · cases e
    obtain ⟨v, rfl, wv⟩ := wks1 w
    cases wv.int
    exact .inl (.inl ⟨_, rfl, q _ J H (.refl s) (.int _)⟩)
  · cases e
    obtain ⟨v, rfl, wv⟩ := wks1 w
    cases wv.bl
    exact .inl (.inr ⟨_, rfl, q _ J H (.refl s) (.int _)⟩)
  · obtain ⟨v, rfl, wv⟩ := wks1 w
    cases wv.str
    split at e
    · rename_i hl
      split at e
      · rename_i n hn
        cases e
        exact .inr ⟨_, n, rfl, hn, hl, q _ J H (.refl s) (.int _)⟩
      · cases e
    · cases e
  · cases e
theorem cd_str : CallD X (.type "str") dStr := by
  refine cd_of (call_str_int.or SkE.call_str_str) fun xs H Q ⟨J, ds, d, s, w, e, q⟩ => ?_
  unfold dStr at e
  split at e
  · split at e
    · rename_i hl
      cases e
      obtain ⟨v, rfl, wv⟩ := wks1 w
      cases wv.int
      exact .inl ⟨_, rfl, hl, q _ J H (.refl s) (.str _)⟩
    · cases e
  · cases e
    obtain ⟨v, rfl, wv⟩ := wks1 w
    cases wv.str
    exact .inr ⟨_, rfl, q _ J H (.refl s) (.str _)⟩
  · cases e
theorem call_repr_bl : CallR X (.builtin "repr") (fun xs H Q => ∃ b : Bool, xs = [.bl b] ∧ Q (.str (if b then "True" else "False")) H) := by
  intro pins s σ H xs us Q I r h
  obtain ⟨b, rfl, q⟩ := h
  obtain ⟨u, rfl, r1⟩ := vals1 r
  cases r1
  exact PySem.P.repr_of_bool ⟨.str _, H, I.tok _, ⟨_, rfl⟩, q⟩
theorem cd_repr : CallD X (.builtin "repr") dRepr := by
  refine cd_of (SkE.call_repr_int.or call_repr_bl) fun xs H Q ⟨J, ds, d, s, w, e, q⟩ => ?_
  unfold dRepr at e
  split at e
  · split at e
    · rename_i hl
      cases e
      obtain ⟨v, rfl, wv⟩ := wks1 w
      cases wv.int
      exact .inl ⟨_, rfl, hl, q _ J H (.refl s) (.str _)⟩
    · cases e
  · cases e
    obtain ⟨v, rfl, wv⟩ := wks1 w
    cases wv.bl
    exact .inr ⟨_, rfl, q _ J H (.refl s) (.str _)⟩
  · cases e
theorem cd_tuple : CallD X (.type "tuple") dTuple := by
  refine cd_of call_tuple_of fun xs H Q ⟨J, ds, d, s, w, e, q⟩ => ?_
  unfold dTuple at e
  split at e
  · cases e
    obtain ⟨v, rfl, wv⟩ := wks1 w
    obtain ⟨a, vs, rfl, h1, r1⟩ := wv.list s
    refine ⟨a, vs, rfl, .inl ⟨h1, fun p hp => ?_⟩⟩
    have gr := Grow.new (o := .tup vs) s hp
    exact q _ _ _ gr (.tup (.of upd_same) (dps_mono gr.j _ _ r1))
  · cases e
    obtain ⟨v, rfl, wv⟩ := wks1 w
    obtain ⟨a, vs, rfl, h1, r1, p1⟩ := wv.tup s
    exact ⟨a, vs, rfl, .inr ⟨h1, q _ J H (.refl s) p1⟩⟩
  · cases e
theorem cn_list : CallN X (.type "list") nList := by
  refine cn_of call_list_of fun xs H Q ⟨J, ds, d, s, w, e, q⟩ => ?_
  unfold nList at e
  split at e
  · cases e
    obtain ⟨v, rfl, wv⟩ := wks1 w
    obtain ⟨a, vs, rfl, h1, r1⟩ := wv.list s
    exact ⟨a, vs, rfl, .inl h1, fun p hp => q p _ hp r1⟩
  · cases e
    obtain ⟨v, rfl, wv⟩ := wks1 w
    obtain ⟨a, vs, rfl, h1, r1, p1⟩ := wv.tup s
    exact ⟨a, vs, rfl, .inr h1, fun p hp => q p _ hp r1⟩
  · cases e
end

/-! ### isinstance of built-in types -/
def tyOf : D → String
  | .none => "NoneType"
  | .bool _ => "bool"
  | .int _ => "int"
  | .str _ => "str"
  | .list _ => "list"
  | .tuple _ => "tuple"
  | .dict _ => "dict"
def isTy (t : String) (d : D) : Option Bool := kitB (tyOf d) t
def anyTy : List String → D → Option Bool
  | [], _ => some false
  | t :: ts, d => match isTy t d with
    | some true => some true
    | some false => anyTy ts d
    | none => none
@[simp] def eIsi (ts : List String) (f : EC) (ρ : Env) : Out VV := (f ρ).bind fun x ρ1 => match deref ρ1 x with
  | some d => match anyTy ts d with
    | some b => .ok (.val (.bool b)) ρ1
    | none => .bad
  | none => .bad
section
variable {X : Cx} {Y : Yx} {K : Fg} {J H : Hp} {a : Expr} {pos : Pos}
theorem wk_ty {v : V} {d : D} (s : Same J H) (h : Wk K J H v d) (hd : ∀ kvs, d ≠ .dict kvs) : TyX K H v (.type (tyOf d)) := by
  cases d with
  | none => cases h.non; exact .base .non
  | bool i => cases h.bl; exact .base (.bl _)
  | int i => cases h.int; exact .base (.int _)
  | str i => cases h.str; exact .base (.str _)
  | list xs =>
    obtain ⟨a, vs, rfl, h1, _⟩ := h.list s
    rcases h1 with (h1 | ⟨o, h1⟩) | ⟨o, its, n, h1, h2, _⟩
    · exact .base (.lst h1)
    · exact .base (.frz h1)
    · exact .kList h1 h2
  | tuple xs =>
    obtain ⟨a, vs, rfl, h1, _⟩ := h.tup s
    rcases h1 with (h1 | ⟨o, h1⟩) | ⟨o, its, n, h1, h2, _⟩
    · exact .base (.tup h1)
    · exact .fTuple h1
    · exact .kTuple h1 h2
  | dict kvs => exact absurd rfl (hd kvs)
theorem wk_nodict {v : V} {d : D} (h : Wk K J H v d) : ∀ kvs, d ≠ .dict kvs := by
  rintro kvs rfl
  rcases h with h | ⟨_, _, _, _, e, _⟩
  · cases h
  · cases e
theorem kitAny_of {t : String} : ∀ {ts : List String} {d : D} {b : Bool}, anyTy ts d = some b → PySem.W.kitAny K (.type (tyOf d)) (ts.map Value.type) = some b
  | [], d, b, h => by
    cases h
    rfl
  | t' :: ts, d, b, h => by
    unfold anyTy at h
    split at h
    · rename_i e
      cases h
      exact kitAny_cons (b := true) (kit_ty e) (fun z => nomatch z) fun _ => rfl
    · rename_i e
      exact kitAny_cons (b := false) (kit_ty e) (fun _ => kitAny_of (t := t) h) fun z => nomatch z
    · cases h
theorem de_isi {t : String} {x : Str} {f : EC} {p p2 : Pos} (ha : DE X Y a f) (hm : X.mg "isinstance" = none) (hm2 : X.mg x = none) (hv2 : bootBuiltins x = some (.type t)) (hg : Gl X "isinstance" := by rfl) (hg2 : Gl X x := by rfl)
    (hv : bootBuiltins "isinstance" = some (.builtin "isinstance") := by decide +kernel) (hn2 : x ≠ "__name__" := by decide) (hd2 : (x == ("__debug__" : Str)) = false := by decide)
    (he : starEach [a, .Name x p2] X.env = (false, eval a X.env) :: starEach [.Name x p2] X.env := by rfl) (he2 : starEach [.Name x p2] X.env = (false, eval (.Name x p2) X.env) :: starEach [] X.env := by rfl) (hpl : (backTo pos (starEach [.Name x p2] X.env)).any (·.1) = false := by rfl) :
    DE X Y (.Call (.Name "isinstance" p) [a, .Name x p2] [] pos) (eIsi [t] f) := by
  have h2 : PE X (.Name x p2) (tC (.ty t)) := pe_bltn hg2 hm2 hv2 rfl hn2 hd2
  refine PE.imp (pe_callB call_isi hg hm hv (pa_cons ha (pa_cons h2 pa_nil he2) he) (by decide) (by decide) he hpl) fun σ H Q ⟨G, J, ρ, er, h⟩ => ⟨G, J, ρ, er, Post.bind h fun y ρ1 v J1 H1 s1 r1 e1 h1 => ?_⟩
  split at h1
  · rename_i d hd
    split at h1
    · rename_i b hb
      have wv := deref_ok e1 r1 hd
      have hb' : kitB (tyOf d) t = some b := by
        unfold anyTy at hb
        split at hb
        · rename_i e
          cases hb
          exact e
        · rename_i e
          cases hb
          exact e
        · cases hb
      exact ⟨v, .ty t, _, _, b, rfl, .ty t, wk_ty e1.ex wv (wk_nodict wv), kit_ty hb', h1.now (.bl b) e1⟩
    · exact h1.elim
  · exact h1.elim
end

/-! ### methods of texts -/
def dJoin : D → List D → Option D
  | .str a, [.list xs] => match strsD xs with
    | some ys => if (ys.map (·.length)).sum + ys.length * a.length ≤ 16777216 then some (.str (Txt.join a ys)) else none
    | none => none
  | .str a, [.tuple xs] => match strsD xs with
    | some ys => if (ys.map (·.length)).sum + ys.length * a.length ≤ 16777216 then some (.str (Txt.join a ys)) else none
    | none => none
  | _, _ => none
def dSplit : D → List D → Option D
  | .str a, [.str b] => if (b.length == 0) = false ∧ a.length + 2 ≤ sizeLine then some (.list ((Txt.split a b).map PyData.str)) else none
  | _, _ => none
@[simp] def dStarts : D → List D → Option D
  | .str a, [.str b] => some (.bool (Txt.startswith a b))
  | _, _ => none
@[simp] def dEnds : D → List D → Option D
  | .str a, [.str b] => some (.bool (Txt.endswith a b))
  | _, _ => none
def dSIndex : D → List D → Option D
  | .str a, [.str b] => match Builtin.Str.occurrences a b 0 a.length 1 with
    | i :: _ => some (.int (i : Nat))
    | [] => none
  | _, _ => none
section
variable {X : Cx} {K : Fg} {J H : Hp}
theorem md_of {id : String} {r : V → List V → Hp → VK → Prop} {g : D → List D → Option D} (h : MtR X id r) (i : ∀ x xs H Q, rMD X.K g x xs H Q → r x xs H Q) : MtD X id g := fun pins s σ H x xs v us Q I rx r q => h pins s σ H x xs v us Q I rx r (i _ _ _ _ q)
theorem md_join : MtD X "str.join" dJoin := by
  refine md_of mt_join fun x xs H Q ⟨J, dx, ds, d, s, wx, w, e, q⟩ => ?_
  unfold dJoin at e
  split at e
  · split at e
    · rename_i ys hy
      split at e
      · rename_i hl
        cases e
        cases wx.str
        obtain ⟨v, rfl, wv⟩ := wks1 w
        obtain ⟨a, vs, rfl, h1, r1⟩ := wv.list s
        rw [strs_inv hy] at r1
        have := dps_strs_inv r1
        subst this
        exact ⟨_, a, ys, rfl, rfl, .inl h1, hl, q _ J H (.refl s) (.str _)⟩
      · cases e
    · cases e
  · split at e
    · rename_i ys hy
      split at e
      · rename_i hl
        cases e
        cases wx.str
        obtain ⟨v, rfl, wv⟩ := wks1 w
        obtain ⟨a, vs, rfl, h1, r1, _⟩ := wv.tup s
        rw [strs_inv hy] at r1
        have := dps_strs_inv r1
        subst this
        exact ⟨_, a, ys, rfl, rfl, .inr h1, hl, q _ J H (.refl s) (.str _)⟩
      · cases e
    · cases e
  · cases e
theorem md_split : MtD X "str.split" dSplit := by
  refine md_of mt_split fun x xs H Q ⟨J, dx, ds, d, s, wx, w, e, q⟩ => ?_
  unfold dSplit at e
  split at e
  · rename_i a b
    split at e
    · rename_i hl
      cases e
      cases wx.str
      obtain ⟨v, rfl, wv⟩ := wks1 w
      cases wv.str
      refine ⟨_, _, rfl, rfl, hl.1, hl.2, fun p hp => ?_⟩
      have gr := Grow.new (o := .lst ((Txt.split a b).map V.str)) s hp
      exact q _ _ _ gr (.lst (.of upd_same) (dps_strs _))
    · cases e
  · cases e
theorem md_starts : MtD X "str.startswith" dStarts := by
  refine md_of mt_startswith fun x xs H Q ⟨J, dx, ds, d, s, wx, w, e, q⟩ => ?_
  unfold dStarts at e
  split at e
  · cases e
    cases wx.str
    obtain ⟨v, rfl, wv⟩ := wks1 w
    cases wv.str
    exact ⟨_, _, rfl, rfl, q _ J H (.refl s) (.bl _)⟩
  · cases e
theorem md_ends : MtD X "str.endswith" dEnds := by
  refine md_of mt_endswith fun x xs H Q ⟨J, dx, ds, d, s, wx, w, e, q⟩ => ?_
  unfold dEnds at e
  split at e
  · cases e
    cases wx.str
    obtain ⟨v, rfl, wv⟩ := wks1 w
    cases wv.str
    exact ⟨_, _, rfl, rfl, q _ J H (.refl s) (.bl _)⟩
  · cases e
end
end DL

namespace DL
open PySem PySem.Spec L2

/-! ### what is walked -/
structure ItOk (K : Fg) (J : Hp) (It : It) (ds : List D) : Prop where
  go : ∀ i J1 H, Same J J1 → Same J1 H → i < ds.length → It.go i H
  yld : ∀ i J1 H x H', Same J J1 → Same J1 H → i < ds.length → It.yld i H x H' → ∃ J2 d, Grow J1 H J2 H' ∧ ds[i]? = some d ∧ Rp K J2 x d
  stop : ∀ J1 H, Same J J1 → Same J1 H → It.stop ds.length H
theorem ItOk.mono {K : Fg} {J J' : Hp} {It : It} {ds : List D} (h : ItOk K J It ds) (s : Same J J') : ItOk K J' It ds :=
  ⟨fun i J1 H a b c => h.go i J1 H (s.trans a) b c, fun i J1 H x H' a b c d => h.yld i J1 H x H' (s.trans a) b c d, fun J1 H a b => h.stop J1 H (s.trans a) b⟩
def tI (K : Fg) (Y : Yx) (f : Env → Out (List D)) : TI := fun σ H R => ∃ G J ρ, ER K G J H σ ρ ∧ Post K Y G J σ (fun J' It ds => ItOk K J' It ds) (f ρ) R
abbrev DI (X : Cx) (Y : Yx) (tg e : Expr) (f : Env → Out (List D)) : Prop := PI X tg e (tI X.K Y f)
theorem PI.imp {X : Cx} {tg e : Expr} {t t' : TI} (h : PI X tg e t) (i : ∀ σ H Q, t' σ H Q → t σ H Q) : PI X tg e t' := ⟨fun pins s σ H R I hw => h.run pins s σ H R I (i _ _ _ hw)⟩
theorem PI.or {X : Cx} {tg e : Expr} {t t' : TI} (h : PI X tg e t) (h' : PI X tg e t') : PI X tg e (fun σ H Q => t σ H Q ∨ t' σ H Q) := ⟨fun pins s σ H R I hw => by
  rcases hw with hw | hw
  · exact h.run pins s σ H R I hw
  · exact h'.run pins s σ H R I hw⟩
@[simp] def itemsOf : D → Option (List D)
  | .list xs => some xs
  | .tuple xs => some xs
  | .str z => some (z.cps.toList.map fun c => .str ⟨#[c]⟩)
  | _ => none
@[simp] def eIter (f : EC) (ρ : Env) : Out (List D) := (f ρ).bind fun x ρ1 => match x with
  | .val d => match itemsOf d with
    | some ds => .ok ds ρ1
    | none => .bad
  | .slot _ => .bad
theorem it_list {K : Fg} {J : Hp} {a : Addr} {vs : List V} {ds : List D} (h : SqL K J a vs) (r : RpAll K J vs ds) : ItOk K J (Itl K a) ds := by
  refine ⟨fun i J1 H s1 s2 hi => ?_, fun i J1 H x H' s1 s2 hi y => ?_, fun J1 H s1 s2 => ⟨vs, same_l s2 (same_l s1 h), by rw [dps_len r]; exact Nat.le_refl _⟩⟩
  · rw [← dps_len r] at hi
    exact ⟨vs, vs[i], same_l s2 (same_l s1 h), by simp [hi]⟩
  · obtain ⟨rfl, y⟩ := y
    obtain ⟨d, h1, h2⟩ := dps_get' r (y vs (same_l s2 (same_l s1 h)))
    exact ⟨J1, d, .refl s2, h1, dp_mono s1 _ _ h2⟩
theorem it_tup {K : Fg} {J : Hp} {a : Addr} {vs : List V} {ds : List D} (h : SqT K J a vs) (r : RpAll K J vs ds) : ItOk K J (Itt K a) ds := by
  refine ⟨fun i J1 H s1 s2 hi => ?_, fun i J1 H x H' s1 s2 hi y => ?_, fun J1 H s1 s2 => ⟨vs, same_t s2 (same_t s1 h), by rw [dps_len r]; exact Nat.le_refl _⟩⟩
  · rw [← dps_len r] at hi
    exact ⟨vs, vs[i], same_t s2 (same_t s1 h), by simp [hi]⟩
  · obtain ⟨rfl, y⟩ := y
    obtain ⟨d, h1, h2⟩ := dps_get' r (y vs (same_t s2 (same_t s1 h)))
    exact ⟨J1, d, .refl s2, h1, dp_mono s1 _ _ h2⟩
theorem it_str {K : Fg} {J : Hp} {z : Str} : ItOk K J (Its z) (z.cps.toList.map fun c => .str ⟨#[c]⟩) := by
  refine ⟨fun i J1 H s1 s2 hi => ?_, fun i J1 H x H' s1 s2 hi y => ?_, fun J1 H s1 s2 => ?_⟩
  · show i < z.cps.size
    simpa using hi
  · obtain ⟨rfl, c, h1, rfl⟩ := y
    refine ⟨J1, .str ⟨#[c]⟩, .refl s2, ?_, .str _⟩
    rw [List.getElem?_map, Array.getElem?_toList, h1]
    rfl
  · show z.cps.size ≤ _
    simp
section
variable {X : Cx} {Y : Yx} {tg a b c : Expr} {pos : Pos}
theorem di_seq {f : EC} (h : DE X Y a f) : DI X Y tg a (eIter f) := by
  refine PI.imp (DL.PI.or (pi_list h) (DL.PI.or (pi_tup h) (pi_str h))) fun σ H R ⟨G, J, ρ, er, hp⟩ => ?_
  unfold eIter at hp
  cases hf : f ρ with
  | exc e ρ1 =>
    rw [hf] at hp
    exact .inl ⟨G, J, ρ, er, by rw [hf]; exact hp⟩
  | bad =>
    rw [hf] at hp
    exact hp.elim
  | ok x ρ1 =>
    rw [hf] at hp
    cases x with
    | slot i => exact hp.elim
    | val d =>
      have hp : Post X.K Y G J σ (fun J' It ds => ItOk X.K J' It ds) (match itemsOf d with
        | some ds => .ok ds ρ1
        | none => .bad) R := hp
      cases d with
      | list xs =>
        refine .inl ⟨G, J, ρ, er, ?_⟩
        rw [hf]
        intro v J' H' s r e
        cases r with
        | lst h1 h2 => exact ⟨_, rfl, ⟨_, same_l e.ex h1⟩, hp _ J' H' s (it_list h1 h2) e⟩
      | tuple xs =>
        refine .inr (.inl ⟨G, J, ρ, er, ?_⟩)
        rw [hf]
        intro v J' H' s r e
        cases r with
        | tup h1 h2 => exact ⟨_, rfl, ⟨_, same_t e.ex h1⟩, hp _ J' H' s (it_tup h1 h2) e⟩
      | str z =>
        refine .inr (.inr ⟨G, J, ρ, er, ?_⟩)
        rw [hf]
        intro v J' H' s r e
        cases r
        exact ⟨_, rfl, hp _ J' H' s it_str e⟩
      | _ => exact hp.elim
def rng (lo : Int) (n : Nat) : List D := (List.range n).map fun (i : Nat) => .int (lo + (i : Int))
theorem it_rng {K : Fg} {J : Hp} {lo : Int} {n : Nat} : ItOk K J (Itr lo n) (rng lo n) := by
  refine ⟨fun i J1 H s1 s2 hi => by
    show i < n
    simpa [rng] using hi, fun i J1 H x H' s1 s2 hi y => ?_, fun J1 H s1 s2 => by show n ≤ _; simp [rng]⟩
  obtain ⟨rfl, rfl⟩ := y
  have hi : i < n := by simpa [rng] using hi
  exact ⟨J1, _, .refl s2, by simp [rng, hi], .int _⟩
@[simp] def eRng1 (fa : Env → Out (List VV)) (ρ : Env) : Out (List D) := (fa ρ).bind fun xs ρ1 => match xs with
  | [.val (.int n)] => if fitZ (2 ^ 62) n = true then .ok (rng 0 n.toNat) ρ1 else .bad
  | _ => .bad
@[simp] def eRng2 (fa : Env → Out (List VV)) (ρ : Env) : Out (List D) := (fa ρ).bind fun xs ρ1 => match xs with
  | [.val (.int m), .val (.int n)] => if fitZ (2 ^ 62) m = true ∧ fitZ (2 ^ 62) n = true then .ok (rng m (n - m).toNat) ρ1 else .bad
  | _ => .bad
theorem rvs1 {K : Fg} {σ : L2.St} {J : Hp} {vs : List V} {x : VV} (h : RVs K σ J vs [x]) : ∃ v, vs = [v] ∧ RV K σ J v x := by
  cases vs with
  | nil => exact h.elim
  | cons v vs =>
    cases vs with
    | nil => exact ⟨v, rfl, h.1⟩
    | cons _ _ => exact h.2.elim
theorem rvs2 {K : Fg} {σ : L2.St} {J : Hp} {vs : List V} {x y : VV} (h : RVs K σ J vs [x, y]) : ∃ v w, vs = [v, w] ∧ RV K σ J v x ∧ RV K σ J w y := by
  cases vs with
  | nil => exact h.elim
  | cons v vs =>
    obtain ⟨w, rfl, h2⟩ := rvs1 h.2
    exact ⟨v, w, rfl, h.1, h2⟩
theorem di_range1 {fa : Env → Out (List VV)} {p : Pos} (hm : X.mg "range" = none) (ha : DA X Y [a] fa) (hg : Gl X "range" := by rfl) (hs : starEach [a] X.env = [(false, eval a X.env)] := by rfl) : DI X Y tg (.Call (.Name "range" p) [a] [] pos) (eRng1 fa) := by
  refine PI.imp (pi_range1 hg hm ha hs) fun σ H R ⟨G, J, ρ, er, hp⟩ => ⟨G, J, ρ, er, Post.bind hp fun xs ρ1 vs J1 H1 s1 r1 e1 h1 => ?_⟩
  split at h1
  · rename_i n
    split at h1
    · rename_i hn
      obtain ⟨v, rfl, rv⟩ := rvs1 r1
      cases rv
      exact ⟨n, rfl, by have := fitZ_ok hn; omega, by have := fitZ_ok hn; omega, h1.now it_rng e1⟩
    · exact h1.elim
  · exact h1.elim
theorem di_range2 {fa : Env → Out (List VV)} {p : Pos} (hm : X.mg "range" = none) (ha : DA X Y [a, b] fa) (hg : Gl X "range" := by rfl) (hs : starEach [a, b] X.env = [(false, eval a X.env), (false, eval b X.env)] := by rfl) (hs2 : starEach [b] X.env = [(false, eval b X.env)] := by rfl) :
    DI X Y tg (.Call (.Name "range" p) [a, b] [] pos) (eRng2 fa) := by
  refine PI.imp (pi_range2 hg hm ha hs hs2) fun σ H R ⟨G, J, ρ, er, hp⟩ => ⟨G, J, ρ, er, Post.bind hp fun xs ρ1 vs J1 H1 s1 r1 e1 h1 => ?_⟩
  split at h1
  · rename_i m n
    split at h1
    · rename_i hn
      obtain ⟨v, w, rfl, rv, rw'⟩ := rvs2 r1
      cases rv
      cases rw'
      exact ⟨m, n, rfl, ⟨by have := fitZ_ok hn.1; omega, by have := fitZ_ok hn.1; omega, by have := fitZ_ok hn.2; omega, by have := fitZ_ok hn.2; omega⟩, h1.now it_rng e1⟩
    · exact h1.elim
  · exact h1.elim

/-! ### targets -/
/-- σ' is σ but at the places of is -/
def Upd (is : List Nat) (σ σ' : L2.St) : Prop := σ'.length = σ.length ∧ ∀ k : Nat, k ∉ is → σ'[k]? = σ[k]?
def tG (K : Fg) (is : List Nat) (set : D → Env → Option Env) : TG := fun v σ H Q => ∃ G J ρ d ρ', ER K G J H σ ρ ∧ Rp K J v d ∧ set d ρ = some ρ' ∧ ∀ σ' J' H', Same J J' → Upd is σ σ' → ER K G J' H' σ' ρ' → Q σ' H'
abbrev DG (X : Cx) (tg : Expr) (is : List Nat) (set : D → Env → Option Env) : Prop := PG X tg (tG X.K is set)
@[simp] def setN (i : Nat) (d : D) (ρ : Env) : Option Env := if loose ρ i = true then some (ρ.set i (.d d)) else none
theorem PG.imp {X : Cx} {tg : Expr} {t t' : TG} (h : PG X tg t) (i : ∀ v σ H Q, t' v σ H Q → t v σ H Q) : PG X tg t' := ⟨fun pins s σ H v u Q I r hw => h.run pins s σ H v u Q I r (i _ _ _ _ hw)⟩
theorem dg_name (i : Nat) {x : Str} (hN : X.N.Nodup) (hi : X.N[i]? = some x := by rfl) (hx : Loc X.env.scope x := by first | exact Or.inl rfl | exact Or.inr rfl) (hf : X.fn x = true ∨ X.env.scope.names.lookup x = some .local := by first | exact .inl rfl | exact .inr rfl | assumption) :
    DG X (.Name x pos) [i] (setN i) := by
  refine PG.imp (pg_name hN hi hx hf) fun v σ H Q ⟨G, J, ρ, d, ρ', er, rv, hs, hq⟩ => ?_
  unfold setN at hs
  split at hs
  · rename_i hl
    cases hs
    refine hq _ J H (.refl J) ⟨List.length_set, fun k hk => ?_⟩ (er.setD rv hl)
    rw [List.getElem?_set_ne (fun e => hk (by simp [e]))]
  · cases hs
/-- several targets -/
def tGs (K : Fg) (is : List Nat) (set : List D → Env → Option Env) : TGs := fun vs σ H Q => ∃ G J ρ ds ρ', ER K G J H σ ρ ∧ RpAll K J vs ds ∧ set ds ρ = some ρ' ∧ ∀ σ' J' H', Same J J' → Upd is σ σ' → ER K G J' H' σ' ρ' → Q σ' H'
abbrev DGs (X : Cx) (tgs : List Expr) (is : List Nat) (set : List D → Env → Option Env) : Prop := PGs X tgs (tGs X.K is set)
theorem PGs.imp {X : Cx} {tg : List Expr} {t t' : TGs} (h : PGs X tg t) (i : ∀ v σ H Q, t' v σ H Q → t v σ H Q) : PGs X tg t' := ⟨fun pins s σ H v u Q I r hw => h.run pins s σ H v u Q I r (i _ _ _ _ hw)⟩
@[simp] def setNil (ds : List D) (ρ : Env) : Option Env := match ds with
  | [] => some ρ
  | _ => none
@[simp] def setCons (s : D → Env → Option Env) (t : List D → Env → Option Env) (ds : List D) (ρ : Env) : Option Env := match ds with
  | d :: r => match s d ρ with
    | some ρ1 => t r ρ1
    | none => none
  | [] => none
theorem dgs_nil : DGs X [] [] setNil := by
  refine PGs.imp pgs_nil fun vs σ H Q ⟨G, J, ρ, ds, ρ', er, rv, hs, hq⟩ => ?_
  cases ds with
  | nil =>
    cases rv
    cases hs
    exact ⟨rfl, hq _ J H (.refl J) ⟨rfl, fun _ _ => rfl⟩ er⟩
  | cons d ds => cases hs
theorem dgs_cons {e : Expr} {es : List Expr} {is js : List Nat} {s : D → Env → Option Env} {t : List D → Env → Option Env} (h1 : DG X e is s) (h2 : DGs X es js t) (hs : (assignEach (e :: es) X.env).map (·.2) = assign e X.env :: (assignEach es X.env).map (·.2) := by rfl) :
    DGs X (e :: es) (is ++ js) (setCons s t) := by
  refine PGs.imp (pgs_cons h1 h2 hs) fun vs σ H Q ⟨G, J, ρ, ds, ρ', er, rv, hs, hq⟩ => ?_
  cases ds with
  | nil => cases hs
  | cons d ds =>
    cases rv with
    | cons r1 r2 =>
      have hs : (match s d ρ with
        | some ρ1 => t ds ρ1
        | none => none) = some ρ' := hs
      split at hs
      · rename_i ρ1 e1
        refine ⟨_, _, rfl, G, J, ρ, d, ρ1, er, r1, e1, fun σ1 J1 H1 s1 u1 er1 => ⟨G, J1, ρ1, ds, ρ', er1, dps_mono s1 _ _ r2, hs, fun σ2 J2 H2 s2 u2 er2 => hq σ2 J2 H2 (s1.trans s2) ⟨u2.1.trans u1.1, fun k hk => ?_⟩ er2⟩⟩
        have hk : k ∉ is ∧ k ∉ js := by simpa using hk
        exact (u2.2 k hk.2).trans (u1.2 k hk.1)
      · cases hs
@[simp] def setTup (n : Nat) (t : List D → Env → Option Env) (d : D) (ρ : Env) : Option Env := match d with
  | .tuple ds => if ds.length = n then t ds ρ else none
  | _ => none
theorem dg_tup {es : List Expr} {k n : Nat} {is : List Nat} {t : List D → Env → Option Env} (hc : X.calm = true) (h : DGs X es is t) (hn : (assignEach es X.env).length = n := by rfl) (hst : (assignEach es X.env).findIdx? (·.1) = none := by rfl) :
    DG X (.Tuple es k pos) is (setTup n t) := by
  refine PG.imp (pg_tup hc h hn hst) fun v σ H Q ⟨G, J, ρ, d, ρ', er, rv, hs, hq⟩ => ?_
  cases d with
  | tuple ds =>
    have hs : (if ds.length = n then t ds ρ else none) = some ρ' := hs
    split at hs
    · rename_i hl
      cases rv with
      | tup h1 h2 => exact ⟨_, _, rfl, same_t er.ex h1, by rw [dps_len h2]; exact hl, G, J, ρ, ds, ρ', er, h2, hs, hq⟩
    · cases hs
  | _ => cases hs

/-! ### comprehensions -/
@[simp] def wipeE (ρ : Env) : List Nat → Env
  | [] => ρ
  | v :: vs => (wipeE ρ vs).set v .un
/-- the slots of vs hold plain data or nothing -/
@[simp] def plainAt (ρ : Env) (i : Nat) : Bool := match ρ[i]? with
  | some .un => true
  | some (.d _) => true
  | _ => false
@[simp] def allPlain (ρ : Env) (vs : List Nat) : Bool := vs.all (plainAt ρ)
/-- ρ' with the slots of vs as in ρ -/
@[simp] def backE (ρ ρ' : Env) : List Nat → Env
  | [] => ρ'
  | v :: vs => (backE ρ ρ' vs).set v (ρ[v]?.getD .un)
def lcRun (vs : List Nat) (set : D → Env → Option Env) (t : TC) (fe : EC) : List D → Env → List D → Out (List D)
  | [], ρ, acc => .ok acc ρ
  | d :: ds, ρ, acc => match set d ρ with
    | none => .bad
    | some ρ1 => match t ρ1 with
      | .ok true ρ2 => match fe ρ2 with
        | .ok (.val v) ρ3 => if acc.length < sizeLine ∧ allPlain ρ3 vs = true then lcRun vs set t fe ds (wipeE ρ3 vs) (acc ++ [v]) else .bad
        | _ => .bad
      | .ok false ρ2 => if allPlain ρ2 vs = true then lcRun vs set t fe ds (wipeE ρ2 vs) acc else .bad
      | _ => .bad
@[simp] def nLc (vs : List Nat) (fi : Env → Out (List D)) (set : D → Env → Option Env) (t : TC) (fe : EC) (ρ : Env) : Out (List D) := (fi ρ).bind fun ds ρ1 => if allPlain ρ1 vs = true then
    match lcRun vs set t fe ds (wipeE ρ1 vs) [] with
    | .ok xs ρ2 => .ok xs (backE ρ1 ρ2 vs)
    | _ => .bad
  else .bad
end
section
variable {K : Fg} {G : Gd} {J H J' H' : Hp} {σ : L2.St} {ρ : Env}
theorem plain_loose {i : Nat} (h : plainAt ρ i = true) : loose ρ i = true := by
  unfold plainAt at h
  unfold loose
  split at h
  · rename_i e; rw [e]
  · rename_i e; rw [e]
  · cases h
theorem plain_set {i j : Nat} {s : SV} (hs : s = .un ∨ ∃ d, s = .d d) (h : plainAt ρ i = true) : plainAt (ρ.set j s) i = true := by
  unfold plainAt at h ⊢
  by_cases e : j = i
  · subst e
    by_cases hl : j < ρ.length
    · rw [List.getElem?_set_self hl]
      rcases hs with rfl | ⟨d, rfl⟩ <;> rfl
    · rw [List.getElem?_eq_none (by simpa using hl)] at h
      cases h
  · rw [List.getElem?_set_ne e]
    exact h
theorem plain_wipe {i : Nat} (h : plainAt ρ i = true) : ∀ vs, plainAt (wipeE ρ vs) i = true
  | [] => h
  | v :: vs => plain_set (.inl rfl) (plain_wipe h vs)
theorem wipeE_len : ∀ vs, (wipeE ρ vs).length = ρ.length
  | [] => rfl
  | v :: vs => by
    unfold wipeE
    rw [List.length_set, wipeE_len vs]
theorem ER.wipe (e : ER K G J H σ ρ) : ∀ {vs : List Nat}, (∀ i ∈ vs, plainAt ρ i = true) → ER K G J H (wipe σ vs) (wipeE ρ vs)
  | [], _ => e
  | v :: vs, h => (ER.wipe e fun i hi => h i (List.mem_cons_of_mem _ hi)).setU (plain_loose (plain_wipe (h v List.mem_cons_self) vs))
/-- a slot gets back what it held -/
theorem ER.setB {i : Nat} {x : Option V} {s : SV} (e : ER K G J H σ ρ) (hl : loose ρ i = true) (hs : SlOk K J H x s []) : ER K G J H (σ.set i x) (ρ.set i s) := by
  obtain ⟨fs, h, ap, q⟩ := e.ft
  refine ⟨e.ex, e.j0, e.keep, e.pn, ⟨fs.set i [], SlsOk.set hs i h, ap.nilSet i, fun f hf a ha => ?_⟩, fun j a hj => ?_⟩
  · rcases mem_set_of hf with rfl | hf
    · cases ha
    · exact q f hf a ha
  · have ne := e.fx_ne hl hj
    rw [List.getElem?_set_ne ne.symm, List.getElem?_set_ne ne.symm]
    exact e.fx j a hj
/-- the guard holds D, too -/
def Gd.add (G : Gd) (p : Addr) (o : HO) : Gd := ⟨fun a => G.P a ∨ a = p, upd G.H0 p o, G.J0, G.fx⟩
theorem ER.guard {p : Addr} {o : HO} (e : ER K G J H σ ρ) (hp : H p = none) : ER K (G.add p o) J (upd H p o) σ ρ := by
  have g := Grow.side (o := o) e.ex hp
  have e1 := e.grow g
  obtain ⟨fs, h, ap, q⟩ := e.ft
  have hj := same_free e.ex hp
  refine ⟨e1.ex, e.j0, fun a ha => ?_, fun a ha => ?_, ⟨fs, h.keep (.refl _) fun f hf a ha w hw => (g.old a w hw).1, ap, fun f hf a ha => ⟨(q f hf a ha).1, fun hP => ?_⟩⟩, e.fx⟩
  · by_cases z : a = p
    · subst z
      refine ⟨by rw [upd_same]; exact upd_same.symm, hj.trans (same_free e.j0 hj).symm⟩
    · rcases ha with ha | ha
      · show upd H p o a = upd G.H0 p o a ∧ _
        rw [upd_ne z, upd_ne z]
        exact e.keep a ha
      · exact absurd ha z
  · by_cases z : a = p
    · subst z
      exact ⟨o, upd_same⟩
    · rcases ha with ha | ha
      · show ∃ o', upd G.H0 p o a = some o'
        rw [upd_ne z]
        exact e.pn a ha
      · exact absurd ha z
  · rcases hP with hP | rfl
    · exact (q f hf a ha).2 hP
    · obtain ⟨u, hu⟩ := h.known f hf a ha
      rw [hp] at hu
      cases hu
theorem ER.gAt {p : Addr} {o : HO} (e : ER K (G.add p o) J H σ ρ) : H p = some o ∧ J p = G.J0 p := by
  obtain ⟨h1, h2⟩ := e.keep p (.inr rfl)
  exact ⟨h1.trans upd_same, h2⟩
theorem ER.poke {p : Addr} {o o' : HO} (e : ER K (G.add p o) J H σ ρ) (hn : G.J0 p = none) : ER K (G.add p o') J (upd H p o') σ ρ := by
  obtain ⟨h1, h2⟩ := e.gAt
  have hj : J p = none := h2.trans hn
  obtain ⟨fs, h, ap, q⟩ := e.ft
  refine ⟨fun b u hu => ?_, e.j0, fun a ha => ?_, fun a ha => ?_, ⟨fs, h.keep (.refl _) fun f hf a ha w hw => ?_, ap, fun f hf a ha => ⟨(q f hf a ha).1, (q f hf a ha).2⟩⟩, e.fx⟩
  · rw [upd_ne (ne_of_none hu hj)]
    exact e.ex _ _ hu
  · by_cases z : a = p
    · subst z
      exact ⟨by rw [upd_same]; exact upd_same.symm, h2⟩
    · rcases ha with ha | ha
      · obtain ⟨k1, k2⟩ := e.keep a (.inl ha)
        refine ⟨?_, k2⟩
        rw [upd_ne z]
        show H a = upd G.H0 p o' a
        rw [upd_ne z]
        have k1 : H a = upd G.H0 p o a := k1
        rw [upd_ne z] at k1
        exact k1
      · exact absurd ha z
  · by_cases z : a = p
    · subst z
      exact ⟨o', upd_same⟩
    · obtain ⟨u, hu⟩ := e.pn a ha
      refine ⟨u, ?_⟩
      show upd G.H0 p o' a = some u
      have hu : upd G.H0 p o a = some u := hu
      rw [upd_ne z] at hu ⊢
      exact hu
  · have : a ≠ p := fun z => (q f hf a ha).2 (.inr z)
    rw [upd_ne this]
    exact hw
def cutOff (H : Hp) (p : Addr) : Hp := fun b => if b = p then none else H b
theorem cutOff_upd {H : Hp} {p : Addr} {o : HO} (h : H p = some o) : upd (cutOff H p) p o = H := by
  funext b
  unfold upd cutOff
  by_cases z : b = p
  · subst z
    rw [if_pos rfl, h]
  · rw [if_neg z, if_neg z]
theorem ER.off {p : Addr} {o : HO} (e : ER K (G.add p o) J H σ ρ) (hn : G.J0 p = none) (hg : ¬ G.P p) : ER K G J (cutOff H p) σ ρ := by
  obtain ⟨h1, h2⟩ := e.gAt
  have hj : J p = none := h2.trans hn
  have ne : ∀ b, b ≠ p → cutOff H p b = H b := fun b z => if_neg z
  obtain ⟨fs, h, ap, q⟩ := e.ft
  refine ⟨fun b u hu => ?_, e.j0, fun a ha => ?_, fun a ha => ?_, ⟨fs, h.keep (.refl _) fun f hf a ha w hw => ?_, ap, fun f hf a ha => ⟨(q f hf a ha).1, fun z => (q f hf a ha).2 (.inl z)⟩⟩, e.fx⟩
  · rw [ne b (ne_of_none hu hj)]
    exact e.ex _ _ hu
  · have z : a ≠ p := fun z => hg (z ▸ ha)
    rw [ne a z]
    obtain ⟨k1, k2⟩ := e.keep a (.inl ha)
    have k1 : H a = upd G.H0 p o a := k1
    rw [upd_ne z] at k1
    exact ⟨k1, k2⟩
  · have z : a ≠ p := fun z => hg (z ▸ ha)
    obtain ⟨u, hu⟩ := e.pn a (.inl ha)
    have hu : upd G.H0 p o a = some u := hu
    rw [upd_ne z] at hu
    exact ⟨u, hu⟩
  · have : a ≠ p := fun z => (q f hf a ha).2 (.inr z)
    rw [ne a this]
    exact hw
end
end DL

namespace DL
open PySem PySem.Spec L2
section
variable {K : Fg} {G : Gd} {J H J' H' : Hp} {σ : L2.St} {ρ : Env}
theorem wipe_at {k : Nat} : ∀ {vs : List Nat}, k ∈ vs → k < σ.length → (wipe σ vs)[k]? = some none
  | [], h, _ => by cases h
  | v :: vs, h, hl => by
    unfold wipe
    by_cases e : v = k
    · subst e
      rw [List.getElem?_set_self (by rw [wipe_length]; exact hl)]
    · rw [List.getElem?_set_ne e]
      exact wipe_at (by simpa [Ne.symm e] using h) hl
theorem wipe_upd {vs is : List Nat} {σ2 : L2.St} (hsub : ∀ i ∈ is, i ∈ vs) (u : Upd is (wipe σ vs) σ2) : wipe σ2 vs = wipe σ vs := by
  apply List.ext_getElem?
  intro k
  have hl : σ2.length = σ.length := u.1.trans (wipe_length _ _)
  by_cases hk : k ∈ vs
  · by_cases hb : k < σ.length
    · rw [wipe_at hk hb, wipe_at hk (by rw [hl]; exact hb)]
    · rw [List.getElem?_eq_none (by rw [wipe_length]; omega), List.getElem?_eq_none (by rw [wipe_length]; omega)]
  · rw [wipe_out hk]
    exact u.2 k fun z => hk (hsub k z)
def backS (σ τ : L2.St) : List Nat → L2.St
  | [] => τ
  | v :: vs => (backS σ τ vs).set v (σ[v]?.getD none)
theorem backS_len {τ : L2.St} : ∀ vs, (backS σ τ vs).length = τ.length
  | [] => rfl
  | v :: vs => by
    unfold backS
    rw [List.length_set, backS_len vs]
theorem backS_get {τ : L2.St} (hl : τ.length = σ.length) {k : Nat} : ∀ vs, (backS σ τ vs)[k]? = if k ∈ vs then σ[k]? else τ[k]?
  | [] => by simp [backS]
  | v :: vs => by
    unfold backS
    by_cases e : v = k
    · subst e
      rw [if_pos List.mem_cons_self]
      by_cases hb : v < σ.length
      · rw [List.getElem?_set_self (by rw [backS_len, hl]; exact hb), List.getElem?_eq_getElem hb]
        rfl
      · rw [List.getElem?_eq_none (by rw [List.length_set, backS_len, hl]; omega), List.getElem?_eq_none (by omega)]
    · rw [List.getElem?_set_ne e, backS_get hl vs]
      have : k ∈ v :: vs ↔ k ∈ vs := by simp [Ne.symm e]
      by_cases h : k ∈ vs
      · rw [if_pos h, if_pos (this.mpr h)]
      · rw [if_neg h, if_neg (fun z => h (this.mp z))]
theorem backS_wipe (vs : List Nat) : backS σ (wipe σ vs) vs = σ := by
  apply List.ext_getElem?
  intro k
  rw [backS_get (wipe_length _ _)]
  by_cases h : k ∈ vs
  · rw [if_pos h]
  · rw [if_neg h, wipe_out h]
theorem backE_plain {ρ1 ρ2 : Env} {i : Nat} (h1 : ∀ i, plainAt ρ1 i = true ∨ ρ1[i]? = none ∨ True) (h : plainAt ρ2 i = true) : ∀ us : List Nat, (∀ u ∈ us, plainAt ρ1 u = true) → plainAt (backE ρ1 ρ2 us) i = true
  | [], _ => h
  | u :: us, hu => by
    unfold backE
    refine plain_set ?_ (backE_plain h1 h us fun x hx => hu x (List.mem_cons_of_mem _ hx))
    have := hu u List.mem_cons_self
    unfold plainAt at this
    split at this
    · rename_i e; rw [e]; exact .inl rfl
    · rename_i e; rw [e]; exact .inr ⟨_, rfl⟩
    · cases this
theorem ER.back {J1 H1 : Hp} {τ : L2.St} {ρ1 ρ2 : Env} (e1 : ER K G J1 H1 σ ρ1) (s : Same J1 J) (e : ER K G J H τ ρ2) : ∀ {us : List Nat}, (∀ u ∈ us, plainAt ρ1 u = true) → (∀ u ∈ us, plainAt ρ2 u = true) → ER K G J H (backS σ τ us) (backE ρ1 ρ2 us)
  | [], _, _ => e
  | u :: us, h1, h2 => by
    have ih := ER.back e1 s e (us := us) (fun x hx => h1 x (List.mem_cons_of_mem _ hx)) (fun x hx => h2 x (List.mem_cons_of_mem _ hx))
    refine ih.setB (plain_loose (backE_plain (fun _ => .inr (.inr trivial)) (h2 u List.mem_cons_self) us fun x hx => h1 x (List.mem_cons_of_mem _ hx))) ?_
    have := h1 u List.mem_cons_self
    unfold plainAt at this
    split at this
    · rename_i e
      rw [e]
      exact .un _
    · rename_i d e
      obtain ⟨fs, hs, _⟩ := e1.ft
      obtain ⟨y, f, q1, _, so⟩ := hs.get e
      rw [e, q1]
      cases so with
      | d hd => exact .d (dp_mono s _ _ hd)
    · cases this
end
theorem allPlain_at {ρ : Env} {vs : List Nat} (h : allPlain ρ vs = true) : ∀ i ∈ vs, plainAt ρ i = true := fun i hi => List.all_eq_true.mp h i hi
def Yx.no (Y : Yx) : Yx := ⟨Y.ct, fun _ _ _ _ => False⟩
section
variable {X : Cx} {Y : Yx}
theorem lc_imp {K : Fg} {is vs : List Nat} {fi : Env → Out (List D)} {set : D → Env → Option Env} {t : TC} {fe : EC} (hsub : ∀ i ∈ is, i ∈ vs) : ∀ σ H Q, tN K Y (nLc vs fi set t fe) σ H Q → tLc (tI K Y fi) (tG K is set) (tT K Y.no t) (tE K Y.no fe) vs σ H Q := by
  rintro σ H Q ⟨G, J, ρ, er, h⟩
  refine ⟨G, J, ρ, er, PostN.of h fun ds ρ1 It J1 H1 s1 itok e1 h1 => ?_⟩
  split at h1
  · rename_i hpl
    split at h1
    · rename_i xs ρ2 hrun
      intro p hp
      have hj1 : J1 p = none := same_free e1.ex hp
      have hj0 : G.J0 p = none := same_free e1.j0 hj1
      have hgp : ¬ G.P p := fun z => by
        obtain ⟨o, ho⟩ := e1.pn p z
        rw [(e1.keep p z).1, ho] at hp
        cases hp
      let Nx : Nat → Hp → Prop := fun i H => ∃ J' ρ' accv acc, Same J1 J' ∧ ER K (G.add p (.lst accv)) J' H (wipe σ vs) ρ' ∧ (∀ u ∈ vs, plainAt ρ' u = true) ∧ RpAll K J' accv acc ∧ lcRun vs set t fe (ds.drop i) ρ' acc = .ok xs ρ2
      refine ⟨fun i m H => m = ds.length - i ∧ i ≤ ds.length ∧ Nx i H, ⟨ds.length, by simp, Nat.zero_le _, J1, wipeE ρ1 vs, [], [], .refl _, (e1.wipe (allPlain_at hpl)).guard hp, fun u hu => plain_wipe (allPlain_at hpl u hu) vs, .nil, hrun⟩, ?_⟩
      rintro i m H2 ⟨rfl, hi, J', ρ', accv, acc, sJ, eD, pD, rD, hr⟩
      by_cases hlt : i < ds.length
      · refine .inr ⟨itok.go i J' H2 sJ eD.ex hlt, Nx (i + 1), fun H' n => ⟨ds.length - (i + 1), by omega, rfl, hlt, n⟩, fun x H' hy => ?_⟩
        obtain ⟨J2, d, gr, hd, rx⟩ := itok.yld i J' H2 x H' sJ eD.ex hlt hy
        have hdr : ds.drop i = d :: ds.drop (i + 1) := by
          have := List.getElem_cons_drop (h := hlt)
          rw [← this]
          congr 1
          rw [List.getElem?_eq_getElem hlt] at hd
          exact Option.some.inj hd
        rw [hdr] at hr
        have hr : (match set d ρ' with
          | none => .bad
          | some ρ1 => match t ρ1 with
            | .ok true ρ2 => match fe ρ2 with
              | .ok (.val v) ρ3 => if acc.length < sizeLine ∧ allPlain ρ3 vs = true then lcRun vs set t fe (ds.drop (i + 1)) (wipeE ρ3 vs) (acc ++ [v]) else .bad
              | _ => .bad
            | .ok false ρ2 => if allPlain ρ2 vs = true then lcRun vs set t fe (ds.drop (i + 1)) (wipeE ρ2 vs) acc else .bad
            | _ => .bad) = Out.ok xs ρ2 := hr
        split at hr
        · cases hr
        · rename_i ρa hset
          refine ⟨_, J2, ρ', d, ρa, eD.grow gr, rx, hset, fun σ2 J3 H3 s3 u3 e3 => ⟨wipe_upd hsub u3, _, J3, ρa, e3, ?_⟩⟩
          have hw : wipe σ2 vs = wipe σ vs := wipe_upd hsub u3
          split at hr
          · rename_i ρb ht
            rw [ht]
            intro b J4 H4 s4 hb e4
            subst hb
            rw [if_pos rfl]
            refine ⟨_, J4, ρb, e4, ?_⟩
            split at hr
            · rename_i v ρc hfe
              rw [hfe]
              intro y J5 H5 s5 ry e5
              split at hr
              · rename_i hz
                obtain ⟨a1, a2⟩ := e5.gAt
                refine ⟨accv, a1, by rw [dps_len rD]; exact hz.1, J5, wipeE ρc vs, accv ++ [y], acc ++ [v], (((sJ.trans gr.j).trans s3).trans s4).trans s5, ?_, fun u hu => plain_wipe (allPlain_at hz.2 u hu) vs, dps_append (dps_mono (((gr.j).trans s3).trans (s4.trans s5)) _ _ rD) (.cons ry .nil), hr⟩
                have := (e5.poke (o' := .lst (accv ++ [y])) hj0).wipe (allPlain_at hz.2)
                rw [hw] at this
                exact this
              · cases hr
            · cases hr
          · rename_i ρb ht
            rw [ht]
            intro b J4 H4 s4 hb e4
            subst hb
            rw [if_neg Bool.false_ne_true]
            split at hr
            · rename_i hz
              refine ⟨J4, wipeE ρb vs, accv, acc, ((sJ.trans gr.j).trans s3).trans s4, ?_, fun u hu => plain_wipe (allPlain_at hz u hu) vs, dps_mono ((gr.j.trans s3).trans s4) _ _ rD, hr⟩
              have := e4.wipe (allPlain_at hz)
              rw [hw] at this
              exact this
            · cases hr
          · cases hr
      · have hie : i = ds.length := by omega
        subst hie
        refine .inl ⟨itok.stop J' H2 sJ eD.ex, ?_⟩
        rw [List.drop_length] at hr
        have hr : Out.ok acc ρ' = Out.ok xs ρ2 := hr
        cases hr
        obtain ⟨a1, a2⟩ := eD.gAt
        have eo := ER.back e1 sJ (eD.off hj0 hgp) (us := vs) (allPlain_at hpl) pD
        rw [backS_wipe] at eo
        have := h1 p accv J' (cutOff H2 p) sJ (if_pos rfl) rD eo
        rw [cutOff_upd a1] at this
        exact this
    · exact h1.elim
  · exact h1.elim
/-- a comprehension, a new list -/
theorem dn_lc {elt tg iter : Expr} {ifs : List Expr} {scope : Scope} {own : List (Str × Nat)} {pos : Pos} {is : List Nat} {fi : Env → Out (List D)} {set : D → Env → Option Env} {t : TC} {fe : EC} (hc : X.calm = true) (hN : X.N.Nodup) (hi : DI X Y tg iter fi)
    (ok : BlkOk X.N X.env.scope scope own) (hsub : ∀ i ∈ is, i ∈ own.map (·.2))
    (hg : ∀ (s : Shared) (H : Hp) (C : Addr) (cl : List (Str × Addr)) (fp : List Addr), DG (X.blk s H scope (compEnvC scope cl C X.env) fp) tg is set)
    (ht : ∀ (s : Shared) (H : Hp) (C : Addr) (cl : List (Str × Addr)) (fp : List Addr), PTs (X.blk s H scope (compEnvC scope cl C X.env) fp) ifs (tT X.K Y.no t))
    (he : ∀ (s : Shared) (H : Hp) (C : Addr) (cl : List (Str × Addr)) (fp : List Addr), DE (X.blk s H scope (compEnvC scope cl C X.env) fp) Y.no elt fe) (hs : ∀ x, foldedSetIterable iter X.env x = pure x := by intro _; rfl) :
    DN X Y (.ListComp elt [⟨tg, iter, ifs, 0⟩] scope pos) (nLc (own.map (·.2)) fi set t fe) := PE.imp (pe_lc hc hN hi ok hg ht he hs) (lc_imp hsub)
/-- no test -/
@[simp] def tYesD (ρ : Env) : Out Bool := .ok true ρ
theorem dts_nil : PTs X [] (tT X.K Y tYesD) := ⟨fun pins s σ H Q I ⟨G, J, ρ, er, h⟩ => pts_nil.run pins s σ H Q I (Post.now h rfl er)⟩
theorem dts_one {c : Expr} {f : TC} (h : DT X Y c f) : PTs X [c] (tT X.K Y f) := pts_one h
end

/-! ### statements -/
inductive SO where
  | nx (ρ : Env)
  | rt (d : D) (ρ : Env)
  | ro (o : Own) (ρ : Env)
  | bk (ρ : Env)
  | ct (ρ : Env)
  | exc (e : EV) (ρ : Env)
  | bad
abbrev SC := Env → SO
def SPost (K : Fg) (Y : Yx) (G : Gd) (J : Hp) (o : SO) (D : Ends) : Prop := match o with
  | .nx ρ => ∀ σ J' H', Same J J' → ER K G J' H' σ ρ → D.nx σ H'
  | .bk ρ => ∀ σ J' H', Same J J' → ER K G J' H' σ ρ → D.bk σ H'
  | .ct ρ => ∀ σ J' H', Same J J' → ER K G J' H' σ ρ → D.ct σ H'
  | .rt d ρ => ∀ v σ J' H', Same J J' → Rp K J' v d → ER K G J' H' σ ρ → D.rt v H'
  | .ro o ρ => ∀ a r σ J' H', Same J J' → OwnAt K J' H' o (a :: r) → (∀ b ∈ a :: r, J' b = none ∧ ¬ G.P b) → ER K G J' H' σ ρ → D.rt (.ref a) H'
  | .exc e ρ => ∀ c dx σ J' H', Same J J' → ExcAt Y K J' H' e c dx → ER K G J' H' σ ρ → Y.W c dx σ H'
  | .bad => False
def tS (K : Fg) (Y : Yx) (c : SC) : TS := fun D σ H => ∃ G J ρ, ER K G J H σ ρ ∧ SPost K Y G J (c ρ) D
abbrev DS (X : Cx) (Y : Yx) (st : Stmt) (c : SC) : Prop := PS X st (tS X.K Y c)
abbrev DSs (X : Cx) (Y : Yx) (st : List Stmt) (c : SC) : Prop := PSs X st (tS X.K Y c)
theorem PS.imp {X : Cx} {st : Stmt} {t t' : TS} (h : PS X st t) (i : ∀ D σ H, t' D σ H → t D σ H) : PS X st t' := ⟨fun pins s σ H D I hw => h.run pins s σ H D I (i _ _ _ hw)⟩
theorem PSs.imp {X : Cx} {st : List Stmt} {t t' : TS} (h : PSs X st t) (i : ∀ D σ H, t' D σ H → t D σ H) : PSs X st t' := ⟨fun pins s σ H D I hw => h.run pins s σ H D I (i _ _ _ hw)⟩
section
variable {K : Fg} {G : Gd} {J H J' H' : Hp} {σ : L2.St} {ρ : Env} {Y : Yx}
theorem SPost.mono {o : SO} {D : Ends} (s : Same J J') (h : SPost K Y G J o D) : SPost K Y G J' o D := by
  cases o with
  | nx ρ => exact fun σ J1 H1 s1 e => h σ J1 H1 (s.trans s1) e
  | bk ρ => exact fun σ J1 H1 s1 e => h σ J1 H1 (s.trans s1) e
  | ct ρ => exact fun σ J1 H1 s1 e => h σ J1 H1 (s.trans s1) e
  | rt d ρ => exact fun v σ J1 H1 s1 r e => h v σ J1 H1 (s.trans s1) r e
  | ro o ρ => exact fun a r σ J1 H1 s1 ho hb e => h a r σ J1 H1 (s.trans s1) ho hb e
  | exc e ρ => exact fun c dx σ J1 H1 s1 r e => h c dx σ J1 H1 (s.trans s1) r e
  | bad => exact h
/-- an expression, then what comes of it -/
@[reducible, simp] def Out.then {α : Type} (x : Out α) (k : α → Env → SO) : SO := match x with
  | .ok a ρ => k a ρ
  | .exc e ρ => .exc e ρ
  | .bad => .bad
theorem Post.then {α β : Type} {R : Hp → β → α → Prop} {o : Out α} {k : α → Env → SO} {D : Ends} (h : SPost K Y G J (o.then k) D) {Q : β → Hp → Prop}
    (hk : ∀ x ρ v J' H', Same J J' → R J' v x → ER K G J' H' σ ρ → SPost K Y G J' (k x ρ) D → Q v H') : Post K Y G J σ R o Q := by
  cases o with
  | ok x ρ => exact fun v J1 H1 s1 r e => hk x ρ v J1 H1 s1 r e (SPost.mono s1 h)
  | exc e ρ => exact fun c dx J1 H1 s1 r e => h c dx σ J1 H1 s1 r e
  | bad => exact h
theorem PostN.then {o : Out (List D)} {k : List D → Env → SO} {D' : Ends} (h : SPost K Y G J (o.then k) D') {Q : VK}
    (hk : ∀ xs ρ p vs J' H', Same J J' → H' p = none → RpAll K J' vs xs → ER K G J' H' σ ρ → SPost K Y G J' (k xs ρ) D' → Q (.ref p) (upd H' p (.lst vs))) : PostN K Y G J σ o Q := by
  cases o with
  | ok x ρ => exact fun p vs J1 H1 s1 hp r e => hk x ρ p vs J1 H1 s1 hp r e (SPost.mono s1 h)
  | exc e ρ => exact fun c dx J1 H1 s1 r e => h c dx σ J1 H1 s1 r e
  | bad => exact h
end
@[simp] def sSeq (c c' : SC) (ρ : Env) : SO := match c ρ with
  | .nx ρ1 => c' ρ1
  | o => o
@[simp] def sNx (ρ : Env) : SO := .nx ρ
@[simp] def sBk (ρ : Env) : SO := .bk ρ
@[simp] def sCt (ρ : Env) : SO := .ct ρ
section
variable {X : Cx} {Y : Yx} {st : Stmt} {sts : List Stmt} {a b c e : Expr} {pos : Pos}
theorem dss_nil : DSs X Y [] sNx := PSs.imp pss_nil fun D σ H ⟨G, J, ρ, er, h⟩ => h σ J H (.refl J) er
theorem seq_imp {K : Fg} {c c' : SC} : ∀ D σ H, tS K Y (sSeq c c') D σ H → tSeq (tS K Y c) (tS K Y c') D σ H := fun D σ H ⟨G, J, ρ, er, h⟩ => by
  refine ⟨G, J, ρ, er, ?_⟩
  unfold sSeq at h
  cases hc : c ρ with
  | nx ρ1 =>
    rw [hc] at h
    exact fun σ' J' H' s e => ⟨G, J', ρ1, e, SPost.mono s h⟩
  | rt d ρ1 => rw [hc] at h; exact h
  | ro o ρ1 => rw [hc] at h; exact h
  | bk ρ1 => rw [hc] at h; exact h
  | ct ρ1 => rw [hc] at h; exact h
  | exc e ρ1 => rw [hc] at h; exact h
  | bad => rw [hc] at h; exact h
theorem dss_cons {c c' : SC} (h1 : DS X Y st c) (h2 : DSs X Y sts c') : DSs X Y (st :: sts) (sSeq c c') := PSs.imp (pss_cons h1 h2) seq_imp
theorem dss_one {c : SC} (h : DS X Y st c) : DSs X Y [st] c := pss_one h
theorem ds_pass : DS X Y (.Pass pos) sNx := PS.imp ps_pass fun D σ H ⟨G, J, ρ, er, h⟩ => h σ J H (.refl J) er
theorem ds_break : DS X Y (.Break pos) sBk := PS.imp ps_break fun D σ H ⟨G, J, ρ, er, h⟩ => h σ J H (.refl J) er
theorem ds_continue : DS X Y (.Continue pos) sCt := PS.imp ps_continue fun D σ H ⟨G, J, ρ, er, h⟩ => h σ J H (.refl J) er
/-- a value that may be kept: plain data, or a list of one's own that becomes plain data -/
@[simp] def keepV (ρ : Env) : VV → Option (D × Env)
  | .val d => some (d, ρ)
  | .slot i => match ρ[i]? with
    | some (.own false (.lst xs)) => some (.list xs, ρ.set i .un)
    | _ => none
theorem keep_ok {K : Fg} {G : Gd} {J H : Hp} {σ : L2.St} {ρ ρ' : Env} {v : V} {x : VV} {d : D} (e : ER K G J H σ ρ) (r : RV K σ J v x) (h : keepV ρ x = some (d, ρ')) : ∃ J', Same J J' ∧ Rp K J' v d ∧ ER K G J' H σ ρ' := by
  cases x with
  | val d' =>
    cases h
    exact ⟨J, .refl J, r, e⟩
  | slot i =>
    have h : (match ρ[i]? with
      | some (.own false (.lst xs)) => some (PyData.list xs, ρ.set i .un)
      | _ => none) = some (d, ρ') := h
    split at h
    · rename_i xs hi
      cases h
      obtain ⟨p, J', h1, h2, h3, h4⟩ := e.freeze hi
      have r : σ[i]? = some (some v) := r
      rw [r] at h1
      cases h1
      exact ⟨J', h2, h3, h4⟩
    · cases h
@[simp] def sRet (f : EC) (ρ : Env) : SO := (f ρ).then fun x ρ1 => match keepV ρ1 x with
  | some (d, ρ2) => .rt d ρ2
  | none => .bad
theorem ds_ret {f : EC} (h : DE X Y e f) : DS X Y (.Return (some e) pos) (sRet f) := by
  refine PS.imp (ps_ret h) fun D σ H ⟨G, J, ρ, er, hp⟩ => ⟨G, J, ρ, er, Post.then hp fun x ρ1 v J1 H1 s1 r1 e1 h1 => ?_⟩
  split at h1
  · rename_i d ρ2 hk
    obtain ⟨J2, s2, r2, e2⟩ := keep_ok e1 r1 hk
    exact h1 v σ J2 H1 s2 r2 e2
  · exact h1.elim
/-- return a new list that is the caller's own -/
@[simp] def sRetNew (fn : Env → Out (List D)) (ρ : Env) : SO := (fn ρ).then fun xs ρ1 => .ro (.lst xs) ρ1
theorem ER.np {K : Fg} {G : Gd} {J H : Hp} {σ : L2.St} {ρ : Env} {p : Addr} (e : ER K G J H σ ρ) (hp : H p = none) : J p = none ∧ ¬ G.P p := ⟨same_free e.ex hp, fun hP => by
  obtain ⟨o, ho⟩ := e.pn _ hP
  rw [(e.keep _ hP).1, ho] at hp
  cases hp⟩
theorem ds_retNew {fn : Env → Out (List D)} (h : DN X Y e fn) : DS X Y (.Return (some e) pos) (sRetNew fn) := by
  refine PS.imp (ps_ret h) fun D σ H ⟨G, J, ρ, er, hp⟩ => ⟨G, J, ρ, er, PostN.then hp fun xs ρ1 p vs J1 H1 s1 hq r1 e1 h1 => ?_⟩
  have gr := Grow.side (o := .lst vs) e1.ex hq
  exact h1 p [] σ J1 _ (.refl _) ⟨p, vs, rfl, upd_same, r1⟩ (fun b hb => by
    have : b = p := by simpa using hb
    subst this
    exact e1.np hq) (e1.grow gr)
@[simp] def sRetN (ρ : Env) : SO := .rt .none ρ
theorem ds_retN : DS X Y (.Return none pos) sRetN := PS.imp ps_retN fun D σ H ⟨G, J, ρ, er, h⟩ => h _ σ J H (.refl J) .non er
@[simp] def sDrop (f : EC) (ρ : Env) : SO := (f ρ).then fun _ ρ1 => .nx ρ1
theorem ds_expr {f : EC} (h : DE X Y e f) (hs : swapsWith e none pos.line X.env = pure false := by rfl) : DS X Y (.Expr e pos) (sDrop f) :=
  PS.imp (ps_expr h hs) fun D σ H ⟨G, J, ρ, er, hp⟩ => ⟨G, J, ρ, er, Post.then hp fun x ρ1 v J1 H1 s1 r1 e1 h1 => h1 σ J1 H1 (.refl _) e1⟩
theorem ds_doc {x j p} : DS X Y (.Expr (.Constant (.str x) j p) pos) sNx := PS.imp ps_doc fun D σ H ⟨G, J, ρ, er, h⟩ => h σ J H (.refl J) er
@[simp] def sIf (t : TC) (c c' : SC) (ρ : Env) : SO := (t ρ).then fun b ρ1 => if b = true then c ρ1 else c' ρ1
theorem ds_if {t : TC} {c1 c2 : SC} {s1 s2 : List Stmt} (hc : DT X Y c t) (h1 : DSs X Y s1 c1) (h2 : DSs X Y s2 c2) : DS X Y (.If c s1 s2 pos) (sIf t c1 c2) := by
  refine PS.imp (ps_if hc h1 h2) fun D σ H ⟨G, J, ρ, er, hp⟩ => ⟨G, J, ρ, er, Post.then hp fun x ρ1 v J1 H1 s1 r1 e1 h1 => ?_⟩
  cases r1
  cases x with
  | true => exact ⟨G, J1, ρ1, e1, h1⟩
  | false => exact ⟨G, J1, ρ1, e1, h1⟩
/-- target = value -/
@[simp] def sAsg (f : EC) (set : D → Env → Option Env) (ρ : Env) : SO := (f ρ).then fun x ρ1 => match x with
  | .val d => match set d ρ1 with
    | some ρ2 => .nx ρ2
    | none => .bad
  | .slot _ => .bad
theorem asg_fin {K : Fg} {is : List Nat} {set : D → Env → Option Env} {G : Gd} {J1 H1 : Hp} {σ : L2.St} {ρ1 : Env} {v : V} {d : D} {D' : Ends} (r1 : Rp K J1 v d) (e1 : ER K G J1 H1 σ ρ1) (h1 : SPost K Y G J1 (match set d ρ1 with
    | some ρ2 => .nx ρ2
    | none => .bad) D') : tG K is set v σ H1 D'.nx := by
  split at h1
  · rename_i ρ2 h2
    exact ⟨G, J1, ρ1, d, ρ2, e1, r1, h2, fun σ' J' H' s u e => h1 σ' J' H' s e⟩
  · exact h1.elim
theorem ds_asg {f : EC} {is : List Nat} {set : D → Env → Option Env} {tg : Expr} (h : DE X Y e f) (hg : DG X tg is set) (hs : swapsWithSole [tg] e pos.line X.env = pure false := by rfl) (hw : swappedStores [tg] e X.env = pure none := by rfl)
    (h1 : (assignEach [tg] X.env).map (·.2) = [assign tg X.env] := by rfl) : DS X Y (.Assign [tg] e pos) (sAsg f set) := by
  refine PS.imp (ps_asg h hg hs hw h1) fun D σ H ⟨G, J, ρ, er, hp⟩ => ⟨G, J, ρ, er, Post.then hp fun x ρ1 v J1 H1 s1 r1 e1 h1 => ?_⟩
  cases x with
  | val d => exact asg_fin r1 e1 h1
  | slot i => exact h1.elim
/-- name = a new list that is one's own -/
@[simp] def sNew (i : Nat) (fn : Env → Out (List D)) (ρ : Env) : SO := (fn ρ).then fun xs ρ1 => if loose ρ1 i = true then .nx (ρ1.set i (.own false (.lst xs))) else .bad
theorem ds_new (i : Nat) {x : Str} {fn : Env → Out (List D)} {p : Pos} (h : DN X Y e fn) (hN : X.N.Nodup) (hi : X.N[i]? = some x := by rfl) (hx : Loc X.env.scope x := by first | exact Or.inl rfl | exact Or.inr rfl)
    (hf : X.fn x = true ∨ X.env.scope.names.lookup x = some .local := by first | exact .inl rfl | exact .inr rfl | assumption) (hs : swapsWithSole [.Name x p] e pos.line X.env = pure false := by rfl) (hw : swappedStores [.Name x p] e X.env = pure none := by rfl)
    (h1 : (assignEach [.Name x p] X.env).map (·.2) = [assign (.Name x p) X.env] := by rfl) : DS X Y (.Assign [.Name x p] e pos) (sNew i fn) := by
  refine PS.imp (ps_asg h (pg_name hN hi hx hf) hs hw h1) fun D σ H ⟨G, J, ρ, er, hp⟩ => ⟨G, J, ρ, er, PostN.then hp fun xs ρ1 q vs J1 H1 s1 hq r1 e1 h1 => ?_⟩
  split at h1
  · rename_i hl
    exact h1 _ J1 _ (.refl _) (e1.setO hq hl ⟨q, vs, rfl, upd_same, r1⟩)
  · exact h1.elim
/-- name = [comprehension], plain data and one's own -/
theorem ds_setLc (i : Nat) {y : Str} {py : Pos} {elt tg iter : Expr} {ifs : List Expr} {scope : Scope} {own : List (Str × Nat)} {pos spos : Pos} {is : List Nat} {fi : Env → Out (List D)} {set : D → Env → Option Env} {t : TC} {fe : EC} (hc : X.calm = true) (hN : X.N.Nodup)
    (hi : DI X Y tg iter fi) (ok : BlkOk X.N X.env.scope scope own) (hsub : ∀ i ∈ is, i ∈ own.map (·.2))
    (hg : ∀ (s : Shared) (H : Hp) (C : Addr) (cl : List (Str × Addr)) (fp : List Addr), DG (X.blk s H scope (compEnvC scope cl C X.env) fp) tg is set)
    (ht : ∀ (s : Shared) (H : Hp) (C : Addr) (cl : List (Str × Addr)) (fp : List Addr), PTs (X.blk s H scope (compEnvC scope cl C X.env) fp) ifs (tT X.K Y.no t))
    (he : ∀ (s : Shared) (H : Hp) (C : Addr) (cl : List (Str × Addr)) (fp : List Addr), DE (X.blk s H scope (compEnvC scope cl C X.env) fp) Y.no elt fe)
    (hsw : swapsWith (.ListComp elt [⟨tg, iter, ifs, 0⟩] scope pos) (some (.Name y py)) spos.line X.env = pure true) (hy : X.N[i]? = some y := by rfl) (hyl : X.env.scope.names.lookup y = some .local := by rfl) (hs : ∀ x, foldedSetIterable iter X.env x = pure x := by intro _; rfl) :
    DS X Y (.Assign [.Name y py] (.ListComp elt [⟨tg, iter, ifs, 0⟩] scope pos) spos) (sAsg (eN (nLc (own.map (·.2)) fi set t fe)) (setN i)) := by
  refine PS.imp (ps_setLc hc hN hy hyl hsw hi ok hg ht he hs) fun D σ H ⟨G, J, ρ, er, hp⟩ => lc_imp (Y := Y) hsub σ H _ ⟨G, J, ρ, er, ?_⟩
  have hp : SPost X.K Y G J ((nLc (own.map (·.2)) fi set t fe ρ).then fun xs ρ1 => match setN i (.list xs) ρ1 with
    | some ρ2 => .nx ρ2
    | none => .bad) D := by
    unfold sAsg eN at hp
    cases hf : nLc (own.map (·.2)) fi set t fe ρ with
    | ok xs ρ1 => rw [hf] at hp; exact hp
    | exc e ρ1 => rw [hf] at hp; exact hp
    | bad => rw [hf] at hp; exact hp
  refine PostN.then hp fun xs ρ1 q vs J1 H1 s1 hq r1 e1 h1 => ?_
  unfold setN at h1
  split at h1
  · rename_i ρ2 h2
    split at h2
    · rename_i hl
      cases h2
      have gr := Grow.new (o := .lst vs) e1.ex hq
      exact h1 _ _ _ gr.j ((e1.grow gr).setD (.lst (.of upd_same) (dps_mono gr.j _ _ r1)) hl)
    · cases h2
  · exact h1.elim
theorem ds_newLc (i : Nat) {y : Str} {py : Pos} {elt tg iter : Expr} {ifs : List Expr} {scope : Scope} {own : List (Str × Nat)} {pos spos : Pos} {is : List Nat} {fi : Env → Out (List D)} {set : D → Env → Option Env} {t : TC} {fe : EC} (hc : X.calm = true) (hN : X.N.Nodup)
    (hi : DI X Y tg iter fi) (ok : BlkOk X.N X.env.scope scope own) (hsub : ∀ i ∈ is, i ∈ own.map (·.2))
    (hg : ∀ (s : Shared) (H : Hp) (C : Addr) (cl : List (Str × Addr)) (fp : List Addr), DG (X.blk s H scope (compEnvC scope cl C X.env) fp) tg is set)
    (ht : ∀ (s : Shared) (H : Hp) (C : Addr) (cl : List (Str × Addr)) (fp : List Addr), PTs (X.blk s H scope (compEnvC scope cl C X.env) fp) ifs (tT X.K Y.no t))
    (he : ∀ (s : Shared) (H : Hp) (C : Addr) (cl : List (Str × Addr)) (fp : List Addr), DE (X.blk s H scope (compEnvC scope cl C X.env) fp) Y.no elt fe)
    (hsw : swapsWith (.ListComp elt [⟨tg, iter, ifs, 0⟩] scope pos) (some (.Name y py)) spos.line X.env = pure true) (hy : X.N[i]? = some y := by rfl) (hyl : X.env.scope.names.lookup y = some .local := by rfl) (hs : ∀ x, foldedSetIterable iter X.env x = pure x := by intro _; rfl) :
    DS X Y (.Assign [.Name y py] (.ListComp elt [⟨tg, iter, ifs, 0⟩] scope pos) spos) (sNew i (nLc (own.map (·.2)) fi set t fe)) := by
  refine PS.imp (ps_setLc hc hN hy hyl hsw hi ok hg ht he hs) fun D σ H ⟨G, J, ρ, er, hp⟩ => lc_imp (Y := Y) hsub σ H _ ⟨G, J, ρ, er, ?_⟩
  refine PostN.then hp fun xs ρ1 q vs J1 H1 s1 hq r1 e1 h1 => ?_
  split at h1
  · rename_i hl
    exact h1 _ J1 _ (.refl _) (e1.setO hq hl ⟨q, vs, rfl, upd_same, r1⟩)
  · exact h1.elim
end
end DL

namespace DL
open PySem PySem.Spec L2

/-! ### loops -/
def forRun (set : D → Env → Option Env) (body : SC) : List D → Env → SO
  | [], ρ => .nx ρ
  | d :: ds, ρ => match set d ρ with
    | none => .bad
    | some ρ1 => match body ρ1 with
      | .nx ρ2 => forRun set body ds ρ2
      | .ct ρ2 => forRun set body ds ρ2
      | .bk ρ2 => .nx ρ2
      | o => o
@[simp] def sFor (fi : Env → Out (List D)) (set : D → Env → Option Env) (body : SC) (ρ : Env) : SO := (fi ρ).then fun ds ρ1 => forRun set body ds ρ1
def whileRun (t : TC) (body : SC) : Nat → Env → SO
  | 0, _ => .bad
  | n + 1, ρ => (t ρ).then fun b ρ1 => if b = true then (match body ρ1 with
      | .nx ρ2 => whileRun t body n ρ2
      | .ct ρ2 => whileRun t body n ρ2
      | .bk ρ2 => .nx ρ2
      | o => o)
    else .nx ρ1
@[simp] def sWhile (n : Env → Nat) (t : TC) (body : SC) (ρ : Env) : SO := whileRun t body (n ρ) ρ
section
variable {X : Cx} {Y : Yx} {a b c e : Expr} {pos : Pos}
theorem ds_for {tg iter : Expr} {body : List Stmt} {fi : Env → Out (List D)} {is : List Nat} {set : D → Env → Option Env} {cb : SC} (hp : PassesOwn (model X.prog X.w) X.A X.env X.xe) (hc : X.calm = true) (hi : DI X Y tg iter fi) (hg : DG X tg is set) (hb : DSs X Y body cb)
    (hs : ∀ x, foldedSetIterable iter X.env x = pure x := by intro _; rfl) : DS X Y (.For tg iter body [] pos) (sFor fi set cb) := by
  refine PS.imp (ps_for hp hc hi hg hb hs) fun D σ H ⟨G, J, ρ, er, h⟩ => ⟨G, J, ρ, er, Post.then h fun ds ρ1 It J1 H1 s1 itok e1 h1 => ?_⟩
  let N : Nat → L2.St → Hp → Prop := fun i σ H => ∃ J' ρ', Same J1 J' ∧ ER X.K G J' H σ ρ' ∧ SPost X.K Y G J' (forRun set cb (ds.drop i) ρ') D
  refine ⟨fun i m σ H => m = ds.length - i ∧ i ≤ ds.length ∧ N i σ H, ⟨ds.length, by simp, Nat.zero_le _, J1, ρ1, .refl _, e1, h1⟩, ?_⟩
  rintro i m σ2 H2 ⟨rfl, hi, J', ρ', sJ, eR, hr⟩
  by_cases hlt : i < ds.length
  · refine .inr ⟨itok.go i J' H2 sJ eR.ex hlt, N (i + 1), fun σ' H' n => ⟨ds.length - (i + 1), by omega, rfl, hlt, n⟩, fun x H' hy => ?_⟩
    obtain ⟨J2, d, gr, hd, rx⟩ := itok.yld i J' H2 x H' sJ eR.ex hlt hy
    have hdr : ds.drop i = d :: ds.drop (i + 1) := by
      have := List.getElem_cons_drop (h := hlt)
      rw [← this]
      congr 1
      rw [List.getElem?_eq_getElem hlt] at hd
      exact Option.some.inj hd
    rw [hdr] at hr
    have hr : SPost X.K Y G J' (match set d ρ' with
      | none => .bad
      | some ρ1 => match cb ρ1 with
        | .nx ρ2 => forRun set cb (ds.drop (i + 1)) ρ2
        | .ct ρ2 => forRun set cb (ds.drop (i + 1)) ρ2
        | .bk ρ2 => .nx ρ2
        | o => o) D := hr
    split at hr
    · exact hr.elim
    · rename_i ρa hset
      refine ⟨G, J2, ρ', d, ρa, eR.grow gr, rx, hset, fun σ3 J3 H3 s3 u3 e3 => ⟨G, J3, ρa, e3, ?_⟩⟩
      have sJ3 : Same J' J3 := gr.j.trans s3
      cases hcb : cb ρa with
      | nx ρb =>
        rw [hcb] at hr
        exact fun σ4 J4 H4 s4 e4 => ⟨J4, ρb, (sJ.trans sJ3).trans s4, e4, SPost.mono (sJ3.trans s4) hr⟩
      | ct ρb =>
        rw [hcb] at hr
        exact fun σ4 J4 H4 s4 e4 => ⟨J4, ρb, (sJ.trans sJ3).trans s4, e4, SPost.mono (sJ3.trans s4) hr⟩
      | bk ρb =>
        rw [hcb] at hr
        exact fun σ4 J4 H4 s4 e4 => hr σ4 J4 H4 (sJ3.trans s4) e4
      | rt d2 ρb =>
        rw [hcb] at hr
        exact fun v σ4 J4 H4 s4 r e4 => hr v σ4 J4 H4 (sJ3.trans s4) r e4
      | ro o ρb =>
        rw [hcb] at hr
        exact fun a r σ4 J4 H4 s4 ho hb e4 => hr a r σ4 J4 H4 (sJ3.trans s4) ho hb e4
      | exc ev ρb =>
        rw [hcb] at hr
        exact fun c dx σ4 J4 H4 s4 r e4 => hr c dx σ4 J4 H4 (sJ3.trans s4) r e4
      | bad =>
        rw [hcb] at hr
        exact hr
  · have hie : i = ds.length := by omega
    subst hie
    refine .inl ⟨itok.stop J' H2 sJ eR.ex, ?_⟩
    rw [List.drop_length] at hr
    exact hr σ2 J' H2 (.refl _) eR
theorem ds_while {body : List Stmt} {t : TC} {cb : SC} (n : Env → Nat) (hp : PassesOwn (model X.prog X.w) X.A X.env X.xe) (hc : DT X Y c t) (hb : DSs X Y body cb) : DS X Y (.While c body [] pos) (sWhile n t cb) := by
  refine PS.imp (ps_while hp hc hb) fun D σ H ⟨G, J, ρ, er, h⟩ => ?_
  let N : Nat → L2.St → Hp → Prop := fun m σ H => ∃ J' ρ', Same J J' ∧ ER X.K G J' H σ ρ' ∧ SPost X.K Y G J' (whileRun t cb m ρ') D
  refine ⟨N, ⟨n ρ, J, ρ, .refl _, er, h⟩, ?_⟩
  rintro m σ2 H2 ⟨J', ρ', sJ, eR, hr⟩
  cases m with
  | zero => exact hr.elim
  | succ m =>
    refine ⟨G, J', ρ', eR, Post.then (k := fun b ρ1 => if b = true then (match cb ρ1 with
      | .nx ρ2 => whileRun t cb m ρ2
      | .ct ρ2 => whileRun t cb m ρ2
      | .bk ρ2 => .nx ρ2
      | o => o)
    else .nx ρ1) hr fun b ρ1 v J3 H3 s3 r3 e3 h3 => ?_⟩
    cases r3
    cases b with
    | false =>
      rw [if_neg Bool.false_ne_true]
      exact h3 σ2 J3 H3 (.refl _) e3
    | true =>
      rw [if_pos rfl]
      rw [if_pos rfl] at h3
      refine ⟨N m, fun σ' H' n => ⟨m, Nat.lt_succ_self m, n⟩, G, J3, ρ1, e3, ?_⟩
      cases hcb : cb ρ1 with
      | nx ρb =>
        rw [hcb] at h3
        exact fun σ4 J4 H4 s4 e4 => ⟨J4, ρb, (sJ.trans s3).trans s4, e4, SPost.mono s4 h3⟩
      | ct ρb =>
        rw [hcb] at h3
        exact fun σ4 J4 H4 s4 e4 => ⟨J4, ρb, (sJ.trans s3).trans s4, e4, SPost.mono s4 h3⟩
      | bk ρb =>
        rw [hcb] at h3
        exact h3
      | rt d2 ρb =>
        rw [hcb] at h3
        exact h3
      | ro o ρb =>
        rw [hcb] at h3
        exact h3
      | exc ev ρb =>
        rw [hcb] at h3
        exact h3
      | bad =>
        rw [hcb] at h3
        exact h3

/-! ### name op= e -/
@[simp] def sAug (i : Nat) (g : D → D → Option D) (f : EC) (ρ : Env) : SO := match ρ[i]? with
  | some (.d dx) => (f ρ).then fun y ρ1 => match deref ρ1 y with
    | some dy => match g dx dy with
      | some d => if loose ρ1 i = true then .nx (ρ1.set i (.d d)) else .bad
      | none => .bad
    | none => .bad
  | _ => .bad
theorem ds_aug (i : Nat) {x : Str} {op : Operator} {g : D → D → Option D} {f : EC} {p : Pos} (hN : X.N.Nodup) (he : DE X Y e f) (ho : OpD X (inplaceOp op) g) (hi : X.N[i]? = some x := by rfl) (hx : Loc X.env.scope x := by first | exact Or.inl rfl | exact Or.inr rfl)
    (hf : X.fn x = true ∨ X.env.scope.names.lookup x = some .local := by first | exact .inl rfl | exact .inr rfl | assumption) : DS X Y (.AugAssign (.Name x p) op e pos) (sAug i g f) := by
  refine PS.imp (ps_aug hN hi hx he (show PIp X op (rD X.K g) from ho) hf) fun D σ H ⟨G, J, ρ, er, h⟩ => ?_
  unfold sAug at h
  split at h
  · rename_i dx hx
    obtain ⟨fs, hs, _⟩ := er.ft
    obtain ⟨y, fo, e1, _, so⟩ := hs.get hx
    cases so with
    | d hd =>
      refine ⟨_, e1, G, J, ρ, er, Post.then h fun y ρ1 w J1 H1 s1 r1 e1' h1 => ?_⟩
      split at h1
      · rename_i dy h2
        split at h1
        · rename_i d h3
          split at h1
          · rename_i hl
            refine ⟨J1, dx, dy, d, e1'.ex, .inl (dp_mono s1 _ _ hd), deref_ok e1' r1 h2, h3, fun v J' H' gr r => h1 _ _ _ gr.j ((e1'.grow gr).setD r hl)⟩
          · exact h1.elim
        · exact h1.elim
      · exact h1.elim
  · exact h.elim

/-! ### lists of one's own change -/
theorem own_at {K : Fg} {G : Gd} {J H : Hp} {σ : L2.St} {ρ : Env} {i : Nat} {fx : Bool} {xs : List D} (e : ER K G J H σ ρ) (hi : ρ[i]? = some (.own fx (.lst xs))) : ∃ a vs, σ[i]? = some (some (.ref a)) ∧ H a = some (.lst vs) ∧ RpAll K J vs xs := by
  obtain ⟨fs, hs, _⟩ := e.ft
  obtain ⟨y, f, e1, _, so⟩ := hs.get hi
  cases so with
  | own ho =>
    obtain ⟨a, vs, ef, ha, hd⟩ := ho
    injection ef with ea er
    subst ea er
    exact ⟨_, vs, e1, ha, hd⟩
/-- name.append(e) -/
@[simp] def sApp (i : Nat) (f : EC) (ρ : Env) : SO := match ρ[i]? with
  | some (.own _ (.lst _)) => (f ρ).then fun y ρ1 => match keepV ρ1 y with
    | some (d, ρ2) => match ρ2[i]? with
      | some (.own fx (.lst xs)) => if xs.length < sizeLine then .nx (ρ2.set i (.own fx (.lst (xs ++ [d])))) else .bad
      | _ => .bad
    | none => .bad
  | _ => .bad
theorem ds_app (i : Nat) {x : Str} {f : EC} {p apos cpos : Pos} (he : DE X Y e f) (hN : X.N[i]? = some x := by rfl) (hv : Vis X.env.scope x := by first | exact Or.inl rfl | exact Or.inr (Or.inl rfl) | exact Or.inr (Or.inr rfl)) (hd : (x == ("__debug__" : Str)) = false := by decide)
    (hcd : (x == ("__classdict__" : Str)) = false := by decide) (hbase : attributeBase (.Name x p) "append" X.env (eval (.Name x p) X.env) = eval (.Name x p) X.env := by rfl)
    (hfew : ((backTo cpos (starEach [e] X.env)).all (fun x => !x.1) && (backToKw cpos (keywordEach [] X.env)).all (fun x => x.1.isSome)
      && decide ([e].length + ([] : List Keyword).length + (if ([] : List Keyword).isEmpty then 0 else 1) < 30)) = true := by rfl)
    (hline : (apos.endLine == cpos.line) = true := by rfl) (hs : starEach [e] X.env = (false, eval e X.env) :: starEach [] X.env := by rfl) (hplain : (backTo cpos (starEach [] X.env)).any (·.1) = false := by rfl)
    (hsw : swapsWith (.Call (.Attribute (.Name x p) "append" apos) [e] [] cpos) none pos.line X.env = pure false := by rfl) :
    DS X Y (.Expr (.Call (.Attribute (.Name x p) "append" apos) [e] [] cpos) pos) (sApp i f) := by
  refine PS.imp (ps_expr (pe_bm PySem.F.plainAttrs_list PySem.F.slot_list_append PySem.F.type_list_append mt_append (pe_var (i := i) hN hv hd hcd) (pa_cons he pa_nil hs) hbase hfew hline hs hplain) hsw) fun D σ H ⟨G, J, ρ, er, h⟩ => ?_
  unfold sApp at h
  split at h
  · rename_i fx xs hi
    obtain ⟨a, vs, h1, h2, h3⟩ := own_at er hi
    refine ⟨_, h1, .inl ⟨rfl, vs, .inl (.inl h2)⟩, G, J, ρ, er, Post.then h fun y ρ1 v J1 H1 s1 r1 e1 hp => ?_⟩
    split at hp
    · rename_i d ρ2 hk
      obtain ⟨J2, s2, r2, e2⟩ := keep_ok e1 r1 hk
      split at hp
      · rename_i fx2 xs2 hi2
        split at hp
        · rename_i hz
          obtain ⟨a2, vs2, q1, q2, q3⟩ := own_at e2 hi2
          rw [h1] at q1
          cases q1
          exact ⟨_, vs2, v, rfl, rfl, q2, by rw [dps_len q3]; exact hz, hp _ _ _ s2 (e2.mutL hi2 h1 (dps_append q3 (.cons r2 .nil)))⟩
        · exact hp.elim
      · exact hp.elim
    · exact hp.elim
  · exact h.elim
/-- name.extend(a new list) -/
@[simp] def sExt (i : Nat) (fn : Env → Out (List D)) (ρ : Env) : SO := match ρ[i]? with
  | some (.own _ (.lst _)) => (fn ρ).then fun ys ρ1 => match ρ1[i]? with
      | some (.own fx (.lst xs)) => if xs.length + ys.length ≤ sizeLine then .nx (ρ1.set i (.own fx (.lst (xs ++ ys)))) else .bad
      | _ => .bad
  | _ => .bad
theorem ds_ext (i : Nat) {x : Str} {fn : Env → Out (List D)} {p apos cpos : Pos} (he : DN X Y e fn) (hN : X.N[i]? = some x := by rfl) (hv : Vis X.env.scope x := by first | exact Or.inl rfl | exact Or.inr (Or.inl rfl) | exact Or.inr (Or.inr rfl)) (hd : (x == ("__debug__" : Str)) = false := by decide)
    (hcd : (x == ("__classdict__" : Str)) = false := by decide) (hbase : attributeBase (.Name x p) "extend" X.env (eval (.Name x p) X.env) = eval (.Name x p) X.env := by rfl)
    (hfew : ((backTo cpos (starEach [e] X.env)).all (fun x => !x.1) && (backToKw cpos (keywordEach [] X.env)).all (fun x => x.1.isSome)
      && decide ([e].length + ([] : List Keyword).length + (if ([] : List Keyword).isEmpty then 0 else 1) < 30)) = true := by rfl)
    (hline : (apos.endLine == cpos.line) = true := by rfl) (hs : starEach [e] X.env = (false, eval e X.env) :: starEach [] X.env := by rfl) (hplain : (backTo cpos (starEach [] X.env)).any (·.1) = false := by rfl)
    (hsw : swapsWith (.Call (.Attribute (.Name x p) "extend" apos) [e] [] cpos) none pos.line X.env = pure false := by rfl) :
    DS X Y (.Expr (.Call (.Attribute (.Name x p) "extend" apos) [e] [] cpos) pos) (sExt i fn) := by
  refine PS.imp (ps_expr (pe_bm PySem.F.plainAttrs_list PySem.F.slot_list_extend PySem.F.type_list_extend mt_extend (pe_var (i := i) hN hv hd hcd) (pa_cons he pa_nil hs) hbase hfew hline hs hplain) hsw) fun D σ H ⟨G, J, ρ, er, h⟩ => ?_
  unfold sExt at h
  split at h
  · rename_i fx xs hi
    obtain ⟨a, vs, h1, h2, h3⟩ := own_at er hi
    refine ⟨_, h1, .inl ⟨rfl, vs, .inl (.inl h2)⟩, G, J, ρ, er, PostN.then h fun ys ρ1 q ws J1 H1 s1 hq r1 e1 hp => ?_⟩
    split at hp
    · rename_i fx2 xs2 hi2
      split at hp
      · rename_i hz
        have gr := Grow.side (o := .lst ws) e1.ex hq
        have e2 := e1.grow gr
        obtain ⟨a2, vs2, q1, q2, q3⟩ := own_at e2 hi2
        rw [h1] at q1
        cases q1
        exact ⟨_, q, vs2, ws, rfl, rfl, q2, upd_same, by rw [dps_len q3, dps_len r1]; exact hz, hp _ _ _ (.refl _) (e2.mutL hi2 h1 (dps_append q3 r1))⟩
      · exact hp.elim
    · exact hp.elim
  · exact h.elim
/-- name.pop(), a value -/
@[simp] def ePop (i : Nat) (ρ : Env) : Out VV := match ρ[i]? with
  | some (.own fx (.lst xs)) => match xs[xs.length - 1]? with
    | some d => .ok (.val d) (ρ.set i (.own fx (.lst xs.dropLast)))
    | none => .bad
  | _ => .bad
theorem de_pop (i : Nat) {x : Str} {p apos : Pos} (hN : X.N[i]? = some x := by rfl) (hv : Vis X.env.scope x := by first | exact Or.inl rfl | exact Or.inr (Or.inl rfl) | exact Or.inr (Or.inr rfl)) (hd : (x == ("__debug__" : Str)) = false := by decide)
    (hcd : (x == ("__classdict__" : Str)) = false := by decide) (hbase : attributeBase (.Name x p) "pop" X.env (eval (.Name x p) X.env) = eval (.Name x p) X.env := by rfl) (hline : (apos.endLine == pos.line) = true := by rfl) :
    DE X Y (.Call (.Attribute (.Name x p) "pop" apos) [] [] pos) (ePop i) := by
  refine PE.imp (pe_bm0 PySem.F.plainAttrs_list PySem.F.slot_list_pop PySem.F.type_list_pop mt_pop (pe_var (i := i) hN hv hd hcd) hbase hline) fun σ H Q ⟨G, J, ρ, er, h⟩ => ?_
  unfold ePop at h
  split at h
  · rename_i fx xs hi
    obtain ⟨a, vs, h1, h2, h3⟩ := own_at er hi
    split at h
    · rename_i d hd
      rw [← dps_len h3] at hd
      obtain ⟨v, k1, k2⟩ := dps_get h3 hd
      exact ⟨_, h1, .inl ⟨rfl, vs, .inl (.inl h2)⟩, a, vs, v, rfl, rfl, h2, k1, h _ _ _ (.refl _) k2 (er.mutL hi h1 (dps_dropLast h3))⟩
    · exact h.elim
  · exact h.elim
/-- name[i] = e -/
@[simp] def sSetL (i : Nat) (fi fv : EC) (ρ : Env) : SO := (fv ρ).then fun y ρ1 => match keepV ρ1 y with
  | some (d, ρ2) => match ρ2[i]? with
    | some (.own _ (.lst _)) => (fi ρ2).then fun k ρ3 => match k, ρ3[i]? with
      | .val (.int n), some (.own fx (.lst xs)) => match ixN xs.length n with
        | some j => .nx (ρ3.set i (.own fx (.lst (xs.set j d))))
        | none => .bad
      | _, _ => .bad
    | _ => .bad
  | none => .bad
theorem ds_setL (i : Nat) {x : Str} {ix : Expr} {fi fv : EC} {p tpos : Pos} (hv : DE X Y e fv) (hx : DE X Y ix fi) (hN : X.N[i]? = some x := by rfl) (hvis : Vis X.env.scope x := by first | exact Or.inl rfl | exact Or.inr (Or.inl rfl) | exact Or.inr (Or.inr rfl)) (hd : (x == ("__debug__" : Str)) = false := by decide)
    (hcd : (x == ("__classdict__" : Str)) = false := by decide)
    (ha : ∀ v, assign (.Subscript (.Name x p) ix tpos) X.env v = (do
      let ov ← holding [v] (eval (.Name x p) X.env)
      let iv ← holding [v, ov] (eval ix X.env)
      standAt tpos
      holding [v, ov, iv] (setItem ov iv v)
      release [v, ov, iv] []) := by intro _; rfl) (hs : swapsWithSole [.Subscript (.Name x p) ix tpos] e pos.line X.env = pure false := by rfl) (hw : swappedStores [.Subscript (.Name x p) ix tpos] e X.env = pure none := by rfl)
    (h1 : (assignEach [.Subscript (.Name x p) ix tpos] X.env).map (·.2) = [assign (.Subscript (.Name x p) ix tpos) X.env] := by rfl) : DS X Y (.Assign [.Subscript (.Name x p) ix tpos] e pos) (sSetL i fi fv) := by
  refine PS.imp (ps_asg hv (pg_sub (pe_var (i := i) hN hvis hd hcd) hx set_list ha) hs hw h1) fun D σ H ⟨G, J, ρ, er, h⟩ => ⟨G, J, ρ, er, Post.then h fun y ρ1 v J1 H1 s1 r1 e1 hp => ?_⟩
  split at hp
  · rename_i d ρ2 hk
    obtain ⟨J2, s2, r2, e2⟩ := keep_ok e1 r1 hk
    split at hp
    · rename_i fx0 xs0 hi0
      obtain ⟨a, vs, q1, q2, q3⟩ := own_at e2 hi0
      refine ⟨_, q1, G, J2, ρ2, e2, Post.then (SPost.mono s2 hp) fun k ρ3 w J3 H3 s3 r3 e3 hp3 => ?_⟩
      split at hp3
      · rename_i n fx xs hi3
        split at hp3
        · rename_i j hj
          cases r3
          obtain ⟨a3, vs3, k1, k2, k3⟩ := own_at e3 hi3
          rw [q1] at k1
          cases k1
          exact ⟨_, vs3, n, j, rfl, rfl, k2, by rw [dps_len k3]; exact hj, hp3 _ _ _ (.refl _) (e3.mutL hi3 q1 (dps_set (dp_mono s3 _ _ r2) j k3))⟩
        · exact hp3.elim
      · exact hp3.elim
    · exact hp.elim
  · exact hp.elim
/-- a list of one's own becomes plain data for good -/
@[simp] def eFrz (i : Nat) (ρ : Env) : Out VV := match ρ[i]? with
  | some (.own false (.lst xs)) => .ok (.val (.list xs)) (ρ.set i (.d (.list xs)))
  | some (.d d) => .ok (.val d) ρ
  | _ => .bad
theorem ER.freeze2 {K : Fg} {G : Gd} {J H : Hp} {σ : L2.St} {ρ : Env} {i : Nat} {xs : List D} (e : ER K G J H σ ρ) (hi : ρ[i]? = some (.own false (.lst xs))) : ∃ a J', σ[i]? = some (some (.ref a)) ∧ Same J J' ∧ Rp K J' (.ref a) (.list xs) ∧ ER K G J' H σ (ρ.set i (.d (.list xs))) := by
  obtain ⟨a, J', h1, h2, h3, h4⟩ := e.freeze hi
  have hl : loose (ρ.set i .un) i = true := by
    unfold loose
    rw [List.getElem?_set_self (List.getElem?_eq_some_iff.mp hi).1]
  have h5 := h4.setD h3 hl
  have e1 : σ.set i (some (.ref a)) = σ := by
    obtain ⟨hb, e⟩ := List.getElem?_eq_some_iff.mp h1
    rw [← e]
    exact List.set_getElem_self hb
  rw [e1, List.set_set] at h5
  exact ⟨a, J', h1, h2, h3, h5⟩
theorem de_frz (i : Nat) {x : Str} (hN : X.N[i]? = some x := by rfl) (hv : Vis X.env.scope x := by first | exact Or.inl rfl | exact Or.inr (Or.inl rfl) | exact Or.inr (Or.inr rfl)) (hd : (x == ("__debug__" : Str)) = false := by decide)
    (hcd : (x == ("__classdict__" : Str)) = false := by decide) : DE X Y (.Name x pos) (eFrz i) := by
  refine PE.imp (pe_var (i := i) hN hv hd hcd) fun σ H Q ⟨G, J, ρ, er, h⟩ => ?_
  unfold eFrz at h
  split at h
  · rename_i xs hi
    obtain ⟨a, J', h1, h2, h3, h4⟩ := er.freeze2 hi
    exact ⟨_, h1, h _ _ _ h2 h3 h4⟩
  · rename_i d hi
    obtain ⟨fs, hs, _⟩ := er.ft
    obtain ⟨y, f, e1, _, so⟩ := hs.get hi
    cases so with
    | d hd => exact ⟨_, e1, h.now hd er⟩
  · exact h.elim

/-! ### functions of one's own -/
inductive FO where
  | ret (d : D)
  | own (o : Own)
  | exc (e : EV)
  | bad
def FOk (K : Fg) (Y : Yx) (J H : Hp) (o : FO) (Q : VK) (E : XK) : Prop := match o with
  | .ret d => ∀ v J' H', Grow J H J' H' → Rp K J' v d → Q v H'
  | .own o => ∀ a r J' H', Grow J H J' H' → OwnAt K J' H' o (a :: r) → (∀ b ∈ a :: r, J' b = none ∧ H b = none) → Q (.ref a) H'
  | .exc e => ∀ c dx J' H', Grow J H J' H' → ExcAt Y K J' H' e c dx → E c dx H'
  | .bad => False
/-- plain data in, plain data out -/
def spP (K : Fg) (ct : String → Option Value) (n : Nat) (m : List D → FO) : Sp := fun vs H Q E => ∃ J ds, Same J H ∧ RpAll K J vs ds ∧ ds.length = n ∧ FOk K ⟨ct, fun _ _ _ _ => True⟩ J H (m ds) Q E
theorem ExcAt.ct {Y Y' : Yx} {K : Fg} {J H : Hp} {e : EV} {c : Value} {dx : Option Addr} (h : ExcAt Y K J H e c dx) (hc : Y.ct = Y'.ct) : ExcAt Y' K J H e c dx := by
  unfold ExcAt at h ⊢
  rw [← hc]
  exact h
@[simp] def eCall (n : Nat) (m : List D → FO) (fa : Env → Out (List VV)) (ρ : Env) : Out VV := (fa ρ).bind fun xs ρ1 => match vals xs with
  | some ds => if ds.length = n then (match m ds with
    | .ret d => .ok (.val d) ρ1
    | .exc e => .exc e ρ1
    | _ => .bad) else .bad
  | none => .bad
/-- what a callee lets out is taken -/
def Takes' (X : Cx) (Y : Yx) : Prop := ∀ σ, PassesAt (L2.CX X.prog X.w) X σ (WE Y.W σ)
theorem takes_at {X : Cx} {Y : Yx} (tk : Takes X Y.W) : Takes' X Y := fun σ => passAt tk σ
theorem takes_no {X : Cx} {Y : Yx} : Takes' X Y.no := fun σ pins H s e s' I h => passL pins σ H s e s' I h
theorem de_call {m : List D → FO} {n k : Nat} {f : Addr} {fd : FuncData} {ps : List Str} {x : Str} {es : List Expr} {fa : Env → Out (List VV)} {p : Pos} (F : FnOk X.prog X.w X.K X.mg X.base (L2.CX X.prog X.w) k f fd ps (spP X.K Y.ct n m)) (hr : Room k X.A) (hm : X.mg x = some (.ref f))
    (hk : PySem.W.keepIn X.K (.ref f) = true) (hb : Binds X.K fd ps []) (tk : Takes' X Y) (ha : DA X Y (e :: es) fa) (hg : Gl X x := by rfl) (hdb : (x == ("__debug__" : Str)) = false := by decide)
    (he : starEach (e :: es) X.env = (false, eval e X.env) :: starEach es X.env := by rfl) (hpl : (backTo pos (starEach es X.env)).any (·.1) = false := by rfl) : DE X Y (.Call (.Name x p) (e :: es) [] pos) (eCall n m fa) := by
  refine PE.imp (pe_callS F hr hg hm hk hb tk ha hdb he hpl) fun σ H Q ⟨G, J, ρ, er, h⟩ => ⟨G, J, ρ, er, ?_⟩
  unfold eCall at h
  cases hf : fa ρ with
  | exc ev ρ1 => rw [hf] at h; exact h
  | bad => rw [hf] at h; exact h
  | ok xs ρ1 =>
    rw [hf] at h
    intro vs J1 H1 s1 r1 e1
    have h1 : Post X.K Y G J1 σ (RV X.K σ) (match vals xs with
      | some ds => if ds.length = n then (match m ds with
        | .ret d => Out.ok (.val d) ρ1
        | .exc e => .exc e ρ1
        | _ => .bad) else .bad
      | none => .bad) Q := Post.mono s1 h
    split at h1
    · rename_i ds hds
      split at h1
      · rename_i hl
        refine ⟨J1, ds, e1.ex, vals_ok r1 hds, hl, ?_⟩
        cases hm : m ds with
        | ret d =>
          rw [hm] at h1
          exact fun v J' H' gr r => h1.grow e1 gr r
        | exc ev =>
          rw [hm] at h1
          exact fun c dx J' H' gr r => h1 c dx J' H' gr.j (r.ct rfl) (e1.grow gr)
        | bad =>
          rw [hm] at h1
          exact h1.elim
        | own o =>
          rw [hm] at h1
          exact h1.elim
      · exact h1.elim
    · exact h1.elim
/-- a body, run from its arguments -/
def fnP (c : SC) (k : Nat) : List D → FO := fun ds => match c (ds.map SV.d ++ List.replicate k .un) with
  | .nx _ => .ret .none
  | .rt d _ => .ret d
  | .ro o _ => .own o
  | .exc e _ => .exc e
  | _ => .bad
end
theorem sls_start {K : Fg} {J H : Hp} : ∀ {vs : List V} {ds : List D} (k : Nat), RpAll K J vs ds → SlsOk K J H (vs.map some ++ List.replicate k none) (ds.map SV.d ++ List.replicate k .un) (List.replicate (ds.length + k) [])
  | [], [], 0, _ => .nil
  | [], [], k + 1, r => by
    have ih := sls_start (H := H) k r
    rw [List.replicate_succ, List.replicate_succ]
    have e : ([] : List D).length + (k + 1) = (([] : List D).length + k) + 1 := rfl
    rw [e, List.replicate_succ]
    exact .cons (.un _) ih
  | v :: vs, d :: ds, k, r => by
    cases r with
    | cons r1 r2 =>
      have ih := sls_start (H := H) k r2
      have e : (d :: ds).length + k = (ds.length + k) + 1 := by
        rw [List.length_cons]
        omega
      rw [e, List.replicate_succ]
      exact .cons (.d r1) ih
  | [], _ :: _, _, r => by cases r
  | _ :: _, [], _, r => by cases r
theorem er_start {K : Fg} {J H : Hp} {vs : List V} {ds : List D} (k : Nat) (s : Same J H) (r : RpAll K J vs ds) : ER K ⟨fun a => ∃ o, H a = some o, H, J, none⟩ J H (vs.map some ++ List.replicate k none) (ds.map SV.d ++ List.replicate k .un) := by
  refine ⟨s, .refl J, fun a _ => ⟨rfl, rfl⟩, fun a h => h, ⟨_, sls_start k r, fun i j f g a h1 _ h2 _ => ?_, fun f hf a ha => ?_⟩, fun i a h => nomatch h⟩
  · rw [List.eq_of_mem_replicate (List.mem_of_getElem? h1)] at h2
    cases h2
  · rw [List.eq_of_mem_replicate hf] at ha
    cases ha
theorem grow_end {K : Fg} {J H J' H' : Hp} {σ : L2.St} {ρ : Env} (e : ER K ⟨fun a => ∃ o, H a = some o, H, J, none⟩ J' H' σ ρ) : Grow J H J' H' :=
  ⟨e.j0, e.ex, fun a o h => by
    obtain ⟨h1, h2⟩ := e.keep a ⟨o, h⟩
    exact ⟨h1.trans h, h2⟩⟩
section
variable {P : Program} {w : World} {K : Fg} {mg : Str → Option Value} {base : Heap}
/-- THE RULE for a def of plain data, by its body -/
theorem fn_p {x qual : Str} {st : Stmt} {f : Addr} {fd : FuncData} {N ps : List Str} {k j n : Nat} {c : SC} {ct : String → Option Value} (F : Fun K x qual st f fd) (S : FnScope N ps (defScope st)) (hn : ps.length = n) (hj : N.length = n + j)
    (hb : ∀ (cdv : Value) (A : Around) (outer : List PySem.Env) (s : Shared) (H : Hp) (E : XK), Room k (A.deeper (PyProof.Rows.envOfC qual (defScope st) s.heap.objs.size f cdv)) →
      DSs (cxOf (L2.CX P w) P w K mg base N qual (defScope st) f cdv A outer s H E) ⟨ct, fun c dx _ H => E c dx H⟩ (defBody st) c) : FnOk P w K mg base (L2.CX P w) (k + 1) f fd ps (spP K ct n (fnP c j)) := by
  refine F.okX S (fun vs H Q E h => ?_) (fun cdv A outer s H vs Q E hr h => ?_)
  · obtain ⟨J, ds, _, r, hl, _⟩ := h
    rw [dps_len r, hl, hn]
  · obtain ⟨J, ds, sJ, r, hl, hp⟩ := h
    refine ⟨_, hb cdv A outer s H E hr, ⟨fun a => ∃ o, H a = some o, H, J, none⟩, J, ds.map SV.d ++ List.replicate j .un, ?_, ?_⟩
    · have hst : L2.start N vs = vs.map some ++ List.replicate j none := by
        unfold L2.start
        rw [hj, dps_len r, hl]
        congr 2
        omega
      rw [hst]
      exact er_start j sJ r
    · unfold fnP at hp
      cases hc : c (ds.map SV.d ++ List.replicate j .un) with
      | nx ρ => rw [hc] at hp; exact fun σ J' H' _ e => hp _ J' H' (grow_end e) .non
      | rt d ρ => rw [hc] at hp; exact fun v σ J' H' _ r e => hp v J' H' (grow_end e) r
      | ro o ρ =>
        rw [hc] at hp
        refine fun a r σ J' H' _ ho hb e => hp a r J' H' (grow_end e) ho fun b hb' => ⟨(hb b hb').1, ?_⟩
        cases hH : H b with
        | none => rfl
        | some u => exact absurd ⟨u, hH⟩ (hb b hb').2
      | exc ev ρ => rw [hc] at hp; exact fun c dx σ J' H' _ x e => hp c dx J' H' (grow_end e) (x.ct rfl)
      | bk ρ => rw [hc] at hp; exact hp.elim
      | ct ρ => rw [hc] at hp; exact hp.elim
      | bad => rw [hc] at hp; exact hp.elim
end
end DL

namespace DL
open PySem PySem.Spec L2

/-! ### functions that change an object of the caller's -/
inductive OO where
  | ret (d : D) (o : Own)
  | exc (e : EV) (o : Own)
  | bad
structure GrowO (J H J' H' : Hp) (ft : List Addr) : Prop where
  j : Same J J'
  jh : Same J' H'
  old : ∀ a o, a ∉ ft → H a = some o → H' a = some o ∧ J' a = J a
def OOk (K : Fg) (Y : Yx) (J H : Hp) (a : Addr) (r : List Addr) (o : OO) (Q : VK) (E : XK) : Prop := match o with
  | .ret d o' => ∀ v J' H' r', GrowO J H J' H' (a :: r) → OwnAt K J' H' o' (a :: r') → (∀ b ∈ a :: r', J' b = none ∧ (b ∈ a :: r ∨ H b = none)) → Rp K J' v d → Q v H'
  | .exc e o' => ∀ c dx J' H' r', GrowO J H J' H' (a :: r) → OwnAt K J' H' o' (a :: r') → (∀ b ∈ a :: r', J' b = none ∧ (b ∈ a :: r ∨ H b = none)) → ExcAt Y K J' H' e c dx → E c dx H'
  | .bad => False
def spO (K : Fg) (ct : String → Option Value) (n : Nat) (m : Own → List D → OO) : Sp := fun vs H Q E => ∃ J a r us o ds, vs = .ref a :: us ∧ Same J H ∧ OwnAt K J H o (a :: r) ∧ (∀ b ∈ a :: r, J b = none) ∧ RpAll K J us ds ∧ ds.length = n ∧
  OOk K ⟨ct, fun _ _ _ _ => True⟩ J H a r (m o ds) Q E
section
variable {K : Fg} {G : Gd} {J H J' H' : Hp} {σ : L2.St} {ρ : Env}
theorem own_foot {i : Nat} {fx : Bool} {o : Own} (e : ER K G J H σ ρ) (hi : ρ[i]? = some (.own fx o)) : ∃ a r, σ[i]? = some (some (.ref a)) ∧ OwnAt K J H o (a :: r) ∧ ∀ b ∈ a :: r, J b = none := by
  obtain ⟨fs, hs, ap, q⟩ := e.ft
  obtain ⟨y, f, e1, e2, so⟩ := hs.get hi
  cases so with
  | own ho => exact ⟨_, _, e1, ho, fun b hb => (q _ (List.mem_of_getElem? e2) b hb).1⟩
theorem OwnAt.foot {o : Own} {a : Addr} {r r' : List Addr} (h : OwnAt K J H o (a :: r)) (h' : OwnAt K J H o (a :: r')) : r = r' := by
  cases o with
  | lst xs =>
    obtain ⟨_, _, e, _⟩ := h
    obtain ⟨_, _, e', _⟩ := h'
    injection e with _ e1
    injection e' with _ e2
    rw [e1, e2]
  | tape cs sd =>
    obtain ⟨a1, b1, e, _, q1, _⟩ := h
    obtain ⟨a2, b2, e', _, q2, _⟩ := h'
    injection e with x1 e1
    injection e' with x2 e2
    rw [e1, e2]
    subst x1 x2
    rw [q1] at q2
    injection q2 with q2
    injection q2 with q2
    injection q2 with q2
    injection q2 with q2
    rw [q2]
  | tapB b cs sd =>
    obtain ⟨a1, e, _⟩ := h
    obtain ⟨a2, e', _⟩ := h'
    injection e with x1 e1
    injection e' with x2 e2
    rw [e1, e2]
/-- behind a call that changed the object of slot i -/
theorem ER.callO {i : Nat} {fx : Bool} {o o' : Own} {a : Addr} {r r' : List Addr} (e : ER K G J H σ ρ) (hi : ρ[i]? = some (.own fx o)) (hs : σ[i]? = some (some (.ref a))) (ho : OwnAt K J H o (a :: r)) (g : GrowO J H J' H' (a :: r)) (ho' : OwnAt K J' H' o' (a :: r'))
    (hf : ∀ b ∈ a :: r', J' b = none ∧ (b ∈ a :: r ∨ H b = none)) : ER K G J' H' σ (ρ.set i (.own fx o')) := by
  obtain ⟨fs, h, ap, q⟩ := e.ft
  obtain ⟨x, f, e1, e2, so⟩ := h.get hi
  rw [hs] at e1
  cases e1
  cases so with
  | own ho1 =>
  rename_i r1
  have er := ho1.foot ho
  subst er
  have qf := q _ (List.mem_of_getElem? e2)
  have other : ∀ j f, j ≠ i → fs[j]? = some f → ∀ b ∈ f, b ∉ a :: r1 := fun j f hj ef b hb hm => hj (ap j i f _ b ef e2 hb hm)
  have key : ∀ (σ : List (Option V)) (ρ : List SV) (fs : List (List Addr)) (i : Nat), SlsOk K J H σ ρ fs → ρ[i]? = some (.own fx o) → σ[i]? = some (some (.ref a)) → (∀ j f, j ≠ i → fs[j]? = some f → ∀ b ∈ f, b ∉ a :: r1) →
      SlsOk K J' H' σ (ρ.set i (.own fx o')) (fs.set i (a :: r')) := by
    intro σ ρ fs i h
    induction h generalizing i with
    | nil => intro e; simp at e
    | @cons x s f xs ss fs h t ih =>
      intro e1 e2 e4
      cases i with
      | zero =>
        simp at e1 e2
        subst e1 e2
        refine .cons (.own ho') (t.keep g.j fun f2 hf2 b hb u hu => (g.old b u ?_ hu).1)
        obtain ⟨k, hk, hk2⟩ := List.getElem_of_mem hf2
        exact e4 (k + 1) f2 (by omega) (by simp [hk, hk2]) b hb
      | succ i =>
        refine .cons (h.keep g.j fun b hb u hu => (g.old b u (e4 0 f (by omega) rfl b hb) hu).1) (ih i (by simpa using e1) (by simpa using e2) fun j f2 hj hf2 => e4 (j + 1) f2 (by omega) (by simpa using hf2))
  refine ⟨g.jh, e.j0.trans g.j, fun b hb => ?_, e.pn, ⟨fs.set i (a :: r'), key σ ρ fs i h hi hs other, ap.set i fun j f2 hj ef b hb hm => ?_, fun f2 hf2 b hb => ?_⟩, fun j b hj => ?_⟩
  · obtain ⟨u, hu⟩ := e.pn b hb
    obtain ⟨k1, k2⟩ := e.keep b hb
    obtain ⟨g1, g2⟩ := g.old b u (fun z => (qf b z).2 hb) (k1.trans hu)
    exact ⟨g1.trans hu.symm, g2.trans k2⟩
  · rcases (hf b hb).2 with z | z
    · exact other j f2 hj ef b hm z
    · obtain ⟨u, hu⟩ := h.known f2 (List.mem_of_getElem? ef) b hm
      rw [z] at hu
      cases hu
  · obtain ⟨k, hk, hk2⟩ := List.getElem_of_mem hf2
    by_cases z : k = i
    · subst z
      rw [List.getElem_set_self] at hk2
      subst hk2
      refine ⟨(hf b hb).1, fun hP => ?_⟩
      rcases (hf b hb).2 with z | z
      · exact (qf b z).2 hP
      · obtain ⟨u, hu⟩ := e.pn b hP
        rw [(e.keep b hP).1, hu] at z
        cases z
    · rw [List.length_set] at hk
      rw [List.getElem_set_ne (Ne.symm z)] at hk2
      have hfk : fs[k]? = some f2 := by rw [List.getElem?_eq_getElem hk, hk2]
      obtain ⟨u, hu⟩ := h.known f2 (List.mem_of_getElem? hfk) b hb
      exact ⟨(g.old b u (other k f2 z hfk b hb) hu).2.trans (q f2 (List.mem_of_getElem? hfk) b hb).1, (q f2 (List.mem_of_getElem? hfk) b hb).2⟩
  · obtain ⟨f1, o1, f2⟩ := e.fx j b hj
    refine ⟨f1, ?_⟩
    by_cases hij : i = j
    · subst hij
      rw [hi] at f2
      cases f2
      exact ⟨o', by rw [List.getElem?_set_self (List.getElem?_eq_some_iff.mp hi).1]⟩
    · rw [List.getElem?_set_ne hij]
      exact ⟨o1, f2⟩
end
@[simp] def eCallO (i n : Nat) (m : Own → List D → OO) (fa : Env → Out (List VV)) (ρ : Env) : Out VV := match ρ[i]? with
  | some (.own _ _) => (fa ρ).bind fun xs ρ1 => match vals xs, ρ1[i]? with
    | some ds, some (.own fx o) => if ds.length = n then (match m o ds with
      | .ret d o' => .ok (.val d) (ρ1.set i (.own fx o'))
      | .exc e o' => .exc e (ρ1.set i (.own fx o'))
      | .bad => .bad) else .bad
    | _, _ => .bad
  | _ => .bad
section
variable {X : Cx} {Y : Yx} {a b c e : Expr} {pos : Pos}
theorem de_callO (i : Nat) {m : Own → List D → OO} {n k : Nat} {f : Addr} {fd : FuncData} {ps : List Str} {x y : Str} {es : List Expr} {fa : Env → Out (List VV)} {p py : Pos} (F : FnOk X.prog X.w X.K X.mg X.base (L2.CX X.prog X.w) k f fd ps (spO X.K Y.ct n m)) (hr : Room k X.A)
    (hm : X.mg x = some (.ref f)) (hk : PySem.W.keepIn X.K (.ref f) = true) (hb : Binds X.K fd ps []) (tk : Takes' X Y) (ha : DA X Y es fa) (hg : Gl X x := by rfl) (hN : X.N[i]? = some y := by rfl)
    (hv : Vis X.env.scope y := by first | exact Or.inl rfl | exact Or.inr (Or.inl rfl) | exact Or.inr (Or.inr rfl)) (hd : (y == ("__debug__" : Str)) = false := by decide) (hcd : (y == ("__classdict__" : Str)) = false := by decide) (hdb : (x == ("__debug__" : Str)) = false := by decide)
    (he : starEach (.Name y py :: es) X.env = (false, eval (.Name y py) X.env) :: starEach es X.env := by rfl) (hpl : (backTo pos (starEach es X.env)).any (·.1) = false := by rfl) : DE X Y (.Call (.Name x p) (.Name y py :: es) [] pos) (eCallO i n m fa) := by
  refine PE.imp (pe_callS F hr hg hm hk hb tk (pa_cons (pe_var (i := i) hN hv hd hcd) ha he) hdb he hpl) fun σ H Q ⟨G, J, ρ, er, h⟩ => ?_
  unfold eCallO at h
  split at h
  · rename_i fx0 o0 hi0
    obtain ⟨a0, r0, h1, _, _⟩ := own_foot er hi0
    refine ⟨_, h1, G, J, ρ, er, Post.bind h fun xs ρ1 vs J1 H1 s1 r1 e1 hp => ?_⟩
    split at hp
    · rename_i ds fx o hds hi
      split at hp
      · rename_i hl
        obtain ⟨a, r, k1, k2, k3⟩ := own_foot e1 hi
        rw [h1] at k1
        cases k1
        refine ⟨J1, a0, r, vs, o, ds, rfl, e1.ex, k2, k3, vals_ok r1 hds, hl, ?_⟩
        cases hm : m o ds with
        | ret d o' =>
          rw [hm] at hp
          exact fun v J' H' r' g ho' hf rv => hp v J' H' g.j rv (e1.callO hi h1 k2 g ho' hf)
        | exc ev o' =>
          rw [hm] at hp
          exact fun c dx J' H' r' g ho' hf hx => hp c dx J' H' g.j (hx.ct rfl) (e1.callO hi h1 k2 g ho' hf)
        | bad =>
          rw [hm] at hp
          exact hp.elim
      · exact hp.elim
    · exact hp.elim
  · exact h.elim
end
/-- a body, run from its arguments, the first an object of the caller's -/
def fnO (c : SC) (k : Nat) : Own → List D → OO := fun o ds => match c (.own true o :: (ds.map SV.d ++ List.replicate k .un)) with
  | .nx ρ => match (ρ[0]? : Option SV) with
    | some (SV.own true o') => OO.ret .none o'
    | _ => OO.bad
  | .rt d ρ => match (ρ[0]? : Option SV) with
    | some (SV.own true o') => OO.ret d o'
    | _ => OO.bad
  | .exc e ρ => match (ρ[0]? : Option SV) with
    | some (SV.own true o') => OO.exc e o'
    | _ => OO.bad
  | _ => OO.bad
theorem er_startO {K : Fg} {J H : Hp} {a : Addr} {r : List Addr} {o : Own} {vs : List V} {ds : List D} (k : Nat) (s : Same J H) (ho : OwnAt K J H o (a :: r)) (hn : ∀ b ∈ a :: r, J b = none) (rv : RpAll K J vs ds) :
    ER K ⟨fun b => (∃ u, H b = some u) ∧ b ∉ a :: r, H, J, some (0, a)⟩ J H (some (.ref a) :: (vs.map some ++ List.replicate k none)) (.own true o :: (ds.map SV.d ++ List.replicate k .un)) := by
  refine ⟨s, .refl J, fun b _ => ⟨rfl, rfl⟩, fun b h => h.1, ⟨_, .cons (.own ho) (sls_start k rv), fun i j f g b h1 h2 hb hb2 => ?_, fun f hf b hb => ?_⟩, fun i b h => ?_⟩
  · cases i with
    | zero =>
      cases j with
      | zero => rfl
      | succ j =>
        rw [List.eq_of_mem_replicate (List.mem_of_getElem? (show (List.replicate (ds.length + k) ([] : List Addr))[j]? = some g from h2))] at hb2
        cases hb2
    | succ i =>
      rw [List.eq_of_mem_replicate (List.mem_of_getElem? (show (List.replicate (ds.length + k) ([] : List Addr))[i]? = some f from h1))] at hb
      cases hb
  · rcases List.mem_cons.mp hf with rfl | hf
    · exact ⟨hn b hb, fun z => z.2 hb⟩
    · rw [List.eq_of_mem_replicate hf] at hb
      cases hb
  · cases h
    exact ⟨rfl, o, rfl⟩
theorem end_O {K : Fg} {J H J' H' : Hp} {a : Addr} {r : List Addr} {σ : L2.St} {ρ : Env} {o' : Own} (e : ER K ⟨fun b => (∃ u, H b = some u) ∧ b ∉ a :: r, H, J, some (0, a)⟩ J' H' σ ρ) (h0 : ρ[0]? = some (.own true o')) :
    ∃ r', GrowO J H J' H' (a :: r) ∧ OwnAt K J' H' o' (a :: r') ∧ ∀ b ∈ a :: r', J' b = none ∧ (b ∈ a :: r ∨ H b = none) := by
  obtain ⟨fs, h, ap, q⟩ := e.ft
  obtain ⟨x, f, e1, e2, so⟩ := h.get h0
  obtain ⟨f1, _⟩ := e.fx 0 a rfl
  rw [f1] at e1
  cases e1
  cases so with
  | own ho =>
    refine ⟨_, ⟨e.j0, e.ex, fun b u hb hu => ?_⟩, ho, fun b hb => ?_⟩
    · obtain ⟨k1, k2⟩ := e.keep b ⟨⟨u, hu⟩, hb⟩
      exact ⟨k1.trans hu, k2⟩
    · obtain ⟨q1, q2⟩ := q _ (List.mem_of_getElem? e2) b hb
      refine ⟨q1, ?_⟩
      by_cases z : b ∈ a :: r
      · exact .inl z
      · refine .inr ?_
        cases hb2 : H b with
        | none => rfl
        | some u => exact absurd ⟨⟨u, hb2⟩, z⟩ q2
section
variable {P : Program} {w : World} {K : Fg} {mg : Str → Option Value} {base : Heap}
theorem fn_o {x qual : Str} {st : Stmt} {f : Addr} {fd : FuncData} {N ps : List Str} {k j n : Nat} {c : SC} {ct : String → Option Value} (F : Fun K x qual st f fd) (S : FnScope N ps (defScope st)) (hn : ps.length = n + 1) (hj : N.length = n + 1 + j)
    (hb : ∀ (cdv : Value) (A : Around) (outer : List PySem.Env) (s : Shared) (H : Hp) (E : XK), Room k (A.deeper (PyProof.Rows.envOfC qual (defScope st) s.heap.objs.size f cdv)) →
      DSs (cxOf (L2.CX P w) P w K mg base N qual (defScope st) f cdv A outer s H E) ⟨ct, fun c dx _ H => E c dx H⟩ (defBody st) c) : FnOk P w K mg base (L2.CX P w) (k + 1) f fd ps (spO K ct n (fnO c j)) := by
  refine F.okX S (fun vs H Q E h => ?_) (fun cdv A outer s H vs Q E hr h => ?_)
  · obtain ⟨J, a, r, us, o, ds, rfl, _, _, _, rv, hl, _⟩ := h
    rw [List.length_cons, dps_len rv, hl, hn]
  · obtain ⟨J, a, r, us, o, ds, rfl, sJ, ho, hn0, rv, hl, hp⟩ := h
    refine ⟨_, hb cdv A outer s H E hr, ⟨fun b => (∃ u, H b = some u) ∧ b ∉ a :: r, H, J, some (0, a)⟩, J, .own true o :: (ds.map SV.d ++ List.replicate j .un), ?_, ?_⟩
    · have hst : L2.start N (.ref a :: us) = some (.ref a) :: (us.map some ++ List.replicate j none) := by
        unfold L2.start
        rw [hj, List.length_cons, dps_len rv, hl, List.map_cons, List.cons_append]
        congr 3
        omega
      rw [hst]
      exact er_startO j sJ ho hn0 rv
    · unfold fnO at hp
      cases hc : c (.own true o :: (ds.map SV.d ++ List.replicate j .un)) with
      | nx ρ =>
        rw [hc] at hp
        intro σ J' H' _ e
        dsimp only at hp
        split at hp
        · rename_i o' h0
          obtain ⟨r', g, h1, h2⟩ := end_O e h0
          exact hp _ J' H' r' g h1 h2 .non
        · exact hp.elim
      | rt d ρ =>
        rw [hc] at hp
        intro v σ J' H' _ rv' e
        dsimp only at hp
        split at hp
        · rename_i o' h0
          obtain ⟨r', g, h1, h2⟩ := end_O e h0
          exact hp _ J' H' r' g h1 h2 rv'
        · exact hp.elim
      | exc ev ρ =>
        rw [hc] at hp
        intro c dx σ J' H' _ hx e
        dsimp only at hp
        split at hp
        · rename_i o' h0
          obtain ⟨r', g, h1, h2⟩ := end_O e h0
          exact hp c dx J' H' r' g h1 h2 (hx.ct rfl)
        · exact hp.elim
      | bk ρ => rw [hc] at hp; exact hp.elim
      | ct ρ => rw [hc] at hp; exact hp.elim
      | bad => rw [hc] at hp; exact hp.elim
      | ro o ρ => rw [hc] at hp; exact hp.elim
end

/-! ### a function as the first argument -/
def spF (K : Fg) (ct : String → Option Value) (a : Addr) (n : Nat) (m : List D → FO) : Sp := fun vs H Q E => ∃ us, vs = .ref a :: us ∧ spP K ct n m us H Q E
def fnF (c : SC) (a : Addr) (k : Nat) : List D → FO := fun ds => match c (.rf a :: (ds.map SV.d ++ List.replicate k .un)) with
  | .nx _ => .ret .none
  | .rt d _ => .ret d
  | .exc e _ => .exc e
  | _ => .bad
@[simp] def eCallL (i : Nat) (a : Addr) (n : Nat) (m : List D → FO) (fa : Env → Out (List VV)) (ρ : Env) : Out VV := match ρ[i]? with
  | some (.rf a') => if a' = a then eCall n m fa ρ else .bad
  | _ => .bad
section
variable {X : Cx} {Y : Yx} {a b c e : Expr} {pos : Pos}
theorem call_fin {m : List D → FO} {n : Nat} {fa : Env → Out (List VV)} : ∀ σ H Q, tE X.K Y (eCall n m fa) σ H Q → tA X.K Y fa σ H (fun vs H1 => spP X.K Y.ct n m vs H1 Q (WE Y.W σ)) := fun σ H Q ⟨G, J, ρ, er, h⟩ => by
  refine ⟨G, J, ρ, er, ?_⟩
  unfold eCall at h
  refine Post.bind h fun xs ρ1 vs J1 H1 s1 r1 e1 h1 => ?_
  split at h1
  · rename_i ds hds
    split at h1
    · rename_i hl
      refine ⟨J1, ds, e1.ex, vals_ok r1 hds, hl, ?_⟩
      cases hm : m ds with
      | ret d =>
        rw [hm] at h1
        exact fun v J' H' gr r => h1.grow e1 gr r
      | exc ev =>
        rw [hm] at h1
        exact fun c dx J' H' gr r => h1 c dx J' H' gr.j (r.ct rfl) (e1.grow gr)
      | bad =>
        rw [hm] at h1
        exact h1.elim
      | own o =>
        rw [hm] at h1
        exact h1.elim
    · exact h1.elim
  · exact h1.elim
/-- g(h, e, ..), h a def of the text -/
theorem de_callF {m : List D → FO} {n k : Nat} {f h : Addr} {fd : FuncData} {ps : List Str} {x y : Str} {es : List Expr} {fa : Env → Out (List VV)} {p py : Pos} (F : FnOk X.prog X.w X.K X.mg X.base (L2.CX X.prog X.w) k f fd ps (spF X.K Y.ct h n m)) (hr : Room k X.A)
    (hm : X.mg x = some (.ref f)) (hk : PySem.W.keepIn X.K (.ref f) = true) (hb : Binds X.K fd ps []) (tk : Takes' X Y) (hmy : X.mg y = some (.ref h)) (ha : DA X Y es fa) (hg : Gl X x := by rfl) (hgy : Gl X y := by rfl) (hdb : (x == ("__debug__" : Str)) = false := by decide)
    (hdy : (y == ("__debug__" : Str)) = false := by decide) (he : starEach (.Name y py :: es) X.env = (false, eval (.Name y py) X.env) :: starEach es X.env := by rfl) (hpl : (backTo pos (starEach es X.env)).any (·.1) = false := by rfl) :
    DE X Y (.Call (.Name x p) (.Name y py :: es) [] pos) (eCall n m fa) :=
  PE.imp (pe_callS F hr hg hm hk hb tk (pa_cons (pe_glob (v := .ref h) hgy hmy rfl hdy) ha he) hdb he hpl) fun σ H Q h1 => by
    obtain ⟨G, J, ρ, er, h2⟩ := call_fin σ H Q h1
    refine ⟨G, J, ρ, er, ?_⟩
    cases hf : fa ρ with
    | ok xs ρ1 =>
      rw [hf] at h2
      exact fun v J' H' s r e => ⟨v, rfl, h2 v J' H' s r e⟩
    | exc ev ρ1 => rw [hf] at h2; exact h2
    | bad => rw [hf] at h2; exact h2
/-- a parameter that holds a def is called -/
theorem pe_callLS {CX : CXT} {k i : Nat} {f : Addr} {fd : FuncData} {ps : List Str} {sp : Sp} {E : L2.St → XK} {x : Str} {p : Pos} {es : List Expr} {t : TA} (F : FnOk X.prog X.w X.K X.mg X.base CX k f fd ps sp) (hr : Room k X.A) (hN : X.N[i]? = some x) (hv : Vis X.env.scope x)
    (hk : PySem.W.keepIn X.K (.ref f) = true) (hb : Binds X.K fd ps []) (hx : ∀ σ, PassesAt CX X σ (E σ)) (ha : PA X (e :: es) t) (hdb : (x == ("__debug__" : Str)) = false) (hcd : (x == ("__classdict__" : Str)) = false)
    (he : starEach (e :: es) X.env = (false, eval e X.env) :: starEach es X.env) (hpl : (backTo pos (starEach es X.env)).any (·.1) = false) : PE X (.Call (.Name x p) (e :: es) [] pos) (fun σ H Q => σ[i]? = some (some (.ref f)) ∧ t σ H fun vs H1 => sp vs H1 Q (E σ)) := by
  refine ⟨fun pins s σ H Q I ⟨hs, ht⟩ => wpAny_Call_Name_kw (thn ((pe_var (pos := p) hN hv hdb hcd).run pins s σ H (fun v H1 => v = .ref f ∧ H1 = H) I ⟨.ref f, hs, rfl, rfl⟩) fun u s1 ⟨v, H1, I1, r1, q1⟩ => ?_)⟩
  obtain ⟨rfl, rfl⟩ := q1
  cases r1
  exact PySem.W.callWith_K (h₀ := X.base) I.ok.mod.kin hk (thn (ha.run pos pins s1 σ _ _ I1 ht) fun us s2 ⟨vs, H2, I2, r, q⟩ => ⟨I2.kIn, run_fnS F hr hb (hx σ) I2 r q⟩) he hpl
theorem de_callL (i : Nat) {m : List D → FO} {n k : Nat} {f : Addr} {fd : FuncData} {ps : List Str} {x : Str} {es : List Expr} {fa : Env → Out (List VV)} {p : Pos} (F : FnOk X.prog X.w X.K X.mg X.base (L2.CX X.prog X.w) k f fd ps (spP X.K Y.ct n m)) (hr : Room k X.A)
    (hk : PySem.W.keepIn X.K (.ref f) = true) (hb : Binds X.K fd ps []) (tk : Takes' X Y) (ha : DA X Y (e :: es) fa) (hN : X.N[i]? = some x := by rfl) (hv : Vis X.env.scope x := by first | exact Or.inl rfl | exact Or.inr (Or.inl rfl) | exact Or.inr (Or.inr rfl))
    (hdb : (x == ("__debug__" : Str)) = false := by decide) (hcd : (x == ("__classdict__" : Str)) = false := by decide) (he : starEach (e :: es) X.env = (false, eval e X.env) :: starEach es X.env := by rfl) (hpl : (backTo pos (starEach es X.env)).any (·.1) = false := by rfl) :
    DE X Y (.Call (.Name x p) (e :: es) [] pos) (eCallL i f n m fa) := by
  refine PE.imp (pe_callLS F hr hN hv hk hb tk ha hdb hcd he hpl) fun σ H Q ⟨G, J, ρ, er, h⟩ => ?_
  unfold eCallL at h
  split at h
  · rename_i a' hi
    split at h
    · rename_i ea
      subst ea
      obtain ⟨fs, hs, _⟩ := er.ft
      obtain ⟨y, fo, e1, _, so⟩ := hs.get hi
      cases so
      exact ⟨e1, call_fin σ H Q ⟨G, J, ρ, er, h⟩⟩
    · exact h.elim
  · exact h.elim
end
section
variable {P : Program} {w : World} {K : Fg} {mg : Str → Option Value} {base : Heap}
theorem fn_f {x qual : Str} {st : Stmt} {f a : Addr} {fd : FuncData} {N ps : List Str} {k j n : Nat} {c : SC} {ct : String → Option Value} (F : Fun K x qual st f fd) (S : FnScope N ps (defScope st)) (hn : ps.length = n + 1) (hj : N.length = n + 1 + j)
    (hb : ∀ (cdv : Value) (A : Around) (outer : List PySem.Env) (s : Shared) (H : Hp) (E : XK), Room k (A.deeper (PyProof.Rows.envOfC qual (defScope st) s.heap.objs.size f cdv)) →
      DSs (cxOf (L2.CX P w) P w K mg base N qual (defScope st) f cdv A outer s H E) ⟨ct, fun c dx _ H => E c dx H⟩ (defBody st) c) : FnOk P w K mg base (L2.CX P w) (k + 1) f fd ps (spF K ct a n (fnF c a j)) := by
  refine F.okX S (fun vs H Q E h => ?_) (fun cdv A outer s H vs Q E hr h => ?_)
  · obtain ⟨us, rfl, J, ds, _, r, hl, _⟩ := h
    rw [List.length_cons, dps_len r, hl, hn]
  · obtain ⟨us, rfl, J, ds, sJ, r, hl, hp⟩ := h
    have er := er_start (H := H) j sJ r
    refine ⟨_, hb cdv A outer s H E hr, ⟨fun a => ∃ o, H a = some o, H, J, none⟩, J, .rf a :: (ds.map SV.d ++ List.replicate j .un), ?_, ?_⟩
    · have hst : L2.start N (.ref a :: us) = some (.ref a) :: (us.map some ++ List.replicate j none) := by
        unfold L2.start
        rw [hj, List.length_cons, dps_len r, hl, List.map_cons, List.cons_append]
        congr 3
        omega
      rw [hst]
      refine ⟨er.ex, er.j0, er.keep, er.pn, ⟨_, .cons (.rf a) (sls_start j r), fun i k f g b h1 h2 hb _ => ?_, fun f hf b hb => ?_⟩, fun i b h => nomatch h⟩
      · cases i with
        | zero => cases h1; cases hb
        | succ i =>
          rw [List.eq_of_mem_replicate (List.mem_of_getElem? (show (List.replicate (ds.length + j) ([] : List Addr))[i]? = some f from h1))] at hb
          cases hb
      · rcases List.mem_cons.mp hf with rfl | hf
        · cases hb
        · rw [List.eq_of_mem_replicate hf] at hb
          cases hb
    · unfold fnF at hp
      cases hc : c (.rf a :: (ds.map SV.d ++ List.replicate j .un)) with
      | nx ρ => rw [hc] at hp; exact fun σ J' H' _ e => hp _ J' H' (grow_end e) .non
      | rt d ρ => rw [hc] at hp; exact fun v σ J' H' _ r e => hp v J' H' (grow_end e) r
      | exc ev ρ => rw [hc] at hp; exact fun c dx σ J' H' _ x e => hp c dx J' H' (grow_end e) (x.ct rfl)
      | bk ρ => rw [hc] at hp; exact hp.elim
      | ct ρ => rw [hc] at hp; exact hp.elim
      | bad => rw [hc] at hp; exact hp.elim
      | ro o ρ => rw [hc] at hp; exact hp.elim
end

/-! ### raise and try -/
@[simp] def sRaise (x : String) (ρ : Env) : SO := .exc ⟨x, []⟩ ρ
/-- an own exception class without an __init__ -/
structure ExC (K : Fg) (mg : Str → Option Value) (x : Str) (C : Addr) : Prop where
  g : mg x = some (.ref C)
  q : PySem.W.excIn K C [.type "ValueError", .type "Exception", .type "BaseException", .type "object"] "ValueError.__new__" = true
  k : PySem.W.keepIn K (.ref C) = true
  s : PySem.W.subIn K (.ref C) (.type "BaseException") = some true
  t : PySem.W.typeIn K (.ref C) = some (.type "type")
section
variable {X : Cx} {Y : Yx} {a b c e : Expr} {pos : Pos}
theorem pmk_own0 {C : Addr} {x : Str} {p : Pos} (T : ExC X.K X.mg x C) (hg : Gl X x) (hdb : (x == ("__debug__" : Str)) = false) : PMk X (.Call (.Name x p) [] [] pos) (fun _ H Q => Q (.ref C) none H) := by
  intro pins s σ H Q I h
  refine wpAny_Call_Name_kw (ld_glob I hg T.g (PySem.W.callWith_K0 I.kIn T.k ?_) hdb)
  obtain ⟨bm, N, nm, qn, bs, hdct, sn, sub, ab, col, dd, k0, k1, k2, k3, k5, mN, hC, hN, hni, hT⟩ := exc_obj I.kIn T.q
  exact wpAny_call_exc_subT PySem.F.excBase_ValueError hT hC hN hni (fun h' e hm => mk_of I hm (raises_own T.s T.t) h (I.hok.gone hm.new)) (Nat.zero_le _)
theorem ds_raise0 {C : Addr} {x : String} {p rpos : Pos} (T : ExC X.K X.mg (x : Str) C) (hct : Y.ct x = some (.ref C)) (hc : X.calm = true) (tk : Takes X Y.W) (hg : Gl X (x : Str) := by rfl) (hdb : ((x : Str) == ("__debug__" : Str)) = false := by decide) :
    DS X Y (.Raise (some (.Call (.Name (x : Str) p) [] [] pos)) none rpos) (sRaise x) :=
  PS.imp (ps_raise hc tk (pmk_own0 T hg hdb)) fun D σ H ⟨G, J, ρ, er, h⟩ => h _ _ σ J H (.refl J) ⟨hct, .inl ⟨rfl, rfl⟩⟩ er
/-- the classes that the clauses of a text catch -/
structure SubT (K : Fg) (ct : String → Option Value) (sub : String → String → Bool) : Prop where
  ok : ∀ x y c d, ct x = some c → ct y = some d → PySem.W.exmOne K c d = some (sub x y)
@[simp] def noExc : SO → SO
  | .exc _ _ => .bad
  | o => o
@[simp] def sTry (sub : String → String → Bool) (x : String) (cb cs : SC) (ρ : Env) : SO := match cb ρ with
  | .exc e ρ1 => if sub e.cls x = true then noExc (cs ρ1) else .exc e ρ1
  | o => o
theorem spost_no {K : Fg} {G : Gd} {J : Hp} {o : SO} {D : Ends} {Y : Yx} (h : SPost K Y G J (noExc o) D) : SPost K Y.no G J o D := by
  cases o with
  | exc e ρ => exact h.elim
  | nx ρ => exact h
  | rt d ρ => exact h
  | ro o ρ => exact h
  | bk ρ => exact h
  | ct ρ => exact h
  | bad => exact h
theorem ds_try {x : String} {c : Value} {sub : String → String → Bool} {body suite : List Stmt} {b₀ : Stmt} {np pos' : Pos} {cb cs : SC} (T : SubT X.K Y.ct sub) (hct : Y.ct x = some c) (hm : X.mg (x : Str) = some c) (hs : X.stack = X.env :: X.outer) (hf : X.env.frame = some X.env.locals) (tk : Takes X Y.W)
    (hb : ∀ (W : WX) (pn : List (Addr × Obj)) (xe : Value → Shared → Prop), Takes (X.tr pn xe) W → PassesOwn (model X.prog X.w) X.A X.env xe → DSs (X.tr pn xe) ⟨Y.ct, W⟩ body cb)
    (hsu : ∀ (a : Addr) (oe : Obj) (pn : List (Addr × Obj)), DSs (X.suite a ((a, oe) :: pn)) Y.no (b₀ :: suite) cs) (hg : Gl X (x : Str) := by rfl) (hdb : ((x : Str) == ("__debug__" : Str)) = false := by decide) :
    DS X Y (.Try body [.ExceptHandler (some (.Name (x : Str) np)) none (b₀ :: suite) pos'] [] [] pos) (sTry sub x cb cs) := by
  refine PS.imp (ps_try_only (tb := fun W => tS X.K ⟨Y.ct, W⟩ cb) (ts := fun _ _ _ => tS X.K Y.no cs) hs hf ⟨hg, hdb, .inl hm⟩ tk hb (fun a oe cls d pn _ _ => hsu a oe pn)) fun D σ H ⟨G, J, ρ, er, h⟩ => ⟨G, J, ρ, er, ?_⟩
  unfold sTry at h
  cases hc : cb ρ with
  | nx ρ1 => rw [hc] at h; exact h
  | rt d ρ1 => rw [hc] at h; exact h
  | ro o ρ1 => rw [hc] at h; exact h
  | bk ρ1 => rw [hc] at h; exact h
  | ct ρ1 => rw [hc] at h; exact h
  | bad => rw [hc] at h; exact h
  | exc ev ρ1 =>
    rw [hc] at h
    intro c1 dx σ1 J1 H1 s1 hx e1
    have h : SPost X.K Y G J (if sub ev.cls x = true then noExc (cs ρ1) else .exc ev ρ1) D := h
    refine ⟨sub ev.cls x, T.ok _ _ _ _ hx.1 hct, fun hy a _ => ?_, fun hn => ?_⟩
    · rw [if_pos hy] at h
      exact ⟨G, J1, ρ1, e1, spost_no (SPost.mono s1 h)⟩
    · rw [if_neg (by rw [hn]; exact Bool.false_ne_true)] at h
      exact h c1 dx σ1 J1 H1 s1 (hx.ct rfl) e1
end
end DL

/-! enumerate over a tuple, a text -/
namespace PySem
open AutoSeq1 (wpAny_loadPart')
theorem dl_enumB {v : Value} {o : Obj} {H : Heap → Prop} (B : Begins v o H) :
    Meets (Builtin.«enumerate.__new__» ⟨[.type "enumerate", v], []⟩) (fun _ R s => H s.heap ∧
      R (.ok (.ret (.ref (s.heap.push o).objs.size))) { s with heap := (s.heap.push o).push { cls := .type "enumerate", data := .fields #[.none, .bool false, .ref s.heap.objs.size, rawInt 0, .none, .none] } }) :=
  .of_wp fun prog w A R s h => by
    obtain ⟨hp, g, d, tk, os⟩ := s; obtain ⟨h1, h⟩ := h
    have hsub := sub_enumerate
    have q1 : ∀ {A' : Around} {E : Value → Shared → Prop} {Q : Value → Shared → Prop}, Q (.ref hp.objs.size) ⟨hp.push o, g, d, tk, os⟩ → wpAny (model prog w) A' (pyIter v) Q E ⟨hp, g, d, tk, os⟩ :=
      fun q => B.iter prog w _ _ ⟨hp, g, d, tk, os⟩ _ h1 q
    wp_walk using q1
    refine wpAny_stack_any fun st => wpAny_pure ?_
    split
    · rename_i c _ _ _ _ _
      cases (c == Value.type "enumerate")
      · wp_walk using q1
        exact ⟨_, rfl, h⟩
      · wp_walk using q1
        exact ⟨_, rfl, h⟩
    · wp_walk using q1
      exact ⟨_, rfl, h⟩
theorem dl_enum1 {prog : Program} {w : World} {A : Around} {E : Value → Shared → Prop} {s : Shared} {v : Value} {o : Obj} {H : Heap → Prop} {Q : Value → Shared → Prop} (B : Begins v o H) (h1 : H s.heap)
    (h : ∀ h', IsEnum h' (s.heap.objs.size + 1) s.heap.objs.size 0 .none → h'.get? s.heap.objs.size = some o → h'.objs.size = s.heap.objs.size + 2 →
      (∀ b o, s.heap.get? b = some o → h'.get? b = some o) → Q (.ref (s.heap.objs.size + 1)) { s with heap := h' }) :
    wpAny (model prog w) A (call (.type "enumerate") [v]) Q E s := by
  refine callType_new F.called_enumerate (by decide) (F.typeCall_enumerate_1 _) (F.newCall_enumerate_1 _) (fun obj => F.args_object_init_2 obj _) F.entry_enumerate_new
    (dl_enumB B) ⟨h1, ?_⟩
  have hz : (s.heap.push o).objs.size = s.heap.objs.size + 1 := Heap.size_push ..
  show _ ∧ _
  rw [hz]
  have he : IsEnum ((s.heap.push o).push { cls := .type "enumerate", data := .fields #[.none, .bool false, .ref s.heap.objs.size, rawInt 0, .none, .none] }) (s.heap.objs.size + 1) s.heap.objs.size 0 .none := by
    have := Heap.get?_push_size (s.heap.push o) (o := { cls := .type "enumerate", data := .fields #[.none, .bool false, .ref s.heap.objs.size, rawInt 0, .none, .none] }) rfl
    rw [hz] at this; exact this
  refine ⟨⟨_, he, rfl⟩, h _ he (Heap.get?_push_of_some _ (Heap.get?_push_size _ B.free)) (by rw [Heap.size_push, hz]) fun b o x => Heap.get?_push_of_some _ (Heap.get?_push_of_some _ x)⟩
end PySem
namespace DL
open PySem PySem.Spec L2 PyProof.Rows

/-- enumerate over anything: what the source gives, by Draws -/
def Iteg (Gx : Hp → Prop) (P : Nat → Hp → V → Prop) (n : Nat) : It :=
  ⟨fun i H => i < n ∧ Gx H, fun i H v H' => ∃ T x, v = .ref T ∧ H T = none ∧ H' = upd H T (.tup [.int (i : Nat), x]) ∧ P i H x, fun i H => i = n ∧ Gx H⟩
theorem turn_enumG {P : Program} {w : World} {K : Fg} {elts : List Expr} {kk : Nat} {tpos : Pos} (e it : Addr) (n : Nat) (Gx : Hp → Prop) (PV : Nat → Hp → V → Prop) (st : Nat → Heap → Prop) (hne : e ≠ it)
    (hob : ∀ i h, st i h → ∃ o, h.get? it = some o ∧ ∀ v, o.data ≠ .cell v) (hkp : ∀ i h h', st i h → (∀ o, h.get? it = some o → h'.get? it = some o) → st i h')
    (hD : ∀ (X : Cx), X.prog = P → X.w = w → X.K = K → X.calm = true → ∀ (i : Nat) (pins : List (Addr × Obj)) (s : Shared) (σ : L2.St) (H : Hp), Inv X pins σ H s → Gx H → st i s.heap → (∃ old, IsEnum s.heap e it ((i : Nat) : Int) old) → (∀ b ∈ [e, it], FpOk X pins H b) → i ≤ n →
      ∃ (fp : List Addr) (PP : Nat → Value → Prop) (St : Nat → Heap → Prop), Draws P w X.A.in1 it fp n PP St ∧ St i s.heap ∧ e ∉ fp ∧ (∀ x, PP i x → ∃ v, RelV v x ∧ PV i H v) ∧ ∀ h', St (i + 1) h' → st (i + 1) h') :
    Turn P w K (.Tuple elts kk tpos) (Iteg Gx PV n) [e, it] e (fun i h => (∃ old, IsEnum h e it ((i : Nat) : Int) old) ∧ st i h) where
  mem := by simp
  obj := fun i h s b hb => by
    obtain ⟨⟨old, he⟩, hs⟩ := s
    have e' : b = e ∨ b = it := by simpa using hb
    rcases e' with z | z
    · rw [z]; exact ⟨_, he, fun v q => nomatch q⟩
    · rw [z]; exact hob _ _ hs
  keep := fun i h h' s k => let ⟨⟨old, he⟩, hi⟩ := s; ⟨⟨old, k e (by simp) _ he⟩, hkp _ _ _ hi fun o q => k it (by simp) o q⟩
  item := by
    intro X hP hw hK hc i pins s σ H E I hf s0 hg
    obtain ⟨⟨old, he⟩, hs⟩ := s0
    obtain ⟨hg, gx⟩ : i < n ∧ Gx H := hg
    obtain ⟨fp, PP, St, D, hst, hef, hrel, hst'⟩ := hD X hP hw hK hc i pins s σ H I gx hs ⟨old, he⟩ hf (Nat.le_of_lt hg)
    subst hP hw hK
    have hel : e < s.heap.objs.size := Heap.lt_size he
    have hil : it < s.heap.objs.size := by obtain ⟨_, q⟩ := D.live _ _ hst; exact Heap.lt_size q
    refine wpAny_pyNext_enum_itemD D he hst hg hne hef fun u h' tk hP ho hst2 hT hsz hk => ?_
    obtain ⟨x, ru, px⟩ := hrel u hP
    refine ⟨_, rfl, wpAny_letOwnedTupleGo_enum (s := { s with heap := h', toks := tk + 1 }) ho fun h'' he' sb => ?_⟩
    have hT2 : h''.get? s.heap.objs.size = some { cls := .type "tuple", data := .seq #[.int i tk, u] } := (sb.2 _ (Nat.ne_of_gt hel)).trans hT
    have new : ObjOk X.prog X.w (upd H s.heap.objs.size (.tup [.int (i : Nat), x])) h'' s.heap.objs.size (.tup [.int (i : Nat), x]) :=
      ⟨by show 2 ≤ sizeLine; decide, [.int i tk, u], .cons ⟨_, rfl⟩ (.cons ru .nil), ⟨_, hT2, rfl, _, rfl⟩⟩
    have I1 : Inv X pins σ (upd H s.heap.objs.size (.tup [.int (i : Nat), x])) { s with heap := h'', toks := tk + 1 } :=
      I.turnedNew (ch := [e, it]) (fun b ob hb q => (sb.2 b (fun z => hb (by simp [z]))).trans (hk b ob (fun z => hb (by simp [z])) (fun z => hb (by simp [z])) q)) hf (Nat.le_refl _) new
    refine ⟨.ref s.heap.objs.size, _, I1, rfl, ⟨_, x, rfl, I.hok.fresh (Nat.le_refl _), rfl, px⟩, ⟨⟨u, ?_⟩, hkp _ _ _ (hst' _ hst2) fun o q => (sb.2 it (Ne.symm hne)).trans q⟩, fun b hb => ?_⟩
    · have e1 : ((i + 1 : Nat) : Int) = (i : Int) + 1 := by omega
      rw [e1]; exact he'
    · have hb' : b < s.heap.objs.size := by
        have e' : b = e ∨ b = it := by simpa using hb
        rcases e' with z | z
        · rw [z]; exact hel
        · rw [z]; exact hil
      rw [upd_ne (Nat.ne_of_lt hb')]
      exact (hf b hb).1
  done := by
    intro X hP hw hK hc i pins s σ H E I hf s0 hg
    obtain ⟨⟨old, he⟩, hs⟩ := s0
    obtain ⟨hg, gx⟩ : i = n ∧ Gx H := hg
    subst hg
    obtain ⟨fp, PP, St, D, hst, hef, hrel, hst'⟩ := hD X hP hw hK hc i pins s σ H I gx hs ⟨old, he⟩ hf (Nat.le_refl _)
    subst hP hw hK
    obtain ⟨f0, f1, f2, f3, f4, f5⟩ := hf it (by simp)
    exact wpAny_pyNext_enum_endD D he hst fun h' eb => ⟨rfl, I.turned (t' := s.toks) (fun b o hb q => eb b o hb q) f0 f1 f3 f4 f5⟩
  self := fun A i s Q E st h => let ⟨⟨_, he⟩, _⟩ := st; wpAny_pyIter_enum he h
def pvT (K : Fg) (a : Addr) : Nat → Hp → V → Prop := fun i H x => ∀ xs, SqT K H a xs → xs[i]? = some x
def pvS (z : Str) : Nat → Hp → V → Prop := fun i _ x => ∃ c, z.cps[i]? = some c ∧ x = .str ⟨#[c]⟩
def iEnumTS (K : Fg) (ta : TA) : TI := fun σ H R => ta σ H fun vs H1 => (∃ a xs, vs = [.ref a] ∧ SqT K H1 a xs ∧ R (Iteg (fun H => SqT K H a xs) (pvT K a) xs.length) H1) ∨ ∃ z, vs = [.str z] ∧ R (Iteg (fun _ => True) (pvS z) z.cps.size) H1
theorem pi_enumTS {X : Cx} {e : Expr} {ta : TA} {p pos tpos : Pos} {elts : List Expr} {kk : Nat} (hg : Gl X "enumerate") (hm : X.mg "enumerate" = none) (ha : PA X [e] ta) (hs : starEach [e] X.env = [(false, eval e X.env)] := by rfl) :
    PI X (.Tuple elts kk tpos) (.Call (.Name "enumerate" p) [e] [] pos) (iEnumTS X.K ta) := by
  refine ⟨fun pins s σ H R I h => ?_⟩
  refine Call_ (ld_blt I hg hm boot_enumerate (PyProof.Rows.callWith_type1 (thn (ha.run pos pins s σ H _ I h) fun us s1 ⟨vs, H1, I1, r1, q1⟩ => ?_) hs rfl))
  have fp2 : ∀ b ∈ [s1.heap.objs.size + 1, s1.heap.objs.size], FpOk X pins H1 b := fun b hb => by
    have e' : b = s1.heap.objs.size + 1 ∨ b = s1.heap.objs.size := by simpa using hb
    have hle : s1.heap.objs.size ≤ b := by
      rcases e' with z | z
      · rw [z]; exact Nat.le_add_right _ _
      · rw [z]; exact Nat.le_refl _
    exact I1.fpOk hle (I1.hok.fresh hle)
  rcases q1 with ⟨a, xs, ex, hq, q⟩ | ⟨z, ex, q⟩
  · subst ex
    cases r1 with
    | cons r rr =>
      cases rr
      cases r
      obtain ⟨its, rv, p', hz⟩ := I1.tuple hq
      refine dl_enum1 (begins_tuple a its.toArray) (show s1.heap.IsTuple a its.toArray from p') fun h' he hit hsz hk => wpAny_pyIter_enum he ?_
      have I2 : Inv X pins σ H1 { s1 with heap := h' } := I1.kept (t' := s1.toks) hk
      refine ⟨s1.heap.objs.size + 1, [s1.heap.objs.size + 1, s1.heap.objs.size], _, _, H1, rfl, I2, turn_enumG (s1.heap.objs.size + 1) s1.heap.objs.size xs.length (fun H => SqT X.K H a xs) (pvT X.K a) (fun i h => h.IsTupleIter s1.heap.objs.size a i) (Nat.succ_ne_self _) ?_ ?_ ?_, ⟨⟨.none, he⟩, ?_⟩, fp2, q⟩
      · rintro i h ⟨o, ho, hc, hd⟩
        exact ⟨o, ho, fun v z => by rw [hd] at z; cases z⟩
      · rintro i h h' ⟨o, ho, r⟩ k
        exact ⟨o, k o ho, r⟩
      · intro Y hP hw hK hc i pins' s' σ' H' J gx hs' ⟨old, he'⟩ hf hi
        rw [← hK] at gx
        obtain ⟨its', rv', p2, hz'⟩ := J.tuple gx
        have hl := rv'.length
        have nit : a ≠ s1.heap.objs.size := fun z => by
          obtain ⟨o, ho, hc2, _⟩ := id p2
          obtain ⟨o', ho', hc', _⟩ := id hs'
          rw [z, ho'] at ho
          cases ho
          rw [hc'] at hc2
          simp at hc2
        have ne : s1.heap.objs.size + 1 ≠ a := fun z => by
          obtain ⟨o, ho, hc2, _⟩ := id p2
          have he2 := he'
          rw [z] at he2
          rw [show s'.heap.get? a = _ from he2] at ho
          cases ho
          simp at hc2
        rw [← hP, ← hw]
        have Dr := Draws.tuple (prog := Y.prog) (w := Y.w) (A := Y.A.in1) (J.ok.hd hc) s1.heap.objs.size a nit its'.toArray
        have el : its'.toArray.size = xs.length := by simp [hl]
        rw [el] at Dr
        refine ⟨_, _, _, Dr, ⟨hs', show s'.heap.IsTuple a its'.toArray from p2⟩, ?_, fun x hx => ?_, fun h'' st => st.1⟩
        · intro hm
          have e' : s1.heap.objs.size + 1 = s1.heap.objs.size ∨ s1.heap.objs.size + 1 = a := by simpa using hm
          rcases e' with z | z
          · exact Nat.succ_ne_self _ z
          · exact ne z
        · have hx : its'[i]? = some x := by simpa using hx
          have hlt : i < xs.length := by rw [hl]; exact (List.getElem?_eq_some_iff.mp hx).1
          obtain ⟨u, hu, ru⟩ := rv'.get (List.getElem?_eq_getElem hlt)
          rw [hx] at hu
          cases hu
          exact ⟨_, ru, fun ys hy => by
            rw [← hK] at hy
            rw [J.tuple_inj hy gx]
            exact List.getElem?_eq_getElem hlt⟩
      · exact ⟨_, hit, rfl, rfl⟩
  · subst ex
    cases r1 with
    | cons r rr =>
      cases rr
      obtain ⟨t, rfl⟩ := r
      refine dl_enum1 (begins_text z t) trivial fun h' he hit hsz hk => wpAny_pyIter_enum he ?_
      have I2 : Inv X pins σ H1 { s1 with heap := h' } := I1.kept (t' := s1.toks) hk
      refine ⟨s1.heap.objs.size + 1, [s1.heap.objs.size + 1, s1.heap.objs.size], _, _, H1, rfl, I2, turn_enumG (s1.heap.objs.size + 1) s1.heap.objs.size z.cps.size (fun _ => True) (pvS z) (fun i h => h.IsStrIter s1.heap.objs.size (strIterType z) z t i) (Nat.succ_ne_self _) ?_ ?_ ?_, ⟨⟨.none, he⟩, ?_⟩, fp2, q⟩
      · rintro i h ⟨o, ho, hc, hd⟩
        exact ⟨o, ho, fun v z => by rw [hd] at z; cases z⟩
      · rintro i h h' ⟨o, ho, r⟩ k
        exact ⟨o, k o ho, r⟩
      · intro Y hP hw hK hc i pins' s' σ' H' J gx hs' ⟨old, he'⟩ hf hi
        rw [← hP, ← hw]
        refine ⟨_, _, _, Draws.text (prog := Y.prog) (w := Y.w) (A := Y.A.in1) (J.ok.hd hc) s1.heap.objs.size z t, hs', ?_, fun x hx => ?_, fun h'' st => st⟩
        · intro hm
          exact Nat.succ_ne_self s1.heap.objs.size (List.mem_singleton.mp hm)
        · obtain ⟨c, u, h1, rfl⟩ := hx
          exact ⟨.str ⟨#[c]⟩, ⟨u, rfl⟩, c, h1, rfl⟩
      · exact ⟨_, (hit : h'.get? s1.heap.objs.size = some { cls := .type (strIterType z), data := .fields #[.str z t, .int 0 0] }), rfl, rfl⟩

def enumD (ds : List D) : List D := ds.zipIdx.map fun p => .tuple [.int (p.2 : Nat), p.1]
theorem enumD_len (ds : List D) : (enumD ds).length = ds.length := by simp [enumD]
theorem enumD_get {ds : List D} {i : Nat} {d : D} (h : ds[i]? = some d) : (enumD ds)[i]? = some (.tuple [.int (i : Nat), d]) := by
  unfold enumD
  rw [List.getElem?_map, List.getElem?_zipIdx, h]
  simp
theorem pair_new {K : Fg} {J H : Hp} {T : Addr} {x : V} {i : Int} {d : D} (s : Same J H) (hT : H T = none) (r : Rp K J x d) : Grow J H (upd J T (.tup [.int i, x])) (upd H T (.tup [.int i, x])) ∧ Rp K (upd J T (.tup [.int i, x])) (.ref T) (.tuple [.int i, d]) := by
  have gr := Grow.new (o := .tup [.int i, x]) s hT
  exact ⟨gr, .tup (.of upd_same) (.cons (.int i) (.cons (dp_mono gr.j _ _ r) .nil))⟩
theorem it_enumL {K : Fg} {J : Hp} {a : Addr} {vs : List V} {ds : List D} (h : SqL K J a vs) (r : RpAll K J vs ds) : ItOk K J (Ite K a) (enumD ds) := by
  refine ⟨fun i J1 H s1 s2 hi => ?_, fun i J1 H x H' s1 s2 hi y => ?_, fun J1 H s1 s2 => ⟨vs, same_l s2 (same_l s1 h), by rw [enumD_len, dps_len r]; exact Nat.le_refl _⟩⟩
  · rw [enumD_len, ← dps_len r] at hi
    exact ⟨vs, vs[i], same_l s2 (same_l s1 h), by simp [hi]⟩
  · obtain ⟨T, x', rfl, hT, rfl, y⟩ := y
    obtain ⟨d, h1, h2⟩ := dps_get' r (y vs (same_l s2 (same_l s1 h)))
    obtain ⟨g1, g2⟩ := pair_new (i := (i : Nat)) s2 hT (dp_mono s1 _ _ h2)
    exact ⟨_, _, g1, enumD_get h1, g2⟩
theorem it_enumT {K : Fg} {J : Hp} {a : Addr} {vs : List V} {ds : List D} (h : SqT K J a vs) (r : RpAll K J vs ds) : ItOk K J (Iteg (fun H => SqT K H a vs) (pvT K a) vs.length) (enumD ds) := by
  refine ⟨fun i J1 H s1 s2 hi => ?_, fun i J1 H x H' s1 s2 hi y => ?_, fun J1 H s1 s2 => ⟨by rw [enumD_len, dps_len r], same_t s2 (same_t s1 h)⟩⟩
  · rw [enumD_len, ← dps_len r] at hi
    exact ⟨hi, same_t s2 (same_t s1 h)⟩
  · obtain ⟨T, x', rfl, hT, rfl, y⟩ := y
    obtain ⟨d, h1, h2⟩ := dps_get' r (y vs (same_t s2 (same_t s1 h)))
    obtain ⟨g1, g2⟩ := pair_new (i := (i : Nat)) s2 hT (dp_mono s1 _ _ h2)
    exact ⟨_, _, g1, enumD_get h1, g2⟩
theorem it_enumS {K : Fg} {J : Hp} {z : Str} : ItOk K J (Iteg (fun _ => True) (pvS z) z.cps.size) (enumD (z.cps.toList.map fun c => .str ⟨#[c]⟩)) := by
  refine ⟨fun i J1 H s1 s2 hi => ?_, fun i J1 H x H' s1 s2 hi y => ?_, fun J1 H s1 s2 => ⟨by simp [enumD_len], trivial⟩⟩
  · exact ⟨by simpa [enumD_len] using hi, trivial⟩
  · obtain ⟨T, x', rfl, hT, rfl, c, h1, rfl⟩ := y
    obtain ⟨g1, g2⟩ := pair_new (K := K) (i := (i : Nat)) (d := .str ⟨#[c]⟩) s2 hT (.str _)
    refine ⟨_, _, g1, enumD_get ?_, g2⟩
    rw [List.getElem?_map, Array.getElem?_toList, h1]
    rfl
@[simp] def enumA : List VV → Option (List D)
  | [.val d] => match itemsOf d with
    | some ds => some (enumD ds)
    | none => none
  | _ => none
theorem enumA_some {xs : List VV} {ds : List D} (h : enumA xs = some ds) : ∃ d es, xs = [.val d] ∧ itemsOf d = some es ∧ ds = enumD es := by
  unfold enumA at h
  split at h
  · split at h
    · rename_i d es he
      cases h
      exact ⟨_, _, rfl, he, rfl⟩
    · cases h
  · cases h
@[simp] def eEnum (fa : Env → Out (List VV)) (ρ : Env) : Out (List D) := (fa ρ).bind fun xs ρ1 => match enumA xs with
  | some ds => .ok ds ρ1
  | none => .bad
section
variable {X : Cx} {Y : Yx} {a b c : Expr} {pos : Pos}
theorem di_enum {fa : Env → Out (List VV)} {p tpos : Pos} {elts : List Expr} {kk : Nat} (hm : X.mg "enumerate" = none) (ha : DA X Y [a] fa) (hg : Gl X "enumerate" := by rfl) (hs : starEach [a] X.env = [(false, eval a X.env)] := by rfl) :
    DI X Y (.Tuple elts kk tpos) (.Call (.Name "enumerate" p) [a] [] pos) (eEnum fa) := by
  refine PI.imp (DL.PI.or (pi_enum hg hm ha hs) (pi_enumTS hg hm ha hs)) fun σ H R ⟨G, J, ρ, er, hp⟩ => ?_
  unfold eEnum at hp
  cases hf : fa ρ with
  | exc e ρ1 =>
    rw [hf] at hp
    exact .inl ⟨G, J, ρ, er, by rw [hf]; exact hp⟩
  | bad =>
    rw [hf] at hp
    exact hp.elim
  | ok xs ρ1 =>
    rw [hf] at hp
    have hp : Post X.K Y G J σ (fun J' It ds => ItOk X.K J' It ds) (match enumA xs with
      | some ds => .ok ds ρ1
      | none => .bad) R := hp
    cases hx : enumA xs with
    | none =>
      rw [hx] at hp
      exact hp.elim
    | some ds =>
      rw [hx] at hp
      obtain ⟨d, es, rfl, he, rfl⟩ := enumA_some hx
      cases d with
      | list xs =>
        cases he
        refine .inl ⟨G, J, ρ, er, ?_⟩
        rw [hf]
        intro vs J' H' s r e
        obtain ⟨v, rfl, r0⟩ := rvs1 r
        have r2 : Rp X.K J' v (.list _) := r0
        cases r2 with
        | lst h1 h2 => exact ⟨_, _, rfl, same_l e.ex h1, hp _ J' H' s (it_enumL h1 h2) e⟩
      | tuple xs =>
        cases he
        refine .inr ⟨G, J, ρ, er, ?_⟩
        rw [hf]
        intro vs J' H' s r e
        obtain ⟨v, rfl, r0⟩ := rvs1 r
        have r2 : Rp X.K J' v (.tuple _) := r0
        cases r2 with
        | tup h1 h2 => exact .inl ⟨_, _, rfl, same_t e.ex h1, hp _ J' H' s (it_enumT h1 h2) e⟩
      | str z =>
        cases he
        refine .inr ⟨G, J, ρ, er, ?_⟩
        rw [hf]
        intro vs J' H' s r e
        obtain ⟨v, rfl, r0⟩ := rvs1 r
        have r2 : Rp X.K J' v (.str z) := r0
        cases r2
        exact .inr ⟨_, rfl, hp _ J' H' s it_enumS e⟩
      | _ => cases he

/-! ### zip -/
def zipD : List D → List D → List D
  | x :: xs, y :: ys => .tuple [x, y] :: zipD xs ys
  | _, _ => []
theorem zipD_get : ∀ {xs ys : List D} {i : Nat} {x y : D}, xs[i]? = some x → ys[i]? = some y → (zipD xs ys)[i]? = some (.tuple [x, y])
  | _ :: _, _ :: _, 0, _, _, h1, h2 => by
    simp at h1 h2
    subst h1 h2
    rfl
  | _ :: xs, _ :: ys, i + 1, x, y, h1, h2 => by
    have := zipD_get (xs := xs) (ys := ys) (i := i) (x := x) (y := y) (by simpa using h1) (by simpa using h2)
    simpa [zipD] using this
  | [], _, _, _, _, h1, _ => by simp at h1
  | _ :: _, [], _, _, _, _, h2 => by simp at h2
theorem zipD_len : ∀ (xs ys : List D), (zipD xs ys).length = min xs.length ys.length
  | x :: xs, y :: ys => by simp [zipD, zipD_len xs ys]
  | [], _ => by simp [zipD]
  | _ :: _, [] => by simp [zipD]
theorem pair_newD {K : Fg} {J H : Hp} {T : Addr} {x y : V} {d d2 : D} (s : Same J H) (hT : H T = none) (r : Rp K J x d) (r2 : Rp K J y d2) : Grow J H (upd J T (.tup [x, y])) (upd H T (.tup [x, y])) ∧ Rp K (upd J T (.tup [x, y])) (.ref T) (.tuple [d, d2]) := by
  have gr := Grow.new (o := .tup [x, y]) s hT
  exact ⟨gr, .tup (.of upd_same) (.cons (dp_mono gr.j _ _ r) (.cons (dp_mono gr.j _ _ r2) .nil))⟩
theorem it_zipL {K : Fg} {J : Hp} {a b : Addr} {vs ws : List V} {ds es : List D} (h : SqL K J a vs) (h' : SqL K J b ws) (r : RpAll K J vs ds) (r' : RpAll K J ws es) : ItOk K J (Itz K a b) (zipD ds es) := by
  refine ⟨fun i J1 H s1 s2 hi => ?_, fun i J1 H x H' s1 s2 hi y => ?_, fun J1 H s1 s2 => ⟨vs, ws, same_l s2 (same_l s1 h), same_l s2 (same_l s1 h'), by rw [zipD_len, dps_len r, dps_len r']; omega⟩⟩
  · rw [zipD_len, ← dps_len r, ← dps_len r'] at hi
    exact ⟨vs, ws, vs[i], ws[i], same_l s2 (same_l s1 h), same_l s2 (same_l s1 h'), by simp, by simp⟩
  · obtain ⟨T, x', y', rfl, hT, rfl, y1, y2⟩ := y
    obtain ⟨d, h1, h2⟩ := dps_get' r (y1 vs (same_l s2 (same_l s1 h)))
    obtain ⟨d2, k1, k2⟩ := dps_get' r' (y2 ws (same_l s2 (same_l s1 h')))
    obtain ⟨g1, g2⟩ := pair_newD s2 hT (dp_mono s1 _ _ h2) (dp_mono s1 _ _ k2)
    exact ⟨_, _, g1, zipD_get h1 k1, g2⟩
theorem it_zipT {K : Fg} {J : Hp} {a b : Addr} {vs ws : List V} {ds es : List D} (h : SqT K J a vs) (h' : SqT K J b ws) (r : RpAll K J vs ds) (r' : RpAll K J ws es) : ItOk K J (RZ.ItzT K a b) (zipD ds es) := by
  refine ⟨fun i J1 H s1 s2 hi => ?_, fun i J1 H x H' s1 s2 hi y => ?_, fun J1 H s1 s2 => ⟨vs, ws, same_t s2 (same_t s1 h), same_t s2 (same_t s1 h'), by rw [zipD_len, dps_len r, dps_len r']; omega⟩⟩
  · rw [zipD_len, ← dps_len r, ← dps_len r'] at hi
    exact ⟨vs, ws, vs[i], ws[i], same_t s2 (same_t s1 h), same_t s2 (same_t s1 h'), by simp, by simp⟩
  · obtain ⟨T, x', y', rfl, hT, rfl, y1, y2⟩ := y
    obtain ⟨d, h1, h2⟩ := dps_get' r (y1 vs (same_t s2 (same_t s1 h)))
    obtain ⟨d2, k1, k2⟩ := dps_get' r' (y2 ws (same_t s2 (same_t s1 h')))
    obtain ⟨g1, g2⟩ := pair_newD s2 hT (dp_mono s1 _ _ h2) (dp_mono s1 _ _ k2)
    exact ⟨_, _, g1, zipD_get h1 k1, g2⟩
@[simp] def eZip (fa : Env → Out (List VV)) (ρ : Env) : Out (List D) := (fa ρ).bind fun xs ρ1 => match xs with
  | [.val (.list xs), .val (.list ys)] => .ok (zipD xs ys) ρ1
  | [.val (.tuple xs), .val (.tuple ys)] => .ok (zipD xs ys) ρ1
  | _ => .bad
theorem di_zip {fa : Env → Out (List VV)} {p tpos : Pos} {elts : List Expr} {kk : Nat} (hm : X.mg "zip" = none) (ha : DA X Y [a, b] fa) (hg : Gl X "zip" := by rfl)
    (hs : starEach [a, b] X.env = (false, eval a X.env) :: starEach [b] X.env := by rfl) (hpl : (backTo pos (starEach [b] X.env)).any (·.1) = false := by rfl) :
    DI X Y (.Tuple elts kk tpos) (.Call (.Name "zip" p) [a, b] [] pos) (eZip fa) := by
  refine PI.imp (RZ.pi_zipA hg hm ha hs hpl) fun σ H R ⟨G, J, ρ, er, hp⟩ => ⟨G, J, ρ, er, Post.bind hp fun xs ρ1 vs J1 H1 s1 r1 e1 h1 => ?_⟩
  split at h1
  · obtain ⟨v, w, rfl, r, r'⟩ := rvs2 r1
    cases r with
    | lst q1 q2 =>
      cases r' with
      | lst q3 q4 => exact ⟨_, _, _, _, rfl, .inl ⟨same_l e1.ex q1, same_l e1.ex q3, h1 _ J1 H1 (.refl _) (it_zipL q1 q3 q2 q4) e1⟩⟩
  · obtain ⟨v, w, rfl, r, r'⟩ := rvs2 r1
    cases r with
    | tup q1 q2 =>
      cases r' with
      | tup q3 q4 => exact ⟨_, _, _, _, rfl, .inr ⟨same_t e1.ex q1, same_t e1.ex q3, h1 _ J1 H1 (.refl _) (it_zipT q1 q3 q2 q4) e1⟩⟩
  · exact h1.elim
end
end DL

/-! tuple[::-1] -/
namespace HT
open PySem PySem.Spec PyProof.Rows
theorem dl_adjust_rev (n : Nat) : Builtin.Slice.sliceAdjust none none (-1) (n : Int) = ((n : Int) - 1, -1) := by
  unfold Builtin.Slice.sliceAdjust
  simp
theorem dl_places_rev (n : Nat) : Builtin.Slice.slicePlaces ((n : Int) - 1) (-1) (-1) = n := by
  unfold Builtin.Slice.slicePlaces
  simp
  omega
theorem dl_fm {α β : Type} {f : α → Option β} {g : α → β} : ∀ (l : List α), (∀ m ∈ l, f m = some (g m)) → l.filterMap f = l.map g
  | [], _ => rfl
  | x :: l, h => by
    rw [List.filterMap_cons, h x List.mem_cons_self, List.map_cons, dl_fm l fun m hm => h m (List.mem_cons_of_mem _ hm)]
theorem dl_pick_rev (xs : Array Value) : ((List.range xs.size).filterMap fun (m : Nat) => xs[(((xs.size : Int) - 1) + (m : Int) * (-1)).toNat]?).toArray = xs.toList.reverse.toArray := by
  congr 1
  have e : (List.range xs.size).filterMap (fun (m : Nat) => xs[(((xs.size : Int) - 1) + (m : Int) * (-1)).toNat]?) = (List.range xs.size).map (fun m => xs.getD (xs.size - 1 - m) .none) := by
    apply dl_fm
    intro m hm
    have hm' := List.mem_range.mp hm
    have : ((((xs.size : Int) - 1) + (m : Int) * (-1)).toNat) = xs.size - 1 - m := by omega
    rw [this, Array.getElem?_eq_getElem (by omega)]
    simp [Array.getD, show xs.size - 1 - m < xs.size by omega]
  rw [e]
  apply List.ext_getElem
  · simp
  · intro i h1 h2
    have hi : i < xs.size := by simpa using h1
    simp [Array.getD, show xs.size - 1 - i < xs.size by omega]
theorem dl_getItem_rev {prog : Program} {w : World} {A : Around} {E : Value → Shared → Prop} {s : Shared} {t sl : Addr} {items : Array Value} {vl vu vs : Value} {Q : Value → Shared → Prop} (ht : IsTup s.heap t items) (hs : s.heap.IsSliceOf sl vl vu vs) (pl : IsPart vl none) (pu : IsPart vu none) (ps : IsPart vs (some (-1)))
    (h : Q (.ref s.heap.objs.size) { s with heap := s.heap.push { cls := .type "tuple", data := .seq items.toList.reverse.toArray } }) (hsz : items.size ≤ sizeLine) : wpAny (model prog w) A (getItem (.ref t) (.ref sl)) Q E s := by
  have htake : sizeOk (.seq items.toList.reverse.toArray) := by
    show items.toList.reverse.toArray.size ≤ sizeLine
    simpa using hsz
  obtain ⟨os, hos, hcs, hds⟩ := id hs
  have hTs : s.TypeIs (.ref sl) "slice" := ⟨os, hos, hcs⟩
  unfold getItem
  try with_reducible refine wpAny_holding ?_
  first | refine wpAny_bind (wpAny_pure ?_) | skip
  refine wpAny_bind (wpAny_sequenceKey ht.typeIs (by decide) ?_)
  refine wpAny_bind (wpAny_callSpecial?_slot (name := Str.ofString "__getitem__") ht.typeIs PyProof.Rows.slot_tuple_getitem
    (wpAny_call_entry PyProof.Rows.slot_tuple_getitem ht.typeIs entry_tuple_getitem ?_ (args_tuple_getitem _ _)))
  show wpAny _ _ (Builtin.Tuple.tupleItemsOf (.ref t) >>= _) _ _ s
  refine wpAny_bind (tupleItemsOf_ ht ?_)
  refine wpAny_bind (wpAny_typeOf hTs ?_)
  rw [if_pos (by decide)]
  have happ : ∀ {A : Around} {Q : Int × Int × Nat → Shared → Prop}, Q ((items.size : Int) - 1, -1, items.size) s → wpAny (model prog w) A (Builtin.Slice.sliceApplied (.ref sl) (pure (items.size : Int))) Q E s := fun {A Q} h => by
    unfold Builtin.Slice.sliceApplied Builtin.Slice.sliceFields
    refine wpAny_bind (wpAny_bind (wpAny_field hos hds (x := vl) rfl (wpAny_bind (wpAny_field hos hds (x := vu) rfl (wpAny_bind (wpAny_field hos hds (x := vs) rfl (wpAny_pure ?_)))))))
    refine wpAny_bind (slicePart_ ps ?_)
    show wpAny _ _ (if ((-1 : Int) == 0) = true then _ else _) _ _ s
    rw [if_neg (by decide)]
    refine wpAny_bind (slicePart_ pl (wpAny_bind (slicePart_ pu (wpAny_bind (wpAny_pure ?_)))))
    show wpAny _ _ (match Builtin.Slice.sliceAdjust none none (-1) (items.size : Int) with | (lo, hi) => pure (lo, (-1 : Int), Builtin.Slice.slicePlaces lo hi (-1))) _ _ s
    rw [dl_adjust_rev]
    show wpAny _ _ (pure ((items.size : Int) - 1, (-1 : Int), Builtin.Slice.slicePlaces ((items.size : Int) - 1) (-1) (-1))) _ _ s
    rw [dl_places_rev]
    exact wpAny_pure h
  refine wpAny_bind (happ ?_)
  have hno : ¬ ((((items.size : Int) - 1) == 0 && (-1 : Int) == 1 && items.size == items.size) = true) := by
    intro q
    rw [Bool.and_eq_true, Bool.and_eq_true] at q
    exact absurd (eq_of_beq q.1.2) (by decide)
  show wpAny _ _ (if (((items.size : Int) - 1) == 0 && (-1 : Int) == 1 && items.size == items.size) = true then _ else _) _ _ s
  rw [if_neg hno, dl_pick_rev]
  first
    | exact wpAny_bind (m := Builtin.Tuple.tupleExact _) (wpAny_newObj_type (wpAny_pure ⟨_, rfl, wpAny_pure h⟩) htake)
    | exact wpAny_bind (m := Builtin.Tuple.tupleExact _) (wpAny_newObj_type (wpAny_bind (wpAny_pure (wpAny_pure ⟨_, rfl, wpAny_pure h⟩))) htake)
    | exact wpAny_bind (wpAny_bind (m := Builtin.Tuple.tupleExact _) (wpAny_newObj_type (wpAny_pure (wpAny_pure ⟨_, rfl, wpAny_pure h⟩)) htake))
    | exact wpAny_bind (wpAny_bind (m := Builtin.Tuple.tupleExact _) (wpAny_newObj_type (wpAny_pure ⟨_, rfl, wpAny_pure h⟩) htake))
end HT
namespace DL
open PySem PySem.Spec L2 PyProof.Rows
def tRevT (K : Fg) (te : TE) : TE := fun σ H Q => te σ H fun x H1 => ∃ a xs, x = .ref a ∧ SqT K H1 a xs ∧ ∀ p, H1 p = none → Q (.ref p) (upd H1 p (.tup xs.reverse))
theorem pe_revT {X : Cx} {e : Expr} {te : TE} {k : Nat} {p1 p2 p3 pos : Pos} (he : PE X e te) : PE X (.Subscript e (.Slice none none (some (.UnaryOp .USub (.Constant (.int 1) k p1) p2)) p3) pos) (tRevT X.K te) := by
  refine ⟨fun pins s σ H Q I h => ?_⟩
  refine Subscript_ (thn (he.run pins s σ H _ I h) fun v s1 ⟨x, H1, I1, r1, q1⟩ => ?_)
  obtain ⟨a, xs, ex, hx, q⟩ := q1
  subst ex
  cases r1
  have hst : PO X (some (.UnaryOp .USub (.Constant (.int 1) k p1) p2)) (tPart (tUn (rU fun i => .int (-i)) (tC (.int 1)))) := po_some (pe_un un_neg pe_int)
  refine wpAny_Slice (thn (po_none.run pins s1 σ H1 (fun o H2 => o = none ∧ H2 = H1) I1 ⟨rfl, rfl⟩) fun vl s2 ⟨l, H2, I2, pl, el, e2⟩ => ?_)
  subst el e2
  refine thn (po_none.run pins s2 σ H2 (fun o H3 => o = none ∧ H3 = H2) I2 ⟨rfl, rfl⟩) fun vu s3 ⟨u, H3, I3, pu, eu, e3⟩ => ?_
  subst eu e3
  refine thn (hst.run pins s3 σ H3 (fun o H4 => o = some (-1) ∧ H4 = H3) I3 ⟨1, rfl, -1, rfl, rfl, rfl⟩) fun vs s4 ⟨o, H4, I4, ps, eo, e4⟩ => ?_
  subst eo e4
  have I5 : Inv X pins σ H4 { s4 with heap := s4.heap.push { cls := .type "slice", data := .fields #[vl, vu, vs] } } := I4.kept (t' := s4.toks) fun b ob q => Heap.get?_push_of_some _ q
  obtain ⟨its, r, ht, hz⟩ := I5.tuple hx
  have hlen := r.length
  show wpAny (model X.prog X.w) X.A (subscriptTail e (.Slice none none (some (.UnaryOp .USub (.Constant (.int 1) k p1) p2)) p3) (.ref a) (.ref s4.heap.objs.size)) (EP X pins σ Q) X.xe { s4 with heap := s4.heap.push { cls := .type "slice", data := .fields #[vl, vu, vs] } }
  refine tail_any (ops := [.ref a, .ref s4.heap.objs.size]) ht.typeIs (PyProof.Rows.slot_tuple_getitem.lookup) ?_ (by with_unfolding_all rfl)
  refine HT.dl_getItem_rev ht (Heap.IsSliceOf.new _ vl vu vs) pl pu ps ?_ (by rw [List.size_toArray]; omega)
  refine ⟨.ref _, _, I5.laid (t' := s4.toks) (o := .tup xs.reverse) (fun b ob q => Heap.get?_push_of_some _ q) (Nat.le_refl _) ?_, rfl, q _ (I5.hok.fresh (Nat.le_refl _))⟩
  exact ⟨by rw [List.length_reverse]; exact hz, _, r.reverse, PyProof.Rows.IsTup.new _ _⟩
theorem dps_reverse {K : Fg} {H : Hp} : ∀ {vs : List V} {ds : List D}, RpAll K H vs ds → RpAll K H vs.reverse ds.reverse
  | _, _, .nil => .nil
  | _, _, .cons r t => by
    rw [List.reverse_cons, List.reverse_cons]
    exact dps_append (dps_reverse t) (.cons r .nil)
@[simp] def dRev : D → Option D
  | .list xs => some (.list xs.reverse)
  | .tuple xs => some (.tuple xs.reverse)
  | _ => none
@[simp] def eRev (f : EC) (ρ : Env) : Out VV := (f ρ).bind fun x ρ1 => match deref ρ1 x with
  | some d => match dRev d with
    | some d' => .ok (.val d') ρ1
    | none => .bad
  | none => .bad
theorem PE.or {X : Cx} {e : Expr} {t t' : TE} (h : PE X e t) (h' : PE X e t') : PE X e (fun σ H Q => t σ H Q ∨ t' σ H Q) := ⟨fun pins s σ H Q I hw => by
  rcases hw with hw | hw
  · exact h.run pins s σ H Q I hw
  · exact h'.run pins s σ H Q I hw⟩
theorem de_rev {X : Cx} {Y : Yx} {e : Expr} {f : EC} {k : Nat} {p1 p2 p3 pos : Pos} (he : DE X Y e f) : DE X Y (.Subscript e (.Slice none none (some (.UnaryOp .USub (.Constant (.int 1) k p1) p2)) p3) pos) (eRev f) := by
  refine PE.imp (DL.PE.or (pe_revL he) (pe_revT he)) fun σ H Q ⟨G, J, ρ, er, h⟩ => ?_
  unfold eRev at h
  cases hf : f ρ with
  | exc e ρ1 =>
    rw [hf] at h
    exact .inl ⟨G, J, ρ, er, by rw [hf]; exact h⟩
  | bad =>
    rw [hf] at h
    exact h.elim
  | ok x ρ1 =>
    rw [hf] at h
    have h : Post X.K Y G J σ (RV X.K σ) (match deref ρ1 x with
      | some d => match dRev d with
        | some d' => Out.ok (.val d') ρ1
        | none => .bad
      | none => .bad) Q := h
    split at h
    · rename_i d hd
      cases d with
      | list xs =>
        refine .inl ⟨G, J, ρ, er, ?_⟩
        rw [hf]
        intro v J' H' s r e
        obtain ⟨a, vs, rfl, h1, r1⟩ := (deref_ok e r hd).list e.ex
        refine ⟨a, vs, rfl, h1, fun p hp => ?_⟩
        have gr := Grow.new (o := .lst vs.reverse) e.ex hp
        exact h _ _ _ (s.trans gr.j) (show Rp X.K _ _ (.list xs.reverse) from .lst (.of upd_same) (dps_mono gr.j _ _ (dps_reverse r1))) (e.grow gr)
      | tuple xs =>
        refine .inr ⟨G, J, ρ, er, ?_⟩
        rw [hf]
        intro v J' H' s r e
        obtain ⟨a, vs, rfl, h1, r1, _⟩ := (deref_ok e r hd).tup e.ex
        refine ⟨a, vs, rfl, h1, fun p hp => ?_⟩
        have gr := Grow.new (o := .tup vs.reverse) e.ex hp
        exact h _ _ _ (s.trans gr.j) (show Rp X.K _ _ (.tuple xs.reverse) from .tup (.of upd_same) (dps_mono gr.j _ _ (dps_reverse r1))) (e.grow gr)
      | _ => exact h.elim
    · exact h.elim
end DL

namespace DL
open PySem PySem.Spec L2 PyProof.Rows
section
variable {X : Cx} {Y : Yx} {a b c e : Expr} {pos : Pos}
/-- isinstance(a, (T, U)) -/
theorem de_isi2 {t u : String} {x y : Str} {f : EC} {p p2 p3 p4 : Pos} {k : Nat} (ha : DE X Y a f) (hm : X.mg "isinstance" = none) (hm2 : X.mg x = none) (hv2 : bootBuiltins x = some (.type t)) (hm3 : X.mg y = none) (hv3 : bootBuiltins y = some (.type u)) (hg : Gl X "isinstance" := by rfl) (hg2 : Gl X x := by rfl) (hg3 : Gl X y := by rfl)
    (hv : bootBuiltins "isinstance" = some (.builtin "isinstance") := by decide +kernel) (hn2 : x ≠ "__name__" := by decide) (hd2 : (x == ("__debug__" : Str)) = false := by decide) (hn3 : y ≠ "__name__" := by decide) (hd3 : (y == ("__debug__" : Str)) = false := by decide)
    (he : starEach [a, .Tuple [.Name x p2, .Name y p3] k p4] X.env = (false, eval a X.env) :: starEach [.Tuple [.Name x p2, .Name y p3] k p4] X.env := by rfl)
    (he2 : starEach [.Tuple [.Name x p2, .Name y p3] k p4] X.env = (false, eval (.Tuple [.Name x p2, .Name y p3] k p4) X.env) :: starEach [] X.env := by rfl) (hpl : (backTo pos (starEach [.Tuple [.Name x p2, .Name y p3] k p4] X.env)).any (·.1) = false := by rfl)
    (hx : starEach [.Name x p2, .Name y p3] X.env = (false, eval (.Name x p2) X.env) :: starEach [.Name y p3] X.env := by rfl) (hy : starEach [.Name y p3] X.env = (false, eval (.Name y p3) X.env) :: starEach [] X.env := by rfl) :
    DE X Y (.Call (.Name "isinstance" p) [a, .Tuple [.Name x p2, .Name y p3] k p4] [] pos) (eIsi [t, u] f) := by
  have h2 : PE X (.Name x p2) (tC (.ty t)) := pe_bltn hg2 hm2 hv2 rfl hn2 hd2
  have h3 : PE X (.Name y p3) (tC (.ty u)) := pe_bltn hg3 hm3 hv3 rfl hn3 hd3
  refine PE.imp (pe_callB call_isiT hg hm hv (pa_cons ha (pa_cons (pe_tup (pa_cons h2 (pa_cons h3 pa_nil hy) hx)) pa_nil he2) he) (by decide) (by decide) he hpl) fun σ H Q ⟨G, J, ρ, er, h⟩ => ⟨G, J, ρ, er, Post.bind h fun y ρ1 v J1 H1 s1 r1 e1 h1 => ?_⟩
  split at h1
  · rename_i d hd
    split at h1
    · rename_i bb hb
      have wv := deref_ok e1 r1 hd
      refine ⟨by show 2 ≤ sizeLine; decide, fun q hq => ?_⟩
      have gr := Grow.side (o := .tup [.ty t, .ty u]) e1.ex hq
      have wv' : Rp X.K (upd H1 q (.tup [.ty t, .ty u])) v d := dp_mono gr.h _ _ (wv.rp e1.ex)
      exact ⟨v, q, [.ty t, .ty u], _, [.type t, .type u], bb, rfl, upd_same, .cons (.ty t) (.cons (.ty u) .nil), wk_ty (J := upd H1 q (.tup [.ty t, .ty u])) (.refl _) (.inl wv') (wk_nodict wv), kitAny_of (t := t) (ts := [t, u]) hb, h1 _ _ _ gr.j (.bl bb) (e1.grow gr)⟩
    · exact h1.elim
  · exact h1.elim
end

/-! ### name = f(..), f giving a new object of one's own -/
theorem ER.setF {K : Fg} {G : Gd} {J H J' H' : Hp} {σ : L2.St} {ρ : Env} {i : Nat} {a : Addr} {r : List Addr} {o : Own} (e : ER K G J H σ ρ) (g : Grow J H J' H') (ho : OwnAt K J' H' o (a :: r)) (hf : ∀ b ∈ a :: r, J' b = none ∧ H b = none) (hl : loose ρ i = true) :
    ER K G J' H' (σ.set i (some (.ref a))) (ρ.set i (.own false o)) := by
  have e1 := e.grow g
  obtain ⟨fs0, h0, ap0, q0⟩ := e.ft
  have fresh : ∀ f ∈ fs0, ∀ b ∈ a :: r, b ∉ f := fun f hf' b hb hm => by
    obtain ⟨u, hu⟩ := h0.known f hf' b hm
    rw [(hf b hb).2] at hu
    cases hu
  have h1 : SlsOk K J' H' σ ρ fs0 := h0.keep g.j fun f hf a ha w hw => (g.old a w hw).1
  refine ⟨g.jh, e1.j0, e1.keep, e.pn, ⟨fs0.set i (a :: r), SlsOk.set (.own ho) i h1, ap0.set i fun j f hj ef b hb => fresh f (List.mem_of_getElem? ef) b hb, fun f hf' b hb => ?_⟩, fun j b hj => ?_⟩
  · rcases mem_set_of hf' with rfl | hf'
    · refine ⟨(hf b hb).1, fun hP => ?_⟩
      obtain ⟨u, hu⟩ := e.pn _ hP
      rw [← (e.keep _ hP).1, (hf b hb).2] at hu
      cases hu
    · obtain ⟨u, hu⟩ := h0.known f hf' b hb
      exact ⟨(g.old b u hu).2.trans (q0 f hf' b hb).1, (q0 f hf' b hb).2⟩
  · have ne := e.fx_ne hl hj
    rw [List.getElem?_set_ne ne.symm, List.getElem?_set_ne ne.symm]
    exact e.fx j b hj
@[simp] def sCallN (i n : Nat) (m : List D → FO) (fa : Env → Out (List VV)) (ρ : Env) : SO := (fa ρ).then fun xs ρ1 => match vals xs with
  | some ds => if ds.length = n then (match m ds with
    | .own o => if loose ρ1 i = true then .nx (ρ1.set i (.own false o)) else .bad
    | .exc e => .exc e ρ1
    | _ => .bad) else .bad
  | none => .bad
section
variable {X : Cx} {Y : Yx} {a b c e : Expr} {pos : Pos}
theorem ds_callN (i : Nat) {y : Str} {py : Pos} {spos : Pos} {m : List D → FO} {n k : Nat} {f : Addr} {fd : FuncData} {ps : List Str} {x : Str} {es : List Expr} {fa : Env → Out (List VV)} {p : Pos} (F : FnOk X.prog X.w X.K X.mg X.base (L2.CX X.prog X.w) k f fd ps (spP X.K Y.ct n m)) (hr : Room k X.A) (hm : X.mg x = some (.ref f))
    (hk : PySem.W.keepIn X.K (.ref f) = true) (hb : Binds X.K fd ps []) (tk : Takes' X Y) (ha : DA X Y (e :: es) fa) (hN : X.N.Nodup) (hg : Gl X x := by rfl) (hdb : (x == ("__debug__" : Str)) = false := by decide)
    (he : starEach (e :: es) X.env = (false, eval e X.env) :: starEach es X.env := by rfl) (hpl : (backTo pos (starEach es X.env)).any (·.1) = false := by rfl)
    (hi : X.N[i]? = some y := by rfl) (hx : Loc X.env.scope y := by first | exact Or.inl rfl | exact Or.inr rfl)
    (hf : X.fn y = true ∨ X.env.scope.names.lookup y = some .local := by first | exact .inl rfl | exact .inr rfl | assumption) (hs : swapsWithSole [.Name y py] (.Call (.Name x p) (e :: es) [] pos) spos.line X.env = pure false := by rfl) (hw : swappedStores [.Name y py] (.Call (.Name x p) (e :: es) [] pos) X.env = pure none := by rfl)
    (h1 : (assignEach [.Name y py] X.env).map (·.2) = [assign (.Name y py) X.env] := by rfl) : DS X Y (.Assign [.Name y py] (.Call (.Name x p) (e :: es) [] pos) spos) (sCallN i n m fa) := by
  refine PS.imp (ps_asg (pe_callS F hr hg hm hk hb tk ha hdb he hpl) (pg_name hN hi hx hf) hs hw h1) fun D σ H ⟨G, J, ρ, er, h⟩ => ⟨G, J, ρ, er, Post.then h fun xs ρ1 vs J1 H1 s1 r1 e1 h1 => ?_⟩
  split at h1
  · rename_i ds hds
    split at h1
    · rename_i hl
      refine ⟨J1, ds, e1.ex, vals_ok r1 hds, hl, ?_⟩
      cases hm : m ds with
      | ret d =>
        rw [hm] at h1
        exact h1.elim
      | own o =>
        rw [hm] at h1
        intro a r J' H' gr ho hb
        dsimp only at h1
        split at h1
        · rename_i hlo
          exact h1 _ J' H' gr.j (e1.setF gr ho hb hlo)
        · exact h1.elim
      | exc ev =>
        rw [hm] at h1
        exact fun c dx J' H' gr r => h1 c dx _ J' H' gr.j (r.ct rfl) (e1.grow gr)
      | bad =>
        rw [hm] at h1
        exact h1.elim
    · exact h1.elim
  · exact h1.elim
end

/-! ### recursion -/
section
variable {P : Program} {w : World} {K : Fg} {mg : Str → Option Value} {base : Heap}
theorem fn_0 {f : Addr} {fd : FuncData} {ps : List Str} {n k : Nat} {ct : String → Option Value} (hn : ps.length = n) : FnOk P w K mg base (L2.CX P w) k f fd ps (spP K ct n fun _ => .bad) :=
  ⟨fun vs H Q E ⟨J, ds, _, r, hl, _⟩ => by rw [dps_len r, hl, hn], fun A outer s H args vs us Q E _ _ _ _ ⟨J, ds, _, r, hl, h⟩ => h.elim⟩
end
end DL

namespace DL
open PySem PySem.Spec L2 PyProof.Rows

/-! ### own exception classes whose __init__ lays its arguments into fields -/
def spI1 (K : Fg) (C : Addr) (f : Str) : Sp := fun vs H Q _ => ∃ a v, vs = [.ref a, v] ∧ H a = some (exo a C none) ∧ ∀ d, H d = none → d ≠ a → Q .non (upd (upd H d (exd d [(f, v)])) a (exo a C (some d)))
def spI2 (K : Fg) (C : Addr) (f g : Str) : Sp := fun vs H Q _ => ∃ a v u, vs = [.ref a, v, u] ∧ H a = some (exo a C none) ∧ ∀ d, H d = none → d ≠ a → Q .non (upd (upd (upd H d (exd d [(f, v)])) a (exo a C (some d))) d (exd d [(g, u), (f, v)]))
section
variable {P : Program} {w : World} {K : Fg} {mg : Str → Option Value} {base : Heap}
theorem fn_i1 {qual : Str} {st : Stmt} {F C : Addr} {fd : FuncData} {f x : Str} {p0 p1 p2 p3 : Pos} (T : OexC K C) (hf : PySem.W.findIn K (.ref C) f = some none) (FF : Fun K "__init__" qual st F fd) (S : FnScope ["self", x] ["self", x] (defScope st))
    (hb : defBody st = [.Assign [.Attribute (.Name "self" p0) f p1] (.Name x p2) p3]) (hx : (defScope st).names.lookup x = some .local) (hs : (defScope st).names.lookup ("self" : Str) = some .local)
    (hd : (x == ("__debug__" : Str)) = false := by decide) (hcd : (x == ("__classdict__" : Str)) = false := by decide) (hsw : ∀ env : PySem.Env, swapsWith (.Name x p2) (some (.Attribute (.Name "self" p0) f p1)) p3.line env = pure false := by intro _; rfl) :
    FnOk P w K mg base (L2.CX P w) 1 F fd ["self", x] (spI1 K C f) := by
  refine FF.okX S (fun vs H Q E ⟨a, v, e, _⟩ => by rw [e] <;> rfl) (fun cdv A outer s H vs Q E hr ⟨a, v, e, ha, h⟩ => ?_)
  subst e
  rw [hb]
  refine ⟨_, pss_one (ps_ost (pe_var (i := 0) rfl (Or.inl (by exact hs)) (by decide) (by decide)) (pe_var (i := 1) rfl (Or.inl (by exact hx)) hd hcd) (hsw _)), ?_⟩
  exact ⟨_, rfl, _, rfl, a, C, rfl, T, hf, .inl ⟨ha, fun d hd hne => h d hd hne⟩⟩
theorem fn_i2 {qual : Str} {st : Stmt} {F C : Addr} {fd : FuncData} {f g x y : Str} {p0 p1 p2 p3 q0 q1 q2 q3 : Pos} (T : OexC K C) (hf : PySem.W.findIn K (.ref C) f = some none) (hg : PySem.W.findIn K (.ref C) g = some none) (FF : Fun K "__init__" qual st F fd) (S : FnScope ["self", x, y] ["self", x, y] (defScope st))
    (hb : defBody st = [.Assign [.Attribute (.Name "self" p0) f p1] (.Name x p2) p3, .Assign [.Attribute (.Name "self" q0) g q1] (.Name y q2) q3]) (hx : (defScope st).names.lookup x = some .local) (hy : (defScope st).names.lookup y = some .local) (hs : (defScope st).names.lookup ("self" : Str) = some .local)
    (hd : (x == ("__debug__" : Str)) = false := by decide) (hcd : (x == ("__classdict__" : Str)) = false := by decide) (hd' : (y == ("__debug__" : Str)) = false := by decide) (hcd' : (y == ("__classdict__" : Str)) = false := by decide)
    (hsw : ∀ env : PySem.Env, swapsWith (.Name x p2) (some (.Attribute (.Name "self" p0) f p1)) p3.line env = pure false := by intro _; rfl) (hsw' : ∀ env : PySem.Env, swapsWith (.Name y q2) (some (.Attribute (.Name "self" q0) g q1)) q3.line env = pure false := by intro _; rfl) :
    FnOk P w K mg base (L2.CX P w) 1 F fd ["self", x, y] (spI2 K C f g) := by
  refine FF.okX S (fun vs H Q E ⟨a, v, u, e, _⟩ => by rw [e] <;> rfl) (fun cdv A outer s H vs Q E hr ⟨a, v, u, e, ha, h⟩ => ?_)
  subst e
  rw [hb]
  refine ⟨_, pss_cons (ps_ost (pe_var (i := 0) rfl (Or.inl (by exact hs)) (by decide) (by decide)) (pe_var (i := 1) rfl (Or.inl (by exact hx)) hd hcd) (hsw _))
    (pss_one (ps_ost (pe_var (i := 0) rfl (Or.inl (by exact hs)) (by decide) (by decide)) (pe_var (i := 2) rfl (Or.inl (by exact hy)) hd' hcd') (hsw' _))), ?_⟩
  exact ⟨_, rfl, _, rfl, a, C, rfl, T, hf, .inl ⟨ha, fun d hd hne => ⟨_, rfl, _, rfl, a, C, rfl, T, hg, .inr ⟨d, [(f, v)], upd_same, by rw [upd_ne hne, upd_same], (show 1 ≤ 900 by decide), h d hd hne⟩⟩⟩⟩
end
/-- what is known of such a class -/
structure ExI (K : Fg) (mg : Str → Option Value) (x : Str) (C fI : Addr) (fd : FuncData) (ps : List Str) : Prop where
  o : OexC K C
  g : mg x = some (.ref C)
  i : PySem.W.findIn K (.ref C) "__init__" = some (some (.ref fI))
  t : PySem.W.typeIn K (.ref fI) = some (.type "function")
  b : Binds K fd ps []
@[simp] def sRaiseI (x : String) (fs : List Str) (fa : Env → Out (List VV)) (ρ : Env) : SO := (fa ρ).then fun xs ρ1 => match vals xs with
  | some ds => if ds.length = fs.length then .exc ⟨x, (fs.zip ds).reverse⟩ ρ1 else .bad
  | none => .bad
section
variable {X : Cx} {Y : Yx} {a b c e : Expr} {pos : Pos} {es : List Expr}
theorem rps_1 {K : Fg} {J : Hp} {vs : List V} {ds : List D} (r : RpAll K J vs ds) (h : ds.length = 1) : ∃ v d, vs = [v] ∧ ds = [d] ∧ Rp K J v d := by
  cases r with
  | nil => cases h
  | cons r1 t =>
    cases t with
    | nil => exact ⟨_, _, rfl, rfl, r1⟩
    | cons _ _ => simp at h
theorem rps_2 {K : Fg} {J : Hp} {vs : List V} {ds : List D} (r : RpAll K J vs ds) (h : ds.length = 2) : ∃ v u d e, vs = [v, u] ∧ ds = [d, e] ∧ Rp K J v d ∧ Rp K J u e := by
  cases r with
  | nil => cases h
  | cons r1 t =>
    obtain ⟨u, e, rfl, rfl, r2⟩ := rps_1 t (by simpa using h)
    exact ⟨_, _, _, _, rfl, rfl, r1, r2⟩
theorem ds_raise1 {C fI : Addr} {x : String} {f : Str} {p rpos : Pos} {fd : FuncData} {ps : List Str} {k : Nat} {fa : Env → Out (List VV)} (T : ExI X.K X.mg (x : Str) C fI fd ps) (F : FnOk X.prog X.w X.K X.mg X.base (L2.CX X.prog X.w) k fI fd ps (spI1 X.K C f)) (hr : Room (k + 1) X.A) (hct : Y.ct x = some (.ref C)) (hc : X.calm = true) (tk : Takes X Y.W) (ha : DA X Y (e :: es) fa)
    (hg : Gl X (x : Str) := by rfl) (hdb : ((x : Str) == ("__debug__" : Str)) = false := by decide) (he : starEach (e :: es) X.env = (false, eval e X.env) :: starEach es X.env := by rfl) (hpl : (backTo pos (starEach es X.env)).any (·.1) = false := by rfl) :
    DS X Y (.Raise (some (.Call (.Name (x : Str) p) (e :: es) [] pos)) none rpos) (sRaiseI x [f] fa) := by
  refine PS.imp (ps_raise hc tk (pmk_oex T.o T.i T.t F hr T.b .nil passL hg T.g ha hdb he hpl)) fun D σ H ⟨G, J, ρ, er, h⟩ => ⟨G, J, ρ, er, Post.then h fun xs ρ1 vs J1 H1 s1 r1 e1 h1 => ?_⟩
  split at h1
  · rename_i ds hds
    split at h1
    · rename_i hl
      obtain ⟨v, d, rfl, rfl, rv⟩ := rps_1 (vals_ok r1 hds) hl
      refine ⟨(show 1 ≤ 1000 by decide), fun q hq => ⟨q, v, rfl, upd_same, fun dd hdd hne => ⟨rfl, dd, [(f, v)], upd_same, ?_, ?_, ?_⟩⟩⟩
      · rw [upd_ne hne, upd_same]
      · rw [upd_ne hne] at hdd
        exact hdd
      · have hd1 : H1 dd = none := by
          rw [upd_ne hne] at hdd
          exact hdd
        have eH : upd (del (upd (upd (upd H1 q (exo q C none)) dd (exd dd [(f, v)])) q (exo q C (some dd))) q) dd (.xd [(f, v)]) = upd H1 dd (.xd [(f, v)]) := by
          funext b
          by_cases h1 : b = dd
          · subst h1
            rw [upd_same, upd_same]
          · rw [upd_ne h1, upd_ne h1]
            by_cases h2 : b = q
            · subst h2
              rw [del_same, hq]
            · rw [del_ne h2, upd_ne h2, upd_ne h1, upd_ne h2]
        rw [eH]
        have gr := Grow.side (o := .xd [(f, v)]) e1.ex hd1
        exact h1 _ _ σ J1 _ (.refl _) ⟨hct, .inr ⟨dd, _, rfl, same_free e1.ex hd1, upd_same, rfl, rv, trivial⟩⟩ (e1.grow gr)
    · exact h1.elim
  · exact h1.elim
theorem ds_raise2 {C fI : Addr} {x : String} {f g : Str} {p rpos : Pos} {fd : FuncData} {ps : List Str} {k : Nat} {fa : Env → Out (List VV)} (T : ExI X.K X.mg (x : Str) C fI fd ps) (F : FnOk X.prog X.w X.K X.mg X.base (L2.CX X.prog X.w) k fI fd ps (spI2 X.K C f g)) (hr : Room (k + 1) X.A) (hct : Y.ct x = some (.ref C)) (hc : X.calm = true) (tk : Takes X Y.W) (ha : DA X Y (e :: es) fa)
    (hg : Gl X (x : Str) := by rfl) (hdb : ((x : Str) == ("__debug__" : Str)) = false := by decide) (he : starEach (e :: es) X.env = (false, eval e X.env) :: starEach es X.env := by rfl) (hpl : (backTo pos (starEach es X.env)).any (·.1) = false := by rfl) :
    DS X Y (.Raise (some (.Call (.Name (x : Str) p) (e :: es) [] pos)) none rpos) (sRaiseI x [f, g] fa) := by
  refine PS.imp (ps_raise hc tk (pmk_oex T.o T.i T.t F hr T.b .nil passL hg T.g ha hdb he hpl)) fun D σ H ⟨G, J, ρ, er, h⟩ => ⟨G, J, ρ, er, Post.then h fun xs ρ1 vs J1 H1 s1 r1 e1 h1 => ?_⟩
  split at h1
  · rename_i ds hds
    split at h1
    · rename_i hl
      obtain ⟨v, u, d, d2, rfl, rfl, rv, ru⟩ := rps_2 (vals_ok r1 hds) hl
      refine ⟨(show 2 ≤ 1000 by decide), fun q hq => ⟨q, v, u, rfl, upd_same, fun dd hdd hne => ⟨rfl, dd, [(g, u), (f, v)], ?_, upd_same, ?_, ?_⟩⟩⟩
      · rw [upd_ne (Ne.symm hne), upd_same]
      · rw [upd_ne hne] at hdd
        exact hdd
      · have hd1 : H1 dd = none := by
          rw [upd_ne hne] at hdd
          exact hdd
        have eH : upd (del (upd (upd (upd (upd H1 q (exo q C none)) dd (exd dd [(f, v)])) q (exo q C (some dd))) dd (exd dd [(g, u), (f, v)])) q) dd (.xd [(g, u), (f, v)]) = upd H1 dd (.xd [(g, u), (f, v)]) := by
          funext b
          by_cases h1 : b = dd
          · subst h1
            rw [upd_same, upd_same]
          · rw [upd_ne h1, upd_ne h1]
            by_cases h2 : b = q
            · subst h2
              rw [del_same, hq]
            · rw [del_ne h2, upd_ne h1, upd_ne h2, upd_ne h1, upd_ne h2]
        show Y.W _ _ _ (upd (del _ q) dd (.xd [(g, u), (f, v)]))
        rw [eH]
        have gr := Grow.side (o := .xd [(g, u), (f, v)]) e1.ex hd1
        exact h1 _ _ σ J1 _ (.refl _) ⟨hct, .inr ⟨dd, _, rfl, same_free e1.ex hd1, upd_same, rfl, ru, rfl, rv, trivial⟩⟩ (e1.grow gr)
    · exact h1.elim
  · exact h1.elim
end
end DL

namespace L2
open PySem PySem.Spec PyProof.Rows
/-- several clauses, some with a name -/
abbrev MixC := Value × Option Nat × (Addr → Value → Option Addr → TS)
def wMix (K : PySem.W.Frag) (Wout : WX) (D : Ends) : List MixC → WX
  | [] => Wout
  | (c, none, ts) :: r => fun cls d σ H => ∃ b, PySem.W.exmOne K cls c = some b ∧ (b = true → ∀ a, H a = none → ts a cls d D σ H) ∧ (b = false → wMix K Wout D r cls d σ H)
  | (c, some i, ts) :: r => fun cls d σ H => ∃ b, PySem.W.exmOne K cls c = some b ∧
      (b = true → ∀ a, H a = none → ts a cls d { nx := fun σ' H' => D.nx (σ'.set i none) H', rt := D.rt, bk := fun σ' H' => D.bk (σ'.set i none) H', ct := fun σ' H' => D.ct (σ'.set i none) H' } (σ.set i (some (.ref a))) H) ∧
      (b = false → wMix K Wout D r cls d σ H)
inductive HdsMix (X : Cx) : List ExceptHandler → List MixC → Prop
  | nil : HdsMix X [] []
  | cons {x : Str} {c : Value} {ts : Addr → Value → Option Addr → TS} {b₀ : Stmt} {suite : List Stmt} {np pos' : Pos} {hds : List ExceptHandler} {l : List MixC} (hc : Names X x c)
      (hsu : ∀ (a : Addr) (oe : Obj) (cls : Value) (d : Option Addr) (pn : List (Addr × Obj)), Zc cls d oe → (∃ vs, oe.data = .fields vs) → PSs (X.suite a ((a, oe) :: pn)) (b₀ :: suite) (ts a cls d)) (r : HdsMix X hds l) :
      HdsMix X (.ExceptHandler (some (.Name x np)) none (b₀ :: suite) pos' :: hds) ((c, none, ts) :: l)
  | named {x n : Str} {i : Nat} {c : Value} {ts : Addr → Value → Option Addr → TS} {b₀ : Stmt} {suite : List Stmt} {np pos' : Pos} {hds : List ExceptHandler} {l : List MixC} (hi : X.N[i]? = some n) (hln : X.env.kindOf n = some .local) (hc : Names X x c)
      (hsu : ∀ (a : Addr) (oe : Obj) (cls : Value) (d : Option Addr) (pn : List (Addr × Obj)), Zc cls d oe → (∃ vs, oe.data = .fields vs) → PSs (X.suite a ((a, oe) :: pn)) (b₀ :: suite) (ts a cls d)) (r : HdsMix X hds l) :
      HdsMix X (.ExceptHandler (some (.Name x np)) (some n) (b₀ :: suite) pos' :: hds) ((c, some i, ts) :: l)
section
variable {X : Cx} {body : List Stmt} {h₀ : ExceptHandler} {hds : List ExceptHandler} {l : List MixC} {pos : Pos} {tb : WX → TS} {Wout : WX}
theorem ps_try_mix (hs : X.stack = X.env :: X.outer) (hf : X.env.frame = some X.env.locals) (hN : X.N.Nodup) (tk : Takes X Wout)
    (hb : ∀ (W : WX) (pn : List (Addr × Obj)) (xe : Value → Shared → Prop), Takes (X.tr pn xe) W → PassesOwn (model X.prog X.w) X.A X.env xe → PSs (X.tr pn xe) body (tb W))
    (hh : HdsMix X (h₀ :: hds) l) : PS X (.Try body (h₀ :: hds) [] [] pos) (fun D σ H => tb (wMix X.K Wout D l) D σ H) := by
  refine ⟨fun pins s σ H D I h => ?_⟩
  have ok := I.ok
  have hfr : X.A.frames = some (X.env :: X.outer) := by rw [ok.frames, hs]
  refine wpAny_Try_except ?_
  refine wpAny_mono ((hb (wMix X.K Wout D l) (X.pn ++ pins) (fun e s₁ => wpAny (model X.prog X.w) X.A (noteFrame e X.env) (fun _ s₂ => wpAny (model X.prog X.w) X.A (setFlight e none) (fun _ s₃ =>
    wpAny (model X.prog X.w) X.A (handleBy e X.env (h₀ :: hds)) (SP X pins D) X.xe s₃) X.xe s₂) X.xe s₁) (fun u s' xx => ?_) PassesOwn.looking).run [] s σ H D (I.toTry _) h) (fun f s1 hsp => ?_) (fun e s1 he => he)
  · -- the catch
    obtain ⟨a, B, sI, pins', σ', H', cls, d, rfl, J', nb, up, sky, na, os, ag, w⟩ := xx
    have J : Inv X pins σ' H' sI := J'.ofTry ok
    have sky' : Sky B (X.env :: X.outer) a (Zc cls d) X.env.locals s'.heap := by rw [← hs]; exact sky
    show wpAny (model X.prog X.w) X.A (noteFrame (.ref a) X.env) _ _ _
    refine Sky.land Zc.steady hfr hf sky' fun h3 fl3 up3 => ?_
    have J3 : Inv X pins σ' H' { s' with heap := h3 } := J.landed nb fl3.1 (up.trans up3) os ag
    obtain ⟨oe3, vs3, he3, hz3, hd3⟩ := fl3.there
    have notFr : ∀ {h : Heap} {o : Obj} {vs : Array Value}, h.FunFrames B (X.env :: X.outer) → h.get? a = some o → o.data = .fields vs → a ∉ frs (X.env :: X.outer) := fun {h o vs} ff e dd hm => by
      obtain ⟨_, o', e', hnf⟩ := ff.mem hm
      rw [e] at e'; cases e'
      exact hnf _ dd
    have nfr := notFr fl3.2.2.1 he3 hd3
    have nL : a ≠ X.env.locals := fun z => nfr (List.mem_filterMap.mpr ⟨X.env, List.mem_cons_self, by rw [hf, z]⟩)
    have nF : a ∉ X.fs := fun hm => by
      obtain ⟨e, he, q⟩ := List.mem_filterMap.mp hm
      exact nfr (List.mem_filterMap.mpr ⟨e, List.mem_cons_of_mem _ he, q⟩)
    have S3 := J3.suite he3 hd3 na nL nF
    have LT : PySem.W.Looks (model X.prog X.w) h3 (typeOf (.ref a)) cls := fun A Q E s k q => wpAny_typeOf_ref (k _ _ he3) (by rw [hz3.1]; exact q)
    have testOf : ∀ {x : Str} {c : Value} {np : Pos} {Q : Value → Shared → Prop} {E : Value → Shared → Prop}, Names X x c → Q c { s' with heap := h3 } → wpAny (model X.prog X.w) (X.A.mark (some (.ref a))) (eval (.Name x np) X.env) Q E { s' with heap := h3 } := fun {x c np Q E} hc q => by
      obtain ⟨hg, hdbg, hm | ⟨hm, hv, hnn⟩⟩ := hc
      · exact ld_glob (X := X.suite a ((a, oe3) :: (X.pn ++ pins))) S3 hg hm q hdbg
      · exact ld_blt (X := X.suite a ((a, oe3) :: (X.pn ++ pins))) S3 hg hm hv q hnn hdbg
    have go : ∀ {hds' : List ExceptHandler} {l' : List MixC}, HdsMix X hds' l' → wMix X.K Wout D l' cls d σ' H' →
        wpAny (model X.prog X.w) X.A (handleBy (.ref a) X.env hds') (SP X pins D) X.xe { s' with heap := h3 } := by
      intro hds' l' hk
      induction hk with
      | nil =>
        intro w
        refine wpAny_handleBy_nil ?_
        obtain ⟨k1, k2, k3, oe, vs, T, oT, ts', he, hz, hd, h1, hr⟩ := id fl3
        unfold PySem.passOn
        refine wpAny_bind (wpAny_field he hd h1 ?_)
        rw [if_neg (show ¬ ((Value.ref T == Value.none) = true) from by simp)]
        have fin : wpAny (model X.prog X.w) X.A (setFlight (.ref a) X.env.frame) (fun _ s4 => wpAny (model X.prog X.w) X.A (throw (.ref a) : Sem Flow) (SP X pins D) X.xe s4) X.xe { s' with heap := h3 } := by
          rw [hf]
          refine HandSPX.setFlight_upZ fl3 fun h4 hh4 up4 => wpAny_throw (tk _ _ ?_)
          exact ⟨a, B, sI, pins, σ', H', cls, d, rfl, J, nb, (up.trans up3).trans up4, .inr (.inr (by rw [hs]; exact hh4)), na, os, ag, w⟩
        first
          | exact wpAny_bind (wpAny_pure (wpAny_bind fin))
          | exact wpAny_bind fin
      | @cons x c ts b₀ suite np pos' hds2 l2 hc hsu r ih =>
        intro w
        obtain ⟨b, hb1, hyes, hno⟩ := w
        refine wpAny_handleBy_cons (codeAny_handlers_test ?_) (by intro q; cases q)
        have LM := PySem.W.exm_one (M := model X.prog X.w) (J3.kIn) LT hb1
        refine testOf hc (LM.here ?_)
        cases b with
        | true =>
          refine codeAny_handlers_suite ?_
          refine HandSPX.lands_againZ fl3 fun h4 fl4 up4 => ?_
          have J4 : Inv X pins σ' H' { s' with heap := h4 } := J.landed nb fl4.1 ((up.trans up3).trans up4) os ag
          obtain ⟨oe4, vs4, he4, hz4, hd4⟩ := fl4.there
          have S4 := J4.suite he4 hd4 na nL nF
          refine wpAny_mono ((hsu a oe4 cls d (X.pn ++ pins) hz4 ⟨_, hd4⟩).run [] _ _ H' _ S4 (hyes rfl a na)) (fun f s6 hsp => ?_) (fun _ _ z => False.elim z)
          cases f with
          | next =>
            obtain ⟨σ6, H6, S6, q6⟩ := hsp
            exact ⟨_, _, S6.unsuite ok, q6⟩
          | brk =>
            obtain ⟨σ6, H6, S6, q6⟩ := hsp
            exact ⟨_, _, S6.unsuite ok, q6⟩
          | cont =>
            obtain ⟨σ6, H6, S6, q6⟩ := hsp
            exact ⟨_, _, S6.unsuite ok, q6⟩
          | ret u =>
            obtain ⟨v6, σ6, H6, S6, r6, q6⟩ := hsp
            exact ⟨_, _, _, S6.unsuite ok, r6, q6⟩
        | false =>
          show wpAny _ X.A (handleBy (.ref a) X.env hds2) _ _ _
          exact ih (hno rfl)
      | @named x n i c ts b₀ suite np pos' hds2 l2 hi hln hc hsu r ih =>
        intro w
        have hloc : Loc X.env.scope n := .inl hln
        obtain ⟨b, hb1, hyes, hno⟩ := w
        refine wpAny_handleBy_cons (codeAny_handlers_test ?_) (by intro q; cases q)
        have LM := PySem.W.exm_one (M := model X.prog X.w) (J3.kIn) LT hb1
        refine testOf hc (LM.here ?_)
        cases b with
        | true =>
          refine codeAny_handlers_suite_as ?_
          refine HandSPX.lands_againZ fl3 fun h4 fl4 up4 => ?_
          have J4 : Inv X pins σ' H' { s' with heap := h4 } := J.landed nb fl4.1 ((up.trans up3).trans up4) os ag
          obtain ⟨oe4, vs4, he4, hz4, hd4⟩ := fl4.there
          have S4 := J4.suite he4 hd4 na nL nF
          refine store_ok (X := X.suite a ((a, oe4) :: (X.pn ++ pins))) (v := .ref a) S4 hN hi hloc rfl (fun s5 S5 => ?_) (.inr hln)
          refine wpAny_mono ((hsu a oe4 cls d (X.pn ++ pins) hz4 ⟨_, hd4⟩).run [] s5 _ H' _ S5 (hyes rfl a na)) (fun f s6 hsp => ?_) (fun _ _ z => False.elim z)
          have end_ : ∀ {σ6 : St} {H6 : Hp} {Q : Shared → Prop}, Inv (X.suite a ((a, oe4) :: (X.pn ++ pins))) [] σ6 H6 s6 → (∀ s7, Inv X pins (σ6.set i none) H6 s7 → Q s7) →
              wpAny (model X.prog X.w) X.A (do bindName X.env n .none; unbindBehindTheSuite X.env n pos') (fun _ s7 => Q s7) X.xe s6 := fun {σ6 H6 Q} S6 hq => gone_ok (S6.unsuite ok) hN hi hln hq
          cases f with
          | next =>
            obtain ⟨σ6, H6, S6, q6⟩ := hsp
            exact end_ S6 fun s7 J7 => ⟨_, _, J7, q6⟩
          | brk =>
            obtain ⟨σ6, H6, S6, q6⟩ := hsp
            exact end_ S6 fun s7 J7 => ⟨_, _, J7, q6⟩
          | cont =>
            obtain ⟨σ6, H6, S6, q6⟩ := hsp
            exact end_ S6 fun s7 J7 => ⟨_, _, J7, q6⟩
          | ret u =>
            obtain ⟨v6, σ6, H6, S6, r6, q6⟩ := hsp
            exact end_ S6 fun s7 J7 => ⟨_, _, _, J7, r6, q6⟩
        | false =>
          show wpAny _ X.A (handleBy (.ref a) X.env hds2) _ _ _
          exact ih (hno rfl)
    exact go hh w
  · cases f with
    | next =>
      obtain ⟨σ', H', J', q⟩ := hsp
      exact wpAny_execs_nil ⟨σ', H', J'.ofTry ok, q⟩
    | brk =>
      obtain ⟨σ', H', J', q⟩ := hsp
      exact ⟨σ', H', J'.ofTry ok, q⟩
    | cont =>
      obtain ⟨σ', H', J', q⟩ := hsp
      exact ⟨σ', H', J'.ofTry ok, q⟩
    | ret u =>
      obtain ⟨v, σ', H', J', r, q⟩ := hsp
      exact ⟨v, σ', H', J'.ofTry ok, r, q⟩
end
end L2
namespace DL
open PySem PySem.Spec L2 PyProof.Rows

/-! ### what a named clause returns -/
def FldAt (K : Fg) (J H : Hp) (d : Option Addr) (ev : EV) : Prop := ev.fs = [] ∨ ∃ dd vs, d = some dd ∧ J dd = none ∧ H dd = some (.xd vs) ∧ FsOk K J vs ev.fs
theorem FsOk.mono {K : Fg} {J J' : Hp} (s : Same J J') : ∀ {vs : List (Str × V)} {fs : List (Str × D)}, FsOk K J vs fs → FsOk K J' vs fs
  | [], [], _ => trivial
  | (_, _) :: _, (_, _) :: _, h => ⟨h.1, dp_mono s _ _ h.2.1, FsOk.mono s h.2.2⟩
  | [], _ :: _, h => h.elim
  | _ :: _, [], h => h.elim
theorem FsOk.get {K : Fg} {J : Hp} {f : Str} : ∀ {vs : List (Str × V)} {fs : List (Str × D)} {x : D}, FsOk K J vs fs → fs.lookup f = some x → ∃ v, vs.lookup f = some v ∧ Rp K J v x
  | [], [], _, _, h => by cases h
  | (g, v) :: vs, (g', y) :: fs, x, h, e => by
    obtain ⟨e1, r, t⟩ := h
    subst e1
    have lp : ((g, y) :: fs).lookup f = if f = g then some y else fs.lookup f := by
      by_cases h : f = g
      · subst h
        simp [List.lookup]
      · have e : (f == g) = false := by simpa using h
        rw [if_neg h]
        simp [List.lookup, e]
    rw [lp] at e
    rw [lookup_put]
    by_cases hg : f = g
    · rw [if_pos hg] at e ⊢
      cases e
      exact ⟨v, rfl, r⟩
    · rw [if_neg hg] at e ⊢
      exact t.get e
  | [], _ :: _, _, h, _ => h.elim
  | _ :: _, [], _, h, _ => h.elim
theorem FldAt.grow {K : Fg} {J H J' H' : Hp} {d : Option Addr} {ev : EV} (h : FldAt K J H d ev) (g : Grow J H J' H') : FldAt K J' H' d ev := by
  rcases h with h | ⟨dd, vs, e, j, a, o⟩
  · exact .inl h
  · exact .inr ⟨dd, vs, e, (g.old dd _ a).2.trans j, (g.old dd _ a).1, o.mono g.j⟩
def tX (K : Fg) (ct : String → Option Value) (i : Nat) (a : Addr) (cls : Value) (d : Option Addr) (ev : EV) (r : Option D) : TE := fun σ H Q => ∃ J, Same J H ∧ σ[i]? = some (some (.ref a)) ∧ ct ev.cls = some cls ∧ FldAt K J H d ev ∧ (match r with
  | some x => ∀ v J' H', Grow J H J' H' → Rp K J' v x → Q v H'
  | none => False)
abbrev DX (X : Cx) (Y : Yx) (i : Nat) (e : Expr) (g : EV → Option D) : Prop := ∀ (a : Addr) (oe : Obj) (cls : Value) (d : Option Addr) (pn : List (Addr × Obj)), Zc cls d oe → (∃ vs, oe.data = .fields vs) → ∀ ev, PE (X.suite a ((a, oe) :: pn)) e (tX X.K Y.ct i a cls d ev (g ev))
section
variable {X : Cx} {Y : Yx} {e e1 e2 : Expr} {pos : Pos} {i : Nat}
theorem dx_str {x : Str} {j} : DX X Y i (.Constant (.str x) j pos) (fun _ => some (.str x)) := fun a oe cls d pn hz hf ev => PE.imp pe_str fun σ H Q ⟨J, s, _, _, _, h⟩ => h _ J H (.refl s) (.str x)
theorem dx_int {x : Int} {j} : DX X Y i (.Constant (.int x) j pos) (fun _ => some (.int x)) := fun a oe cls d pn hz hf ev => PE.imp pe_int fun σ H Q ⟨J, s, _, _, _, h⟩ => h _ J H (.refl s) (.int x)
theorem dx_non {j} : DX X Y i (.Constant .none j pos) (fun _ => some .none) := fun a oe cls d pn hz hf ev => PE.imp pe_non fun σ H Q ⟨J, s, _, _, _, h⟩ => h _ J H (.refl s) .non
@[simp] def xFld (x : String) (f : Str) : EV → Option D := fun ev => if ev.cls = x then ev.fs.lookup f else none
theorem dx_fld {x : String} {C : Addr} {n f : Str} {p : Pos} (T : XfC X.K C) (hct : Y.ct x = some (.ref C)) (hno : PySem.W.findIn X.K (.ref C) f = some none) (hN : X.N[i]? = some n := by rfl) (hv : Vis X.env.scope n := by first | exact Or.inl rfl | exact Or.inr (Or.inl rfl) | exact Or.inr (Or.inr rfl))
    (hd : (n == ("__debug__" : Str)) = false := by decide) (hcd : (n == ("__classdict__" : Str)) = false := by decide) (hb : attributeBase (.Name n p) f X.env (eval (.Name n p) X.env) = eval (.Name n p) X.env := by rfl) : DX X Y i (.Attribute (.Name n p) f pos) (xFld x f) := by
  intro a oe cls d pn hz hf ev
  refine PE.imp (pe_xf (X := X) T hno hz hf (pe_var (X := X.suite a ((a, oe) :: pn)) (i := i) hN hv hd hcd) hb) fun σ H Q ⟨J, s, h1, h2, h3, h⟩ => ?_
  unfold xFld at h
  by_cases hx : ev.cls = x
  · rw [if_pos hx] at h
    cases hl : ev.fs.lookup f with
    | none =>
      rw [hl] at h
      exact h.elim
    | some y =>
      rw [hl] at h
      rw [hx, hct] at h2
      rcases h3 with h3 | ⟨dd, vs, ed, jd, hd, o⟩
      · rw [h3] at hl
        cases hl
      · obtain ⟨v, lv, rv⟩ := o.get hl
        exact ⟨_, h1, rfl, (Option.some.inj h2).symm, dd, vs, v, ed, hd, lv, h v J H (.refl s) rv⟩
  · rw [if_neg hx] at h
    exact h.elim
@[simp] def xBin (g : D → D → Option D) (g1 g2 : EV → Option D) : EV → Option D := fun ev => match g1 ev, g2 ev with
  | some x, some y => g x y
  | _, _ => none
theorem dx_two {g1 g2 : EV → Option D} {a : Addr} {cls : Value} {d : Option Addr} {ev : EV} {t1 t2 : TE} {σ : L2.St} {H : Hp} {Q : V → V → Hp → Prop} {r : D → D → Option D} (h : ∃ J, Same J H ∧ σ[i]? = some (some (.ref a)) ∧ Y.ct ev.cls = some cls ∧ FldAt X.K J H d ev ∧ ∃ x y z, g1 ev = some x ∧ g2 ev = some y ∧ r x y = some z ∧
      ∀ u v J' H', Grow J H J' H' → Rp X.K J' u x → Rp X.K J' v y → Q u v H') :
    tX X.K Y.ct i a cls d ev (g1 ev) σ H fun u H1 => tX X.K Y.ct i a cls d ev (g2 ev) σ H1 fun v H2 => Q u v H2 := by
  obtain ⟨J, s, h1, h2, h3, x, y, z, e1, e2, e3, k⟩ := h
  rw [e1, e2]
  exact ⟨J, s, h1, h2, h3, fun u J1 H1 gr ru => ⟨J1, gr.jh, h1, h2, h3.grow gr, fun v J2 H2 gr2 rv => k u v J2 H2 (gr.trans gr2) (dp_mono gr2.j _ _ ru) rv⟩⟩
theorem xbin_some {g : D → D → Option D} {g1 g2 : EV → Option D} {ev : EV} {d : D} (h : xBin g g1 g2 ev = some d) : ∃ x y, g1 ev = some x ∧ g2 ev = some y ∧ g x y = some d := by
  unfold xBin at h
  cases h1 : g1 ev with
  | none => rw [h1] at h; cases h
  | some x =>
    cases h2 : g2 ev with
    | none => rw [h1, h2] at h; cases h
    | some y => rw [h1, h2] at h; exact ⟨x, y, rfl, rfl, h⟩
theorem tx_some {K : Fg} {ct : String → Option Value} {a : Addr} {cls : Value} {d : Option Addr} {ev : EV} {r : Option D} {σ : L2.St} {H : Hp} {Q : VK} (h : tX K ct i a cls d ev r σ H Q) : ∃ z, r = some z := by
  obtain ⟨J, s, h1, h2, h3, h⟩ := h
  cases r with
  | none => exact h.elim
  | some z => exact ⟨z, rfl⟩
theorem dx_op {op : Operator} {g : D → D → Option D} {g1 g2 : EV → Option D} (ho : ∀ (a : Addr) (pn : List (Addr × Obj)), OpD (X.suite a pn) (binaryOp op) g) (h1 : DX X Y i e1 g1) (h2 : DX X Y i e2 g2) : DX X Y i (.BinOp e1 op e2 pos) (xBin g g1 g2) := by
  intro a oe cls d pn hz hf ev
  refine PE.imp (pe_op (ho a _) (h1 a oe cls d pn hz hf ev) (h2 a oe cls d pn hz hf ev)) fun σ H Q h => ?_
  obtain ⟨z, hz2⟩ := tx_some h
  obtain ⟨x, y, q1, q2, q3⟩ := xbin_some hz2
  obtain ⟨J, s, k1, k2, k3, h⟩ := h
  rw [hz2] at h
  exact dx_two (Y := Y) (t1 := fun _ _ _ => True) (t2 := fun _ _ _ => True) (r := g) ⟨J, s, k1, k2, k3, x, y, z, q1, q2, q3, fun u v J' H' gr ru rv => ⟨J', x, y, z, gr.jh, .inl ru, .inl rv, q3, fun w J2 H2 gr2 rw => h w J2 H2 (gr.trans gr2) rw⟩⟩
theorem dx_cmp {op : CmpOp} {g : D → D → Option D} {g1 g2 : EV → Option D} (ho : ∀ (a : Addr) (pn : List (Addr × Obj)), OpD (X.suite a pn) (compareOp op) g) (h1 : DX X Y i e1 g1) (h2 : DX X Y i e2 g2) (hm : behindInMarks op e2 = false := by first | exact nomark _ | rfl) : DX X Y i (.Compare e1 [op] [e2] pos) (xBin g g1 g2) := by
  intro a oe cls d pn hz hf ev
  refine PE.imp (pe_cmpR (ho a _) (h1 a oe cls d pn hz hf ev) (h2 a oe cls d pn hz hf ev) hm) fun σ H Q h => ?_
  obtain ⟨z, hz2⟩ := tx_some h
  obtain ⟨x, y, q1, q2, q3⟩ := xbin_some hz2
  obtain ⟨J, s, k1, k2, k3, h⟩ := h
  rw [hz2] at h
  exact dx_two (Y := Y) (t1 := fun _ _ _ => True) (t2 := fun _ _ _ => True) (r := g) ⟨J, s, k1, k2, k3, x, y, z, q1, q2, q3, fun u v J' H' gr ru rv => ⟨J', x, y, z, gr.jh, .inl ru, .inl rv, q3, fun w J2 H2 gr2 rw => h w J2 H2 (gr.trans gr2) rw⟩⟩
@[simp] def dPair : D → D → Option D := fun x y => some (.tuple [x, y])
theorem dx_tup2 {g1 g2 : EV → Option D} {k : Nat} (h1 : DX X Y i e1 g1) (h2 : DX X Y i e2 g2) (hs1 : starEach [e1, e2] X.env = (false, eval e1 X.env) :: starEach [e2] X.env := by rfl) (hs2 : starEach [e2] X.env = (false, eval e2 X.env) :: starEach [] X.env := by rfl) : DX X Y i (.Tuple [e1, e2] k pos) (xBin dPair g1 g2) := by
  intro a oe cls d pn hz hf ev
  refine PE.imp (pe_tup (X := X.suite a ((a, oe) :: pn)) (pa_cons (h1 a oe cls d pn hz hf ev) (pa_cons (h2 a oe cls d pn hz hf ev) pa_nil hs2) hs1)) fun σ H Q h => ?_
  obtain ⟨z, hz2⟩ := tx_some h
  obtain ⟨x, y, q1, q2, q3⟩ := xbin_some hz2
  cases q3
  obtain ⟨J, s, k1, k2, k3, h⟩ := h
  rw [hz2] at h
  refine dx_two (Y := Y) (t1 := fun _ _ _ => True) (t2 := fun _ _ _ => True) (r := dPair) ⟨J, s, k1, k2, k3, x, y, _, q1, q2, rfl, fun u v J' H' gr ru rv => ⟨(show 2 ≤ sizeLine by decide), fun p hp => ?_⟩⟩
  have gr2 := Grow.new (o := .tup [u, v]) gr.jh hp
  exact h _ _ _ (gr.trans gr2) (.tup (.of upd_same) (.cons (dp_mono gr2.j _ _ ru) (.cons (dp_mono gr2.j _ _ rv) .nil)))
@[simp] def xCall (g : List D → Option D) (g1 : EV → Option D) : EV → Option D := fun ev => match g1 ev with
  | some x => g [x]
  | none => none
theorem dx_callTy {x : Str} {T : String} {p : Pos} {g : List D → Option D} {g1 : EV → Option D} (hc : ∀ (a : Addr) (pn : List (Addr × Obj)), CallD (X.suite a pn) (.type T) g) (hm : X.mg x = none) (hv : bootBuiltins x = some (.type T)) (h1 : DX X Y i e g1) (hg : Gl X x := by rfl) (hn : x ≠ "__name__" := by decide)
    (hdb : (x == ("__debug__" : Str)) = false := by decide) (he : starEach [e] X.env = (false, eval e X.env) :: starEach [] X.env := by rfl) (hpl : (backTo pos (starEach [] X.env)).any (·.1) = false := by rfl) : DX X Y i (.Call (.Name x p) [e] [] pos) (xCall g g1) := by
  intro a oe cls d pn hz hf ev
  refine PE.imp (pe_callTy (X := X.suite a ((a, oe) :: pn)) (hc a _) hg hm hv (pa_cons (h1 a oe cls d pn hz hf ev) pa_nil he) hn hdb he hpl) fun σ H Q h => ?_
  obtain ⟨z, hz2⟩ := tx_some h
  obtain ⟨J, s, k1, k2, k3, h⟩ := h
  rw [hz2] at h
  unfold xCall at hz2
  cases hg1 : g1 ev with
  | none => rw [hg1] at hz2; cases hz2
  | some y =>
    rw [hg1] at hz2
    exact ⟨J, s, k1, k2, k3, fun v J' H' gr rv => ⟨J', [y], z, gr.jh, ⟨.inl rv, trivial⟩, hz2, fun w J2 H2 gr2 rw => h w J2 H2 (gr.trans gr2) rw⟩⟩
end

/-! ### try with several clauses -/
inductive Cl where
  | plain (x : String) (cs : SC)
  | named (x : String) (i : Nat) (g : EV → Option D)
@[simp] def tryC (sub : String → String → Bool) (ev : EV) (ρ : Env) : List Cl → SO
  | [] => .exc ev ρ
  | .plain x cs :: r => if sub ev.cls x = true then noExc (cs ρ) else tryC sub ev ρ r
  | .named x i g :: r => if sub ev.cls x = true then (if i < ρ.length then (match g ev with
    | some d => .rt d ρ
    | none => .bad) else .bad) else tryC sub ev ρ r
@[simp] def sTryM (sub : String → String → Bool) (cb : SC) (cls : List Cl) (ρ : Env) : SO := match cb ρ with
  | .exc e ρ1 => tryC sub e ρ1 cls
  | o => o
def DHs (X : Cx) (Y : Yx) (sub : String → String → Bool) (hds : List ExceptHandler) (cls : List Cl) : Prop := ∃ l, HdsMix X hds l ∧ ∀ (D : Ends) (G : Gd) (J H : Hp) (σ : L2.St) (ρ : Env) (ev : EV) (c : Value) (dx : Option Addr), ER X.K G J H σ ρ → ExcAt Y X.K J H ev c dx →
  SPost X.K Y G J (tryC sub ev ρ cls) D → wMix X.K Y.W D l c dx σ H
section
variable {X : Cx} {Y : Yx} {e : Expr} {pos : Pos} {sub : String → String → Bool} {hds : List ExceptHandler} {cls : List Cl}
theorem dh_nil : DHs X Y sub [] [] := ⟨[], .nil, fun D G J H σ ρ ev c dx er hx h => h c dx σ J H (.refl J) hx er⟩
theorem dh_cons {x : String} {c : Value} {suite : List Stmt} {b₀ : Stmt} {np pos' : Pos} {cs : SC} (T : SubT X.K Y.ct sub) (hct : Y.ct x = some c) (hm : X.mg (x : Str) = some c) (hsu : ∀ (a : Addr) (oe : Obj) (pn : List (Addr × Obj)), DSs (X.suite a ((a, oe) :: pn)) Y.no (b₀ :: suite) cs) (hr : DHs X Y sub hds cls)
    (hg : Gl X (x : Str) := by rfl) (hdb : ((x : Str) == ("__debug__" : Str)) = false := by decide) : DHs X Y sub (.ExceptHandler (some (.Name (x : Str) np)) none (b₀ :: suite) pos' :: hds) (.plain x cs :: cls) := by
  obtain ⟨l, hl, hw⟩ := hr
  refine ⟨(c, none, fun _ _ _ => tS X.K Y.no cs) :: l, .cons ⟨hg, hdb, .inl hm⟩ (fun a oe cls d pn _ _ => hsu a oe pn) hl, fun D G J H σ ρ ev c1 dx er hx h => ?_⟩
  have h : SPost X.K Y G J (if sub ev.cls x = true then noExc (cs ρ) else tryC sub ev ρ cls) D := h
  refine ⟨sub ev.cls x, T.ok _ _ _ _ hx.1 hct, fun hy a _ => ?_, fun hn => ?_⟩
  · rw [if_pos hy] at h
    exact ⟨G, J, ρ, er, spost_no h⟩
  · rw [if_neg (by rw [hn]; exact Bool.false_ne_true)] at h
    exact hw D G J H σ ρ ev c1 dx er hx h
theorem dh_named (i : Nat) {x : String} {n : Str} {c : Value} {np pos' rpos : Pos} {g : EV → Option D} (T : SubT X.K Y.ct sub) (hct : Y.ct x = some c) (hm : X.mg (x : Str) = some c) (he : DX X Y i e g) (hr : DHs X Y sub hds cls) (hi : X.N[i]? = some n := by rfl) (hln : X.env.kindOf n = some .local := by rfl)
    (hg : Gl X (x : Str) := by rfl) (hdb : ((x : Str) == ("__debug__" : Str)) = false := by decide) : DHs X Y sub (.ExceptHandler (some (.Name (x : Str) np)) (some n) [.Return (some e) rpos] pos' :: hds) (.named x i g :: cls) := by
  obtain ⟨l, hl, hw⟩ := hr
  refine ⟨(c, some i, fun a c' d => fun D σ H => ∃ ev, tX X.K Y.ct i a c' d ev (g ev) σ H D.rt) :: l, .named hi hln ⟨hg, hdb, .inl hm⟩ (fun a oe c' d pn hz hf => ?_) hl, fun D G J H σ ρ ev c1 dx er hx h => ?_⟩
  · refine ⟨fun pins s σ H D I ⟨ev, h⟩ => ?_⟩
    exact (pss_one (ps_ret (he a oe c' d pn hz hf ev))).run pins s σ H D I h
  · have h : SPost X.K Y G J (if sub ev.cls x = true then (if i < ρ.length then (match g ev with
      | some d => .rt d ρ
      | none => .bad) else .bad) else tryC sub ev ρ cls) D := h
    refine ⟨sub ev.cls x, T.ok _ _ _ _ hx.1 hct, fun hy a _ => ?_, fun hn => ?_⟩
    · rw [if_pos hy] at h
      by_cases hlen : i < ρ.length
      case neg =>
        rw [if_neg hlen] at h
        exact h.elim
      rw [if_pos hlen] at h
      cases hge : g ev with
      | none =>
        rw [hge] at h
        exact h.elim
      | some d =>
        rw [hge] at h
        refine ⟨ev, J, er.ex, List.getElem?_set_self (by rw [er.len]; exact hlen), hx.1, ?_, ?_⟩
        · rcases hx.2 with ⟨q, _⟩ | ⟨dd, vs, q1, q2, q3, q4⟩
          · exact .inl q
          · exact .inr ⟨dd, vs, q1, q2, q3, q4⟩
        · rw [hge]
          exact fun v J' H' gr rv => h v σ J' H' gr.j rv (er.grow gr)
    · rw [if_neg (by rw [hn]; exact Bool.false_ne_true)] at h
      exact hw D G J H σ ρ ev c1 dx er hx h
theorem ds_tryM {body : List Stmt} {h₀ : ExceptHandler} {cb : SC} (hs : X.stack = X.env :: X.outer) (hf : X.env.frame = some X.env.locals) (hN : X.N.Nodup) (tk : Takes X Y.W)
    (hb : ∀ (W : WX) (pn : List (Addr × Obj)) (xe : Value → Shared → Prop), Takes (X.tr pn xe) W → PassesOwn (model X.prog X.w) X.A X.env xe → DSs (X.tr pn xe) ⟨Y.ct, W⟩ body cb)
    (hh : DHs X Y sub (h₀ :: hds) cls) : DS X Y (.Try body (h₀ :: hds) [] [] pos) (sTryM sub cb cls) := by
  obtain ⟨l, hl, hw⟩ := hh
  refine PS.imp (ps_try_mix (tb := fun W => tS X.K ⟨Y.ct, W⟩ cb) hs hf hN tk hb hl) fun D σ H ⟨G, J, ρ, er, h⟩ => ⟨G, J, ρ, er, ?_⟩
  unfold sTryM at h
  cases hc : cb ρ with
  | nx ρ1 => rw [hc] at h; exact h
  | rt d ρ1 => rw [hc] at h; exact h
  | ro o ρ1 => rw [hc] at h; exact h
  | bk ρ1 => rw [hc] at h; exact h
  | ct ρ1 => rw [hc] at h; exact h
  | bad => rw [hc] at h; exact h
  | exc ev ρ1 =>
    rw [hc] at h
    intro c1 dx σ1 J1 H1 s1 hx e1
    exact hw D G J1 H1 σ1 ρ1 ev c1 dx e1 (hx.ct rfl) (SPost.mono s1 h)
end
end DL

namespace DL
open PySem PySem.Spec L2 PyProof.Rows
/-! ### the tape: [[ints], int] -/
/-- return [[ints], int], a tape -/
@[simp] def sRetTape (fn : Env → Out (List D)) (fe : EC) (ρ : Env) : SO := match fn ρ with
  | .ok xs ρ1 => match intsD xs with
    | some ns => match fe ρ1 with
      | .ok (.val (.int sd)) ρ2 => .ro (.tape ns sd) ρ2
      | _ => .bad
    | none => .bad
  | _ => .bad
theorem rps_ints {K : Fg} {J : Hp} : ∀ {vs : List V} {xs : List D} {ns : List Int}, RpAll K J vs xs → intsD xs = some ns → vs = ns.map V.int
  | [], [], ns, r, h => by
    cases h
    rfl
  | v :: vs, .int i :: xs, ns, r, h => by
    unfold intsD at h
    split at h
    · rename_i l hl
      cases h
      cases r with
      | cons r1 r2 =>
        cases r1
        rw [rps_ints r2 hl]
        rfl
    · cases h
  | v :: vs, .none :: xs, ns, r, h => by cases h
  | v :: vs, .bool _ :: xs, ns, r, h => by cases h
  | v :: vs, .str _ :: xs, ns, r, h => by cases h
  | v :: vs, .list _ :: xs, ns, r, h => by cases h
  | v :: vs, .tuple _ :: xs, ns, r, h => by cases h
  | v :: vs, .dict _ :: xs, ns, r, h => by cases h
  | [], _ :: _, _, r, _ => by cases r
  | _ :: _, [], _, r, _ => by cases r
section
variable {X : Cx} {Y : Yx} {a b c e : Expr} {pos : Pos}
theorem ds_retTape {fn : Env → Out (List D)} {fe : EC} {lpos : Pos} (ha : DN X Y a fn) (hb : DE X Y b fe) (hs1 : starEach [a, b] X.env = (false, eval a X.env) :: starEach [b] X.env := by rfl) (hs2 : starEach [b] X.env = (false, eval b X.env) :: starEach [] X.env := by rfl) :
    DS X Y (.Return (some (.List [a, b] lpos)) pos) (sRetTape fn fe) := by
  refine PS.imp (ps_ret (pe_lst (pa_cons ha (pa_cons hb pa_nil hs2) hs1))) fun D σ H ⟨G, J, ρ, er, h⟩ => ⟨G, J, ρ, er, ?_⟩
  unfold sRetTape at h
  cases hf : fn ρ with
  | exc ev ρ1 => rw [hf] at h; exact h.elim
  | bad => rw [hf] at h; exact h.elim
  | ok xs ρ1 =>
    rw [hf] at h
    dsimp only at h
    split at h
    · rename_i ns hns
      split at h
      · rename_i sd ρ2 hfe
        intro p vs J1 H1 s1 hp r1 e1
        have hj1 : J1 p = none := same_free e1.ex hp
        obtain ⟨_, hgp⟩ := e1.np hp
        have hj0 : G.J0 p = none := same_free e1.j0 hj1
        refine ⟨_, J1, ρ1, e1.guard (o := .lst vs) hp, ?_⟩
        rw [hfe]
        intro v J2 H2 s2 rv e2
        have rv : Rp X.K J2 v (.int sd) := rv
        cases rv
        refine ⟨(show 2 ≤ sizeLine by decide), fun q hq => ?_⟩
        obtain ⟨a1, a2⟩ := e2.gAt
        have a2 : J2 p = none := a2.trans hj0
        have hpq : q ≠ p := fun z => by
          rw [z, a1] at hq
          cases hq
        have e3 := e2.off hj0 hgp
        have hcp : cutOff H2 p p = none := if_pos rfl
        have g1 := Grow.side (o := .lst vs) e3.ex hcp
        rw [cutOff_upd a1] at g1
        have e4 := e3.grow g1
        have g2 := Grow.side (o := .lst [.ref p, .int sd]) e4.ex hq
        have e5 := e4.grow g2
        refine h q [p] σ J2 _ (s1.trans s2) ⟨q, p, rfl, hpq, upd_same, ?_⟩ (fun b hb => ?_) e5
        · rw [upd_ne (Ne.symm hpq), a1, rps_ints r1 hns]
        · rcases (by simpa using hb : b = q ∨ b = p) with rfl | rfl
          · exact e4.np hq
          · exact ⟨a2, hgp⟩
      · exact h.elim
    · exact h.elim

/-! ### the tape's own rules: slot i holds the tape, slot j its cells -/
@[simp] def isTp (ρ : Env) (i : Nat) : Option (Bool × Addr × List Int × Int) := match ρ[i]? with
  | some (.own fx (.tapB b cs sd)) => some (fx, b, cs, sd)
  | _ => none
theorem isTp_some {ρ : Env} {i : Nat} {fx : Bool} {b : Addr} {cs : List Int} {sd : Int} (h : isTp ρ i = some (fx, b, cs, sd)) : ρ[i]? = some (.own fx (.tapB b cs sd)) := by
  unfold isTp at h
  split at h
  · rename_i h1
    cases h
    exact h1
  · cases h
@[simp] def isCe (ρ : Env) (i j : Nat) : Option (Bool × Addr × List Int × Int) := match isTp ρ i, ρ[j]? with
  | some (fx, b, cs, sd), some (.rf b') => if b' = b then some (fx, b, cs, sd) else none
  | _, _ => none
theorem isCe_some {ρ : Env} {i j : Nat} {fx : Bool} {b : Addr} {cs : List Int} {sd : Int} (h : isCe ρ i j = some (fx, b, cs, sd)) : ρ[i]? = some (.own fx (.tapB b cs sd)) ∧ ρ[j]? = some (.rf b) := by
  unfold isCe at h
  split at h
  · rename_i h1 h2
    split at h
    · rename_i e
      subst e
      cases h
      exact ⟨isTp_some h1, h2⟩
    · cases h
  · cases h
theorem rf_at {K : Fg} {G : Gd} {J H : Hp} {σ : L2.St} {ρ : Env} {j : Nat} {b : Addr} (er : ER K G J H σ ρ) (hj : ρ[j]? = some (.rf b)) : σ[j]? = some (some (.ref b)) := by
  obtain ⟨fs, hs, _⟩ := er.ft
  obtain ⟨y, fo, e1, _, so⟩ := hs.get hj
  cases so
  exact e1
theorem tp_at {K : Fg} {G : Gd} {J H : Hp} {σ : L2.St} {ρ : Env} {i : Nat} {fx : Bool} {b : Addr} {cs : List Int} {sd : Int} (er : ER K G J H σ ρ) (hi : ρ[i]? = some (.own fx (.tapB b cs sd))) :
    ∃ a, σ[i]? = some (some (.ref a)) ∧ a ≠ b ∧ H a = some (.lst [.ref b, .int sd]) ∧ H b = some (.lst (cs.map V.int)) ∧ J a = none ∧ J b = none ∧ OwnAt K J H (.tapB b cs sd) [a, b] := by
  obtain ⟨a, r, e1, ho, hn⟩ := own_foot er hi
  obtain ⟨a', ef, n, h1, h2⟩ := id ho
  injection ef with x1 x2
  subst x1 x2
  exact ⟨a, e1, n, h1, h2, hn a (by simp), hn b (by simp), ho⟩
theorem tp_cells {K : Fg} {G : Gd} {J H : Hp} {σ : L2.St} {ρ : Env} {i : Nat} {fx : Bool} {b : Addr} {cs : List Int} {sd : Int} (cs' : List Int) (er : ER K G J H σ ρ) (hi : ρ[i]? = some (.own fx (.tapB b cs sd))) :
    ER K G J (upd H b (.lst (cs'.map V.int))) σ (ρ.set i (.own fx (.tapB b cs' sd))) := by
  obtain ⟨a, e1, n, h1, h2, ja, jb, ho⟩ := tp_at er hi
  refine er.callO (r' := [b]) hi e1 ho ⟨.refl _, fun x o hx => ?_, fun x o hx ho => ⟨?_, rfl⟩⟩ ⟨a, rfl, n, by rw [upd_ne n]; exact h1, upd_same⟩ fun x hx => ⟨?_, .inl hx⟩
  · have : x ≠ b := fun z => by
      rw [z, jb] at hx
      cases hx
    rw [upd_ne this]
    exact er.ex _ _ hx
  · have : x ≠ b := fun z => hx (by rw [z]; simp)
    rw [upd_ne this]
    exact ho
  · rcases (by simpa using hx : x = a ∨ x = b) with rfl | rfl
    · exact ja
    · exact jb
theorem tp_seed {K : Fg} {G : Gd} {J H : Hp} {σ : L2.St} {ρ : Env} {i : Nat} {fx : Bool} {a b : Addr} {cs : List Int} {sd : Int} (sd' : Int) (er : ER K G J H σ ρ) (hi : ρ[i]? = some (.own fx (.tapB b cs sd))) (hs : σ[i]? = some (some (.ref a))) :
    ER K G J (upd H a (.lst [.ref b, .int sd'])) σ (ρ.set i (.own fx (.tapB b cs sd'))) := by
  obtain ⟨a', e1, n, h1, h2, ja, jb, ho⟩ := tp_at er hi
  rw [hs] at e1
  cases e1
  refine er.callO (r' := [b]) hi hs ho ⟨.refl _, fun x o hx => ?_, fun x o hx ho => ⟨?_, rfl⟩⟩ ⟨a, rfl, n, upd_same, by rw [upd_ne (Ne.symm n)]; exact h2⟩ fun x hx => ⟨?_, .inl hx⟩
  · have : x ≠ a := fun z => by
      rw [z, ja] at hx
      cases hx
    rw [upd_ne this]
    exact er.ex _ _ hx
  · have : x ≠ a := fun z => hx (by rw [z]; simp)
    rw [upd_ne this]
    exact ho
  · rcases (by simpa using hx : x = a ∨ x = b) with rfl | rfl
    · exact ja
    · exact jb
/-- cells = tape[0] -/
@[simp] def sTpC (i j : Nat) (ρ : Env) : SO := match isTp ρ i with
  | some (_, b, _, _) => if loose ρ j = true ∧ j ≠ i then .nx (ρ.set j (.rf b)) else .bad
  | none => .bad
theorem atI_0 {x : V} {xs : List V} : atI (x :: xs) 0 = some x := by simp [atI, ixN]
theorem atI_1 {x y : V} {xs : List V} : atI (x :: y :: xs) 1 = some y := by
  simp [atI, ixN]
  rw [if_pos (by omega)]
  rfl
theorem ER.setRf {K : Fg} {G : Gd} {J H : Hp} {σ : L2.St} {ρ : Env} {j : Nat} {b : Addr} (e : ER K G J H σ ρ) (hl : loose ρ j = true) : ER K G J H (σ.set j (some (.ref b))) (ρ.set j (.rf b)) := by
  obtain ⟨fs, h, ap, q⟩ := e.ft
  refine ⟨e.ex, e.j0, e.keep, e.pn, ⟨fs.set j [], SlsOk.set (.rf b) j h, ap.nilSet j, fun f hf a ha => ?_⟩, fun k a hk => ?_⟩
  · rcases mem_set_of hf with rfl | hf
    · cases ha
    · exact q f hf a ha
  · have ne := e.fx_ne hl hk
    rw [List.getElem?_set_ne ne.symm, List.getElem?_set_ne ne.symm]
    exact e.fx k a hk
theorem ds_tpC (i j : Nat) {x y : Str} {p0 p1 p2 spos : Pos} {k : Nat} (hN : X.N.Nodup) (hi : X.N[i]? = some x := by rfl) (hj : X.N[j]? = some y := by rfl) (hv : Vis X.env.scope x := by first | exact Or.inl rfl | exact Or.inr (Or.inl rfl) | exact Or.inr (Or.inr rfl))
    (hd : (x == ("__debug__" : Str)) = false := by decide) (hcd : (x == ("__classdict__" : Str)) = false := by decide) (hx : Loc X.env.scope y := by first | exact Or.inl rfl | exact Or.inr rfl)
    (hf : X.fn y = true ∨ X.env.scope.names.lookup y = some .local := by first | exact .inl rfl | exact .inr rfl | assumption)
    (hs : swapsWithSole [.Name y p0] (.Subscript (.Name x p1) (.Constant (.int 0) k p2) pos) spos.line X.env = pure false := by rfl) (hw : swappedStores [.Name y p0] (.Subscript (.Name x p1) (.Constant (.int 0) k p2) pos) X.env = pure none := by rfl)
    (h1 : (assignEach [.Name y p0] X.env).map (·.2) = [assign (.Name y p0) X.env] := by rfl) (hpx : PlainIx (.Constant (.int 0) k p2) := by exact fun _ _ => rfl) :
    DS X Y (.Assign [.Name y p0] (.Subscript (.Name x p1) (.Constant (.int 0) k p2) pos) spos) (sTpC i j) := by
  refine PS.imp (ps_asg (pe_ix ix_seq (pe_var (i := i) hi hv hd hcd) pe_int hpx) (pg_name hN hj hx hf) hs hw h1) fun D σ H ⟨G, J, ρ, er, h⟩ => ?_
  unfold sTpC at h
  split at h
  · rename_i fx b cs sd ht
    split at h
    · rename_i hl
      obtain ⟨a, e1, n, k1, k2, ja, jb, ho⟩ := tp_at er (isTp_some ht)
      exact ⟨_, e1, .inl ⟨a, [.ref b, .int sd], 0, .ref b, rfl, rfl, .of k1, atI_0, h _ J H (.refl _) (er.setRf hl.1)⟩⟩
    · exact h.elim
  · exact h.elim
/-- len(cells) -/
@[simp] def eTpLen (i j : Nat) (ρ : Env) : Out VV := match isCe ρ i j with
  | some (_, _, cs, _) => .ok (.val (.int (cs.length : Nat))) ρ
  | none => .bad
theorem de_tpLen (i j : Nat) {y : Str} {p p2 : Pos} (hm : X.mg "len" = none) (hj : X.N[j]? = some y := by rfl) (hv : Vis X.env.scope y := by first | exact Or.inl rfl | exact Or.inr (Or.inl rfl) | exact Or.inr (Or.inr rfl))
    (hd : (y == ("__debug__" : Str)) = false := by decide) (hcd : (y == ("__classdict__" : Str)) = false := by decide) (hg : Gl X "len" := by rfl)
    (he : starEach [.Name y p2] X.env = (false, eval (.Name y p2) X.env) :: starEach [] X.env := by rfl) (hpl : (backTo pos (starEach [] X.env)).any (·.1) = false := by rfl) : DE X Y (.Call (.Name "len" p) [.Name y p2] [] pos) (eTpLen i j) := by
  refine PE.imp (pe_callB call_len hg hm PySem.boot_len (pa_cons (pe_var (i := j) hj hv hd hcd) pa_nil he) (by decide) (by decide) he hpl) fun σ H Q ⟨G, J, ρ, er, h⟩ => ?_
  unfold eTpLen at h
  split at h
  · rename_i fx b cs sd ht
    obtain ⟨hi, hj2⟩ := isCe_some ht
    obtain ⟨a, e1, n, k1, k2, ja, jb, ho⟩ := tp_at er hi
    exact ⟨_, rf_at er hj2, _, (cs.map V.int).length, rfl, .inl ⟨_, .of k2, rfl⟩, by rw [List.length_map]; exact h _ J H (.refl _) (show RV X.K σ J (.int (cs.length : Nat)) (.val (.int (cs.length : Nat))) from Rp.int _) er⟩
  · exact h.elim
/-- cells[0] -/
@[simp] def eTpAt (i j : Nat) (ρ : Env) : Out VV := match isCe ρ i j with
  | some (_, _, c :: _, _) => .ok (.val (.int c)) ρ
  | _ => .bad
theorem de_tpAt (i j : Nat) {y : Str} {p2 p3 : Pos} {k : Nat} (hj : X.N[j]? = some y := by rfl) (hv : Vis X.env.scope y := by first | exact Or.inl rfl | exact Or.inr (Or.inl rfl) | exact Or.inr (Or.inr rfl))
    (hd : (y == ("__debug__" : Str)) = false := by decide) (hcd : (y == ("__classdict__" : Str)) = false := by decide) (hpx : PlainIx (.Constant (.int 0) k p3) := by exact fun _ _ => rfl) : DE X Y (.Subscript (.Name y p2) (.Constant (.int 0) k p3) pos) (eTpAt i j) := by
  refine PE.imp (pe_ix ix_seq (pe_var (i := j) hj hv hd hcd) pe_int hpx) fun σ H Q ⟨G, J, ρ, er, h⟩ => ?_
  unfold eTpAt at h
  split at h
  · rename_i fx b c cs sd ht
    obtain ⟨hi, hj2⟩ := isCe_some ht
    obtain ⟨a, e1, n, k1, k2, ja, jb, ho⟩ := tp_at er hi
    exact ⟨_, rf_at er hj2, .inl ⟨b, _, 0, .int c, rfl, rfl, .of k2, atI_0, h _ J H (.refl _) (show RV X.K σ J (.int c) (.val (.int c)) from Rp.int c) er⟩⟩
  · exact h.elim
/-- tape[1] -/
@[simp] def eTpSeed (i : Nat) (ρ : Env) : Out VV := match isTp ρ i with
  | some (_, _, _, sd) => .ok (.val (.int sd)) ρ
  | none => .bad
theorem de_tpSeed (i : Nat) {y : Str} {p2 p3 : Pos} {k : Nat} (hj : X.N[i]? = some y := by rfl) (hv : Vis X.env.scope y := by first | exact Or.inl rfl | exact Or.inr (Or.inl rfl) | exact Or.inr (Or.inr rfl))
    (hd : (y == ("__debug__" : Str)) = false := by decide) (hcd : (y == ("__classdict__" : Str)) = false := by decide) (hpx : PlainIx (.Constant (.int 1) k p3) := by exact fun _ _ => rfl) : DE X Y (.Subscript (.Name y p2) (.Constant (.int 1) k p3) pos) (eTpSeed i) := by
  refine PE.imp (pe_ix ix_seq (pe_var (i := i) hj hv hd hcd) pe_int hpx) fun σ H Q ⟨G, J, ρ, er, h⟩ => ?_
  unfold eTpSeed at h
  split at h
  · rename_i fx b cs sd ht
    obtain ⟨a, e1, n, k1, k2, ja, jb, ho⟩ := tp_at er (isTp_some ht)
    exact ⟨_, e1, .inl ⟨a, _, 1, .int sd, rfl, rfl, .of k1, atI_1, h _ J H (.refl _) (show RV X.K σ J (.int sd) (.val (.int sd)) from Rp.int sd) er⟩⟩
  · exact h.elim
/-- cells.pop(0) -/
@[simp] def sTpPop (i j : Nat) (ρ : Env) : SO := match isCe ρ i j with
  | some (fx, b, _ :: cs, sd) => .nx (ρ.set i (.own fx (.tapB b cs sd)))
  | _ => .bad
theorem ds_tpPop (i j : Nat) {x : Str} {p p2 apos cpos : Pos} {k : Nat} (hN : X.N[j]? = some x := by rfl) (hv : Vis X.env.scope x := by first | exact Or.inl rfl | exact Or.inr (Or.inl rfl) | exact Or.inr (Or.inr rfl)) (hd : (x == ("__debug__" : Str)) = false := by decide)
    (hcd : (x == ("__classdict__" : Str)) = false := by decide) (hbase : attributeBase (.Name x p) "pop" X.env (eval (.Name x p) X.env) = eval (.Name x p) X.env := by rfl)
    (hfew : ((backTo cpos (starEach [.Constant (.int 0) k p2] X.env)).all (fun x => !x.1) && (backToKw cpos (keywordEach [] X.env)).all (fun x => x.1.isSome)
      && decide (([.Constant (.int 0) k p2] : List Expr).length + ([] : List Keyword).length + (if ([] : List Keyword).isEmpty then 0 else 1) < 30)) = true := by rfl)
    (hline : (apos.endLine == cpos.line) = true := by rfl) (hs : starEach [.Constant (.int 0) k p2] X.env = (false, eval (.Constant (.int 0) k p2) X.env) :: starEach [] X.env := by rfl) (hplain : (backTo cpos (starEach [] X.env)).any (·.1) = false := by rfl)
    (hsw : swapsWith (.Call (.Attribute (.Name x p) "pop" apos) [.Constant (.int 0) k p2] [] cpos) none pos.line X.env = pure false := by rfl) :
    DS X Y (.Expr (.Call (.Attribute (.Name x p) "pop" apos) [.Constant (.int 0) k p2] [] cpos) pos) (sTpPop i j) := by
  refine PS.imp (ps_expr (pe_bm PySem.F.plainAttrs_list PySem.F.slot_list_pop PySem.F.type_list_pop mt_popAt (pe_var (i := j) hN hv hd hcd) (pa_cons pe_int pa_nil hs) hbase hfew hline hs hplain) hsw) fun D σ H ⟨G, J, ρ, er, h⟩ => ?_
  unfold sTpPop at h
  split at h
  · rename_i fx b c cs sd ht
    obtain ⟨hi, hj2⟩ := isCe_some ht
    obtain ⟨a, e1, n, k1, k2, ja, jb, ho⟩ := tp_at er hi
    refine ⟨_, rf_at er hj2, .inl ⟨rfl, _, .inl (.inl k2)⟩, b, (c :: cs).map V.int, 0, 0, .int c, rfl, rfl, k2, by decide, by decide, ?_, rfl, ?_⟩
    · simp [seqIndex?]
    · exact h _ _ _ (.refl _) (tp_cells cs er hi)
  · exact h.elim
/-- cells[0] = e -/
@[simp] def sTpSet (i j : Nat) (f : EC) (ρ : Env) : SO := (f ρ).then fun y ρ1 => match y with
  | .val (.int v) => match isCe ρ1 i j with
    | some (fx, b, _ :: cs, sd) => .nx (ρ1.set i (.own fx (.tapB b (v :: cs) sd)))
    | _ => .bad
  | _ => .bad
theorem ds_tpSet (i j : Nat) {x : Str} {f : EC} {p p2 tpos : Pos} {k : Nat} (hv : DE X Y e f) (hN : X.N[j]? = some x := by rfl) (hvis : Vis X.env.scope x := by first | exact Or.inl rfl | exact Or.inr (Or.inl rfl) | exact Or.inr (Or.inr rfl)) (hd : (x == ("__debug__" : Str)) = false := by decide)
    (hcd : (x == ("__classdict__" : Str)) = false := by decide)
    (ha : ∀ v, assign (.Subscript (.Name x p) (.Constant (.int 0) k p2) tpos) X.env v = (do
      let ov ← holding [v] (eval (.Name x p) X.env)
      let iv ← holding [v, ov] (eval (.Constant (.int 0) k p2) X.env)
      standAt tpos
      holding [v, ov, iv] (setItem ov iv v)
      release [v, ov, iv] []) := by intro _; rfl) (hs : swapsWithSole [.Subscript (.Name x p) (.Constant (.int 0) k p2) tpos] e pos.line X.env = pure false := by rfl) (hw : swappedStores [.Subscript (.Name x p) (.Constant (.int 0) k p2) tpos] e X.env = pure none := by rfl)
    (h1 : (assignEach [.Subscript (.Name x p) (.Constant (.int 0) k p2) tpos] X.env).map (·.2) = [assign (.Subscript (.Name x p) (.Constant (.int 0) k p2) tpos) X.env] := by rfl) : DS X Y (.Assign [.Subscript (.Name x p) (.Constant (.int 0) k p2) tpos] e pos) (sTpSet i j f) := by
  refine PS.imp (ps_asg hv (pg_sub (pe_var (i := j) hN hvis hd hcd) pe_int set_list ha) hs hw h1) fun D σ H ⟨G, J, ρ, er, h⟩ => ⟨G, J, ρ, er, Post.then h fun y ρ1 v J1 H1 s1 r1 e1 hp => ?_⟩
  split at hp
  · rename_i n
    split at hp
    · rename_i fx b c cs sd ht
      obtain ⟨hi, hj2⟩ := isCe_some ht
      obtain ⟨a, q1, n, k1, k2, ja, jb, ho⟩ := tp_at e1 hi
      have r1 : Rp X.K J1 v (.int _) := r1
      cases r1
      exact ⟨_, rf_at e1 hj2, b, (c :: cs).map V.int, 0, 0, rfl, rfl, k2, by simp [ixN], hp _ _ _ (.refl _) (tp_cells (_ :: cs) e1 hi)⟩
    · exact hp.elim
  · exact hp.elim
/-- tape[1] = e -/
@[simp] def sTpSeed (i : Nat) (f : EC) (ρ : Env) : SO := (f ρ).then fun y ρ1 => match y with
  | .val (.int v) => match isTp ρ1 i with
    | some (fx, b, cs, _) => .nx (ρ1.set i (.own fx (.tapB b cs v)))
    | _ => .bad
  | _ => .bad
theorem ds_tpSeed (i : Nat) {x : Str} {f : EC} {p p2 tpos : Pos} {k : Nat} (hv : DE X Y e f) (hN : X.N[i]? = some x := by rfl) (hvis : Vis X.env.scope x := by first | exact Or.inl rfl | exact Or.inr (Or.inl rfl) | exact Or.inr (Or.inr rfl)) (hd : (x == ("__debug__" : Str)) = false := by decide)
    (hcd : (x == ("__classdict__" : Str)) = false := by decide)
    (ha : ∀ v, assign (.Subscript (.Name x p) (.Constant (.int 1) k p2) tpos) X.env v = (do
      let ov ← holding [v] (eval (.Name x p) X.env)
      let iv ← holding [v, ov] (eval (.Constant (.int 1) k p2) X.env)
      standAt tpos
      holding [v, ov, iv] (setItem ov iv v)
      release [v, ov, iv] []) := by intro _; rfl) (hs : swapsWithSole [.Subscript (.Name x p) (.Constant (.int 1) k p2) tpos] e pos.line X.env = pure false := by rfl) (hw : swappedStores [.Subscript (.Name x p) (.Constant (.int 1) k p2) tpos] e X.env = pure none := by rfl)
    (h1 : (assignEach [.Subscript (.Name x p) (.Constant (.int 1) k p2) tpos] X.env).map (·.2) = [assign (.Subscript (.Name x p) (.Constant (.int 1) k p2) tpos) X.env] := by rfl) : DS X Y (.Assign [.Subscript (.Name x p) (.Constant (.int 1) k p2) tpos] e pos) (sTpSeed i f) := by
  refine PS.imp (ps_asg hv (pg_sub (pe_var (i := i) hN hvis hd hcd) pe_int set_list ha) hs hw h1) fun D σ H ⟨G, J, ρ, er, h⟩ => ⟨G, J, ρ, er, Post.then h fun y ρ1 v J1 H1 s1 r1 e1 hp => ?_⟩
  split at hp
  · rename_i m
    split at hp
    · rename_i fx b cs sd ht
      obtain ⟨a, q1, n, k1, k2, ja, jb, ho⟩ := tp_at e1 (isTp_some ht)
      have r1 : Rp X.K J1 v (.int _) := r1
      cases r1
      exact ⟨_, q1, a, [.ref b, .int sd], 1, 1, rfl, rfl, k1, by simp [ixN], hp _ _ _ (.refl _) (tp_seed _ e1 (isTp_some ht) q1)⟩
    · exact hp.elim
  · exact hp.elim
end
end DL

namespace DL
open PySem PySem.Spec L2 PyProof.Rows
@[simp] theorem loose_def (ρ : Env) (i : Nat) : loose ρ i = (match ρ[i]? with
  | some (.own true _) => false
  | some _ => true
  | none => false) := rfl
theorem eqv_int (a b : Int) : PyData.eqv (.int a) (.int b) = decide (a = b) := by
  rw [show PyData.eqv (.int a) (.int b) = (a == b) from by simp [PyData.eqv]]
  exact Bool.eq_iff_iff.mpr (by simp)
theorem eqv_str (a b : Str) : PyData.eqv (.str a) (.str b) = decide (a = b) := by
  rw [show PyData.eqv (.str a) (.str b) = (a == b) from by simp [PyData.eqv]]
  exact Bool.eq_iff_iff.mpr (by simp)
theorem sh_int (a : Int) : SeqAt.shaped (.int a) = true := by simp [SeqAt.shaped, PyData.canLay0, PyData.depth]
theorem sh_bool (a : Bool) : SeqAt.shaped (.bool a) = true := by simp [SeqAt.shaped, PyData.canLay0, PyData.depth]
theorem sh_none : SeqAt.shaped .none = true := by simp [SeqAt.shaped, PyData.canLay0, PyData.depth]
@[simp] theorem dEq_int (a b : Int) : dEq (.int a) (.int b) = some (.bool (decide (a = b))) := by simp [dEq, sh_int, eqv_int]
@[simp] theorem dNe_int (a b : Int) : dNe (.int a) (.int b) = some (.bool (!decide (a = b))) := by simp [dNe, sh_int, eqv_int]
@[simp] theorem dMul_int (a b : Int) : dMul (.int a) (.int b) = if mulOk a b = true then some (.int (a * b)) else none := rfl
section
variable {P : Program} {w : World} {K : Fg} {mg : Str → Option Value} {base : Heap}
/-- a def whose first argument is a tape -/
theorem fn_d {x qual : Str} {st : Stmt} {f : Addr} {fd : FuncData} {N ps : List Str} {k j n : Nat} {c : SC} {m : Own → List D → OO} {ct : String → Option Value} (F : Fun K x qual st f fd) (S : FnScope N ps (defScope st)) (hn : ps.length = n + 1) (hj : N.length = n + 1 + j)
    (hm : ∀ b cs sd ds d o', m (.tape cs sd) ds = .ret d o' → ∃ cs' sd' ρ, o' = .tape cs' sd' ∧ c (.own true (.tapB b cs sd) :: (ds.map SV.d ++ List.replicate j .un)) = .rt d ρ ∧ ρ[0]? = some (.own true (.tapB b cs' sd')))
    (hm2 : ∀ o ds, (∃ d o', m o ds = .ret d o') ∨ m o ds = .bad) (hm3 : ∀ o ds d o', m o ds = .ret d o' → ∃ cs sd, o = .tape cs sd)
    (hb : ∀ (cdv : Value) (A : Around) (outer : List PySem.Env) (s : Shared) (H : Hp) (E : XK), Room k (A.deeper (PyProof.Rows.envOfC qual (defScope st) s.heap.objs.size f cdv)) →
      DSs (cxOf (L2.CX P w) P w K mg base N qual (defScope st) f cdv A outer s H E) ⟨ct, fun c dx _ H => E c dx H⟩ (defBody st) c) : FnOk P w K mg base (L2.CX P w) (k + 1) f fd ps (spO K ct n m) := by
  refine F.okX S (fun vs H Q E h => ?_) (fun cdv A outer s H vs Q E hr h => ?_)
  · obtain ⟨J, a, r, us, o, ds, rfl, _, _, _, rv, hl, _⟩ := h
    rw [List.length_cons, dps_len rv, hl, hn]
  · obtain ⟨J, a, r, us, o, ds, rfl, sJ, ho, hn0, rv, hl, hp⟩ := h
    rcases hm2 o ds with ⟨d, o', hmo⟩ | hmo
    case inr =>
      rw [hmo] at hp
      exact hp.elim
    obtain ⟨cs, sd, rfl⟩ := hm3 _ _ _ _ hmo
    obtain ⟨a', b, ef, n1, h1, h2⟩ := id ho
    injection ef with x1 x2
    subst x1 x2
    have ho2 : OwnAt K J H (.tapB b cs sd) [a, b] := ⟨a, rfl, n1, h1, h2⟩
    obtain ⟨cs', sd', ρ, rfl, hc, h0⟩ := hm b cs sd ds d o' hmo
    refine ⟨_, hb cdv A outer s H E hr, ⟨fun x => (∃ u, H x = some u) ∧ x ∉ [a, b], H, J, some (0, a)⟩, J, .own true (.tapB b cs sd) :: (ds.map SV.d ++ List.replicate j .un), ?_, ?_⟩
    · have hst : L2.start N (.ref a :: us) = some (.ref a) :: (us.map some ++ List.replicate j none) := by
        unfold L2.start
        rw [hj, List.length_cons, dps_len rv, hl, List.map_cons, List.cons_append]
        congr 3
        omega
      rw [hst]
      exact er_startO j sJ ho2 hn0 rv
    · rw [hc]
      rw [hmo] at hp
      intro v σ J' H' _ rv' e
      obtain ⟨r', g, q1, q2⟩ := end_O e h0
      obtain ⟨a2, ef2, n2, k1, k2⟩ := q1
      injection ef2 with y1 y2
      subst y1 y2
      exact hp v J' H' [b] g ⟨a, b, rfl, n2, k1, k2⟩ q2 rv'
end
/-! ### the law's own draw -/
def dropZ : List Int → List Int
  | [] => []
  | n :: r => if n = 0 then dropZ r else n :: r
def drawT (cs : List Int) (sd many : Int) : Int × List Int × Int := match dropZ cs with
  | [] => ((sd * 48271 + 12345) % 2147483647 / 64 % many, [], (sd * 48271 + 12345) % 2147483647)
  | n :: r => (n % many, n / many :: r, sd)
def drawM : Own → List D → OO := fun o ds => match o, ds with
  | .tape cs sd, [.int many] => if 0 < many ∧ fitZ 1073741824 many = true then .ret (.int (drawT cs sd many).1) (.tape (drawT cs sd many).2.1 (drawT cs sd many).2.2) else .bad
  | _, _ => .bad
def tpFuel : Env → Nat := fun ρ => match isTp ρ 0 with
  | some (_, _, cs, _) => cs.length + 1
  | none => 0
def c_draw : SC :=
  sSeq (sTpC 0 2) (sSeq (sWhile tpFuel (eAnd (eTest (eBin dGt (eTpLen 0 2) (eC (.int 0)))) (eTest (eBin dEq (eTpAt 0 2) (eC (.int 0))))) (sTpPop 0 2))
  (sSeq (sIf (eTest (eBin dGt (eTpLen 0 2) (eC (.int 0)))) (sSeq (sAsg (eTpAt 0 2) (setN 3)) (sSeq (sTpSet 0 2 (eBin dFdiv (eVar 3) (eVar 1))) (sRet (eBin dMod (eCallB dInt (aCons (eVar 3) aNil)) (eVar 1))))) sNx)
  (sSeq (sTpSeed 0 (eBin dMod (eCallB dInt (aCons (eBin dAdd (eBin dMul (eTpSeed 0) (eC (.int 48271))) (eC (.int 12345))) aNil)) (eC (.int 2147483647))))
  (sRet (eBin dMod (eCallB dInt (aCons (eBin dFdiv (eTpSeed 0) (eC (.int 64))) aNil)) (eVar 1))))))
theorem draw_while (b : Addr) (many : Int) (cs : List Int) (sd : Int) : whileRun (eAnd (eTest (eBin dGt (eTpLen 0 2) (eC (.int 0)))) (eTest (eBin dEq (eTpAt 0 2) (eC (.int 0))))) (sTpPop 0 2) (cs.length + 1) [.own true (.tapB b cs sd), .d (.int many), .rf b, .un] =
    .nx [.own true (.tapB b (dropZ cs) sd), .d (.int many), .rf b, .un] := by
  induction cs with
  | nil =>
    unfold whileRun
    simp [dropZ]
  | cons n r ih =>
    rw [List.length_cons]
    unfold whileRun
    by_cases hn : n = 0
    · have hp : (0 : Int) < (r.length : Int) + 1 := by omega
      simp [hn, hp]
      rw [ih]
      simp [dropZ]
    · have hp : (0 : Int) < (r.length : Int) + 1 := by omega
      simp [hn, hp, dropZ]
theorem draw_ok : ∀ b cs sd ds d o', drawM (.tape cs sd) ds = .ret d o' → ∃ cs' sd' ρ, o' = .tape cs' sd' ∧ c_draw (.own true (.tapB b cs sd) :: (ds.map SV.d ++ List.replicate 2 .un)) = .rt d ρ ∧ ρ[0]? = some (.own true (.tapB b cs' sd')) := by
  intro b cs sd ds d o' h
  unfold drawM at h
  split at h
  · rename_i cs sd many heq
    cases heq
    split at h
    · rename_i hm
      obtain ⟨h1, h2⟩ := hm
      have hw := draw_while b many cs sd
      have key : ∃ ρ, c_draw [.own true (.tapB b cs sd), .d (.int many), .un, .un] = .rt (.int (drawT cs sd many).1) ρ ∧ ρ[0]? = some (.own true (.tapB b (drawT cs sd many).2.1 (drawT cs sd many).2.2)) := by
        unfold c_draw
        simp only [sSeq, sTpC, isTp, List.getElem?_cons_zero, loose_def, List.getElem?_cons_succ, List.set_cons_succ, List.set_cons_zero, sWhile, tpFuel]
        simp only [true_and, ne_eq, show (¬ (2 : Nat) = 0) = True from by simp, not_false_eq_true, and_self, if_true, List.getElem?_cons_zero]
        rw [hw]
        unfold drawT
        cases hd : dropZ cs with
        | nil =>
          simp [mulOk, fitZ, h1]
        | cons n r =>
          have hp : (0 : Int) < (r.length : Int) + 1 := by omega
          simp [hp, h1, h2]
      obtain ⟨ρ, k1, k2⟩ := key
      cases h
      exact ⟨_, _, ρ, rfl, k1, k2⟩
    · cases h
  · cases h
end DL

namespace DL
open PySem PySem.Spec L2 PyProof.Rows
theorem bt_len : bootBuiltins "len" = some (.builtin "len") := by decide +kernel
theorem bt_all : bootBuiltins "all" = some (.builtin "all") := by decide +kernel
theorem bt_any : bootBuiltins "any" = some (.builtin "any") := by decide +kernel
theorem bt_sum : bootBuiltins "sum" = some (.builtin "sum") := by decide +kernel
theorem bt_max : bootBuiltins "max" = some (.builtin "max") := by decide +kernel
theorem bt_min : bootBuiltins "min" = some (.builtin "min") := by decide +kernel
theorem bt_abs : bootBuiltins "abs" = some (.builtin "abs") := by decide +kernel
theorem bt_repr : bootBuiltins "repr" = some (.builtin "repr") := by decide +kernel
theorem bt_sorted : bootBuiltins "sorted" = some (.builtin "sorted") := by decide +kernel
theorem bt_isinstance : bootBuiltins "isinstance" = some (.builtin "isinstance") := by decide +kernel
theorem bt_int : bootBuiltins "int" = some (.type "int") := by decide +kernel
theorem bt_str : bootBuiltins "str" = some (.type "str") := by decide +kernel
theorem bt_list : bootBuiltins "list" = some (.type "list") := by decide +kernel
theorem bt_tuple : bootBuiltins "tuple" = some (.type "tuple") := by decide +kernel
theorem bt_dict : bootBuiltins "dict" = some (.type "dict") := by decide +kernel
theorem bt_set : bootBuiltins "set" = some (.type "set") := by decide +kernel
theorem bt_range : bootBuiltins "range" = some (.type "range") := by decide +kernel
theorem bt_enumerate : bootBuiltins "enumerate" = some (.type "enumerate") := by decide +kernel
theorem bt_zip : bootBuiltins "zip" = some (.type "zip") := by decide +kernel
theorem bt_bool : bootBuiltins "bool" = some (.type "bool") := by decide +kernel
theorem draw_ok2 : ∀ o ds, (∃ d o', drawM o ds = .ret d o') ∨ drawM o ds = .bad := by
  intro o ds
  unfold drawM
  split
  · split
    · exact .inl ⟨_, _, rfl⟩
    · exact .inr rfl
  · exact .inr rfl
theorem draw_ok3 : ∀ o ds d o', drawM o ds = .ret d o' → ∃ cs sd, o = .tape cs sd := by
  intro o ds d o' h
  unfold drawM at h
  split at h
  · exact ⟨_, _, rfl⟩
  · cases h
@[simp] def eNeg (f : EC) (ρ : Env) : Out VV := (f ρ).bind fun x ρ1 => match x with
  | .val (.int i) => .ok (.val (.int (-i))) ρ1
  | _ => .bad
section
variable {X : Cx} {Y : Yx} {a b c e : Expr} {pos : Pos}
theorem de_neg {f : EC} (h : DE X Y a f) : DE X Y (.UnaryOp .USub a pos) (eNeg f) := by
  refine PE.imp (pe_un un_neg h) fun σ H Q ⟨G, J, ρ, er, h⟩ => ⟨G, J, ρ, er, Post.bind h fun x ρ1 v J1 H1 s1 r1 e1 h1 => ?_⟩
  split at h1
  · have r1 : Rp X.K J1 v (.int _) := r1
    cases r1
    exact ⟨_, rfl, h1 _ J1 H1 (.refl _) (show RV X.K σ J1 (.int _) (.val (.int _)) from Rp.int _) e1⟩
  · exact h1.elim
end
@[simp] def sPar (i j : Nat) (fa : Env → Out (List VV)) (ρ : Env) : SO := (fa ρ).then fun xs ρ1 => match vals xs with
  | some [d, d'] => if loose ρ1 i = true ∧ loose (ρ1.set i (.d d)) j = true then .nx ((ρ1.set i (.d d)).set j (.d d')) else .bad
  | _ => .bad
@[simp] def sPar3 (i j l : Nat) (fa : Env → Out (List VV)) (ρ : Env) : SO := (fa ρ).then fun xs ρ1 => match vals xs with
  | some [d, d', d''] => if loose ρ1 i = true ∧ loose (ρ1.set i (.d d)) j = true ∧ loose ((ρ1.set i (.d d)).set j (.d d')) l = true then .nx (((ρ1.set i (.d d)).set j (.d d')).set l (.d d'')) else .bad
  | _ => .bad
theorem rvs3 {K : Fg} {σ : L2.St} {J : Hp} {vs : List V} {ds : List D} (r : RpAll K J vs ds) (h : ds.length = 3) : ∃ u v w d e f, vs = [u, v, w] ∧ ds = [d, e, f] ∧ Rp K J u d ∧ Rp K J v e ∧ Rp K J w f := by
  cases r with
  | nil => cases h
  | cons r1 t =>
    obtain ⟨u, v, e, f, rfl, rfl, r2, r3⟩ := rps_2 t (by simpa using h)
    exact ⟨_, _, _, _, _, _, rfl, rfl, r1, r2, r3⟩
section
variable {X : Cx} {Y : Yx} {a b c e : Expr} {pos : Pos}
theorem ds_par (i j : Nat) {x y : Str} {fa : Env → Out (List VV)} {px py pt : Pos} {kt k2 : Nat} {pt2 : Pos} (hc : X.calm = true) (hN : X.N.Nodup) (ha : DA X Y [a, b] fa) (hi : X.N[i]? = some x := by rfl) (hj : X.N[j]? = some y := by rfl) (hij : i ≠ j := by decide)
    (hx : X.env.scope.names.lookup x = some .local := by rfl) (hy : X.env.scope.names.lookup y = some .local := by rfl)
    (hw : swappedStores [.Tuple [.Name x px, .Name y py] kt pt] (.Tuple [a, b] k2 pt2) X.env = pure (some [x, y]) := by kernel_rfl)
    (hs : swapsWithSole [.Tuple [.Name x px, .Name y py] kt pt] (.Tuple [a, b] k2 pt2) pos.line X.env = pure false := by rfl) :
    DS X Y (.Assign [.Tuple [.Name x px, .Name y py] kt pt] (.Tuple [a, b] k2 pt2) pos) (sPar i j fa) := by
  refine PS.imp (ps_par hc hN hi hj hij hx hy ha hw hs) fun D σ H ⟨G, J, ρ, er, h⟩ => ⟨G, J, ρ, er, Post.then h fun xs ρ1 vs J1 H1 s1 r1 e1 h1 => ?_⟩
  split at h1
  · rename_i d d' hds
    split at h1
    · rename_i hl
      obtain ⟨v, u, d1, d2, rfl, ed, rv, ru⟩ := rps_2 (vals_ok r1 hds) rfl
      injection ed with x1 x2
      injection x2 with x2 _
      subst x1 x2
      exact ⟨v, u, rfl, h1 _ J1 H1 (.refl _) ((e1.setD rv hl.1).setD ru hl.2)⟩
    · exact h1.elim
  · exact h1.elim
theorem ds_par3 (i j l : Nat) {x y z : Str} {fa : Env → Out (List VV)} {px py pz pt : Pos} {kt k2 : Nat} {pt2 : Pos} (hc : X.calm = true) (hN : X.N.Nodup) (ha : DA X Y [a, b, c] fa) (hi : X.N[i]? = some x := by rfl) (hj : X.N[j]? = some y := by rfl) (hl : X.N[l]? = some z := by rfl) (hij : i ≠ j := by decide) (hil : i ≠ l := by decide) (hjl : j ≠ l := by decide)
    (hx : X.env.scope.names.lookup x = some .local := by rfl) (hy : X.env.scope.names.lookup y = some .local := by rfl) (hz : X.env.scope.names.lookup z = some .local := by rfl)
    (hw : swappedStores [.Tuple [.Name x px, .Name y py, .Name z pz] kt pt] (.Tuple [a, b, c] k2 pt2) X.env = pure (some [x, y, z]) := by kernel_rfl)
    (hs : swapsWithSole [.Tuple [.Name x px, .Name y py, .Name z pz] kt pt] (.Tuple [a, b, c] k2 pt2) pos.line X.env = pure false := by rfl) :
    DS X Y (.Assign [.Tuple [.Name x px, .Name y py, .Name z pz] kt pt] (.Tuple [a, b, c] k2 pt2) pos) (sPar3 i j l fa) := by
  refine PS.imp (ps_par3 hc hN hi hj hl hij hil hjl hx hy hz ha hw hs) fun D σ H ⟨G, J, ρ, er, h⟩ => ⟨G, J, ρ, er, Post.then h fun xs ρ1 vs J1 H1 s1 r1 e1 h1 => ?_⟩
  split at h1
  · rename_i d d' d'' hds
    split at h1
    · rename_i hl
      obtain ⟨u, v, w, d1, d2, d3, rfl, ed, ru, rv, rw⟩ := rvs3 (σ := σ) (vals_ok r1 hds) rfl
      injection ed with x1 x2
      injection x2 with x2 x3
      injection x3 with x3 _
      subst x1 x2 x3
      exact ⟨u, v, w, rfl, h1 _ J1 H1 (.refl _) (((e1.setD ru hl.1).setD rv hl.2.1).setD rw hl.2.2)⟩
    · exact h1.elim
  · exact h1.elim
end
/-- what is asked of a law's function -/
def spTrue (K : Fg) (m : List D → FO) : Sp := fun vs H Q E => ∃ J ds, Same J H ∧ RpAll K J vs ds ∧ ds.length = 1 ∧ m ds = .ret (.bool true) ∧ ∀ H', Q (.bl true) H'
theorem spTrue_imp {K : Fg} {m : List D → FO} {ct : String → Option Value} : ∀ vs H Q E, spTrue K m vs H Q E → spP K ct 1 m vs H Q E := fun vs H Q E ⟨J, ds, s, r, l, hm, q⟩ => ⟨J, ds, s, r, l, by
  rw [hm]
  intro v J' H' _ rv
  cases rv
  exact q H'⟩
theorem spTrue_go {K : Fg} {m : List D → FO} {H : Hp} {a : Addr} {ns : List Int} (hm : m [.list (ns.map .int)] = .ret (.bool true)) (hS : SqL K H a (ns.map V.int)) : spTrue K m [.ref a] H (fun v _ => v = .bl true) fun _ _ _ => False :=
  ⟨H, [.list (ns.map .int)], .refl H, .cons (.lst hS (dps_ints ns)) .nil, rfl, hm, fun _ => rfl⟩
end DL
namespace DL
open PySem PySem.Spec L2 PyProof.Rows
theorem hu64 {k : Nat} {A : Around} (r : Room k A) : A.units + 64 < cLine := by have := r.un; omega
theorem hu65 {k : Nat} {A : Around} (r : Room k A) : A.units + 65 < cLine := by have := r.un; omega
end DL

namespace DL
open PySem PySem.Spec L2 PyProof.Rows
theorem exm2 {K : Fg} {C S : Addr} {b : Bool} (h1 : PySem.W.subIn K (.ref S) (.type "BaseException") = some true) (h2 : PySem.W.isClsIn K S = true) (h3 : PySem.W.typeIn K (.ref S) = some (.type "type")) (h4 : PySem.W.subIn K (.ref C) (.ref S) = some b) : PySem.W.exmOne K (.ref C) (.ref S) = some b := by
  unfold PySem.W.exmOne PySem.W.kitCls
  have h2' : (PySem.W.clsIn K S).isSome = true := h2
  rw [h1, if_pos (by decide)]
  show (if ((PySem.W.clsIn K S).isSome && PySem.W.typeIn K (.ref S) == some (.type "type")) = true then _ else _) = _
  rw [h3, h2', if_pos (by decide)]
  exact h4
theorem gl_int {K : Fg} {mg : Str → Option Value} {x : Str} {i : Int} {t : Tok} (h : mg x = some (.int i t)) : GlD K mg x (.int i) := ⟨.int i, _, h, ⟨t, rfl⟩, fun J => .int i⟩
theorem gl_str {K : Fg} {mg : Str → Option Value} {x : Str} {i : Str} {t : Tok} (h : mg x = some (.str i t)) : GlD K mg x (.str i) := ⟨.str i, _, h, ⟨t, rfl⟩, fun J => .str i⟩
theorem gl_non {K : Fg} {mg : Str → Option Value} {x : Str} (h : mg x = some .none) : GlD K mg x .none := ⟨.non, _, h, rfl, fun J => .non⟩
theorem gl_tup {K : Fg} {mg : Str → Option Value} {x : Str} {a : Addr} {ds : List D} {vs : List V} {oc : Option Addr} {its : Array Value} {n : Nat} {sl : Array (Option Value)} (h : mg x = some (.ref a)) (l : K.lookup a = some ⟨.type "tuple", oc, .seq its n, sl⟩) (hz : its.size ≤ sizeLine)
    (r : Vals vs its.toList) (q : ∀ J, RpAll K J vs ds) : GlD K mg x (.tuple ds) := ⟨.ref a, _, h, rfl, fun J => .tup (.inr ⟨_, its, n, l, rfl, rfl, hz, r⟩) (q J)⟩
theorem walkT {l : PySem.W.OpenLaw} {n k : Nat} {q : Program} {loose : List Str} {XP : (Str → Option Value) → Heap → Prop} {YP : World → Heap → Prop} {d : DefRec} {K : Params → PySem.W.Frag} {m : List D → FO} (hn : l.most = some n) (hn2 : n ≤ sizeLine) (hdf : d.params.defaults = []) (hr : Room k callerA)
    (hm : ∀ ns : List Int, ns.length ≤ n → m [.list (ns.map .int)] = .ret (.bool true))
    (hY : ∀ (w : World) (h : Heap), YP w h → (K w.params).In h)
    (F : ∀ (w : World) (mg : Str → Option Value) (fa : Addr) (h : Heap), (K w.params).In h → h.Ns mainGlobals mg → mg d.name = some (.ref fa) →
      ∃ fd : FuncData, (∀ (s : Shared) (u : Value), BindsTo s fd ⟨[u], []⟩ [("script", u)]) ∧ ∀ base : Heap, (K w.params).In base → base.Ns mainGlobals mg → FnOk l.prog w (K w.params) mg base (L2.CX l.prog w) k fa fd ["script"] (spTrue (K w.params) m)) :
    PySem.W.WalkO q loose XP YP l.row.toRowW d [] (fun f vs => PySem.call f vs) :=
  L2.walk_of (n := n) (k := k) (x := "script") (CX := fun w => L2.CX l.prog w) (sp := fun w => spTrue (K w.params) m) hn hn2 hdf hr hY F (fun _ _ a ns hl _ hS => spTrue_go (hm ns hl) hS) fun _ _ _ _ _ ⟨_, _, _, _, _, _, _, _, _, _, _, _, z⟩ => z
end DL

namespace DL
open PySem PySem.Spec L2 PyProof.Rows
@[simp] theorem ty_str_none  : anyTy ["str"] .none = some false := by
  show (match kitB "NoneType" "str" with | some true => some true | some false => some false | none => none) = some false
  rw [show kitB "NoneType" "str" = some false from by decide +kernel]
@[simp] theorem ty_str_bool (b : Bool) : anyTy ["str"] (.bool b) = some false := by
  show (match kitB "bool" "str" with | some true => some true | some false => some false | none => none) = some false
  rw [show kitB "bool" "str" = some false from by decide +kernel]
@[simp] theorem ty_str_int (i : Int) : anyTy ["str"] (.int i) = some false := by
  show (match kitB "int" "str" with | some true => some true | some false => some false | none => none) = some false
  rw [show kitB "int" "str" = some false from by decide +kernel]
@[simp] theorem ty_str_str (z : Str) : anyTy ["str"] (.str z) = some true := by
  show (match kitB "str" "str" with | some true => some true | some false => some false | none => none) = some true
  rw [show kitB "str" "str" = some true from by decide +kernel]
@[simp] theorem ty_str_list (xs : List D) : anyTy ["str"] (.list xs) = some false := by
  show (match kitB "list" "str" with | some true => some true | some false => some false | none => none) = some false
  rw [show kitB "list" "str" = some false from by decide +kernel]
@[simp] theorem ty_str_tuple (xs : List D) : anyTy ["str"] (.tuple xs) = some false := by
  show (match kitB "tuple" "str" with | some true => some true | some false => some false | none => none) = some false
  rw [show kitB "tuple" "str" = some false from by decide +kernel]
@[simp] theorem ty_int_none  : anyTy ["int"] .none = some false := by
  show (match kitB "NoneType" "int" with | some true => some true | some false => some false | none => none) = some false
  rw [show kitB "NoneType" "int" = some false from by decide +kernel]
@[simp] theorem ty_int_bool (b : Bool) : anyTy ["int"] (.bool b) = some true := by
  show (match kitB "bool" "int" with | some true => some true | some false => some false | none => none) = some true
  rw [show kitB "bool" "int" = some true from by decide +kernel]
@[simp] theorem ty_int_int (i : Int) : anyTy ["int"] (.int i) = some true := by
  show (match kitB "int" "int" with | some true => some true | some false => some false | none => none) = some true
  rw [show kitB "int" "int" = some true from by decide +kernel]
@[simp] theorem ty_int_str (z : Str) : anyTy ["int"] (.str z) = some false := by
  show (match kitB "str" "int" with | some true => some true | some false => some false | none => none) = some false
  rw [show kitB "str" "int" = some false from by decide +kernel]
@[simp] theorem ty_int_list (xs : List D) : anyTy ["int"] (.list xs) = some false := by
  show (match kitB "list" "int" with | some true => some true | some false => some false | none => none) = some false
  rw [show kitB "list" "int" = some false from by decide +kernel]
@[simp] theorem ty_int_tuple (xs : List D) : anyTy ["int"] (.tuple xs) = some false := by
  show (match kitB "tuple" "int" with | some true => some true | some false => some false | none => none) = some false
  rw [show kitB "tuple" "int" = some false from by decide +kernel]
@[simp] theorem ty_bool_none  : anyTy ["bool"] .none = some false := by
  show (match kitB "NoneType" "bool" with | some true => some true | some false => some false | none => none) = some false
  rw [show kitB "NoneType" "bool" = some false from by decide +kernel]
@[simp] theorem ty_bool_bool (b : Bool) : anyTy ["bool"] (.bool b) = some true := by
  show (match kitB "bool" "bool" with | some true => some true | some false => some false | none => none) = some true
  rw [show kitB "bool" "bool" = some true from by decide +kernel]
@[simp] theorem ty_bool_int (i : Int) : anyTy ["bool"] (.int i) = some false := by
  show (match kitB "int" "bool" with | some true => some true | some false => some false | none => none) = some false
  rw [show kitB "int" "bool" = some false from by decide +kernel]
@[simp] theorem ty_bool_str (z : Str) : anyTy ["bool"] (.str z) = some false := by
  show (match kitB "str" "bool" with | some true => some true | some false => some false | none => none) = some false
  rw [show kitB "str" "bool" = some false from by decide +kernel]
@[simp] theorem ty_bool_list (xs : List D) : anyTy ["bool"] (.list xs) = some false := by
  show (match kitB "list" "bool" with | some true => some true | some false => some false | none => none) = some false
  rw [show kitB "list" "bool" = some false from by decide +kernel]
@[simp] theorem ty_bool_tuple (xs : List D) : anyTy ["bool"] (.tuple xs) = some false := by
  show (match kitB "tuple" "bool" with | some true => some true | some false => some false | none => none) = some false
  rw [show kitB "tuple" "bool" = some false from by decide +kernel]
@[simp] theorem ty_tuple_none  : anyTy ["tuple"] .none = some false := by
  show (match kitB "NoneType" "tuple" with | some true => some true | some false => some false | none => none) = some false
  rw [show kitB "NoneType" "tuple" = some false from by decide +kernel]
@[simp] theorem ty_tuple_bool (b : Bool) : anyTy ["tuple"] (.bool b) = some false := by
  show (match kitB "bool" "tuple" with | some true => some true | some false => some false | none => none) = some false
  rw [show kitB "bool" "tuple" = some false from by decide +kernel]
@[simp] theorem ty_tuple_int (i : Int) : anyTy ["tuple"] (.int i) = some false := by
  show (match kitB "int" "tuple" with | some true => some true | some false => some false | none => none) = some false
  rw [show kitB "int" "tuple" = some false from by decide +kernel]
@[simp] theorem ty_tuple_str (z : Str) : anyTy ["tuple"] (.str z) = some false := by
  show (match kitB "str" "tuple" with | some true => some true | some false => some false | none => none) = some false
  rw [show kitB "str" "tuple" = some false from by decide +kernel]
@[simp] theorem ty_tuple_list (xs : List D) : anyTy ["tuple"] (.list xs) = some false := by
  show (match kitB "list" "tuple" with | some true => some true | some false => some false | none => none) = some false
  rw [show kitB "list" "tuple" = some false from by decide +kernel]
@[simp] theorem ty_tuple_tuple (xs : List D) : anyTy ["tuple"] (.tuple xs) = some true := by
  show (match kitB "tuple" "tuple" with | some true => some true | some false => some false | none => none) = some true
  rw [show kitB "tuple" "tuple" = some true from by decide +kernel]
@[simp] theorem ty_list_none  : anyTy ["list"] .none = some false := by
  show (match kitB "NoneType" "list" with | some true => some true | some false => some false | none => none) = some false
  rw [show kitB "NoneType" "list" = some false from by decide +kernel]
@[simp] theorem ty_list_bool (b : Bool) : anyTy ["list"] (.bool b) = some false := by
  show (match kitB "bool" "list" with | some true => some true | some false => some false | none => none) = some false
  rw [show kitB "bool" "list" = some false from by decide +kernel]
@[simp] theorem ty_list_int (i : Int) : anyTy ["list"] (.int i) = some false := by
  show (match kitB "int" "list" with | some true => some true | some false => some false | none => none) = some false
  rw [show kitB "int" "list" = some false from by decide +kernel]
@[simp] theorem ty_list_str (z : Str) : anyTy ["list"] (.str z) = some false := by
  show (match kitB "str" "list" with | some true => some true | some false => some false | none => none) = some false
  rw [show kitB "str" "list" = some false from by decide +kernel]
@[simp] theorem ty_list_list (xs : List D) : anyTy ["list"] (.list xs) = some true := by
  show (match kitB "list" "list" with | some true => some true | some false => some false | none => none) = some true
  rw [show kitB "list" "list" = some true from by decide +kernel]
@[simp] theorem ty_list_tuple (xs : List D) : anyTy ["list"] (.tuple xs) = some false := by
  show (match kitB "tuple" "list" with | some true => some true | some false => some false | none => none) = some false
  rw [show kitB "tuple" "list" = some false from by decide +kernel]
@[simp] theorem ty_tl_none  : anyTy ["tuple", "list"] .none = some false := by
  show (match kitB "NoneType" "tuple" with | some true => some true | some false => (match kitB "NoneType" "list" with | some true => some true | some false => some false | none => none) | none => none) = some false
  rw [show kitB "NoneType" "tuple" = some false from by decide +kernel, show kitB "NoneType" "list" = some false from by decide +kernel]
@[simp] theorem ty_tl_bool (b : Bool) : anyTy ["tuple", "list"] (.bool b) = some false := by
  show (match kitB "bool" "tuple" with | some true => some true | some false => (match kitB "bool" "list" with | some true => some true | some false => some false | none => none) | none => none) = some false
  rw [show kitB "bool" "tuple" = some false from by decide +kernel, show kitB "bool" "list" = some false from by decide +kernel]
@[simp] theorem ty_tl_int (i : Int) : anyTy ["tuple", "list"] (.int i) = some false := by
  show (match kitB "int" "tuple" with | some true => some true | some false => (match kitB "int" "list" with | some true => some true | some false => some false | none => none) | none => none) = some false
  rw [show kitB "int" "tuple" = some false from by decide +kernel, show kitB "int" "list" = some false from by decide +kernel]
@[simp] theorem ty_tl_str (z : Str) : anyTy ["tuple", "list"] (.str z) = some false := by
  show (match kitB "str" "tuple" with | some true => some true | some false => (match kitB "str" "list" with | some true => some true | some false => some false | none => none) | none => none) = some false
  rw [show kitB "str" "tuple" = some false from by decide +kernel, show kitB "str" "list" = some false from by decide +kernel]
@[simp] theorem ty_tl_list (xs : List D) : anyTy ["tuple", "list"] (.list xs) = some true := by
  show (match kitB "list" "tuple" with | some true => some true | some false => (match kitB "list" "list" with | some true => some true | some false => some false | none => none) | none => none) = some true
  rw [show kitB "list" "tuple" = some false from by decide +kernel, show kitB "list" "list" = some true from by decide +kernel]
@[simp] theorem ty_tl_tuple (xs : List D) : anyTy ["tuple", "list"] (.tuple xs) = some true := by
  show (match kitB "tuple" "tuple" with | some true => some true | some false => (match kitB "tuple" "list" with | some true => some true | some false => some false | none => none) | none => none) = some true
  rw [show kitB "tuple" "tuple" = some true from by decide +kernel, show kitB "tuple" "list" = some false from by decide +kernel]

/-! ### texts as rows of signs -/
def sL (l : List Nat) : Str := ⟨l.toArray⟩
@[simp] theorem sL_length (l : List Nat) : (sL l).length = l.length := by simp [sL, Str.length]
@[simp] theorem sL_cps (l : List Nat) : (sL l).cps.toList = l := by simp [sL]
@[simp] theorem sL_inj (a b : List Nat) : sL a = sL b ↔ a = b := by simp [sL]
@[simp] theorem sL_append (a b : List Nat) : sL a ++ sL b = sL (a ++ b) := by
  show (⟨a.toArray ++ b.toArray⟩ : Str) = ⟨(a ++ b).toArray⟩
  simp
theorem sL_eq (z : Str) : sL z.cps.toList = z := by simp [sL]
@[simp] theorem sL_one (c : Nat) : (⟨#[c]⟩ : Str) = sL [c] := rfl
theorem empty_sL : ("" : Str) = sL [] := by decide +kernel
def cutL (l : List Nat) (lo hi : Option Int) : List Nat := (l.drop (HT.sIx l.length 0 lo)).take (HT.sIx l.length l.length hi - HT.sIx l.length 0 lo)
@[simp] theorem cutS_sL (l : List Nat) (lo hi : Option Int) : cutS (sL l) lo hi = sL (cutL l lo hi) := by
  unfold cutS cutL
  rw [sL_length, sL_cps]
  rfl
theorem cutL_le (l : List Nat) (lo hi : Option Int) : (cutL l lo hi).length ≤ l.length := by
  unfold cutL
  rw [List.length_take, List.length_drop]
  omega

inductive All2 {α β : Type} (R : α → β → Prop) : List α → List β → Prop
  | nil : All2 R [] []
  | cons {a : α} {b : β} {as : List α} {bs : List β} : R a b → All2 R as bs → All2 R (a :: as) (b :: bs)
/-! ### comprehensions -/
@[simp] theorem lcRun_nil (vs : List Nat) (set : D → Env → Option Env) (t : TC) (fe : EC) (ρ : Env) (acc : List D) : lcRun vs set t fe [] ρ acc = .ok acc ρ := rfl
/-- each step gives its element, and leaves things as they are -/
theorem lc_map {vs : List Nat} {set : D → Env → Option Env} {fe : EC} {ρ0 : Env} {g : D → D} : ∀ (ds acc : List D), (∀ d ∈ ds, ∃ ρd ρd', set d ρ0 = some ρd ∧ fe ρd = .ok (.val (g d)) ρd' ∧ allPlain ρd' vs = true ∧ wipeE ρd' vs = ρ0) → acc.length + ds.length ≤ sizeLine →
    lcRun vs set tYesD fe ds ρ0 acc = .ok (acc ++ ds.map g) ρ0
  | [], acc, _, _ => by simp
  | d :: ds, acc, h, hz => by
    obtain ⟨ρd, ρd', h1, h2, h3, h4⟩ := h d List.mem_cons_self
    rw [List.length_cons] at hz
    unfold lcRun
    rw [h1]
    simp only [tYesD, h2]
    rw [if_pos ⟨by omega, h3⟩, h4, lc_map ds (acc ++ [g d]) (fun x hx => h x (List.mem_cons_of_mem _ hx)) (by rw [List.length_append, List.length_singleton]; omega)]
    simp
/-- the same with a state that goes from element to element -/
theorem lc_state {S : Type} {vs : List Nat} {set : D → Env → Option Env} {t : TC} {fe : EC} {En : S → Env} {Pv : D → D → Prop} : ∀ (ds acc : List D) (st : S),
    (∀ d ∈ ds, ∀ st, ∃ ρd ρt ρd' bb st', set d (En st) = some ρd ∧ t ρd = .ok bb ρt ∧ (bb = true → ∃ v, fe ρt = .ok (.val v) ρd' ∧ Pv d v) ∧ (bb = false → ρd' = ρt) ∧ allPlain ρd' vs = true ∧ wipeE ρd' vs = En st') → acc.length + ds.length ≤ sizeLine →
    ∃ outs st', lcRun vs set t fe ds (En st) acc = .ok (acc ++ outs) (En st') ∧ ∃ sub : List D, sub.Sublist ds ∧ outs.length = sub.length ∧ All2 Pv sub outs
  | [], acc, st, _, _ => ⟨[], st, by simp, [], by simp, rfl, .nil⟩
  | d :: ds, acc, st, h, hz => by
    obtain ⟨ρd, ρt, ρd', bb, st', h1, h2, h3, h4, h5, h6⟩ := h d List.mem_cons_self st
    rw [List.length_cons] at hz
    cases bb with
    | true =>
      obtain ⟨v, hv, pv⟩ := h3 rfl
      obtain ⟨outs, st2, e, sub, q1, q2, q3⟩ := lc_state ds (acc ++ [v]) st' (fun x hx => h x (List.mem_cons_of_mem _ hx)) (by rw [List.length_append, List.length_singleton]; omega)
      refine ⟨v :: outs, st2, ?_, d :: sub, q1.cons₂ d, by simp [q2], .cons pv q3⟩
      unfold lcRun
      rw [h1]
      simp only [h2, hv]
      rw [if_pos ⟨by omega, h5⟩, h6, e]
      simp
    | false =>
      have e4 := h4 rfl
      subst e4
      obtain ⟨outs, st2, e, sub, q1, q2, q3⟩ := lc_state ds acc st' (fun x hx => h x (List.mem_cons_of_mem _ hx)) (by omega)
      refine ⟨outs, st2, ?_, sub, q1.cons d, q2, q3⟩
      unfold lcRun
      rw [h1]
      simp only [h2]
      rw [if_pos h5, h6, e]
/-- with no test all are taken -/
theorem lc_stateAll {S : Type} {vs : List Nat} {set : D → Env → Option Env} {fe : EC} {En : S → Env} {Pv : D → D → Prop} : ∀ (ds acc : List D) (st : S),
    (∀ d ∈ ds, ∀ st, ∃ ρd ρd' v st', set d (En st) = some ρd ∧ fe ρd = .ok (.val v) ρd' ∧ Pv d v ∧ allPlain ρd' vs = true ∧ wipeE ρd' vs = En st') → acc.length + ds.length ≤ sizeLine →
    ∃ outs st', lcRun vs set tYesD fe ds (En st) acc = .ok (acc ++ outs) (En st') ∧ All2 Pv ds outs
  | [], acc, st, _, _ => ⟨[], st, by simp, .nil⟩
  | d :: ds, acc, st, h, hz => by
    obtain ⟨ρd, ρd', v, st', h1, hv, pv, h5, h6⟩ := h d List.mem_cons_self st
    rw [List.length_cons] at hz
    obtain ⟨outs, st2, e, q3⟩ := lc_stateAll ds (acc ++ [v]) st' (fun x hx => h x (List.mem_cons_of_mem _ hx)) (by rw [List.length_append, List.length_singleton]; omega)
    refine ⟨v :: outs, st2, ?_, .cons pv q3⟩
    unfold lcRun
    rw [h1]
    simp only [tYesD, hv]
    rw [if_pos ⟨by omega, h5⟩, h6, e]
    simp
theorem sh_str (a : Str) : SeqAt.shaped (.str a) = PyData.strOk a := by simp [SeqAt.shaped, PyData.canLay0, PyData.depth]
theorem dEq_str {a b : Str} (ha : PyData.strOk a = true) (hb : PyData.strOk b = true) : dEq (.str a) (.str b) = some (.bool (decide (a = b))) := by simp [dEq, sh_str, ha, hb, eqv_str]
theorem dNe_str {a b : Str} (ha : PyData.strOk a = true) (hb : PyData.strOk b = true) : dNe (.str a) (.str b) = some (.bool (!decide (a = b))) := by simp [dNe, sh_str, ha, hb, eqv_str]
@[simp] theorem dEq_bool (a b : Bool) : dEq (.bool a) (.bool b) = some (.bool (a == b)) := by simp [dEq, sh_bool, PyData.eqv]
@[simp] theorem dNe_bool (a b : Bool) : dNe (.bool a) (.bool b) = some (.bool (!(a == b))) := by simp [dNe, sh_bool, PyData.eqv]
theorem strOk_sL {l : List Nat} (h : ∀ c ∈ l, c < 128) : PyData.strOk (sL l) = true := by
  unfold PyData.strOk sL
  rw [Array.all_eq_true]
  intro i hi
  have hi' : i < l.length := by simpa using hi
  have := h l[i] (List.getElem_mem _)
  simp
  omega
theorem le_line {n : Nat} (h : n ≤ 10000) : n ≤ sizeLine := Nat.le_trans h (by decide)
theorem lt_line {n : Nat} (h : n ≤ 10000) : n < sizeLine := Nat.lt_of_le_of_lt h (by decide)
abbrev chars (l : List Nat) : List D := l.map fun c => .str (sL [c])
theorem boolsD_true {α : Type} (l : List α) : boolsD (l.map fun _ => PyData.bool true) = some (l.map fun _ => true) := by
  induction l with
  | nil => rfl
  | cons a l ih => simp [boolsD, ih]
theorem dAll_true {α : Type} (l : List α) : dAll [.list (l.map fun _ => PyData.bool true)] = some (.bool true) := by
  simp [dAll, boolsD_true]
theorem dAll_map {α : Type} (l : List α) (p : α → Bool) : dAll [.list (l.map fun x => PyData.bool (p x))] = some (.bool (l.all p)) := by
  have h : boolsD (l.map fun x => PyData.bool (p x)) = some (l.map p) := by
    induction l with
    | nil => rfl
    | cons a l ih => simp [boolsD, ih]
  simp [dAll, h]
theorem foldl_cps (ls : List (List Nat)) : ∀ acc : List Nat, ((ls.map sL).foldl (fun a p => a ++ (sL []).cps ++ p.cps) acc.toArray) = (acc ++ ls.flatten).toArray := by
  induction ls with
  | nil => intro acc; simp
  | cons x ls ih =>
    intro acc
    rw [List.map_cons, List.foldl_cons]
    have : acc.toArray ++ (sL []).cps ++ (sL x).cps = (acc ++ x).toArray := by simp [sL]
    rw [this, ih]
    simp
theorem join_sL (ls : List (List Nat)) : Txt.join (sL []) (ls.map sL) = sL ls.flatten := by
  show Builtin.Str.glued (sL []) (ls.map sL) = _
  unfold Builtin.Str.glued
  cases ls with
  | nil => rfl
  | cons x ls =>
    have := foldl_cps ls x
    show (⟨((ls.map sL).foldl (fun a p => a ++ (sL []).cps ++ p.cps) (sL x).cps)⟩ : Str) = _
    rw [show (sL x).cps = x.toArray from rfl, this]
    rfl
theorem strsD_sL (ls : List (List Nat)) : strsD (ls.map fun l => PyData.str (sL l)) = some (ls.map sL) := by
  have := strs_map (ls.map sL)
  rw [List.map_map] at this
  exact this
theorem dJoin_sL (ls : List (List Nat)) (h : ls.flatten.length ≤ 10000) : dJoin (.str (sL [])) [.list (ls.map fun l => .str (sL l))] = some (.str (sL ls.flatten)) := by
  have e : ((ls.map sL).map (·.length)).sum = ls.flatten.length := by
    induction ls with
    | nil => rfl
    | cons x ls ih =>
      have : ls.flatten.length ≤ 10000 := by
        rw [List.flatten_cons, List.length_append] at h
        omega
      simp only [List.map_cons, List.sum_cons, sL_length, List.flatten_cons, List.length_append]
      rw [ih this]
  show (match strsD (ls.map fun l => PyData.str (sL l)) with
    | some ys => if (List.map (fun x : Str => x.length) ys).sum + ys.length * (sL []).length ≤ 16777216 then some (PyData.str (Txt.join (sL []) ys)) else none
    | none => none) = _
  rw [strsD_sL]
  have hz : (List.map (fun x : Str => x.length) (ls.map sL)).sum + (ls.map sL).length * (sL []).length ≤ 16777216 := by
    rw [e, sL_length, List.length_nil, Nat.mul_zero]
    omega
  show (if (List.map (fun x : Str => x.length) (ls.map sL)).sum + (ls.map sL).length * (sL []).length ≤ 16777216 then some (PyData.str (Txt.join (sL []) (ls.map sL))) else none) = _
  rw [if_pos hz, join_sL]
theorem dJoinT_sL (ls : List (List Nat)) (h : ls.flatten.length ≤ 10000) : dJoin (.str (sL [])) [.tuple (ls.map fun l => .str (sL l))] = some (.str (sL ls.flatten)) := dJoin_sL ls h
theorem fitZ_small {b : Nat} {n : Int} (hb : 1000000 ≤ b) (h : n.natAbs ≤ 100000) : fitZ b n = true := fitZ_of (by omega)
theorem eRng1_ok {fa : Env → Out (List VV)} {ρ ρ1 : Env} {n : Int} (h : fa ρ = .ok [.val (.int n)] ρ1) (h0 : n.natAbs ≤ 100000) : eRng1 fa ρ = .ok (rng 0 n.toNat) ρ1 := by
  unfold eRng1
  rw [h]
  show (if fitZ (2 ^ 62) n = true then Out.ok (rng 0 n.toNat) ρ1 else .bad) = _
  rw [if_pos (fitZ_small (by decide) h0)]
theorem eRng2_ok {fa : Env → Out (List VV)} {ρ ρ1 : Env} {m n : Int} (h : fa ρ = .ok [.val (.int m), .val (.int n)] ρ1) (h0 : m.natAbs ≤ 100000) (h1 : n.natAbs ≤ 100000) : eRng2 fa ρ = .ok (rng m (n - m).toNat) ρ1 := by
  unfold eRng2
  rw [h]
  show (if fitZ (2 ^ 62) m = true ∧ fitZ (2 ^ 62) n = true then Out.ok (rng m (n - m).toNat) ρ1 else .bad) = _
  rw [if_pos ⟨fitZ_small (by decide) h0, fitZ_small (by decide) h1⟩]
theorem atI_nat {α : Type} (xs : List α) (i : Nat) (h : i < xs.length) : atI xs (i : Int) = some xs[i] := by
  unfold atI ixN
  rw [if_pos (by omega), if_pos (by omega)]
  simp [h]
theorem cutD_take (xs : List DL.D) (k : Nat) : DL.cutD xs none (some (k : Int)) = xs.take k := by
  unfold DL.cutD
  rw [HT.sIx_nat]
  simp [HT.sIx]
theorem drawT_range (cs : List Int) (sd many : Int) (h : 0 < many) : 0 ≤ (drawT cs sd many).1 ∧ (drawT cs sd many).1 < many := by
  unfold drawT
  split
  · exact ⟨Int.emod_nonneg _ (by omega), Int.emod_lt_of_pos _ h⟩
  · exact ⟨Int.emod_nonneg _ (by omega), Int.emod_lt_of_pos _ h⟩
theorem draw_go (cs : List Int) (sd many : Int) (h : 0 < many) (h2 : many < 1073741824) : ∃ i cs' sd', drawM (.tape cs sd) [.int many] = .ret (.int i) (.tape cs' sd') ∧ 0 ≤ i ∧ i < many := by
  obtain ⟨h3, h4⟩ := drawT_range cs sd many h
  exact ⟨_, _, _, by show (if 0 < many ∧ fitZ 1073741824 many = true then _ else _) = _; rw [if_pos ⟨h, fitZ_of (by omega)⟩], h3, h4⟩
end DL

namespace LW
open PySem PySem.Spec L2 DL PyProof.Rows
def top (i : Nat) : Stmt := PySem.Challenge.pw_joinedagain_k40_spelling_at_breaks.main.body.getD i (.Pass ⟨0, 0, 0, 0⟩)
abbrev s_is_part : Stmt := top 7
abbrev s_is_integer : Stmt := top 10
abbrev s_is_word : Stmt := top 11
abbrev s_is_places : Stmt := top 12
abbrev s_is_rule : Stmt := top 16
abbrev s_is_spelling : Stmt := top 17
abbrev s_check_spelling : Stmt := top 18
abbrev s_rule_at : Stmt := top 19
abbrev s_pieces_of : Stmt := top 20
abbrev s_broken : Stmt := top 21
abbrev s__law_tape : Stmt := top 23
abbrev s__law_draw : Stmt := top 24
abbrev s__law_pick : Stmt := top 25
abbrev s__law_same : Stmt := top 26
abbrev s__law_string : Stmt := top 27
abbrev s__law_rules : Stmt := top 28
abbrev s__law_broken : Stmt := top 29
abbrev s__law_some_places : Stmt := top 30
abbrev s__law_call : Stmt := top 31
abbrev s_law : Stmt := top 32
abbrev si_BadTongue : Stmt := inClass (top 2) 0
def d_MOST_LETTERS : D := (.int 40)
def d_LETTERS_sounds : D := (.str "abcdefghijklmnopqrstuvwxyz")
def d_LETTERS_words : D := (.str "abcdefghijklmnopqrstuvwxyz")
def d_MOST_RULES : D := (.int 12)
def d_PLAIN : D := (.tuple [(.str "spell"), (.str ""), (.str ""), (.str ""), (.str "")])
def sub_ : String → String → Bool := fun x y => x == y

def c_is_part : SC :=
    (sRet (eAndV (eIsi ["str"] (eVar 0)) (eAndV (eChain dLe dLe (eVar 1) (eCallB dLen (aCons (eVar 0) aNil)) (eVar 2)) (eCallB dAll (aCons (eN (nLc (List.map (·.2) ([("sign", 3)] : List (Str × Nat))) (eIter (eVar 0)) (setN 3) tYesD (eBin dIn (eVar 3) (eC d_LETTERS_sounds)))) aNil)))))
def m_is_part : List D → FO := fnP c_is_part 1
def c_is_integer : SC :=
    (sRet (eAndV (eIsi ["int"] (eVar 0)) (eAndV (eNotV (eIsi ["bool"] (eVar 0))) (eChain dLe dLe (eVar 1) (eVar 0) (eVar 2)))))
def m_is_integer : List D → FO := fnP c_is_integer 0
def c_is_word : SC :=
    (sSeq (sIf (eOr (eNot (eTruth (eIsi ["str"] (eVar 0)))) (eNot (eTest (eChain dLe dLe (eC (.int 1)) (eCallB dLen (aCons (eVar 0) aNil)) (eC d_MOST_LETTERS)))))
    (sRet (eC (.bool false)))
    sNx)
    (sRet (eCallB dAll (aCons (eN (nLc (List.map (·.2) ([("sign", 1)] : List (Str × Nat))) (eIter (eVar 0)) (setN 1) tYesD (eBin dIn (eVar 1) (eC d_LETTERS_words)))) aNil))))
def m_is_word : List D → FO := fnP c_is_word 1
def c_is_places : SC :=
    (sSeq (sIf (eOr (eNot (eTruth (eIsi ["tuple"] (eVar 1)))) (eNot (eTruth (eCallB dAll (aCons (eN (nLc (List.map (·.2) ([("place", 2)] : List (Str × Nat))) (eIter (eVar 1)) (setN 2) tYesD (eCall 3 m_is_integer (aCons (eVar 2) (aCons (eC (.int 1)) (aCons (eBin dSub (eCallB dLen (aCons (eVar 0) aNil)) (eC (.int 1))) aNil)))))) aNil)))))
    (sRet (eC (.bool false)))
    sNx)
    (sRet (eCallB dAll (aCons (eN (nLc (List.map (·.2) ([("one", 3), ("other", 4)] : List (Str × Nat))) (eZip (aCons (eVar 1) (aCons (eSl dSl (eVar 1) (oSome (eC (.int 1))) oNone) aNil))) (setTup 2 (setCons (setN 3) (setCons (setN 4) setNil))) tYesD (eBin dLt (eVar 3) (eVar 4)))) aNil))))
def m_is_places : List D → FO := fnP c_is_places 3
def c_is_rule : SC :=
    (sSeq (sIf (eOr (eNot (eTruth (eIsi ["tuple"] (eVar 0)))) (eOr (eTest (eBin dNe (eCallB dLen (aCons (eVar 0) aNil)) (eC (.int 5)))) (eOr (eNot (eTruth (eIsi ["str"] (eBin dIx (eVar 0) (eC (.int 0)))))) (eTest (eBin dNe (eBin dIx (eVar 0) (eC (.int 0))) (eC (.str "spell")))))))
    (sRet (eC (.bool false)))
    sNx)
    (sSeq (sIf (eOr (eNot (eTruth (eCall 3 m_is_part (aCons (eBin dIx (eVar 0) (eC (.int 1))) (aCons (eC (.int 0)) (aCons (eC (.int 3)) aNil)))))) (eOr (eNot (eTruth (eCall 3 m_is_part (aCons (eBin dIx (eVar 0) (eC (.int 2))) (aCons (eC (.int 0)) (aCons (eC (.int 3)) aNil)))))) (eTest (eBin dEq (eBin dAdd (eBin dIx (eVar 0) (eC (.int 1))) (eBin dIx (eVar 0) (eC (.int 2)))) (eC (.str ""))))))
    (sRet (eC (.bool false)))
    sNx)
    (sRet (eAndV (eCall 3 m_is_part (aCons (eBin dIx (eVar 0) (eC (.int 3))) (aCons (eC (.int 0)) (aCons (eC (.int 4)) aNil)))) (eCall 3 m_is_part (aCons (eBin dIx (eVar 0) (eC (.int 4))) (aCons (eC (.int 0)) (aCons (eC (.int 4)) aNil))))))))
def m_is_rule : List D → FO := fnP c_is_rule 0
def c_is_spelling : SC :=
    (sSeq (sIf (eOr (eNot (eTruth (eIsi ["tuple"] (eVar 0)))) (eOr (eTest (eBin dGt (eCallB dLen (aCons (eVar 0) aNil)) (eC d_MOST_RULES))) (eNot (eTruth (eCallB dAll (aCons (eN (nLc (List.map (·.2) ([("rule", 1)] : List (Str × Nat))) (eIter (eVar 0)) (setN 1) tYesD (eCall 1 m_is_rule (aCons (eVar 1) aNil)))) aNil))))))
    (sRet (eC (.bool false)))
    sNx)
    (sRet (eCallB dAll (aCons (eN (nLc (List.map (·.2) ([("k", 2)] : List (Str × Nat))) (eRng1 (aCons (eCallB dLen (aCons (eVar 0) aNil)) aNil)) (setN 2) tYesD (eBin dNotIn (eBin dIx (eVar 0) (eVar 2)) (eSl dSl (eVar 0) oNone (oSome (eVar 2)))))) aNil))))
def m_is_spelling : List D → FO := fnP c_is_spelling 2
def c_check_spelling : SC :=
    (sIf (eNot (eTruth (eCall 1 m_is_spelling (aCons (eVar 0) aNil))))
    (sRaiseI "BadTongue" ["kind", "name"] (aCons (eC (.str "spelling")) (aCons (eC (.str "")) aNil)))
    sNx)
def m_check_spelling : List D → FO := fnP c_check_spelling 0
def c_rule_at : SC :=
    (sSeq (sFor (eIter (eVar 0)) (setN 3)
    (sIf (eAnd (eTruth (eMeth "str" dEnds (eVar 1) (aCons (eBin dIx (eVar 3) (eC (.int 1))) aNil))) (eTruth (eMeth "str" dStarts (eVar 2) (aCons (eBin dIx (eVar 3) (eC (.int 2))) aNil))))
    (sRet (eVar 3))
    sNx))
    (sRet (eC d_PLAIN)))
def m_rule_at : List D → FO := fnP c_rule_at 1
def c_pieces_of : SC :=
    (sSeq (sNew 3 (nLst aNil))
    (sSeq (sAsg (eC (.int 0)) (setN 4))
    (sSeq (sAsg (eC (.str "")) (setN 5))
    (sSeq (sFor (eEnum (aCons (eVar 2) aNil)) (setTup 2 (setCons (setN 6) (setCons (setN 7) setNil)))
    (sSeq (sAsg (eCallB dLen (aCons (eVar 1) aNil)) (setN 8))
    (sSeq (sIf (eTest (eBin dLt (eBin dAdd (eVar 6) (eC (.int 1))) (eCallB dLen (aCons (eVar 2) aNil))))
    (sAsg (eBin dIx (eVar 2) (eBin dAdd (eVar 6) (eC (.int 1)))) (setN 8))
    sNx)
    (sSeq (sAsg (eCall 3 m_rule_at (aCons (eVar 0) (aCons (eSl dSl (eVar 1) (oSome (eVar 4)) (oSome (eVar 7))) (aCons (eSl dSl (eVar 1) (oSome (eVar 7)) (oSome (eVar 8))) aNil)))) (setN 9))
    (sSeq (sApp 3 (eBin dAdd (eBin dAdd (eVar 5) (eSl dSl (eVar 1) (oSome (eVar 4)) (oSome (eBin dSub (eVar 7) (eCallB dLen (aCons (eBin dIx (eVar 9) (eC (.int 1))) aNil)))))) (eBin dIx (eVar 9) (eC (.int 3)))))
    (sSeq (sAsg (eBin dIx (eVar 9) (eC (.int 4))) (setN 5))
    (sAsg (eBin dAdd (eVar 7) (eCallB dLen (aCons (eBin dIx (eVar 9) (eC (.int 2))) aNil))) (setN 4))))))))
    (sSeq (sApp 3 (eBin dAdd (eVar 5) (eSl dSl (eVar 1) (oSome (eVar 4)) oNone)))
    (sRet (eCallB dTuple (aCons (eVar 3) aNil))))))))
def m_pieces_of : List D → FO := fnP c_pieces_of 7
def c_broken : SC :=
    (sSeq (sDrop (eCall 1 m_check_spelling (aCons (eVar 0) aNil)))
    (sSeq (sIf (eOr (eNot (eTruth (eCall 1 m_is_word (aCons (eVar 1) aNil)))) (eNot (eTruth (eCall 2 m_is_places (aCons (eVar 1) (aCons (eVar 2) aNil))))))
    (sRaise "BadWord")
    sNx)
    (sRet (eCall 3 m_pieces_of (aCons (eVar 0) (aCons (eVar 1) (aCons (eVar 2) aNil)))))))
def m_broken : List D → FO := fnP c_broken 0
def c__law_tape : SC :=
    (sSeq (sAsg (eC (.int 7)) (setN 1))
    (sSeq (sFor (eIter (eVar 0)) (setN 2)
    (sAsg (eBin dMod (eCallB dInt (aCons (eBin dAdd (eBin dMul (eVar 1) (eC (.int 31))) (eVar 2)) aNil)) (eC (.int 1000003))) (setN 1)))
    (sRetTape (nLc (List.map (·.2) ([("cell", 2)] : List (Str × Nat))) (eIter (eVar 0)) (setN 2) tYesD (eCallB dAbs (aCons (eCallB dInt (aCons (eVar 2) aNil)) aNil))) (eBin dAdd (eVar 1) (eC (.int 1))))))
def m__law_tape : List D → FO := fnP c__law_tape 2
abbrev m__law_draw := drawM
def c__law_pick : SC :=
    (sRet (eBin dIx (eVar 1) (eCallO 0 1 m__law_draw (aCons (eCallB dLen (aCons (eVar 1) aNil)) aNil))))
def m__law_pick : Own → List D → OO := fnO c__law_pick 0
def c__law_same (rc : List D → FO) : SC :=
    (sSeq (sIf (eTest (eBin dIs (eVar 1) (eC .none)))
    (sRet (eBin dIs (eVar 0) (eC .none)))
    sNx)
    (sSeq (sIf (eTruth (eIsi ["bool"] (eVar 1)))
    (sRet (eAndV (eIsi ["bool"] (eVar 0)) (eBin dEq (eVar 0) (eVar 1))))
    sNx)
    (sSeq (sIf (eTruth (eIsi ["int"] (eVar 1)))
    (sRet (eAndV (eIsi ["int"] (eVar 0)) (eAndV (eNotV (eIsi ["bool"] (eVar 0))) (eBin dEq (eVar 0) (eVar 1)))))
    sNx)
    (sSeq (sIf (eTruth (eIsi ["str"] (eVar 1)))
    (sRet (eAndV (eIsi ["str"] (eVar 0)) (eBin dEq (eVar 0) (eVar 1))))
    sNx)
    (sSeq (sIf (eOr (eTest (eBin dNe (eIsi ["tuple"] (eVar 1)) (eIsi ["tuple"] (eVar 0)))) (eTest (eBin dNe (eIsi ["list"] (eVar 1)) (eIsi ["list"] (eVar 0)))))
    (sRet (eC (.bool false)))
    sNx)
    (sSeq (sIf (eOr (eNot (eTruth (eIsi ["tuple", "list"] (eVar 0)))) (eTest (eBin dNe (eCallB dLen (aCons (eVar 0) aNil)) (eCallB dLen (aCons (eVar 1) aNil)))))
    (sRet (eC (.bool false)))
    sNx)
    (sRet (eBin dNotIn (eC (.bool false)) (eN (nLc (List.map (·.2) ([("k", 2)] : List (Str × Nat))) (eRng1 (aCons (eCallB dLen (aCons (eVar 1) aNil)) aNil)) (setN 2) tYesD (eCall 2 rc (aCons (eBin dIx (eVar 0) (eVar 2)) (aCons (eBin dIx (eVar 1) (eVar 2)) aNil)))))))))))))
def m__law_same : Nat → List D → FO
  | 0 => fun _ => .bad
  | n + 1 => fnP (c__law_same (m__law_same n)) 1
def c__law_string : SC :=
    (sRet (eMeth "str" dJoin (eC (.str "")) (aCons (eN (nLc (List.map (·.2) ([("k", 4)] : List (Str × Nat))) (eRng1 (aCons (eBin dAdd (eVar 2) (eCallO 0 1 m__law_draw (aCons (eBin dAdd (eBin dSub (eVar 3) (eVar 2)) (eC (.int 1))) aNil))) aNil)) (setN 4) tYesD (eBin dIx (eVar 1) (eCallO 0 1 m__law_draw (aCons (eCallB dLen (aCons (eVar 1) aNil)) aNil))))) aNil)))
def m__law_string : Own → List D → OO := fnO c__law_string 1
def c__law_rules : SC :=
    (sSeq (sNew 2 (nLst aNil))
    (sSeq (sFor (eRng1 (aCons (eCallO 0 1 m__law_draw (aCons (eBin dAdd (eVar 1) (eC (.int 1))) aNil)) aNil)) (setN 3)
    (sSeq (sPar 4 5 (aCons (eCallO 0 3 m__law_string (aCons (eC (.str "abk")) (aCons (eC (.int 0)) (aCons (eC (.int 2)) aNil)))) (aCons (eCallO 0 3 m__law_string (aCons (eC (.str "abk")) (aCons (eC (.int 0)) (aCons (eC (.int 2)) aNil)))) aNil)))
    (sSeq (sIf (eTest (eBin dEq (eBin dAdd (eVar 4) (eVar 5)) (eC (.str ""))))
    (sAsg (eC (.str "k")) (setN 4))
    sNx)
    (sSeq (sAsg (eTup (aCons (eC (.str "spell")) (aCons (eVar 4) (aCons (eVar 5) (aCons (eCallO 0 3 m__law_string (aCons (eC (.str "abk")) (aCons (eC (.int 0)) (aCons (eC (.int 2)) aNil)))) (aCons (eCallO 0 3 m__law_string (aCons (eC (.str "abk")) (aCons (eC (.int 0)) (aCons (eC (.int 2)) aNil)))) aNil)))))) (setN 6))
    (sIf (eTest (eBin dNotIn (eVar 6) (eVar 2)))
    (sApp 2 (eVar 6))
    sNx)))))
    (sRet (eCallB dTuple (aCons (eVar 2) aNil)))))
def m__law_rules : Own → List D → OO := fnO c__law_rules 5
def c__law_broken : SC :=
    (sSeq (sNew 3 (nLst aNil))
    (sSeq (sAsg (eTup (aCons (eC (.str "")) (aCons (eC (.int 0)) aNil))) (setTup 2 (setCons (setN 4) (setCons (setN 5) setNil))))
    (sSeq (sAsg (eBin dAdd (eN (nCallB nList (aCons (eVar 2) aNil))) (eN (nLst (aCons (eCallB dLen (aCons (eVar 1) aNil)) aNil)))) (setN 6))
    (sSeq (sFor (eRng1 (aCons (eCallB dLen (aCons (eVar 2) aNil)) aNil)) (setN 7)
    (sSeq (sAsg (eBin dIx (eVar 6) (eVar 7)) (setN 8))
    (sSeq (sAsg (eTup (aCons (eC (.str "spell")) (aCons (eC (.str "")) (aCons (eC (.str "")) (aCons (eC (.str "")) (aCons (eC (.str "")) aNil)))))) (setN 9))
    (sSeq (sFor (eIter (eRev (eVar 0))) (setN 10)
    (sIf (eAnd (eTruth (eMeth "str" dEnds (eSl dSl (eVar 1) (oSome (eVar 5)) (oSome (eVar 8))) (aCons (eBin dIx (eVar 10) (eC (.int 1))) aNil))) (eTruth (eMeth "str" dStarts (eSl dSl (eVar 1) (oSome (eVar 8)) (oSome (eBin dIx (eVar 6) (eBin dAdd (eVar 7) (eC (.int 1)))))) (aCons (eBin dIx (eVar 10) (eC (.int 2))) aNil))))
    (sAsg (eVar 10) (setN 9))
    sNx))
    (sSeq (sApp 3 (eBin dAdd (eBin dAdd (eVar 4) (eSl dSl (eVar 1) (oSome (eVar 5)) (oSome (eBin dSub (eVar 8) (eCallB dLen (aCons (eBin dIx (eVar 9) (eC (.int 1))) aNil)))))) (eBin dIx (eVar 9) (eC (.int 3)))))
    (sPar 4 5 (aCons (eBin dIx (eVar 9) (eC (.int 4))) (aCons (eBin dAdd (eVar 8) (eCallB dLen (aCons (eBin dIx (eVar 9) (eC (.int 2))) aNil))) aNil))))))))
    (sRet (eCallB dTuple (aCons (eBin dAdd (eVar 3) (eN (nLst (aCons (eBin dAdd (eVar 4) (eSl dSl (eVar 1) (oSome (eVar 5)) oNone)) aNil)))) aNil)))))))
def m__law_broken : List D → FO := fnP c__law_broken 8
def c__law_some_places : SC :=
    (sRet (eCallB dTuple (aCons (eN (nLc (List.map (·.2) ([("place", 2)] : List (Str × Nat))) (eRng2 (aCons (eC (.int 1)) (aCons (eCallB dLen (aCons (eVar 1) aNil)) aNil))) (setN 2) (eTest (eBin dEq (eCallO 0 1 m__law_draw (aCons (eC (.int 3)) aNil)) (eC (.int 0)))) (eVar 2))) aNil)))
def m__law_some_places : Own → List D → OO := fnO c__law_some_places 1
def c__law_call : SC :=
    (sSeq (sTryM sub_ (sAsg (eCall 3 m_broken (aCons (eVar 0) (aCons (eVar 1) (aCons (eVar 2) aNil)))) (setN 3))
    [.plain "BadWord" (sRet (eC (.str "word"))), .named "BadTongue" 4 (xFld "BadTongue" "kind")])
    (sRet (eVar 3)))
def m__law_call : List D → FO := fnP c__law_call 2
def c_law : SC :=
    (sSeq (sCallN 1 1 m__law_tape (aCons (eVar 0) aNil))
    (sSeq (sIf (eNot (eTruth (eCall 2 (m__law_same 5) (aCons (eC d_MOST_RULES) (aCons (eC (.int 12)) aNil)))))
    (sRet (eC (.bool false)))
    sNx)
    (sSeq (sFor (eRng1 (aCons (eC (.int 4)) aNil)) (setN 2)
    (sSeq (sAsg (eCallO 1 1 m__law_rules (aCons (eC (.int 5)) aNil)) (setN 3))
    (sSeq (sIf (eNot (eTruth (eCall 2 (m__law_same 5) (aCons (eCall 1 m_is_spelling (aCons (eVar 3) aNil)) (aCons (eC (.bool true)) aNil)))))
    (sRet (eC (.bool false)))
    sNx)
    (sSeq (sFor (eRng1 (aCons (eC (.int 4)) aNil)) (setN 4)
    (sSeq (sAsg (eCallO 1 3 m__law_string (aCons (eC (.str "abk")) (aCons (eC (.int 1)) (aCons (eC (.int 9)) aNil)))) (setN 5))
    (sSeq (sAsg (eCallO 1 1 m__law_some_places (aCons (eVar 5) aNil)) (setN 6))
    (sSeq (sIf (eNot (eTruth (eCall 2 (m__law_same 5) (aCons (eCall 3 m__law_call (aCons (eVar 3) (aCons (eVar 5) (aCons (eVar 6) aNil)))) (aCons (eCall 3 m__law_broken (aCons (eVar 3) (aCons (eVar 5) (aCons (eVar 6) aNil)))) aNil)))))
    (sRet (eC (.bool false)))
    sNx)
    (sIf (eNot (eTruth (eCall 2 (m__law_same 5) (aCons (eMeth "str" dJoin (eC (.str "")) (aCons (eCall 3 m__law_call (aCons (eTup aNil) (aCons (eVar 5) (aCons (eVar 6) aNil)))) aNil)) (aCons (eVar 5) aNil)))))
    (sRet (eC (.bool false)))
    sNx)))))
    (sSeq (sAsg (eTup (aCons (eC (.str "spell")) (aCons (eC (.str "a")) (aCons (eC (.str "k")) (aCons (eC (.str "b")) (aCons (eC (.str "")) aNil)))))) (setN 7))
    (sSeq (sAsg (eN (nLst (aCons (eTup (aCons (eVar 7) (aCons (eVar 7) aNil))) (aCons (eTup (aCons (eTup (aCons (eC (.str "spell")) (aCons (eC (.str "")) (aCons (eC (.str "")) (aCons (eC (.str "a")) (aCons (eC (.str "b")) aNil)))))) aNil)) (aCons (eTup (aCons (eTup (aCons (eC (.str "spell")) (aCons (eC (.str "abka")) (aCons (eC (.str "")) (aCons (eC (.str "")) (aCons (eC (.str "")) aNil)))))) aNil)) (aCons (eTup (aCons (eTup (aCons (eC (.str "spell")) (aCons (eC (.str "a")) (aCons (eC (.str "")) (aCons (eC (.str "aaaaa")) (aCons (eC (.str "")) aNil)))))) aNil)) (aCons (eN (nLst (aCons (eVar 7) aNil))) (aCons (eVar 7) (aCons (eC .none) aNil))))))))) (setN 8))
    (sSeq (sAsg (eBin dAdd (eVar 8) (eN (nLst (aCons (eTup (aCons (eTup (aCons (eC (.str "spells")) (aCons (eC (.str "a")) (aCons (eC (.str "")) (aCons (eC (.str "")) (aCons (eC (.str "")) aNil)))))) aNil)) (aCons (eTup (aCons (eTup (aCons (eC (.str "spell")) (aCons (eC (.str "a")) (aCons (eC (.str "")) (aCons (eC (.str "")) aNil))))) aNil)) (aCons (eTup (aCons (eTup (aCons (eC (.str "spell")) (aCons (eC (.str "A")) (aCons (eC (.str "")) (aCons (eC (.str "")) (aCons (eC (.str "")) aNil)))))) aNil)) (aCons (eTup (aCons (eTup (aCons (eC (.str "spell")) (aCons (eC (.str "a")) (aCons (eC .none) (aCons (eC (.str "")) (aCons (eC (.str "")) aNil)))))) aNil)) aNil))))))) (setN 8))
    (sSeq (sAsg (eBin dAdd (eVar 8) (eN (nLst (aCons (eCallB dTuple (aCons (eN (nLc (List.map (·.2) ([("letter", 9)] : List (Str × Nat))) (eIter (eC (.str "abcdefghijklm"))) (setN 9) tYesD (eTup (aCons (eC (.str "spell")) (aCons (eC (.str "a")) (aCons (eC (.str "")) (aCons (eVar 9) (aCons (eC (.str "")) aNil)))))))) aNil)) aNil)))) (setN 8))
    (sSeq (sAsg (eCallO 1 1 m__law_pick (aCons (eVar 8) aNil)) (setN 10))
    (sSeq (sIf (eOr (eNot (eTruth (eCall 2 (m__law_same 5) (aCons (eCall 1 m_is_spelling (aCons (eVar 10) aNil)) (aCons (eC (.bool false)) aNil))))) (eTest (eBin dNe (eCall 3 m__law_call (aCons (eVar 10) (aCons (eC (.str "")) (aCons (eC .none) aNil)))) (eC (.str "spelling")))))
    (sRet (eC (.bool false)))
    sNx)
    (sSeq (sAsg (eCallO 1 1 m__law_pick (aCons (eN (nLst (aCons (eTup (aCons (eC (.int 0)) aNil)) (aCons (eTup (aCons (eCallB dLen (aCons (eVar 5) aNil)) aNil)) (aCons (eTup (aCons (eC (.int 1)) (aCons (eC (.int 1)) aNil))) (aCons (eN (nLst (aCons (eC (.int 1)) aNil))) (aCons (eC .none) (aCons (eTup (aCons (eC (.bool true)) aNil)) (aCons (eTup (aCons (eC (.str "1")) aNil)) aNil))))))))) aNil)) (setN 11))
    (sIf (eOr (eTest (eBin dNe (eCall 3 m__law_call (aCons (eVar 3) (aCons (eBin dAdd (eVar 5) (eC (.str "a"))) (aCons (eIf (eTest (eBin dNe (eVar 11) (eTup (aCons (eCallB dLen (aCons (eVar 5) aNil)) aNil)))) (eVar 11) (eTup (aCons (eBin dAdd (eCallB dLen (aCons (eVar 5) aNil)) (eC (.int 1))) aNil))) aNil)))) (eC (.str "word")))) (eTest (eBin dNe (eCall 3 m__law_call (aCons (eVar 3) (aCons (eC (.str "")) (aCons (eTup aNil) aNil)))) (eC (.str "word")))))
    (sRet (eC (.bool false)))
    sNx))))))))))))
    (sRet (eC (.bool true))))))
def m_law : List D → FO := fnP c_law 11
structure Tx (K : Fg) (mg : Str → Option Value) where
  a_is_part : Addr
  d_is_part : FuncData
  a_is_integer : Addr
  d_is_integer : FuncData
  a_is_word : Addr
  d_is_word : FuncData
  a_is_places : Addr
  d_is_places : FuncData
  a_is_rule : Addr
  d_is_rule : FuncData
  a_is_spelling : Addr
  d_is_spelling : FuncData
  a_check_spelling : Addr
  d_check_spelling : FuncData
  a_rule_at : Addr
  d_rule_at : FuncData
  a_pieces_of : Addr
  d_pieces_of : FuncData
  a_broken : Addr
  d_broken : FuncData
  a__law_tape : Addr
  d__law_tape : FuncData
  a__law_draw : Addr
  d__law_draw : FuncData
  a__law_pick : Addr
  d__law_pick : FuncData
  a__law_same : Addr
  d__law_same : FuncData
  a__law_string : Addr
  d__law_string : FuncData
  a__law_rules : Addr
  d__law_rules : FuncData
  a__law_broken : Addr
  d__law_broken : FuncData
  a__law_some_places : Addr
  d__law_some_places : FuncData
  a__law_call : Addr
  d__law_call : FuncData
  a_law : Addr
  d_law : FuncData
  C_BadTongue : Addr
  i_BadTongue : Addr
  e_BadTongue : FuncData
  C_BadWord : Addr
  F_is_part : Fun K "is_part" "is_part" s_is_part a_is_part d_is_part
  m_is_part : mg "is_part" = some (.ref a_is_part)
  b_is_part : Binds K d_is_part ["value", "low", "high"] []
  F_is_integer : Fun K "is_integer" "is_integer" s_is_integer a_is_integer d_is_integer
  m_is_integer : mg "is_integer" = some (.ref a_is_integer)
  b_is_integer : Binds K d_is_integer ["value", "low", "high"] []
  F_is_word : Fun K "is_word" "is_word" s_is_word a_is_word d_is_word
  m_is_word : mg "is_word" = some (.ref a_is_word)
  b_is_word : Binds K d_is_word ["value"] []
  F_is_places : Fun K "is_places" "is_places" s_is_places a_is_places d_is_places
  m_is_places : mg "is_places" = some (.ref a_is_places)
  b_is_places : Binds K d_is_places ["word", "value"] []
  F_is_rule : Fun K "is_rule" "is_rule" s_is_rule a_is_rule d_is_rule
  m_is_rule : mg "is_rule" = some (.ref a_is_rule)
  b_is_rule : Binds K d_is_rule ["value"] []
  F_is_spelling : Fun K "is_spelling" "is_spelling" s_is_spelling a_is_spelling d_is_spelling
  m_is_spelling : mg "is_spelling" = some (.ref a_is_spelling)
  b_is_spelling : Binds K d_is_spelling ["value"] []
  F_check_spelling : Fun K "check_spelling" "check_spelling" s_check_spelling a_check_spelling d_check_spelling
  m_check_spelling : mg "check_spelling" = some (.ref a_check_spelling)
  b_check_spelling : Binds K d_check_spelling ["value"] []
  F_rule_at : Fun K "rule_at" "rule_at" s_rule_at a_rule_at d_rule_at
  m_rule_at : mg "rule_at" = some (.ref a_rule_at)
  b_rule_at : Binds K d_rule_at ["spelling", "ahead", "behind"] []
  F_pieces_of : Fun K "pieces_of" "pieces_of" s_pieces_of a_pieces_of d_pieces_of
  m_pieces_of : mg "pieces_of" = some (.ref a_pieces_of)
  b_pieces_of : Binds K d_pieces_of ["spelling", "word", "places"] []
  F_broken : Fun K "broken" "broken" s_broken a_broken d_broken
  m_broken : mg "broken" = some (.ref a_broken)
  b_broken : Binds K d_broken ["spelling", "word", "places"] []
  F__law_tape : Fun K "_law_tape" "_law_tape" s__law_tape a__law_tape d__law_tape
  m__law_tape : mg "_law_tape" = some (.ref a__law_tape)
  b__law_tape : Binds K d__law_tape ["script"] []
  F__law_draw : Fun K "_law_draw" "_law_draw" s__law_draw a__law_draw d__law_draw
  m__law_draw : mg "_law_draw" = some (.ref a__law_draw)
  b__law_draw : Binds K d__law_draw ["tape", "many"] []
  F__law_pick : Fun K "_law_pick" "_law_pick" s__law_pick a__law_pick d__law_pick
  m__law_pick : mg "_law_pick" = some (.ref a__law_pick)
  b__law_pick : Binds K d__law_pick ["tape", "row"] []
  F__law_same : Fun K "_law_same" "_law_same" s__law_same a__law_same d__law_same
  m__law_same : mg "_law_same" = some (.ref a__law_same)
  b__law_same : Binds K d__law_same ["told", "due"] []
  F__law_string : Fun K "_law_string" "_law_string" s__law_string a__law_string d__law_string
  m__law_string : mg "_law_string" = some (.ref a__law_string)
  b__law_string : Binds K d__law_string ["tape", "letters", "low", "high"] []
  F__law_rules : Fun K "_law_rules" "_law_rules" s__law_rules a__law_rules d__law_rules
  m__law_rules : mg "_law_rules" = some (.ref a__law_rules)
  b__law_rules : Binds K d__law_rules ["tape", "most"] []
  F__law_broken : Fun K "_law_broken" "_law_broken" s__law_broken a__law_broken d__law_broken
  m__law_broken : mg "_law_broken" = some (.ref a__law_broken)
  b__law_broken : Binds K d__law_broken ["spelling", "word", "places"] []
  F__law_some_places : Fun K "_law_some_places" "_law_some_places" s__law_some_places a__law_some_places d__law_some_places
  m__law_some_places : mg "_law_some_places" = some (.ref a__law_some_places)
  b__law_some_places : Binds K d__law_some_places ["tape", "word"] []
  F__law_call : Fun K "_law_call" "_law_call" s__law_call a__law_call d__law_call
  m__law_call : mg "_law_call" = some (.ref a__law_call)
  b__law_call : Binds K d__law_call ["spelling", "word", "places"] []
  F_law : Fun K "law" "law" s_law a_law d_law
  m_law : mg "law" = some (.ref a_law)
  b_law : Binds K d_law ["script"] []
  FI_BadTongue : Fun K "__init__" "BadTongue.__init__" si_BadTongue i_BadTongue e_BadTongue
  x_BadTongue : ExI K mg "BadTongue" C_BadTongue i_BadTongue e_BadTongue ["self", "kind", "name"]
  xf_BadTongue : XfC K C_BadTongue
  nf_BadTongue_kind : PySem.W.findIn K (.ref C_BadTongue) "kind" = some none
  nf_BadTongue_name : PySem.W.findIn K (.ref C_BadTongue) "name" = some none
  x_BadWord : ExC K mg "BadWord" C_BadWord
  g_MOST_LETTERS : GlD K mg "MOST_LETTERS" d_MOST_LETTERS
  g_LETTERS_sounds : GlD K mg "LETTERS_sounds" d_LETTERS_sounds
  g_LETTERS_words : GlD K mg "LETTERS_words" d_LETTERS_words
  g_MOST_RULES : GlD K mg "MOST_RULES" d_MOST_RULES
  g_PLAIN : GlD K mg "PLAIN" d_PLAIN
  z_abs : mg "abs" = none
  z_all : mg "all" = none
  z_bool : mg "bool" = none
  z_enumerate : mg "enumerate" = none
  z_int : mg "int" = none
  z_isinstance : mg "isinstance" = none
  z_len : mg "len" = none
  z_list : mg "list" = none
  z_range : mg "range" = none
  z_str : mg "str" = none
  z_tuple : mg "tuple" = none
  z_zip : mg "zip" = none
  sub_ok : SubT K (fun x => if x = "BadTongue" then some (.ref C_BadTongue) else if x = "BadWord" then some (.ref C_BadWord) else none) sub_
def ct {K : Fg} {mg : Str → Option Value} (T : Tx K mg) : String → Option Value := fun x => if x = "BadTongue" then some (.ref T.C_BadTongue) else if x = "BadWord" then some (.ref T.C_BadWord) else none
theorem ct_BadTongue {K : Fg} {mg : Str → Option Value} (T : Tx K mg) : ct T "BadTongue" = some (.ref T.C_BadTongue) := by simp [ct]
theorem ct_BadWord {K : Fg} {mg : Str → Option Value} (T : Tx K mg) : ct T "BadWord" = some (.ref T.C_BadWord) := by simp [ct]
section
variable {P : Program} {w : World} {K : Fg} {mg : Str → Option Value} {base : Heap}
theorem sci_BadTongue : FnScope ["self", "kind", "name"] ["self", "kind", "name"] (defScope si_BadTongue) := ⟨rfl, rfl, rfl, by decide +kernel, rfl, by decide +kernel, by decide +kernel⟩
theorem ok_i_BadTongue (T : Tx K mg) : FnOk P w K mg base (L2.CX P w) 1 T.i_BadTongue T.e_BadTongue ["self", "kind", "name"] (spI2 K T.C_BadTongue "kind" "name") := fn_i2 T.x_BadTongue.o T.nf_BadTongue_kind T.nf_BadTongue_name T.FI_BadTongue sci_BadTongue rfl rfl rfl rfl
theorem sc_is_part : FnScope ["value", "low", "high", "sign"] ["value", "low", "high"] (defScope s_is_part) := ⟨rfl, rfl, rfl, by decide +kernel, rfl, by decide +kernel, by decide +kernel⟩
theorem ok_is_part (T : Tx K mg) : FnOk P w K mg base (L2.CX P w) 1 T.a_is_part T.d_is_part ["value", "low", "high"] (spP K (ct T) 3 m_is_part) :=
  fn_p T.F_is_part sc_is_part rfl rfl fun cdv A outer s H E hr =>
    (dss_one (ds_ret (de_and (de_isi (de_var 0) T.z_isinstance T.z_str bt_str) (de_and (de_chain od_le od_le (de_var 1) (de_callB cd_len T.z_len bt_len (da_cons (de_var 0) da_nil)) (de_var 2)) (de_one (de_callB (cd_all rfl) T.z_all bt_all (da_cons (de_n (dn_lc (own := [("sign", 3)]) rfl sc_is_part.nd (di_seq (de_var 0)) (blkOk_by (by kernel_rfl)) (by decide) (fun _ _ _ _ _ => (dg_name 3 sc_is_part.nd)) (fun _ _ _ _ _ => dts_nil) (fun _ _ _ _ _ => (de_cmp (od_in (hu65 hr)) (de_var 3) (de_glob T.g_LETTERS_sounds))))) da_nil)))))))
theorem sc_is_integer : FnScope ["value", "low", "high"] ["value", "low", "high"] (defScope s_is_integer) := ⟨rfl, rfl, rfl, by decide +kernel, rfl, by decide +kernel, by decide +kernel⟩
theorem ok_is_integer (T : Tx K mg) : FnOk P w K mg base (L2.CX P w) 1 T.a_is_integer T.d_is_integer ["value", "low", "high"] (spP K (ct T) 3 m_is_integer) :=
  fn_p T.F_is_integer sc_is_integer rfl rfl fun cdv A outer s H E hr =>
    (dss_one (ds_ret (de_and (de_isi (de_var 0) T.z_isinstance T.z_int bt_int) (de_and (de_not (de_isi (de_var 0) T.z_isinstance T.z_bool bt_bool)) (de_one (de_chain od_le od_le (de_var 1) (de_var 0) (de_var 2)))))))
theorem sc_is_word : FnScope ["value", "sign"] ["value"] (defScope s_is_word) := ⟨rfl, rfl, rfl, by decide +kernel, rfl, by decide +kernel, by decide +kernel⟩
theorem ok_is_word (T : Tx K mg) : FnOk P w K mg base (L2.CX P w) 1 T.a_is_word T.d_is_word ["value"] (spP K (ct T) 1 m_is_word) :=
  fn_p T.F_is_word sc_is_word rfl rfl fun cdv A outer s H E hr =>
    (dss_cons (ds_if (L2.PW.pt (dw_or (dt_not (dt_truth (de_isi (de_var 0) T.z_isinstance T.z_str bt_str))) (dw_or1 (dt_not (dt_chain od_le od_le de_int (de_callB cd_len T.z_len bt_len (da_cons (de_var 0) da_nil)) (de_glob T.g_MOST_LETTERS))))))
    (dss_one (ds_ret de_bl))
    dss_nil)
    (dss_one (ds_ret (de_callB (cd_all rfl) T.z_all bt_all (da_cons (de_n (dn_lc (own := [("sign", 1)]) rfl sc_is_word.nd (di_seq (de_var 0)) (blkOk_by (by kernel_rfl)) (by decide) (fun _ _ _ _ _ => (dg_name 1 sc_is_word.nd)) (fun _ _ _ _ _ => dts_nil) (fun _ _ _ _ _ => (de_cmp (od_in (hu65 hr)) (de_var 1) (de_glob T.g_LETTERS_words))))) da_nil)))))
theorem sc_is_places : FnScope ["word", "value", "place", "one", "other"] ["word", "value"] (defScope s_is_places) := ⟨rfl, rfl, rfl, by decide +kernel, rfl, by decide +kernel, by decide +kernel⟩
theorem ok_is_places (T : Tx K mg) : FnOk P w K mg base (L2.CX P w) 2 T.a_is_places T.d_is_places ["word", "value"] (spP K (ct T) 2 m_is_places) :=
  fn_p T.F_is_places sc_is_places rfl rfl fun cdv A outer s H E hr =>
    (dss_cons (ds_if (L2.PW.pt (dw_or (dt_not (dt_truth (de_isi (de_var 1) T.z_isinstance T.z_tuple bt_tuple))) (dw_or1 (dt_not (dt_truth (de_callB (cd_all rfl) T.z_all bt_all (da_cons (de_n (dn_lc (own := [("place", 2)]) rfl sc_is_places.nd (di_seq (de_var 1)) (blkOk_by (by kernel_rfl)) (by decide) (fun _ _ _ _ _ => (dg_name 2 sc_is_places.nd)) (fun _ _ _ _ _ => dts_nil) (fun _ _ _ _ _ => (de_call (ok_is_integer T) (hr.mono (by decide)) T.m_is_integer T.F_is_integer.kp T.b_is_integer takes_no (da_cons (de_var 2) (da_cons de_int (da_cons (de_op od_sub (de_callB cd_len T.z_len bt_len (da_cons (de_var 0) da_nil)) de_int) da_nil))))))) da_nil)))))))
    (dss_one (ds_ret de_bl))
    dss_nil)
    (dss_one (ds_ret (de_callB (cd_all rfl) T.z_all bt_all (da_cons (de_n (dn_lc (own := [("one", 3), ("other", 4)]) rfl sc_is_places.nd (di_zip T.z_zip (da_cons (de_var 1) (da_cons (de_sl od_sl (de_var 1) (do_some de_int) do_none) da_nil))) (blkOk_by (by kernel_rfl)) (by decide) (fun _ _ _ _ _ => (dg_tup rfl (dgs_cons (dg_name 3 sc_is_places.nd) (dgs_cons (dg_name 4 sc_is_places.nd) dgs_nil)))) (fun _ _ _ _ _ => dts_nil) (fun _ _ _ _ _ => (de_cmp od_lt (de_var 3) (de_var 4))))) da_nil)))))
theorem sc_is_rule : FnScope ["value"] ["value"] (defScope s_is_rule) := ⟨rfl, rfl, rfl, by decide +kernel, rfl, by decide +kernel, by decide +kernel⟩
theorem ok_is_rule (T : Tx K mg) : FnOk P w K mg base (L2.CX P w) 2 T.a_is_rule T.d_is_rule ["value"] (spP K (ct T) 1 m_is_rule) :=
  fn_p T.F_is_rule sc_is_rule rfl rfl fun cdv A outer s H E hr =>
    (dss_cons (ds_if (L2.PW.pt (dw_or (dt_not (dt_truth (de_isi (de_var 0) T.z_isinstance T.z_tuple bt_tuple))) (dw_or (dt_cmp (od_ne (hu64 hr)) (de_callB cd_len T.z_len bt_len (da_cons (de_var 0) da_nil)) de_int) (dw_or (dt_not (dt_truth (de_isi (de_ix od_ix (de_var 0) de_int) T.z_isinstance T.z_str bt_str))) (dw_or1 (dt_cmp (od_ne (hu64 hr)) (de_ix od_ix (de_var 0) de_int) de_str))))))
    (dss_one (ds_ret de_bl))
    dss_nil)
    (dss_cons (ds_if (L2.PW.pt (dw_or (dt_not (dt_truth (de_call (ok_is_part T) (hr.mono (by decide)) T.m_is_part T.F_is_part.kp T.b_is_part (takes_at (takes_of rfl rfl rfl rfl)) (da_cons (de_ix od_ix (de_var 0) de_int) (da_cons de_int (da_cons de_int da_nil)))))) (dw_or (dt_not (dt_truth (de_call (ok_is_part T) (hr.mono (by decide)) T.m_is_part T.F_is_part.kp T.b_is_part (takes_at (takes_of rfl rfl rfl rfl)) (da_cons (de_ix od_ix (de_var 0) de_int) (da_cons de_int (da_cons de_int da_nil)))))) (dw_or1 (dt_cmp (od_eq (hu64 hr)) (de_op od_add (de_ix od_ix (de_var 0) de_int) (de_ix od_ix (de_var 0) de_int)) de_str)))))
    (dss_one (ds_ret de_bl))
    dss_nil)
    (dss_one (ds_ret (de_and (de_call (ok_is_part T) (hr.mono (by decide)) T.m_is_part T.F_is_part.kp T.b_is_part (takes_at (takes_of rfl rfl rfl rfl)) (da_cons (de_ix od_ix (de_var 0) de_int) (da_cons de_int (da_cons de_int da_nil)))) (de_one (de_call (ok_is_part T) (hr.mono (by decide)) T.m_is_part T.F_is_part.kp T.b_is_part (takes_at (takes_of rfl rfl rfl rfl)) (da_cons (de_ix od_ix (de_var 0) de_int) (da_cons de_int (da_cons de_int da_nil))))))))))
theorem sc_is_spelling : FnScope ["value", "rule", "k"] ["value"] (defScope s_is_spelling) := ⟨rfl, rfl, rfl, by decide +kernel, rfl, by decide +kernel, by decide +kernel⟩
theorem ok_is_spelling (T : Tx K mg) : FnOk P w K mg base (L2.CX P w) 3 T.a_is_spelling T.d_is_spelling ["value"] (spP K (ct T) 1 m_is_spelling) :=
  fn_p T.F_is_spelling sc_is_spelling rfl rfl fun cdv A outer s H E hr =>
    (dss_cons (ds_if (L2.PW.pt (dw_or (dt_not (dt_truth (de_isi (de_var 0) T.z_isinstance T.z_tuple bt_tuple))) (dw_or (dt_cmp od_gt (de_callB cd_len T.z_len bt_len (da_cons (de_var 0) da_nil)) (de_glob T.g_MOST_RULES)) (dw_or1 (dt_not (dt_truth (de_callB (cd_all rfl) T.z_all bt_all (da_cons (de_n (dn_lc (own := [("rule", 1)]) rfl sc_is_spelling.nd (di_seq (de_var 0)) (blkOk_by (by kernel_rfl)) (by decide) (fun _ _ _ _ _ => (dg_name 1 sc_is_spelling.nd)) (fun _ _ _ _ _ => dts_nil) (fun _ _ _ _ _ => (de_call (ok_is_rule T) (hr.mono (by decide)) T.m_is_rule T.F_is_rule.kp T.b_is_rule takes_no (da_cons (de_var 1) da_nil))))) da_nil))))))))
    (dss_one (ds_ret de_bl))
    dss_nil)
    (dss_one (ds_ret (de_callB (cd_all rfl) T.z_all bt_all (da_cons (de_n (dn_lc (own := [("k", 2)]) rfl sc_is_spelling.nd (di_range1 T.z_range (da_cons (de_callB cd_len T.z_len bt_len (da_cons (de_var 0) da_nil)) da_nil)) (blkOk_by (by kernel_rfl)) (by decide) (fun _ _ _ _ _ => (dg_name 2 sc_is_spelling.nd)) (fun _ _ _ _ _ => dts_nil) (fun _ _ _ _ _ => (de_cmp (od_notIn (hu65 hr)) (de_ix od_ix (de_var 0) (de_var 2)) (de_sl od_sl (de_var 0) do_none (do_some (de_var 2))))))) da_nil)))))
theorem sc_check_spelling : FnScope ["value"] ["value"] (defScope s_check_spelling) := ⟨rfl, rfl, rfl, by decide +kernel, rfl, by decide +kernel, by decide +kernel⟩
theorem ok_check_spelling (T : Tx K mg) : FnOk P w K mg base (L2.CX P w) 4 T.a_check_spelling T.d_check_spelling ["value"] (spP K (ct T) 1 m_check_spelling) :=
  fn_p T.F_check_spelling sc_check_spelling rfl rfl fun cdv A outer s H E hr =>
    (dss_one (ds_if (dt_not (dt_truth (de_call (ok_is_spelling T) (hr.mono (by decide)) T.m_is_spelling T.F_is_spelling.kp T.b_is_spelling (takes_at (takes_of rfl rfl rfl rfl)) (da_cons (de_var 0) da_nil))))
    (dss_one (ds_raise2 (x := "BadTongue") (k := 1) T.x_BadTongue (ok_i_BadTongue T) (hr.mono (by decide)) (ct_BadTongue T) rfl (takes_of rfl rfl rfl rfl) (da_cons de_str (da_cons de_str da_nil))))
    dss_nil))
theorem sc_rule_at : FnScope ["spelling", "ahead", "behind", "rule"] ["spelling", "ahead", "behind"] (defScope s_rule_at) := ⟨rfl, rfl, rfl, by decide +kernel, rfl, by decide +kernel, by decide +kernel⟩
theorem ok_rule_at (T : Tx K mg) : FnOk P w K mg base (L2.CX P w) 1 T.a_rule_at T.d_rule_at ["spelling", "ahead", "behind"] (spP K (ct T) 3 m_rule_at) :=
  fn_p T.F_rule_at sc_rule_at rfl rfl fun cdv A outer s H E hr =>
    (dss_cons (ds_for (passes_of rfl) rfl (di_seq (de_var 0)) (dg_name 3 sc_rule_at.nd)
    (dss_one (ds_if (L2.PW.pt (dw_and (dt_truth (de_meth PySem.F.plainAttrs_str PySem.F.slot_str_endswith PySem.F.type_str_endswith md_ends (de_var 1) (da_cons (de_ix od_ix (de_var 3) de_int) da_nil))) (dw_and1 (dt_truth (de_meth PySem.F.plainAttrs_str PySem.F.slot_str_startswith PySem.F.type_str_startswith md_starts (de_var 2) (da_cons (de_ix od_ix (de_var 3) de_int) da_nil))))))
    (dss_one (ds_ret (de_var 3)))
    dss_nil)))
    (dss_one (ds_ret (de_glob T.g_PLAIN))))
theorem sc_pieces_of : FnScope ["spelling", "word", "places", "found", "low", "piece", "k", "place", "high", "rule"] ["spelling", "word", "places"] (defScope s_pieces_of) := ⟨rfl, rfl, rfl, by decide +kernel, rfl, by decide +kernel, by decide +kernel⟩
theorem ok_pieces_of (T : Tx K mg) : FnOk P w K mg base (L2.CX P w) 2 T.a_pieces_of T.d_pieces_of ["spelling", "word", "places"] (spP K (ct T) 3 m_pieces_of) :=
  fn_p T.F_pieces_of sc_pieces_of rfl rfl fun cdv A outer s H E hr =>
    (dss_cons (ds_new 3 (dn_lst da_nil) sc_pieces_of.nd)
    (dss_cons (ds_asg de_int (dg_name 4 sc_pieces_of.nd))
    (dss_cons (ds_asg de_str (dg_name 5 sc_pieces_of.nd))
    (dss_cons (ds_for (passes_of rfl) rfl (di_enum T.z_enumerate (da_cons (de_var 2) da_nil)) (dg_tup rfl (dgs_cons (dg_name 6 sc_pieces_of.nd) (dgs_cons (dg_name 7 sc_pieces_of.nd) dgs_nil)))
    (dss_cons (ds_asg (de_callB cd_len T.z_len bt_len (da_cons (de_var 1) da_nil)) (dg_name 8 sc_pieces_of.nd))
    (dss_cons (ds_if (dt_cmp od_lt (de_op od_add (de_var 6) de_int) (de_callB cd_len T.z_len bt_len (da_cons (de_var 2) da_nil)))
    (dss_one (ds_asg (de_ix od_ix (de_var 2) (de_op od_add (de_var 6) de_int)) (dg_name 8 sc_pieces_of.nd)))
    dss_nil)
    (dss_cons (ds_asg (de_call (ok_rule_at T) (hr.mono (by decide)) T.m_rule_at T.F_rule_at.kp T.b_rule_at (takes_at (takes_of rfl rfl rfl rfl)) (da_cons (de_var 0) (da_cons (de_sl od_sl (de_var 1) (do_some (de_var 4)) (do_some (de_var 7))) (da_cons (de_sl od_sl (de_var 1) (do_some (de_var 7)) (do_some (de_var 8))) da_nil)))) (dg_name 9 sc_pieces_of.nd))
    (dss_cons (ds_app 3 (de_op od_add (de_op od_add (de_var 5) (de_sl od_sl (de_var 1) (do_some (de_var 4)) (do_some (de_op od_sub (de_var 7) (de_callB cd_len T.z_len bt_len (da_cons (de_ix od_ix (de_var 9) de_int) da_nil)))))) (de_ix od_ix (de_var 9) de_int)))
    (dss_cons (ds_asg (de_ix od_ix (de_var 9) de_int) (dg_name 5 sc_pieces_of.nd))
    (dss_one (ds_asg (de_op od_add (de_var 7) (de_callB cd_len T.z_len bt_len (da_cons (de_ix od_ix (de_var 9) de_int) da_nil))) (dg_name 4 sc_pieces_of.nd)))))))))
    (dss_cons (ds_app 3 (de_op od_add (de_var 5) (de_sl od_sl (de_var 1) (do_some (de_var 4)) do_none)))
    (dss_one (ds_ret (de_callTy cd_tuple T.z_tuple bt_tuple (da_cons (de_var 3) da_nil)))))))))
theorem sc_broken : FnScope ["spelling", "word", "places"] ["spelling", "word", "places"] (defScope s_broken) := ⟨rfl, rfl, rfl, by decide +kernel, rfl, by decide +kernel, by decide +kernel⟩
theorem ok_broken (T : Tx K mg) : FnOk P w K mg base (L2.CX P w) 5 T.a_broken T.d_broken ["spelling", "word", "places"] (spP K (ct T) 3 m_broken) :=
  fn_p T.F_broken sc_broken rfl rfl fun cdv A outer s H E hr =>
    (dss_cons (ds_expr (de_call (ok_check_spelling T) (hr.mono (by decide)) T.m_check_spelling T.F_check_spelling.kp T.b_check_spelling (takes_at (takes_of rfl rfl rfl rfl)) (da_cons (de_var 0) da_nil)))
    (dss_cons (ds_if (L2.PW.pt (dw_or (dt_not (dt_truth (de_call (ok_is_word T) (hr.mono (by decide)) T.m_is_word T.F_is_word.kp T.b_is_word (takes_at (takes_of rfl rfl rfl rfl)) (da_cons (de_var 1) da_nil)))) (dw_or1 (dt_not (dt_truth (de_call (ok_is_places T) (hr.mono (by decide)) T.m_is_places T.F_is_places.kp T.b_is_places (takes_at (takes_of rfl rfl rfl rfl)) (da_cons (de_var 1) (da_cons (de_var 2) da_nil))))))))
    (dss_one (ds_raise0 (x := "BadWord") T.x_BadWord (ct_BadWord T) rfl (takes_of rfl rfl rfl rfl)))
    dss_nil)
    (dss_one (ds_ret (de_call (ok_pieces_of T) (hr.mono (by decide)) T.m_pieces_of T.F_pieces_of.kp T.b_pieces_of (takes_at (takes_of rfl rfl rfl rfl)) (da_cons (de_var 0) (da_cons (de_var 1) (da_cons (de_var 2) da_nil))))))))
theorem sc__law_tape : FnScope ["script", "seed", "cell"] ["script"] (defScope s__law_tape) := ⟨rfl, rfl, rfl, by decide +kernel, rfl, by decide +kernel, by decide +kernel⟩
theorem ok__law_tape (T : Tx K mg) : FnOk P w K mg base (L2.CX P w) 1 T.a__law_tape T.d__law_tape ["script"] (spP K (ct T) 1 m__law_tape) :=
  fn_p T.F__law_tape sc__law_tape rfl rfl fun cdv A outer s H E hr =>
    (dss_cons (ds_asg de_int (dg_name 1 sc__law_tape.nd))
    (dss_cons (ds_for (passes_of rfl) rfl (di_seq (de_var 0)) (dg_name 2 sc__law_tape.nd)
    (dss_one (ds_asg (de_op od_mod (de_callTy cd_int T.z_int bt_int (da_cons (de_op od_add (de_op od_mul (de_var 1) de_int) (de_var 2)) da_nil)) de_int) (dg_name 1 sc__law_tape.nd))))
    (dss_one (ds_retTape (dn_lc (own := [("cell", 2)]) rfl sc__law_tape.nd (di_seq (de_var 0)) (blkOk_by (by kernel_rfl)) (by decide) (fun _ _ _ _ _ => (dg_name 2 sc__law_tape.nd)) (fun _ _ _ _ _ => dts_nil) (fun _ _ _ _ _ => (de_callB cd_abs T.z_abs bt_abs (da_cons (de_callTy cd_int T.z_int bt_int (da_cons (de_var 2) da_nil)) da_nil)))) (de_op od_add (de_var 1) de_int)))))
theorem sc__law_draw : FnScope ["tape", "many", "cells", "number"] ["tape", "many"] (defScope s__law_draw) := ⟨rfl, rfl, rfl, by decide +kernel, rfl, by decide +kernel, by decide +kernel⟩
theorem ok__law_draw (T : Tx K mg) : FnOk P w K mg base (L2.CX P w) 1 T.a__law_draw T.d__law_draw ["tape", "many"] (spO K (ct T) 1 m__law_draw) :=
  fn_d (j := 2) T.F__law_draw sc__law_draw rfl rfl draw_ok draw_ok2 draw_ok3 fun cdv A outer s H E hr =>
    (dss_cons (ds_tpC 0 2 sc__law_draw.nd)
    (dss_cons (ds_while tpFuel (passes_of rfl) (L2.PW.pt (dw_and (dt_cmp od_gt (de_tpLen 0 2 T.z_len) de_int) (dw_and1 (dt_cmp (od_eq (hu64 hr)) (de_tpAt 0 2) de_int)))) (dss_one (ds_tpPop 0 2)))
    (dss_cons (ds_if (dt_cmp od_gt (de_tpLen 0 2 T.z_len) de_int) (dss_cons (ds_asg (de_tpAt 0 2) (dg_name 3 sc__law_draw.nd)) (dss_cons (ds_tpSet 0 2 (de_op od_fdiv (de_var 3) (de_var 1))) (dss_one (ds_ret (de_op od_mod (de_callTy cd_int T.z_int bt_int (da_cons (de_var 3) da_nil)) (de_var 1)))))) dss_nil)
    (dss_cons (ds_tpSeed 0 (de_op od_mod (de_callTy cd_int T.z_int bt_int (da_cons (de_op od_add (de_op od_mul (de_tpSeed 0) de_int) de_int) da_nil)) de_int))
    (dss_one (ds_ret (de_op od_mod (de_callTy cd_int T.z_int bt_int (da_cons (de_op od_fdiv (de_tpSeed 0) de_int) da_nil)) (de_var 1))))))))
theorem sc__law_pick : FnScope ["tape", "row"] ["tape", "row"] (defScope s__law_pick) := ⟨rfl, rfl, rfl, by decide +kernel, rfl, by decide +kernel, by decide +kernel⟩
theorem ok__law_pick (T : Tx K mg) : FnOk P w K mg base (L2.CX P w) 2 T.a__law_pick T.d__law_pick ["tape", "row"] (spO K (ct T) 1 m__law_pick) :=
  fn_o T.F__law_pick sc__law_pick rfl rfl fun cdv A outer s H E hr =>
    (dss_one (ds_ret (de_ix od_ix (de_var 1) (de_callO 0 (ok__law_draw T) (hr.mono (by decide)) T.m__law_draw T.F__law_draw.kp T.b__law_draw (takes_at (takes_of rfl rfl rfl rfl)) (da_cons (de_callB cd_len T.z_len bt_len (da_cons (de_var 1) da_nil)) da_nil)))))
theorem sc__law_same : FnScope ["told", "due", "k"] ["told", "due"] (defScope s__law_same) := ⟨rfl, rfl, rfl, by decide +kernel, rfl, by decide +kernel, by decide +kernel⟩
theorem ok__law_same (T : Tx K mg) : ∀ n, FnOk P w K mg base (L2.CX P w) n T.a__law_same T.d__law_same ["told", "due"] (spP K (ct T) 2 (m__law_same n))
  | 0 => fn_0 rfl
  | n + 1 => fn_p T.F__law_same sc__law_same rfl rfl fun cdv A outer s H E hr => by
    have ih : FnOk P w K mg base (L2.CX P w) n T.a__law_same T.d__law_same ["told", "due"] (spP K (ct T) 2 (m__law_same n)) := ok__law_same T n
    exact (dss_cons (ds_if (dt_cmp od_is (de_var 1) de_non)
    (dss_one (ds_ret (de_cmp od_is (de_var 0) de_non)))
    dss_nil)
    (dss_cons (ds_if (dt_truth (de_isi (de_var 1) T.z_isinstance T.z_bool bt_bool))
    (dss_one (ds_ret (de_and (de_isi (de_var 0) T.z_isinstance T.z_bool bt_bool) (de_one (de_cmp (od_eq (hu64 hr)) (de_var 0) (de_var 1))))))
    dss_nil)
    (dss_cons (ds_if (dt_truth (de_isi (de_var 1) T.z_isinstance T.z_int bt_int))
    (dss_one (ds_ret (de_and (de_isi (de_var 0) T.z_isinstance T.z_int bt_int) (de_and (de_not (de_isi (de_var 0) T.z_isinstance T.z_bool bt_bool)) (de_one (de_cmp (od_eq (hu64 hr)) (de_var 0) (de_var 1)))))))
    dss_nil)
    (dss_cons (ds_if (dt_truth (de_isi (de_var 1) T.z_isinstance T.z_str bt_str))
    (dss_one (ds_ret (de_and (de_isi (de_var 0) T.z_isinstance T.z_str bt_str) (de_one (de_cmp (od_eq (hu64 hr)) (de_var 0) (de_var 1))))))
    dss_nil)
    (dss_cons (ds_if (L2.PW.pt (dw_or (dt_cmp (od_ne (hu64 hr)) (de_isi (de_var 1) T.z_isinstance T.z_tuple bt_tuple) (de_isi (de_var 0) T.z_isinstance T.z_tuple bt_tuple)) (dw_or1 (dt_cmp (od_ne (hu64 hr)) (de_isi (de_var 1) T.z_isinstance T.z_list bt_list) (de_isi (de_var 0) T.z_isinstance T.z_list bt_list)))))
    (dss_one (ds_ret de_bl))
    dss_nil)
    (dss_cons (ds_if (L2.PW.pt (dw_or (dt_not (dt_truth (de_isi2 (de_var 0) T.z_isinstance T.z_tuple bt_tuple T.z_list bt_list))) (dw_or1 (dt_cmp (od_ne (hu64 hr)) (de_callB cd_len T.z_len bt_len (da_cons (de_var 0) da_nil)) (de_callB cd_len T.z_len bt_len (da_cons (de_var 1) da_nil))))))
    (dss_one (ds_ret de_bl))
    dss_nil)
    (dss_one (ds_ret (de_cmp (od_notIn (hu65 hr)) de_bl (de_n (dn_lc (own := [("k", 2)]) rfl sc__law_same.nd (di_range1 T.z_range (da_cons (de_callB cd_len T.z_len bt_len (da_cons (de_var 1) da_nil)) da_nil)) (blkOk_by (by kernel_rfl)) (by decide) (fun _ _ _ _ _ => (dg_name 2 sc__law_same.nd)) (fun _ _ _ _ _ => dts_nil) (fun _ _ _ _ _ => (de_call ih hr T.m__law_same T.F__law_same.kp T.b__law_same takes_no (da_cons (de_ix od_ix (de_var 0) (de_var 2)) (da_cons (de_ix od_ix (de_var 1) (de_var 2)) da_nil)))))))))))))))
theorem sc__law_string : FnScope ["tape", "letters", "low", "high", "k"] ["tape", "letters", "low", "high"] (defScope s__law_string) := ⟨rfl, rfl, rfl, by decide +kernel, rfl, by decide +kernel, by decide +kernel⟩
theorem ok__law_string (T : Tx K mg) : FnOk P w K mg base (L2.CX P w) 2 T.a__law_string T.d__law_string ["tape", "letters", "low", "high"] (spO K (ct T) 3 m__law_string) :=
  fn_o T.F__law_string sc__law_string rfl rfl fun cdv A outer s H E hr =>
    (dss_one (ds_ret (de_meth PySem.F.plainAttrs_str PySem.F.slot_str_join PySem.F.type_str_join md_join de_str (da_cons (de_n (dn_lc (own := [("k", 4)]) rfl sc__law_string.nd (di_range1 T.z_range (da_cons (de_op od_add (de_var 2) (de_callO 0 (ok__law_draw T) (hr.mono (by decide)) T.m__law_draw T.F__law_draw.kp T.b__law_draw (takes_at (takes_of rfl rfl rfl rfl)) (da_cons (de_op od_add (de_op od_sub (de_var 3) (de_var 2)) de_int) da_nil))) da_nil)) (blkOk_by (by kernel_rfl)) (by decide) (fun _ _ _ _ _ => (dg_name 4 sc__law_string.nd)) (fun _ _ _ _ _ => dts_nil) (fun _ _ _ _ _ => (de_ix od_ix (de_var 1) (de_callO 0 (ok__law_draw T) (hr.mono (by decide)) T.m__law_draw T.F__law_draw.kp T.b__law_draw takes_no (da_cons (de_callB cd_len T.z_len bt_len (da_cons (de_var 1) da_nil)) da_nil)))))) da_nil))))
theorem sc__law_rules : FnScope ["tape", "most", "rules", "k", "before", "after", "rule"] ["tape", "most"] (defScope s__law_rules) := ⟨rfl, rfl, rfl, by decide +kernel, rfl, by decide +kernel, by decide +kernel⟩
theorem ok__law_rules (T : Tx K mg) : FnOk P w K mg base (L2.CX P w) 3 T.a__law_rules T.d__law_rules ["tape", "most"] (spO K (ct T) 1 m__law_rules) :=
  fn_o T.F__law_rules sc__law_rules rfl rfl fun cdv A outer s H E hr =>
    (dss_cons (ds_new 2 (dn_lst da_nil) sc__law_rules.nd)
    (dss_cons (ds_for (passes_of rfl) rfl (di_range1 T.z_range (da_cons (de_callO 0 (ok__law_draw T) (hr.mono (by decide)) T.m__law_draw T.F__law_draw.kp T.b__law_draw (takes_at (takes_of rfl rfl rfl rfl)) (da_cons (de_op od_add (de_var 1) de_int) da_nil)) da_nil)) (dg_name 3 sc__law_rules.nd)
    (dss_cons (ds_par 4 5 rfl sc__law_rules.nd (da_cons (de_callO 0 (ok__law_string T) (hr.mono (by decide)) T.m__law_string T.F__law_string.kp T.b__law_string (takes_at (takes_of rfl rfl rfl rfl)) (da_cons de_str (da_cons de_int (da_cons de_int da_nil)))) (da_cons (de_callO 0 (ok__law_string T) (hr.mono (by decide)) T.m__law_string T.F__law_string.kp T.b__law_string (takes_at (takes_of rfl rfl rfl rfl)) (da_cons de_str (da_cons de_int (da_cons de_int da_nil)))) da_nil)))
    (dss_cons (ds_if (dt_cmp (od_eq (hu64 hr)) (de_op od_add (de_var 4) (de_var 5)) de_str)
    (dss_one (ds_asg de_str (dg_name 4 sc__law_rules.nd)))
    dss_nil)
    (dss_cons (ds_asg (de_tup (da_cons de_str (da_cons (de_var 4) (da_cons (de_var 5) (da_cons (de_callO 0 (ok__law_string T) (hr.mono (by decide)) T.m__law_string T.F__law_string.kp T.b__law_string (takes_at (takes_of rfl rfl rfl rfl)) (da_cons de_str (da_cons de_int (da_cons de_int da_nil)))) (da_cons (de_callO 0 (ok__law_string T) (hr.mono (by decide)) T.m__law_string T.F__law_string.kp T.b__law_string (takes_at (takes_of rfl rfl rfl rfl)) (da_cons de_str (da_cons de_int (da_cons de_int da_nil)))) da_nil)))))) (dg_name 6 sc__law_rules.nd))
    (dss_one (ds_if (dt_cmp (od_notIn (hu65 hr)) (de_var 6) (de_var 2))
    (dss_one (ds_app 2 (de_var 6)))
    dss_nil))))))
    (dss_one (ds_ret (de_callTy cd_tuple T.z_tuple bt_tuple (da_cons (de_var 2) da_nil))))))
theorem sc__law_broken : FnScope ["spelling", "word", "places", "found", "ahead", "taken", "marks", "k", "place", "rule", "one"] ["spelling", "word", "places"] (defScope s__law_broken) := ⟨rfl, rfl, rfl, by decide +kernel, rfl, by decide +kernel, by decide +kernel⟩
theorem ok__law_broken (T : Tx K mg) : FnOk P w K mg base (L2.CX P w) 1 T.a__law_broken T.d__law_broken ["spelling", "word", "places"] (spP K (ct T) 3 m__law_broken) :=
  fn_p T.F__law_broken sc__law_broken rfl rfl fun cdv A outer s H E hr =>
    (dss_cons (ds_new 3 (dn_lst da_nil) sc__law_broken.nd)
    (dss_cons (ds_asg (de_tup (da_cons de_str (da_cons de_int da_nil))) (dg_tup rfl (dgs_cons (dg_name 4 sc__law_broken.nd) (dgs_cons (dg_name 5 sc__law_broken.nd) dgs_nil))))
    (dss_cons (ds_asg (de_op od_add (de_n (dn_callTy cn_list T.z_list bt_list (da_cons (de_var 2) da_nil))) (de_n (dn_lst (da_cons (de_callB cd_len T.z_len bt_len (da_cons (de_var 1) da_nil)) da_nil)))) (dg_name 6 sc__law_broken.nd))
    (dss_cons (ds_for (passes_of rfl) rfl (di_range1 T.z_range (da_cons (de_callB cd_len T.z_len bt_len (da_cons (de_var 2) da_nil)) da_nil)) (dg_name 7 sc__law_broken.nd)
    (dss_cons (ds_asg (de_ix od_ix (de_var 6) (de_var 7)) (dg_name 8 sc__law_broken.nd))
    (dss_cons (ds_asg (de_tup (da_cons de_str (da_cons de_str (da_cons de_str (da_cons de_str (da_cons de_str da_nil)))))) (dg_name 9 sc__law_broken.nd))
    (dss_cons (ds_for (passes_of rfl) rfl (di_seq (de_rev (de_var 0))) (dg_name 10 sc__law_broken.nd)
    (dss_one (ds_if (L2.PW.pt (dw_and (dt_truth (de_meth PySem.F.plainAttrs_str PySem.F.slot_str_endswith PySem.F.type_str_endswith md_ends (de_sl od_sl (de_var 1) (do_some (de_var 5)) (do_some (de_var 8))) (da_cons (de_ix od_ix (de_var 10) de_int) da_nil))) (dw_and1 (dt_truth (de_meth PySem.F.plainAttrs_str PySem.F.slot_str_startswith PySem.F.type_str_startswith md_starts (de_sl od_sl (de_var 1) (do_some (de_var 8)) (do_some (de_ix od_ix (de_var 6) (de_op od_add (de_var 7) de_int)))) (da_cons (de_ix od_ix (de_var 10) de_int) da_nil))))))
    (dss_one (ds_asg (de_var 10) (dg_name 9 sc__law_broken.nd)))
    dss_nil)))
    (dss_cons (ds_app 3 (de_op od_add (de_op od_add (de_var 4) (de_sl od_sl (de_var 1) (do_some (de_var 5)) (do_some (de_op od_sub (de_var 8) (de_callB cd_len T.z_len bt_len (da_cons (de_ix od_ix (de_var 9) de_int) da_nil)))))) (de_ix od_ix (de_var 9) de_int)))
    (dss_one (ds_par 4 5 rfl sc__law_broken.nd (da_cons (de_ix od_ix (de_var 9) de_int) (da_cons (de_op od_add (de_var 8) (de_callB cd_len T.z_len bt_len (da_cons (de_ix od_ix (de_var 9) de_int) da_nil))) da_nil)))))))))
    (dss_one (ds_ret (de_callTy cd_tuple T.z_tuple bt_tuple (da_cons (de_op od_add (de_var 3) (de_n (dn_lst (da_cons (de_op od_add (de_var 4) (de_sl od_sl (de_var 1) (do_some (de_var 5)) do_none)) da_nil)))) da_nil))))))))
theorem sc__law_some_places : FnScope ["tape", "word", "place"] ["tape", "word"] (defScope s__law_some_places) := ⟨rfl, rfl, rfl, by decide +kernel, rfl, by decide +kernel, by decide +kernel⟩
theorem ok__law_some_places (T : Tx K mg) : FnOk P w K mg base (L2.CX P w) 2 T.a__law_some_places T.d__law_some_places ["tape", "word"] (spO K (ct T) 1 m__law_some_places) :=
  fn_o T.F__law_some_places sc__law_some_places rfl rfl fun cdv A outer s H E hr =>
    (dss_one (ds_ret (de_callTy cd_tuple T.z_tuple bt_tuple (da_cons (de_n (dn_lc (own := [("place", 2)]) rfl sc__law_some_places.nd (di_range2 T.z_range (da_cons de_int (da_cons (de_callB cd_len T.z_len bt_len (da_cons (de_var 1) da_nil)) da_nil))) (blkOk_by (by kernel_rfl)) (by decide) (fun _ _ _ _ _ => (dg_name 2 sc__law_some_places.nd)) (fun _ _ _ _ _ => (dts_one (dt_cmp (od_eq (hu64 hr)) (de_callO 0 (ok__law_draw T) (hr.mono (by decide)) T.m__law_draw T.F__law_draw.kp T.b__law_draw takes_no (da_cons de_int da_nil)) de_int))) (fun _ _ _ _ _ => (de_var 2)))) da_nil))))
theorem sc__law_call : FnScope ["spelling", "word", "places", "told", "error"] ["spelling", "word", "places"] (defScope s__law_call) := ⟨rfl, rfl, rfl, by decide +kernel, rfl, by decide +kernel, by decide +kernel⟩
theorem ok__law_call (T : Tx K mg) : FnOk P w K mg base (L2.CX P w) 6 T.a__law_call T.d__law_call ["spelling", "word", "places"] (spP K (ct T) 3 m__law_call) :=
  fn_p T.F__law_call sc__law_call rfl rfl fun cdv A outer s H E hr =>
    (dss_cons (ds_tryM rfl rfl sc__law_call.nd (takes_of rfl rfl rfl rfl) (fun W pn xe tk hp => (dss_one (ds_asg (de_call (ok_broken T) (hr.mono (by decide)) T.m_broken T.F_broken.kp T.b_broken (takes_at tk) (da_cons (de_var 0) (da_cons (de_var 1) (da_cons (de_var 2) da_nil)))) (dg_name 3 sc__law_call.nd))))
    (dh_cons T.sub_ok (ct_BadWord T) T.x_BadWord.g (fun _ _ _ => (dss_one (ds_ret de_str)))
    (dh_named 4 T.sub_ok (ct_BadTongue T) T.x_BadTongue.g (dx_fld T.xf_BadTongue (ct_BadTongue T) T.nf_BadTongue_kind)
    dh_nil)))
    (dss_one (ds_ret (de_var 3))))
theorem sc_law : FnScope ["script", "tape", "turn", "spelling", "k", "word", "places", "rule", "wrong", "letter", "none", "odd"] ["script"] (defScope s_law) := ⟨rfl, rfl, rfl, by decide +kernel, rfl, by decide +kernel, by decide +kernel⟩
theorem ok_law (T : Tx K mg) : FnOk P w K mg base (L2.CX P w) 7 T.a_law T.d_law ["script"] (spP K (ct T) 1 m_law) :=
  fn_p T.F_law sc_law rfl rfl fun cdv A outer s H E hr =>
    (dss_cons (ds_callN 1 (ok__law_tape T) (hr.mono (by decide)) T.m__law_tape T.F__law_tape.kp T.b__law_tape (takes_at (takes_of rfl rfl rfl rfl)) (da_cons (de_var 0) da_nil) sc_law.nd)
    (dss_cons (ds_if (dt_not (dt_truth (de_call (ok__law_same T 5) (hr.mono (by decide)) T.m__law_same T.F__law_same.kp T.b__law_same (takes_at (takes_of rfl rfl rfl rfl)) (da_cons (de_glob T.g_MOST_RULES) (da_cons de_int da_nil)))))
    (dss_one (ds_ret de_bl))
    dss_nil)
    (dss_cons (ds_for (passes_of rfl) rfl (di_range1 T.z_range (da_cons de_int da_nil)) (dg_name 2 sc_law.nd)
    (dss_cons (ds_asg (de_callO 1 (ok__law_rules T) (hr.mono (by decide)) T.m__law_rules T.F__law_rules.kp T.b__law_rules (takes_at (takes_of rfl rfl rfl rfl)) (da_cons de_int da_nil)) (dg_name 3 sc_law.nd))
    (dss_cons (ds_if (dt_not (dt_truth (de_call (ok__law_same T 5) (hr.mono (by decide)) T.m__law_same T.F__law_same.kp T.b__law_same (takes_at (takes_of rfl rfl rfl rfl)) (da_cons (de_call (ok_is_spelling T) (hr.mono (by decide)) T.m_is_spelling T.F_is_spelling.kp T.b_is_spelling (takes_at (takes_of rfl rfl rfl rfl)) (da_cons (de_var 3) da_nil)) (da_cons de_bl da_nil)))))
    (dss_one (ds_ret de_bl))
    dss_nil)
    (dss_cons (ds_for (passes_of rfl) rfl (di_range1 T.z_range (da_cons de_int da_nil)) (dg_name 4 sc_law.nd)
    (dss_cons (ds_asg (de_callO 1 (ok__law_string T) (hr.mono (by decide)) T.m__law_string T.F__law_string.kp T.b__law_string (takes_at (takes_of rfl rfl rfl rfl)) (da_cons de_str (da_cons de_int (da_cons de_int da_nil)))) (dg_name 5 sc_law.nd))
    (dss_cons (ds_asg (de_callO 1 (ok__law_some_places T) (hr.mono (by decide)) T.m__law_some_places T.F__law_some_places.kp T.b__law_some_places (takes_at (takes_of rfl rfl rfl rfl)) (da_cons (de_var 5) da_nil)) (dg_name 6 sc_law.nd))
    (dss_cons (ds_if (dt_not (dt_truth (de_call (ok__law_same T 5) (hr.mono (by decide)) T.m__law_same T.F__law_same.kp T.b__law_same (takes_at (takes_of rfl rfl rfl rfl)) (da_cons (de_call (ok__law_call T) (hr.mono (by decide)) T.m__law_call T.F__law_call.kp T.b__law_call (takes_at (takes_of rfl rfl rfl rfl)) (da_cons (de_var 3) (da_cons (de_var 5) (da_cons (de_var 6) da_nil)))) (da_cons (de_call (ok__law_broken T) (hr.mono (by decide)) T.m__law_broken T.F__law_broken.kp T.b__law_broken (takes_at (takes_of rfl rfl rfl rfl)) (da_cons (de_var 3) (da_cons (de_var 5) (da_cons (de_var 6) da_nil)))) da_nil)))))
    (dss_one (ds_ret de_bl))
    dss_nil)
    (dss_one (ds_if (dt_not (dt_truth (de_call (ok__law_same T 5) (hr.mono (by decide)) T.m__law_same T.F__law_same.kp T.b__law_same (takes_at (takes_of rfl rfl rfl rfl)) (da_cons (de_meth PySem.F.plainAttrs_str PySem.F.slot_str_join PySem.F.type_str_join md_join de_str (da_cons (de_call (ok__law_call T) (hr.mono (by decide)) T.m__law_call T.F__law_call.kp T.b__law_call (takes_at (takes_of rfl rfl rfl rfl)) (da_cons (de_tup da_nil) (da_cons (de_var 5) (da_cons (de_var 6) da_nil)))) da_nil)) (da_cons (de_var 5) da_nil)))))
    (dss_one (ds_ret de_bl))
    dss_nil))))))
    (dss_cons (ds_asg (de_tup (da_cons de_str (da_cons de_str (da_cons de_str (da_cons de_str (da_cons de_str da_nil)))))) (dg_name 7 sc_law.nd))
    (dss_cons (ds_asg (de_n (dn_lst (da_cons (de_tup (da_cons (de_var 7) (da_cons (de_var 7) da_nil))) (da_cons (de_tup (da_cons (de_tup (da_cons de_str (da_cons de_str (da_cons de_str (da_cons de_str (da_cons de_str da_nil)))))) da_nil)) (da_cons (de_tup (da_cons (de_tup (da_cons de_str (da_cons de_str (da_cons de_str (da_cons de_str (da_cons de_str da_nil)))))) da_nil)) (da_cons (de_tup (da_cons (de_tup (da_cons de_str (da_cons de_str (da_cons de_str (da_cons de_str (da_cons de_str da_nil)))))) da_nil)) (da_cons (de_n (dn_lst (da_cons (de_var 7) da_nil))) (da_cons (de_var 7) (da_cons de_non da_nil))))))))) (dg_name 8 sc_law.nd))
    (dss_cons (ds_asg (de_op od_add (de_var 8) (de_n (dn_lst (da_cons (de_tup (da_cons (de_tup (da_cons de_str (da_cons de_str (da_cons de_str (da_cons de_str (da_cons de_str da_nil)))))) da_nil)) (da_cons (de_tup (da_cons (de_tup (da_cons de_str (da_cons de_str (da_cons de_str (da_cons de_str da_nil))))) da_nil)) (da_cons (de_tup (da_cons (de_tup (da_cons de_str (da_cons de_str (da_cons de_str (da_cons de_str (da_cons de_str da_nil)))))) da_nil)) (da_cons (de_tup (da_cons (de_tup (da_cons de_str (da_cons de_str (da_cons de_non (da_cons de_str (da_cons de_str da_nil)))))) da_nil)) da_nil))))))) (dg_name 8 sc_law.nd))
    (dss_cons (ds_asg (de_op od_add (de_var 8) (de_n (dn_lst (da_cons (de_callTy cd_tuple T.z_tuple bt_tuple (da_cons (de_n (dn_lc (own := [("letter", 9)]) rfl sc_law.nd (di_seq de_str) (blkOk_by (by kernel_rfl)) (by decide) (fun _ _ _ _ _ => (dg_name 9 sc_law.nd)) (fun _ _ _ _ _ => dts_nil) (fun _ _ _ _ _ => (de_tup (da_cons de_str (da_cons de_str (da_cons de_str (da_cons (de_var 9) (da_cons de_str da_nil))))))))) da_nil)) da_nil)))) (dg_name 8 sc_law.nd))
    (dss_cons (ds_asg (de_callO 1 (ok__law_pick T) (hr.mono (by decide)) T.m__law_pick T.F__law_pick.kp T.b__law_pick (takes_at (takes_of rfl rfl rfl rfl)) (da_cons (de_var 8) da_nil)) (dg_name 10 sc_law.nd))
    (dss_cons (ds_if (L2.PW.pt (dw_or (dt_not (dt_truth (de_call (ok__law_same T 5) (hr.mono (by decide)) T.m__law_same T.F__law_same.kp T.b__law_same (takes_at (takes_of rfl rfl rfl rfl)) (da_cons (de_call (ok_is_spelling T) (hr.mono (by decide)) T.m_is_spelling T.F_is_spelling.kp T.b_is_spelling (takes_at (takes_of rfl rfl rfl rfl)) (da_cons (de_var 10) da_nil)) (da_cons de_bl da_nil))))) (dw_or1 (dt_cmp (od_ne (hu64 hr)) (de_call (ok__law_call T) (hr.mono (by decide)) T.m__law_call T.F__law_call.kp T.b__law_call (takes_at (takes_of rfl rfl rfl rfl)) (da_cons (de_var 10) (da_cons de_str (da_cons de_non da_nil)))) de_str))))
    (dss_one (ds_ret de_bl))
    dss_nil)
    (dss_cons (ds_asg (de_callO 1 (ok__law_pick T) (hr.mono (by decide)) T.m__law_pick T.F__law_pick.kp T.b__law_pick (takes_at (takes_of rfl rfl rfl rfl)) (da_cons (de_n (dn_lst (da_cons (de_tup (da_cons de_int da_nil)) (da_cons (de_tup (da_cons (de_callB cd_len T.z_len bt_len (da_cons (de_var 5) da_nil)) da_nil)) (da_cons (de_tup (da_cons de_int (da_cons de_int da_nil))) (da_cons (de_n (dn_lst (da_cons de_int da_nil))) (da_cons de_non (da_cons (de_tup (da_cons de_bl da_nil)) (da_cons (de_tup (da_cons de_str da_nil)) da_nil))))))))) da_nil)) (dg_name 11 sc_law.nd))
    (dss_one (ds_if (L2.PW.pt (dw_or (dt_cmp (od_ne (hu64 hr)) (de_call (ok__law_call T) (hr.mono (by decide)) T.m__law_call T.F__law_call.kp T.b__law_call (takes_at (takes_of rfl rfl rfl rfl)) (da_cons (de_var 3) (da_cons (de_op od_add (de_var 5) de_str) (da_cons (de_if (dt_cmp (od_ne (hu64 hr)) (de_var 11) (de_tup (da_cons (de_callB cd_len T.z_len bt_len (da_cons (de_var 5) da_nil)) da_nil))) (de_var 11) (de_tup (da_cons (de_op od_add (de_callB cd_len T.z_len bt_len (da_cons (de_var 5) da_nil)) de_int) da_nil))) da_nil)))) de_str) (dw_or1 (dt_cmp (od_ne (hu64 hr)) (de_call (ok__law_call T) (hr.mono (by decide)) T.m__law_call T.F__law_call.kp T.b__law_call (takes_at (takes_of rfl rfl rfl rfl)) (da_cons (de_var 3) (da_cons de_str (da_cons (de_tup da_nil) da_nil)))) de_str))))
    (dss_one (ds_ret de_bl))
    dss_nil)))))))))))))
    (dss_one (ds_ret de_bl)))))
end
theorem all_mk {l : PySem.W.OpenLaw} {w : World} {K : PySem.W.Frag} {h : Heap} {mg : Str → Option Value} {fa : Addr} (X : K.In h) (G : h.Ns mainGlobals mg) (hfa : mg "law" = some (.ref fa))
    {f_is_part : Addr} {oc_is_part kV_is_part dc_is_part pm_is_part cd_is_part ct_is_part : Value} {od_is_part an_is_part : Option Addr} {sl_is_part : Array (Option Value)}
    {f_is_integer : Addr} {oc_is_integer kV_is_integer dc_is_integer pm_is_integer cd_is_integer ct_is_integer : Value} {od_is_integer an_is_integer : Option Addr} {sl_is_integer : Array (Option Value)}
    {f_is_word : Addr} {oc_is_word kV_is_word dc_is_word pm_is_word cd_is_word ct_is_word : Value} {od_is_word an_is_word : Option Addr} {sl_is_word : Array (Option Value)}
    {f_is_places : Addr} {oc_is_places kV_is_places dc_is_places pm_is_places cd_is_places ct_is_places : Value} {od_is_places an_is_places : Option Addr} {sl_is_places : Array (Option Value)}
    {f_is_rule : Addr} {oc_is_rule kV_is_rule dc_is_rule pm_is_rule cd_is_rule ct_is_rule : Value} {od_is_rule an_is_rule : Option Addr} {sl_is_rule : Array (Option Value)}
    {f_is_spelling : Addr} {oc_is_spelling kV_is_spelling dc_is_spelling pm_is_spelling cd_is_spelling ct_is_spelling : Value} {od_is_spelling an_is_spelling : Option Addr} {sl_is_spelling : Array (Option Value)}
    {f_check_spelling : Addr} {oc_check_spelling kV_check_spelling dc_check_spelling pm_check_spelling cd_check_spelling ct_check_spelling : Value} {od_check_spelling an_check_spelling : Option Addr} {sl_check_spelling : Array (Option Value)}
    {f_rule_at : Addr} {oc_rule_at kV_rule_at dc_rule_at pm_rule_at cd_rule_at ct_rule_at : Value} {od_rule_at an_rule_at : Option Addr} {sl_rule_at : Array (Option Value)}
    {f_pieces_of : Addr} {oc_pieces_of kV_pieces_of dc_pieces_of pm_pieces_of cd_pieces_of ct_pieces_of : Value} {od_pieces_of an_pieces_of : Option Addr} {sl_pieces_of : Array (Option Value)}
    {f_broken : Addr} {oc_broken kV_broken dc_broken pm_broken cd_broken ct_broken : Value} {od_broken an_broken : Option Addr} {sl_broken : Array (Option Value)}
    {f__law_tape : Addr} {oc__law_tape kV__law_tape dc__law_tape pm__law_tape cd__law_tape ct__law_tape : Value} {od__law_tape an__law_tape : Option Addr} {sl__law_tape : Array (Option Value)}
    {f__law_draw : Addr} {oc__law_draw kV__law_draw dc__law_draw pm__law_draw cd__law_draw ct__law_draw : Value} {od__law_draw an__law_draw : Option Addr} {sl__law_draw : Array (Option Value)}
    {f__law_pick : Addr} {oc__law_pick kV__law_pick dc__law_pick pm__law_pick cd__law_pick ct__law_pick : Value} {od__law_pick an__law_pick : Option Addr} {sl__law_pick : Array (Option Value)}
    {f__law_same : Addr} {oc__law_same kV__law_same dc__law_same pm__law_same cd__law_same ct__law_same : Value} {od__law_same an__law_same : Option Addr} {sl__law_same : Array (Option Value)}
    {f__law_string : Addr} {oc__law_string kV__law_string dc__law_string pm__law_string cd__law_string ct__law_string : Value} {od__law_string an__law_string : Option Addr} {sl__law_string : Array (Option Value)}
    {f__law_rules : Addr} {oc__law_rules kV__law_rules dc__law_rules pm__law_rules cd__law_rules ct__law_rules : Value} {od__law_rules an__law_rules : Option Addr} {sl__law_rules : Array (Option Value)}
    {f__law_broken : Addr} {oc__law_broken kV__law_broken dc__law_broken pm__law_broken cd__law_broken ct__law_broken : Value} {od__law_broken an__law_broken : Option Addr} {sl__law_broken : Array (Option Value)}
    {f__law_some_places : Addr} {oc__law_some_places kV__law_some_places dc__law_some_places pm__law_some_places cd__law_some_places ct__law_some_places : Value} {od__law_some_places an__law_some_places : Option Addr} {sl__law_some_places : Array (Option Value)}
    {f__law_call : Addr} {oc__law_call kV__law_call dc__law_call pm__law_call cd__law_call ct__law_call : Value} {od__law_call an__law_call : Option Addr} {sl__law_call : Array (Option Value)}
    {f_law : Addr} {oc_law kV_law dc_law pm_law cd_law ct_law : Value} {od_law an_law : Option Addr} {sl_law : Array (Option Value)}
    {C_BadTongue : Addr}
    {nm_BadTongue} {q_BadTongue} {N_BadTongue} {bs_BadTongue} {bm_BadTongue} {sn_BadTongue} {sub_BadTongue} {ab_BadTongue} {col_BadTongue} {dd_BadTongue} {k0_BadTongue} {k1_BadTongue} {k2_BadTongue} {k3_BadTongue} {k5_BadTongue}
    {fi_BadTongue : Addr}
    {oci_BadTongue kVi_BadTongue dci_BadTongue pmi_BadTongue cdi_BadTongue cti_BadTongue : Value} {odi_BadTongue ani_BadTongue : Option Addr} {sli_BadTongue : Array (Option Value)}
    {C_BadWord : Addr}
    {t_MOST_LETTERS : Tok}
    {t_LETTERS_sounds : Tok}
    {t_LETTERS_words : Tok}
    {t_MOST_RULES : Tok}
    {g_PLAIN : Addr} {oc_PLAIN : Option Addr} {n_PLAIN : Nat} {sl_PLAIN : Array (Option Value)} {t_PLAIN_0 t_PLAIN_1 t_PLAIN_2 t_PLAIN_3 t_PLAIN_4 : Tok}
    (a_is_part : PySem.W.nsIn K mainGlobals "is_part" = some (some (.ref f_is_part)))
    (l_is_part : K.lookup f_is_part = some ⟨oc_is_part, od_is_part, .func (PySem.W.fnOf "is_part" "is_part" (defArgs s_is_part) (defBody s_is_part) (defScope s_is_part) .none kV_is_part dc_is_part pm_is_part an_is_part cd_is_part ct_is_part), sl_is_part⟩)
    (c_is_part : PySem.W.codeIn K cd_is_part "is_part" = true)
    (k_is_part : PySem.W.keepIn K (.ref f_is_part) = true)
    (a_is_integer : PySem.W.nsIn K mainGlobals "is_integer" = some (some (.ref f_is_integer)))
    (l_is_integer : K.lookup f_is_integer = some ⟨oc_is_integer, od_is_integer, .func (PySem.W.fnOf "is_integer" "is_integer" (defArgs s_is_integer) (defBody s_is_integer) (defScope s_is_integer) .none kV_is_integer dc_is_integer pm_is_integer an_is_integer cd_is_integer ct_is_integer), sl_is_integer⟩)
    (c_is_integer : PySem.W.codeIn K cd_is_integer "is_integer" = true)
    (k_is_integer : PySem.W.keepIn K (.ref f_is_integer) = true)
    (a_is_word : PySem.W.nsIn K mainGlobals "is_word" = some (some (.ref f_is_word)))
    (l_is_word : K.lookup f_is_word = some ⟨oc_is_word, od_is_word, .func (PySem.W.fnOf "is_word" "is_word" (defArgs s_is_word) (defBody s_is_word) (defScope s_is_word) .none kV_is_word dc_is_word pm_is_word an_is_word cd_is_word ct_is_word), sl_is_word⟩)
    (c_is_word : PySem.W.codeIn K cd_is_word "is_word" = true)
    (k_is_word : PySem.W.keepIn K (.ref f_is_word) = true)
    (a_is_places : PySem.W.nsIn K mainGlobals "is_places" = some (some (.ref f_is_places)))
    (l_is_places : K.lookup f_is_places = some ⟨oc_is_places, od_is_places, .func (PySem.W.fnOf "is_places" "is_places" (defArgs s_is_places) (defBody s_is_places) (defScope s_is_places) .none kV_is_places dc_is_places pm_is_places an_is_places cd_is_places ct_is_places), sl_is_places⟩)
    (c_is_places : PySem.W.codeIn K cd_is_places "is_places" = true)
    (k_is_places : PySem.W.keepIn K (.ref f_is_places) = true)
    (a_is_rule : PySem.W.nsIn K mainGlobals "is_rule" = some (some (.ref f_is_rule)))
    (l_is_rule : K.lookup f_is_rule = some ⟨oc_is_rule, od_is_rule, .func (PySem.W.fnOf "is_rule" "is_rule" (defArgs s_is_rule) (defBody s_is_rule) (defScope s_is_rule) .none kV_is_rule dc_is_rule pm_is_rule an_is_rule cd_is_rule ct_is_rule), sl_is_rule⟩)
    (c_is_rule : PySem.W.codeIn K cd_is_rule "is_rule" = true)
    (k_is_rule : PySem.W.keepIn K (.ref f_is_rule) = true)
    (a_is_spelling : PySem.W.nsIn K mainGlobals "is_spelling" = some (some (.ref f_is_spelling)))
    (l_is_spelling : K.lookup f_is_spelling = some ⟨oc_is_spelling, od_is_spelling, .func (PySem.W.fnOf "is_spelling" "is_spelling" (defArgs s_is_spelling) (defBody s_is_spelling) (defScope s_is_spelling) .none kV_is_spelling dc_is_spelling pm_is_spelling an_is_spelling cd_is_spelling ct_is_spelling), sl_is_spelling⟩)
    (c_is_spelling : PySem.W.codeIn K cd_is_spelling "is_spelling" = true)
    (k_is_spelling : PySem.W.keepIn K (.ref f_is_spelling) = true)
    (a_check_spelling : PySem.W.nsIn K mainGlobals "check_spelling" = some (some (.ref f_check_spelling)))
    (l_check_spelling : K.lookup f_check_spelling = some ⟨oc_check_spelling, od_check_spelling, .func (PySem.W.fnOf "check_spelling" "check_spelling" (defArgs s_check_spelling) (defBody s_check_spelling) (defScope s_check_spelling) .none kV_check_spelling dc_check_spelling pm_check_spelling an_check_spelling cd_check_spelling ct_check_spelling), sl_check_spelling⟩)
    (c_check_spelling : PySem.W.codeIn K cd_check_spelling "check_spelling" = true)
    (k_check_spelling : PySem.W.keepIn K (.ref f_check_spelling) = true)
    (a_rule_at : PySem.W.nsIn K mainGlobals "rule_at" = some (some (.ref f_rule_at)))
    (l_rule_at : K.lookup f_rule_at = some ⟨oc_rule_at, od_rule_at, .func (PySem.W.fnOf "rule_at" "rule_at" (defArgs s_rule_at) (defBody s_rule_at) (defScope s_rule_at) .none kV_rule_at dc_rule_at pm_rule_at an_rule_at cd_rule_at ct_rule_at), sl_rule_at⟩)
    (c_rule_at : PySem.W.codeIn K cd_rule_at "rule_at" = true)
    (k_rule_at : PySem.W.keepIn K (.ref f_rule_at) = true)
    (a_pieces_of : PySem.W.nsIn K mainGlobals "pieces_of" = some (some (.ref f_pieces_of)))
    (l_pieces_of : K.lookup f_pieces_of = some ⟨oc_pieces_of, od_pieces_of, .func (PySem.W.fnOf "pieces_of" "pieces_of" (defArgs s_pieces_of) (defBody s_pieces_of) (defScope s_pieces_of) .none kV_pieces_of dc_pieces_of pm_pieces_of an_pieces_of cd_pieces_of ct_pieces_of), sl_pieces_of⟩)
    (c_pieces_of : PySem.W.codeIn K cd_pieces_of "pieces_of" = true)
    (k_pieces_of : PySem.W.keepIn K (.ref f_pieces_of) = true)
    (a_broken : PySem.W.nsIn K mainGlobals "broken" = some (some (.ref f_broken)))
    (l_broken : K.lookup f_broken = some ⟨oc_broken, od_broken, .func (PySem.W.fnOf "broken" "broken" (defArgs s_broken) (defBody s_broken) (defScope s_broken) .none kV_broken dc_broken pm_broken an_broken cd_broken ct_broken), sl_broken⟩)
    (c_broken : PySem.W.codeIn K cd_broken "broken" = true)
    (k_broken : PySem.W.keepIn K (.ref f_broken) = true)
    (a__law_tape : PySem.W.nsIn K mainGlobals "_law_tape" = some (some (.ref f__law_tape)))
    (l__law_tape : K.lookup f__law_tape = some ⟨oc__law_tape, od__law_tape, .func (PySem.W.fnOf "_law_tape" "_law_tape" (defArgs s__law_tape) (defBody s__law_tape) (defScope s__law_tape) .none kV__law_tape dc__law_tape pm__law_tape an__law_tape cd__law_tape ct__law_tape), sl__law_tape⟩)
    (c__law_tape : PySem.W.codeIn K cd__law_tape "_law_tape" = true)
    (k__law_tape : PySem.W.keepIn K (.ref f__law_tape) = true)
    (a__law_draw : PySem.W.nsIn K mainGlobals "_law_draw" = some (some (.ref f__law_draw)))
    (l__law_draw : K.lookup f__law_draw = some ⟨oc__law_draw, od__law_draw, .func (PySem.W.fnOf "_law_draw" "_law_draw" (defArgs s__law_draw) (defBody s__law_draw) (defScope s__law_draw) .none kV__law_draw dc__law_draw pm__law_draw an__law_draw cd__law_draw ct__law_draw), sl__law_draw⟩)
    (c__law_draw : PySem.W.codeIn K cd__law_draw "_law_draw" = true)
    (k__law_draw : PySem.W.keepIn K (.ref f__law_draw) = true)
    (a__law_pick : PySem.W.nsIn K mainGlobals "_law_pick" = some (some (.ref f__law_pick)))
    (l__law_pick : K.lookup f__law_pick = some ⟨oc__law_pick, od__law_pick, .func (PySem.W.fnOf "_law_pick" "_law_pick" (defArgs s__law_pick) (defBody s__law_pick) (defScope s__law_pick) .none kV__law_pick dc__law_pick pm__law_pick an__law_pick cd__law_pick ct__law_pick), sl__law_pick⟩)
    (c__law_pick : PySem.W.codeIn K cd__law_pick "_law_pick" = true)
    (k__law_pick : PySem.W.keepIn K (.ref f__law_pick) = true)
    (a__law_same : PySem.W.nsIn K mainGlobals "_law_same" = some (some (.ref f__law_same)))
    (l__law_same : K.lookup f__law_same = some ⟨oc__law_same, od__law_same, .func (PySem.W.fnOf "_law_same" "_law_same" (defArgs s__law_same) (defBody s__law_same) (defScope s__law_same) .none kV__law_same dc__law_same pm__law_same an__law_same cd__law_same ct__law_same), sl__law_same⟩)
    (c__law_same : PySem.W.codeIn K cd__law_same "_law_same" = true)
    (k__law_same : PySem.W.keepIn K (.ref f__law_same) = true)
    (a__law_string : PySem.W.nsIn K mainGlobals "_law_string" = some (some (.ref f__law_string)))
    (l__law_string : K.lookup f__law_string = some ⟨oc__law_string, od__law_string, .func (PySem.W.fnOf "_law_string" "_law_string" (defArgs s__law_string) (defBody s__law_string) (defScope s__law_string) .none kV__law_string dc__law_string pm__law_string an__law_string cd__law_string ct__law_string), sl__law_string⟩)
    (c__law_string : PySem.W.codeIn K cd__law_string "_law_string" = true)
    (k__law_string : PySem.W.keepIn K (.ref f__law_string) = true)
    (a__law_rules : PySem.W.nsIn K mainGlobals "_law_rules" = some (some (.ref f__law_rules)))
    (l__law_rules : K.lookup f__law_rules = some ⟨oc__law_rules, od__law_rules, .func (PySem.W.fnOf "_law_rules" "_law_rules" (defArgs s__law_rules) (defBody s__law_rules) (defScope s__law_rules) .none kV__law_rules dc__law_rules pm__law_rules an__law_rules cd__law_rules ct__law_rules), sl__law_rules⟩)
    (c__law_rules : PySem.W.codeIn K cd__law_rules "_law_rules" = true)
    (k__law_rules : PySem.W.keepIn K (.ref f__law_rules) = true)
    (a__law_broken : PySem.W.nsIn K mainGlobals "_law_broken" = some (some (.ref f__law_broken)))
    (l__law_broken : K.lookup f__law_broken = some ⟨oc__law_broken, od__law_broken, .func (PySem.W.fnOf "_law_broken" "_law_broken" (defArgs s__law_broken) (defBody s__law_broken) (defScope s__law_broken) .none kV__law_broken dc__law_broken pm__law_broken an__law_broken cd__law_broken ct__law_broken), sl__law_broken⟩)
    (c__law_broken : PySem.W.codeIn K cd__law_broken "_law_broken" = true)
    (k__law_broken : PySem.W.keepIn K (.ref f__law_broken) = true)
    (a__law_some_places : PySem.W.nsIn K mainGlobals "_law_some_places" = some (some (.ref f__law_some_places)))
    (l__law_some_places : K.lookup f__law_some_places = some ⟨oc__law_some_places, od__law_some_places, .func (PySem.W.fnOf "_law_some_places" "_law_some_places" (defArgs s__law_some_places) (defBody s__law_some_places) (defScope s__law_some_places) .none kV__law_some_places dc__law_some_places pm__law_some_places an__law_some_places cd__law_some_places ct__law_some_places), sl__law_some_places⟩)
    (c__law_some_places : PySem.W.codeIn K cd__law_some_places "_law_some_places" = true)
    (k__law_some_places : PySem.W.keepIn K (.ref f__law_some_places) = true)
    (a__law_call : PySem.W.nsIn K mainGlobals "_law_call" = some (some (.ref f__law_call)))
    (l__law_call : K.lookup f__law_call = some ⟨oc__law_call, od__law_call, .func (PySem.W.fnOf "_law_call" "_law_call" (defArgs s__law_call) (defBody s__law_call) (defScope s__law_call) .none kV__law_call dc__law_call pm__law_call an__law_call cd__law_call ct__law_call), sl__law_call⟩)
    (c__law_call : PySem.W.codeIn K cd__law_call "_law_call" = true)
    (k__law_call : PySem.W.keepIn K (.ref f__law_call) = true)
    (a_law : PySem.W.nsIn K mainGlobals "law" = some (some (.ref f_law)))
    (l_law : K.lookup f_law = some ⟨oc_law, od_law, .func (PySem.W.fnOf "law" "law" (defArgs s_law) (defBody s_law) (defScope s_law) .none kV_law dc_law pm_law an_law cd_law ct_law), sl_law⟩)
    (c_law : PySem.W.codeIn K cd_law "law" = true)
    (k_law : PySem.W.keepIn K (.ref f_law) = true)
    (a_BadTongue : PySem.W.nsIn K mainGlobals "BadTongue" = some (some (.ref C_BadTongue)))
    (kc_BadTongue : PySem.W.keepIn K (.ref C_BadTongue) = true)
    (eC_BadTongue : PySem.W.subIn K (.ref C_BadTongue) (.type "BaseException") = some true)
    (tC_BadTongue : PySem.W.typeIn K (.ref C_BadTongue) = some (.type "type"))
    (xL_BadTongue : K.lookup C_BadTongue = some (excClassObj nm_BadTongue q_BadTongue C_BadTongue N_BadTongue bs_BadTongue bm_BadTongue true sn_BadTongue sub_BadTongue ab_BadTongue col_BadTongue dd_BadTongue k0_BadTongue k1_BadTongue k2_BadTongue k3_BadTongue k5_BadTongue "ValueError.__new__"))
    (hb_BadTongue : PySem.HandSPX.refsVE bm_BadTongue = true)
    (sa_BadTongue : PySem.W.findIn K (.ref C_BadTongue) "__setattr__" = some (some (.builtin "object.__setattr__")))
    (ga_BadTongue : PySem.W.findIn K (.ref C_BadTongue) "__getattribute__" = some (some (.builtin "BaseException.__getattribute__")))
    (gg_BadTongue : PySem.W.findIn K (.ref C_BadTongue) "__getattr__" = some none)
    (hC_BadTongue : PySem.W.hasDictIn K C_BadTongue = true)
    (iC_BadTongue : PySem.W.findIn K (.ref C_BadTongue) "__init__" = some (some (.ref fi_BadTongue)))
    (ti_BadTongue : PySem.W.typeIn K (.ref fi_BadTongue) = some (.type "function"))
    (li_BadTongue : K.lookup fi_BadTongue = some ⟨oci_BadTongue, odi_BadTongue, .func (PySem.W.fnOf "__init__" "BadTongue.__init__" (defArgs si_BadTongue) (defBody si_BadTongue) (defScope si_BadTongue) .none kVi_BadTongue dci_BadTongue pmi_BadTongue ani_BadTongue cdi_BadTongue cti_BadTongue), sli_BadTongue⟩)
    (ci_BadTongue : PySem.W.codeIn K cdi_BadTongue "BadTongue.__init__" = true)
    (ki_BadTongue : PySem.W.keepIn K (.ref fi_BadTongue) = true)
    (nf_BadTongue_kind : PySem.W.findIn K (.ref C_BadTongue) "kind" = some none)
    (nf_BadTongue_name : PySem.W.findIn K (.ref C_BadTongue) "name" = some none)
    (a_BadWord : PySem.W.nsIn K mainGlobals "BadWord" = some (some (.ref C_BadWord)))
    (kc_BadWord : PySem.W.keepIn K (.ref C_BadWord) = true)
    (eC_BadWord : PySem.W.subIn K (.ref C_BadWord) (.type "BaseException") = some true)
    (tC_BadWord : PySem.W.typeIn K (.ref C_BadWord) = some (.type "type"))
    (q_BadWord : PySem.W.excIn K C_BadWord [.type "ValueError", .type "Exception", .type "BaseException", .type "object"] "ValueError.__new__" = true)
    (a_MOST_LETTERS : PySem.W.nsIn K mainGlobals "MOST_LETTERS" = some (some (.int 40 t_MOST_LETTERS)))
    (a_LETTERS_sounds : PySem.W.nsIn K mainGlobals "LETTERS_sounds" = some (some (.str "abcdefghijklmnopqrstuvwxyz" t_LETTERS_sounds)))
    (a_LETTERS_words : PySem.W.nsIn K mainGlobals "LETTERS_words" = some (some (.str "abcdefghijklmnopqrstuvwxyz" t_LETTERS_words)))
    (a_MOST_RULES : PySem.W.nsIn K mainGlobals "MOST_RULES" = some (some (.int 12 t_MOST_RULES)))
    (a_PLAIN : PySem.W.nsIn K mainGlobals "PLAIN" = some (some (.ref g_PLAIN)))
    (l_PLAIN : K.lookup g_PLAIN = some ⟨.type "tuple", oc_PLAIN, .seq #[.str "spell" t_PLAIN_0, .str "" t_PLAIN_1, .str "" t_PLAIN_2, .str "" t_PLAIN_3, .str "" t_PLAIN_4] n_PLAIN, sl_PLAIN⟩)
    (z_abs : PySem.W.nsIn K mainGlobals "abs" = some none)
    (z_all : PySem.W.nsIn K mainGlobals "all" = some none)
    (z_bool : PySem.W.nsIn K mainGlobals "bool" = some none)
    (z_enumerate : PySem.W.nsIn K mainGlobals "enumerate" = some none)
    (z_int : PySem.W.nsIn K mainGlobals "int" = some none)
    (z_isinstance : PySem.W.nsIn K mainGlobals "isinstance" = some none)
    (z_len : PySem.W.nsIn K mainGlobals "len" = some none)
    (z_list : PySem.W.nsIn K mainGlobals "list" = some none)
    (z_range : PySem.W.nsIn K mainGlobals "range" = some none)
    (z_str : PySem.W.nsIn K mainGlobals "str" = some none)
    (z_tuple : PySem.W.nsIn K mainGlobals "tuple" = some none)
    (z_zip : PySem.W.nsIn K mainGlobals "zip" = some none)
    (i_BadTongue : PySem.W.isClsIn K C_BadTongue = true)
    (e_BadTongue_BadTongue : PySem.W.subIn K (.ref C_BadTongue) (.ref C_BadTongue) = some true)
    (e_BadTongue_BadWord : PySem.W.subIn K (.ref C_BadTongue) (.ref C_BadWord) = some false)
    (i_BadWord : PySem.W.isClsIn K C_BadWord = true)
    (e_BadWord_BadTongue : PySem.W.subIn K (.ref C_BadWord) (.ref C_BadTongue) = some false)
    (e_BadWord_BadWord : PySem.W.subIn K (.ref C_BadWord) (.ref C_BadWord) = some true)
    : ∃ fd : FuncData, (∀ (s : Shared) (v : Value), BindsTo s fd ⟨[v], []⟩ [("script", v)]) ∧ ∀ base : Heap, K.In base → base.Ns mainGlobals mg → FnOk l.prog w K mg base (L2.CX l.prog w) 7 fa fd ["script"] (spTrue K m_law) := by
  have e := hfa.symm.trans (PySem.W.mg_of X G a_law)
  cases e
  have F_is_part := fun_mk (st := s_is_part) l_is_part c_is_part k_is_part
  have B_is_part := F_is_part.binds (ps := ["value", "low", "high"]) fun _ _ _ _ _ _ us hl => match us, hl with | [_, _, _], _ => rfl
  have F_is_integer := fun_mk (st := s_is_integer) l_is_integer c_is_integer k_is_integer
  have B_is_integer := F_is_integer.binds (ps := ["value", "low", "high"]) fun _ _ _ _ _ _ us hl => match us, hl with | [_, _, _], _ => rfl
  have F_is_word := fun_mk (st := s_is_word) l_is_word c_is_word k_is_word
  have B_is_word := F_is_word.binds (ps := ["value"]) fun _ _ _ _ _ _ us hl => match us, hl with | [_], _ => rfl
  have F_is_places := fun_mk (st := s_is_places) l_is_places c_is_places k_is_places
  have B_is_places := F_is_places.binds (ps := ["word", "value"]) fun _ _ _ _ _ _ us hl => match us, hl with | [_, _], _ => rfl
  have F_is_rule := fun_mk (st := s_is_rule) l_is_rule c_is_rule k_is_rule
  have B_is_rule := F_is_rule.binds (ps := ["value"]) fun _ _ _ _ _ _ us hl => match us, hl with | [_], _ => rfl
  have F_is_spelling := fun_mk (st := s_is_spelling) l_is_spelling c_is_spelling k_is_spelling
  have B_is_spelling := F_is_spelling.binds (ps := ["value"]) fun _ _ _ _ _ _ us hl => match us, hl with | [_], _ => rfl
  have F_check_spelling := fun_mk (st := s_check_spelling) l_check_spelling c_check_spelling k_check_spelling
  have B_check_spelling := F_check_spelling.binds (ps := ["value"]) fun _ _ _ _ _ _ us hl => match us, hl with | [_], _ => rfl
  have F_rule_at := fun_mk (st := s_rule_at) l_rule_at c_rule_at k_rule_at
  have B_rule_at := F_rule_at.binds (ps := ["spelling", "ahead", "behind"]) fun _ _ _ _ _ _ us hl => match us, hl with | [_, _, _], _ => rfl
  have F_pieces_of := fun_mk (st := s_pieces_of) l_pieces_of c_pieces_of k_pieces_of
  have B_pieces_of := F_pieces_of.binds (ps := ["spelling", "word", "places"]) fun _ _ _ _ _ _ us hl => match us, hl with | [_, _, _], _ => rfl
  have F_broken := fun_mk (st := s_broken) l_broken c_broken k_broken
  have B_broken := F_broken.binds (ps := ["spelling", "word", "places"]) fun _ _ _ _ _ _ us hl => match us, hl with | [_, _, _], _ => rfl
  have F__law_tape := fun_mk (st := s__law_tape) l__law_tape c__law_tape k__law_tape
  have B__law_tape := F__law_tape.binds (ps := ["script"]) fun _ _ _ _ _ _ us hl => match us, hl with | [_], _ => rfl
  have F__law_draw := fun_mk (st := s__law_draw) l__law_draw c__law_draw k__law_draw
  have B__law_draw := F__law_draw.binds (ps := ["tape", "many"]) fun _ _ _ _ _ _ us hl => match us, hl with | [_, _], _ => rfl
  have F__law_pick := fun_mk (st := s__law_pick) l__law_pick c__law_pick k__law_pick
  have B__law_pick := F__law_pick.binds (ps := ["tape", "row"]) fun _ _ _ _ _ _ us hl => match us, hl with | [_, _], _ => rfl
  have F__law_same := fun_mk (st := s__law_same) l__law_same c__law_same k__law_same
  have B__law_same := F__law_same.binds (ps := ["told", "due"]) fun _ _ _ _ _ _ us hl => match us, hl with | [_, _], _ => rfl
  have F__law_string := fun_mk (st := s__law_string) l__law_string c__law_string k__law_string
  have B__law_string := F__law_string.binds (ps := ["tape", "letters", "low", "high"]) fun _ _ _ _ _ _ us hl => match us, hl with | [_, _, _, _], _ => rfl
  have F__law_rules := fun_mk (st := s__law_rules) l__law_rules c__law_rules k__law_rules
  have B__law_rules := F__law_rules.binds (ps := ["tape", "most"]) fun _ _ _ _ _ _ us hl => match us, hl with | [_, _], _ => rfl
  have F__law_broken := fun_mk (st := s__law_broken) l__law_broken c__law_broken k__law_broken
  have B__law_broken := F__law_broken.binds (ps := ["spelling", "word", "places"]) fun _ _ _ _ _ _ us hl => match us, hl with | [_, _, _], _ => rfl
  have F__law_some_places := fun_mk (st := s__law_some_places) l__law_some_places c__law_some_places k__law_some_places
  have B__law_some_places := F__law_some_places.binds (ps := ["tape", "word"]) fun _ _ _ _ _ _ us hl => match us, hl with | [_, _], _ => rfl
  have F__law_call := fun_mk (st := s__law_call) l__law_call c__law_call k__law_call
  have B__law_call := F__law_call.binds (ps := ["spelling", "word", "places"]) fun _ _ _ _ _ _ us hl => match us, hl with | [_, _, _], _ => rfl
  have F_law := fun_mk (st := s_law) l_law c_law k_law
  have B_law := F_law.binds (ps := ["script"]) fun _ _ _ _ _ _ us hl => match us, hl with | [_], _ => rfl
  have FI_BadTongue := fun_mk (st := si_BadTongue) li_BadTongue ci_BadTongue ki_BadTongue
  have BI_BadTongue := FI_BadTongue.binds (ps := ["self", "kind", "name"]) fun _ _ _ _ _ _ us hl => match us, hl with | [_, _, _], _ => rfl
  have SUB : SubT K (fun x => if x = "BadTongue" then some (.ref C_BadTongue) else if x = "BadWord" then some (.ref C_BadWord) else none) sub_ := ⟨fun x y c d hx hy => by
    try dsimp only at hx hy
    repeat' split at hx
    all_goals first | (cases hx; done) | skip
    all_goals (repeat' split at hy)
    all_goals first | (cases hy; done) | skip
    all_goals (subst_vars; cases hx; cases hy; first | exact exm2 eC_BadTongue i_BadTongue tC_BadTongue e_BadTongue_BadTongue | exact exm2 eC_BadWord i_BadWord tC_BadWord e_BadTongue_BadWord | exact exm2 eC_BadTongue i_BadTongue tC_BadTongue e_BadWord_BadTongue | exact exm2 eC_BadWord i_BadWord tC_BadWord e_BadWord_BadWord)⟩
  exact ⟨PySem.W.fnOf "law" "law" (defArgs s_law) (defBody s_law) (defScope s_law) .none kV_law dc_law pm_law an_law cd_law ct_law, fun s v => .of_eq rfl, fun base _ _ => FnOk.imp (ok_law (K := K) (mg := mg) {
    a_is_part := f_is_part,
    d_is_part := PySem.W.fnOf "is_part" "is_part" (defArgs s_is_part) (defBody s_is_part) (defScope s_is_part) .none kV_is_part dc_is_part pm_is_part an_is_part cd_is_part ct_is_part,
    F_is_part := F_is_part,
    m_is_part := PySem.W.mg_of X G a_is_part,
    b_is_part := B_is_part,
    a_is_integer := f_is_integer,
    d_is_integer := PySem.W.fnOf "is_integer" "is_integer" (defArgs s_is_integer) (defBody s_is_integer) (defScope s_is_integer) .none kV_is_integer dc_is_integer pm_is_integer an_is_integer cd_is_integer ct_is_integer,
    F_is_integer := F_is_integer,
    m_is_integer := PySem.W.mg_of X G a_is_integer,
    b_is_integer := B_is_integer,
    a_is_word := f_is_word,
    d_is_word := PySem.W.fnOf "is_word" "is_word" (defArgs s_is_word) (defBody s_is_word) (defScope s_is_word) .none kV_is_word dc_is_word pm_is_word an_is_word cd_is_word ct_is_word,
    F_is_word := F_is_word,
    m_is_word := PySem.W.mg_of X G a_is_word,
    b_is_word := B_is_word,
    a_is_places := f_is_places,
    d_is_places := PySem.W.fnOf "is_places" "is_places" (defArgs s_is_places) (defBody s_is_places) (defScope s_is_places) .none kV_is_places dc_is_places pm_is_places an_is_places cd_is_places ct_is_places,
    F_is_places := F_is_places,
    m_is_places := PySem.W.mg_of X G a_is_places,
    b_is_places := B_is_places,
    a_is_rule := f_is_rule,
    d_is_rule := PySem.W.fnOf "is_rule" "is_rule" (defArgs s_is_rule) (defBody s_is_rule) (defScope s_is_rule) .none kV_is_rule dc_is_rule pm_is_rule an_is_rule cd_is_rule ct_is_rule,
    F_is_rule := F_is_rule,
    m_is_rule := PySem.W.mg_of X G a_is_rule,
    b_is_rule := B_is_rule,
    a_is_spelling := f_is_spelling,
    d_is_spelling := PySem.W.fnOf "is_spelling" "is_spelling" (defArgs s_is_spelling) (defBody s_is_spelling) (defScope s_is_spelling) .none kV_is_spelling dc_is_spelling pm_is_spelling an_is_spelling cd_is_spelling ct_is_spelling,
    F_is_spelling := F_is_spelling,
    m_is_spelling := PySem.W.mg_of X G a_is_spelling,
    b_is_spelling := B_is_spelling,
    a_check_spelling := f_check_spelling,
    d_check_spelling := PySem.W.fnOf "check_spelling" "check_spelling" (defArgs s_check_spelling) (defBody s_check_spelling) (defScope s_check_spelling) .none kV_check_spelling dc_check_spelling pm_check_spelling an_check_spelling cd_check_spelling ct_check_spelling,
    F_check_spelling := F_check_spelling,
    m_check_spelling := PySem.W.mg_of X G a_check_spelling,
    b_check_spelling := B_check_spelling,
    a_rule_at := f_rule_at,
    d_rule_at := PySem.W.fnOf "rule_at" "rule_at" (defArgs s_rule_at) (defBody s_rule_at) (defScope s_rule_at) .none kV_rule_at dc_rule_at pm_rule_at an_rule_at cd_rule_at ct_rule_at,
    F_rule_at := F_rule_at,
    m_rule_at := PySem.W.mg_of X G a_rule_at,
    b_rule_at := B_rule_at,
    a_pieces_of := f_pieces_of,
    d_pieces_of := PySem.W.fnOf "pieces_of" "pieces_of" (defArgs s_pieces_of) (defBody s_pieces_of) (defScope s_pieces_of) .none kV_pieces_of dc_pieces_of pm_pieces_of an_pieces_of cd_pieces_of ct_pieces_of,
    F_pieces_of := F_pieces_of,
    m_pieces_of := PySem.W.mg_of X G a_pieces_of,
    b_pieces_of := B_pieces_of,
    a_broken := f_broken,
    d_broken := PySem.W.fnOf "broken" "broken" (defArgs s_broken) (defBody s_broken) (defScope s_broken) .none kV_broken dc_broken pm_broken an_broken cd_broken ct_broken,
    F_broken := F_broken,
    m_broken := PySem.W.mg_of X G a_broken,
    b_broken := B_broken,
    a__law_tape := f__law_tape,
    d__law_tape := PySem.W.fnOf "_law_tape" "_law_tape" (defArgs s__law_tape) (defBody s__law_tape) (defScope s__law_tape) .none kV__law_tape dc__law_tape pm__law_tape an__law_tape cd__law_tape ct__law_tape,
    F__law_tape := F__law_tape,
    m__law_tape := PySem.W.mg_of X G a__law_tape,
    b__law_tape := B__law_tape,
    a__law_draw := f__law_draw,
    d__law_draw := PySem.W.fnOf "_law_draw" "_law_draw" (defArgs s__law_draw) (defBody s__law_draw) (defScope s__law_draw) .none kV__law_draw dc__law_draw pm__law_draw an__law_draw cd__law_draw ct__law_draw,
    F__law_draw := F__law_draw,
    m__law_draw := PySem.W.mg_of X G a__law_draw,
    b__law_draw := B__law_draw,
    a__law_pick := f__law_pick,
    d__law_pick := PySem.W.fnOf "_law_pick" "_law_pick" (defArgs s__law_pick) (defBody s__law_pick) (defScope s__law_pick) .none kV__law_pick dc__law_pick pm__law_pick an__law_pick cd__law_pick ct__law_pick,
    F__law_pick := F__law_pick,
    m__law_pick := PySem.W.mg_of X G a__law_pick,
    b__law_pick := B__law_pick,
    a__law_same := f__law_same,
    d__law_same := PySem.W.fnOf "_law_same" "_law_same" (defArgs s__law_same) (defBody s__law_same) (defScope s__law_same) .none kV__law_same dc__law_same pm__law_same an__law_same cd__law_same ct__law_same,
    F__law_same := F__law_same,
    m__law_same := PySem.W.mg_of X G a__law_same,
    b__law_same := B__law_same,
    a__law_string := f__law_string,
    d__law_string := PySem.W.fnOf "_law_string" "_law_string" (defArgs s__law_string) (defBody s__law_string) (defScope s__law_string) .none kV__law_string dc__law_string pm__law_string an__law_string cd__law_string ct__law_string,
    F__law_string := F__law_string,
    m__law_string := PySem.W.mg_of X G a__law_string,
    b__law_string := B__law_string,
    a__law_rules := f__law_rules,
    d__law_rules := PySem.W.fnOf "_law_rules" "_law_rules" (defArgs s__law_rules) (defBody s__law_rules) (defScope s__law_rules) .none kV__law_rules dc__law_rules pm__law_rules an__law_rules cd__law_rules ct__law_rules,
    F__law_rules := F__law_rules,
    m__law_rules := PySem.W.mg_of X G a__law_rules,
    b__law_rules := B__law_rules,
    a__law_broken := f__law_broken,
    d__law_broken := PySem.W.fnOf "_law_broken" "_law_broken" (defArgs s__law_broken) (defBody s__law_broken) (defScope s__law_broken) .none kV__law_broken dc__law_broken pm__law_broken an__law_broken cd__law_broken ct__law_broken,
    F__law_broken := F__law_broken,
    m__law_broken := PySem.W.mg_of X G a__law_broken,
    b__law_broken := B__law_broken,
    a__law_some_places := f__law_some_places,
    d__law_some_places := PySem.W.fnOf "_law_some_places" "_law_some_places" (defArgs s__law_some_places) (defBody s__law_some_places) (defScope s__law_some_places) .none kV__law_some_places dc__law_some_places pm__law_some_places an__law_some_places cd__law_some_places ct__law_some_places,
    F__law_some_places := F__law_some_places,
    m__law_some_places := PySem.W.mg_of X G a__law_some_places,
    b__law_some_places := B__law_some_places,
    a__law_call := f__law_call,
    d__law_call := PySem.W.fnOf "_law_call" "_law_call" (defArgs s__law_call) (defBody s__law_call) (defScope s__law_call) .none kV__law_call dc__law_call pm__law_call an__law_call cd__law_call ct__law_call,
    F__law_call := F__law_call,
    m__law_call := PySem.W.mg_of X G a__law_call,
    b__law_call := B__law_call,
    a_law := fa,
    d_law := PySem.W.fnOf "law" "law" (defArgs s_law) (defBody s_law) (defScope s_law) .none kV_law dc_law pm_law an_law cd_law ct_law,
    F_law := F_law,
    m_law := PySem.W.mg_of X G a_law,
    b_law := B_law,
    C_BadTongue := C_BadTongue,
    i_BadTongue := fi_BadTongue,
    e_BadTongue := PySem.W.fnOf "__init__" "BadTongue.__init__" (defArgs si_BadTongue) (defBody si_BadTongue) (defScope si_BadTongue) .none kVi_BadTongue dci_BadTongue pmi_BadTongue ani_BadTongue cdi_BadTongue cti_BadTongue,
    FI_BadTongue := FI_BadTongue,
    x_BadTongue := ⟨⟨⟨_, _, _, _, _, _, _, _, _, _, _, _, _, _, _, xL_BadTongue, hb_BadTongue⟩, sa_BadTongue, eC_BadTongue, tC_BadTongue, kc_BadTongue⟩, PySem.W.mg_of X G a_BadTongue, iC_BadTongue, ti_BadTongue, BI_BadTongue⟩,
    xf_BadTongue := ⟨ga_BadTongue, gg_BadTongue, eC_BadTongue, hC_BadTongue⟩,
    nf_BadTongue_kind := nf_BadTongue_kind,
    nf_BadTongue_name := nf_BadTongue_name,
    C_BadWord := C_BadWord,
    x_BadWord := ⟨PySem.W.mg_of X G a_BadWord, q_BadWord, kc_BadWord, eC_BadWord, tC_BadWord⟩,
    g_MOST_LETTERS := gl_int (PySem.W.mg_of X G a_MOST_LETTERS),
    g_LETTERS_sounds := gl_str (PySem.W.mg_of X G a_LETTERS_sounds),
    g_LETTERS_words := gl_str (PySem.W.mg_of X G a_LETTERS_words),
    g_MOST_RULES := gl_int (PySem.W.mg_of X G a_MOST_RULES),
    g_PLAIN := gl_tup (vs := [.str "spell", .str "", .str "", .str "", .str ""]) (PySem.W.mg_of X G a_PLAIN) l_PLAIN (show 5 ≤ sizeLine by decide) (.cons ⟨_, rfl⟩ (.cons ⟨_, rfl⟩ (.cons ⟨_, rfl⟩ (.cons ⟨_, rfl⟩ (.cons ⟨_, rfl⟩ .nil))))) fun _ => (.cons (.str _) (.cons (.str _) (.cons (.str _) (.cons (.str _) (.cons (.str _) .nil))))),
    z_abs := PySem.W.mg_none_of X G z_abs,
    z_all := PySem.W.mg_none_of X G z_all,
    z_bool := PySem.W.mg_none_of X G z_bool,
    z_enumerate := PySem.W.mg_none_of X G z_enumerate,
    z_int := PySem.W.mg_none_of X G z_int,
    z_isinstance := PySem.W.mg_none_of X G z_isinstance,
    z_len := PySem.W.mg_none_of X G z_len,
    z_list := PySem.W.mg_none_of X G z_list,
    z_range := PySem.W.mg_none_of X G z_range,
    z_str := PySem.W.mg_none_of X G z_str,
    z_tuple := PySem.W.mg_none_of X G z_tuple,
    z_zip := PySem.W.mg_none_of X G z_zip,
    sub_ok := SUB }) (fun vs H Q E => spTrue_imp vs H Q E)⟩
end LW

namespace LW
open PySem PySem.Spec L2 DL PyProof.Rows
def lowc (c : Nat) : Prop := 97 ≤ c ∧ c ≤ 122
theorem letters_in : ∀ c, c < 123 → 97 ≤ c → strIn (sL [c]) (Str.ofString "abcdefghijklmnopqrstuvwxyz") = true := by decide +kernel
theorem part_str (l : List Nat) (lo hi : Int) (hl : l.length ≤ 1000) (hc : ∀ c ∈ l, lowc c) : m_is_part [.str (sL l), .int lo, .int hi] = .ret (.bool (decide (lo ≤ l.length) && decide ((l.length : Int) ≤ hi))) := by
  have hz : l.length ≤ sizeLine := le_line (by omega)
  have hlc : lcRun [3] (setN 3) tYesD (eBin dIn (eVar 3) (eC d_LETTERS_sounds)) (chars l) [.d (.str (sL l)), .d (.int lo), .d (.int hi), .un] [] = .ok ([] ++ (chars l).map fun _ => .bool true) [.d (.str (sL l)), .d (.int lo), .d (.int hi), .un] := by
    refine lc_map _ _ (fun d hd => ?_) (by simp [chars, hz])
    obtain ⟨c, hc', rfl⟩ := List.mem_map.mp hd
    have h1 := hc c hc'
    have := letters_in c (by have := h1.2; omega) h1.1
    exact ⟨_, _, by simp; rfl, by simp [d_LETTERS_sounds, dIn, this]; rfl, by simp, by simp⟩
  have ha := dAll_true l
  by_cases h1 : lo ≤ l.length <;> by_cases h2 : (l.length : Int) ≤ hi
  · simp [m_is_part, c_is_part, fnP, hz, h1, h2, hlc, ha, Function.comp_def]
  · simp [m_is_part, c_is_part, fnP, hz, h1, h2]
  · simp [m_is_part, c_is_part, fnP, hz, h1, h2]
  · simp [m_is_part, c_is_part, fnP, hz, h1, h2]
theorem word_str (l : List Nat) (h0 : 1 ≤ l.length) (hl : l.length ≤ 40) (hc : ∀ c ∈ l, lowc c) : m_is_word [.str (sL l)] = .ret (.bool true) := by
  have hz : l.length ≤ sizeLine := le_line (by omega)
  have hlc : lcRun [1] (setN 1) tYesD (eBin dIn (eVar 1) (eC d_LETTERS_words)) (chars l) [.d (.str (sL l)), .un] [] = .ok ([] ++ (chars l).map fun _ => .bool true) [.d (.str (sL l)), .un] := by
    refine lc_map _ _ (fun d hd => ?_) (by simp [chars, hz])
    obtain ⟨c, hc', rfl⟩ := List.mem_map.mp hd
    have h1 := hc c hc'
    have := letters_in c (by have := h1.2; omega) h1.1
    exact ⟨_, _, by simp; rfl, by simp [d_LETTERS_words, dIn, this]; rfl, by simp, by simp⟩
  have ha := dAll_true l
  have h1 : (1 : Int) ≤ l.length := by omega
  have h2 : (l.length : Int) ≤ 40 := by omega
  simp [m_is_word, c_is_word, fnP, hz, h1, h2, hlc, ha, Function.comp_def, d_MOST_LETTERS]
/-! rules -/
structure R where
  b : List Nat
  a : List Nat
  x : List Nat
  y : List Nat
deriving DecidableEq
def R.D (r : R) : DL.D := .tuple [.str "spell", .str (sL r.b), .str (sL r.a), .str (sL r.x), .str (sL r.y)]
structure R.ok (r : R) : Prop where
  lb : r.b.length ≤ 2
  la : r.a.length ≤ 2
  lx : r.x.length ≤ 2
  ly : r.y.length ≤ 2
  ne : r.b ++ r.a ≠ []
  c : ∀ c ∈ r.b ++ r.a ++ r.x ++ r.y, lowc c
theorem low_ok {l : List Nat} (h : ∀ c ∈ l, lowc c) : PyData.strOk (sL l) = true := strOk_sL fun c hc => by have := (h c hc).2; omega
theorem spell_ok : PyData.strOk (Str.ofString "spell") = true := by decide +kernel
theorem nil_ok : PyData.strOk (sL []) = true := by decide +kernel
theorem rule_ok (r : R) (h : r.ok) : m_is_rule [r.D] = .ret (.bool true) := by
  have hb : ∀ c ∈ r.b, lowc c := fun c hc => h.c c (by simp [hc])
  have ha : ∀ c ∈ r.a, lowc c := fun c hc => h.c c (by simp [hc])
  have hx : ∀ c ∈ r.x, lowc c := fun c hc => h.c c (by simp [hc])
  have hy : ∀ c ∈ r.y, lowc c := fun c hc => h.c c (by simp [hc])
  have p1 := part_str r.b 0 3 (by have := h.lb; omega) hb
  have p2 := part_str r.a 0 3 (by have := h.la; omega) ha
  have p3 := part_str r.x 0 4 (by have := h.lx; omega) hx
  have p4 := part_str r.y 0 4 (by have := h.ly; omega) hy
  have q1 : ((r.b.length : Nat) : Int) ≤ 3 := by have := h.lb; omega
  have q2 : ((r.a.length : Nat) : Int) ≤ 3 := by have := h.la; omega
  have q3 : ((r.x.length : Nat) : Int) ≤ 4 := by have := h.lx; omega
  have q4 : ((r.y.length : Nat) : Int) ≤ 4 := by have := h.ly; omega
  have z : r.b.length + r.a.length ≤ sizeLine := le_line (by have := h.lb; have := h.la; omega)
  have e1 : dNe (.str "spell") (.str "spell") = some (.bool false) := by rw [dNe_str spell_ok spell_ok]; simp
  have e2 : dEq (.str (sL (r.b ++ r.a))) (.str "") = some (.bool false) := by
    rw [empty_sL, dEq_str (low_ok fun c hc => (List.mem_append.mp hc).elim (hb c) (ha c)) nil_ok]
    simp [h.ne]
  simp [m_is_rule, c_is_rule, fnP, R.D, p1, p2, p3, p4, q1, q2, q3, q4, z, e1, e2, atI, ixN]
@[simp] theorem atI_five {α : Type} (a b c d e : α) : atI [a, b, c, d, e] 1 = some b ∧ atI [a, b, c, d, e] 2 = some c ∧ atI [a, b, c, d, e] 3 = some d ∧ atI [a, b, c, d, e] 4 = some e := by simp [atI, ixN]
theorem str_in {l : List Nat} {P : Nat → Prop} : l = l := rfl
theorem R.eqv (r s : R) : PyData.eqv r.D s.D = decide (r = s) := by
  rw [Bool.eq_iff_iff]
  cases r
  cases s
  simp [R.D, PyData.eqv, PyData.eqvAll]
theorem R.parts {r : R} (h : r.ok) : (∀ c ∈ r.b, lowc c) ∧ (∀ c ∈ r.a, lowc c) ∧ (∀ c ∈ r.x, lowc c) ∧ (∀ c ∈ r.y, lowc c) :=
  ⟨fun c hc => h.c c (by simp [hc]), fun c hc => h.c c (by simp [hc]), fun c hc => h.c c (by simp [hc]), fun c hc => h.c c (by simp [hc])⟩
theorem R.lay {r : R} (h : r.ok) : PyData.canLay0 r.D = true := by
  obtain ⟨h1, h2, h3, h4⟩ := R.parts h
  have := spell_ok
  simp [R.D, PyData.canLay0, PyData.canLayAll0, low_ok h1, low_ok h2, low_ok h3, low_ok h4, spell_ok]
theorem R.dep (r : R) : PyData.depth r.D = 1 := by simp [R.D, PyData.depth, PyData.depthAll]
theorem R.sh {r : R} (h : r.ok) : SeqAt.shaped r.D = true := by simp [SeqAt.shaped, R.lay h, R.dep]
theorem rs_lay : ∀ {rs : List R}, (∀ r ∈ rs, r.ok) → PyData.canLayAll0 (rs.map R.D) = true
  | [], _ => by simp [PyData.canLayAll0]
  | r :: rs, h => by simp [PyData.canLayAll0, R.lay (h r List.mem_cons_self), rs_lay (rs := rs) fun x hx => h x (List.mem_cons_of_mem _ hx)]
theorem rs_dep : ∀ (rs : List R), PyData.depthAll (rs.map R.D) ≤ 1
  | [] => by simp [PyData.depthAll]
  | r :: rs => by
    have := rs_dep rs
    simp [PyData.depthAll, R.dep]
    omega
theorem rs_sh {rs : List R} (h : ∀ r ∈ rs, r.ok) : SeqAt.shaped (.tuple (rs.map R.D)) = true := by
  have := rs_dep rs
  simp [SeqAt.shaped, PyData.canLay0, rs_lay h, PyData.depth]
  omega
theorem rs_shl {rs : List R} (h : ∀ r ∈ rs, r.ok) : SeqAt.shaped (.list (rs.map R.D)) = true := by
  have := rs_dep rs
  simp [SeqAt.shaped, PyData.canLay0, rs_lay h, PyData.depth]
  omega
theorem rs_any (rs : List R) (r : R) : ((rs.map R.D).any fun z => PyData.eqv z r.D) = decide (r ∈ rs) := by
  rw [List.any_map]
  rw [Bool.eq_iff_iff]
  simp [R.eqv]
theorem spelling_ok (rs : List R) (h : ∀ r ∈ rs, r.ok) (hn : rs.Nodup) (hl : rs.length ≤ 12) : m_is_spelling [.tuple (rs.map R.D)] = .ret (.bool true) := by
  have hz : rs.length ≤ sizeLine := le_line (by omega)
  have h1 : lcRun [1] (setN 1) tYesD (eCall 1 m_is_rule (aCons (eVar 1) aNil)) (rs.map R.D) [.d (.tuple (rs.map R.D)), .un, .un] [] = .ok ([] ++ (rs.map R.D).map fun _ => .bool true) [.d (.tuple (rs.map R.D)), .un, .un] := by
    refine lc_map _ _ (fun d hd => ?_) (by simp [hz])
    obtain ⟨r, hr, rfl⟩ := List.mem_map.mp hd
    have := rule_ok r (h r hr)
    exact ⟨_, _, by simp; rfl, by simp [this]; rfl, by simp, by simp⟩
  have h2 : lcRun [2] (setN 2) tYesD (eBin dNotIn (eBin dIx (eVar 0) (eVar 2)) (eSl dSl (eVar 0) oNone (oSome (eVar 2)))) (rng 0 rs.length) [.d (.tuple (rs.map R.D)), .un, .un] [] = .ok ([] ++ (rng 0 rs.length).map fun _ => .bool true) [.d (.tuple (rs.map R.D)), .un, .un] := by
    refine lc_map _ _ (fun d hd => ?_) (by simp [rng, hz])
    obtain ⟨i, hi, rfl⟩ := List.mem_map.mp hd
    have hi := List.mem_range.mp hi
    have e1 : atI (rs.map R.D) (i : Int) = some (rs[i]).D := by
      rw [atI_nat _ _ (by simpa using hi)]
      simp
    have e2 : dNotIn (rs[i]).D (.tuple ((rs.map R.D).take i)) = some (.bool true) := by
      rw [← List.map_take]
      unfold dNotIn
      have s1 := R.sh (h rs[i] (List.getElem_mem _))
      have s2 := rs_sh (rs := rs.take i) fun r hr => h r (List.mem_of_mem_take hr)
      have e3 : (((rs.take i).map R.D).any fun z => PyData.eqv z (rs[i]).D) = false := by
        rw [rs_any]
        simp only [decide_eq_false_iff_not]
        intro hm
        obtain ⟨j, hj, e⟩ := List.getElem_of_mem hm
        rw [List.getElem_take] at e
        rw [List.length_take] at hj
        exact List.pairwise_iff_getElem.mp hn j i (by omega) hi (by omega) e
      show (if SeqAt.shaped (rs[i]).D = true ∧ SeqAt.shaped (.tuple ((rs.take i).map R.D)) = true then some (PyData.bool (!((rs.take i).map R.D).any fun z => PyData.eqv z (rs[i]).D)) else none) = _
      rw [if_pos ⟨s1, s2⟩, e3]
      rfl
    exact ⟨_, _, by simp; rfl, by simp [e1, cutD_take, e2]; rfl, by simp, by simp⟩
  have a1 := dAll_true rs
  have a2 := dAll_true (rng 0 rs.length)
  have l1 : ¬ ((12 : Int) < rs.length) := by omega
  have hr : eRng1 (aCons (eCallB dLen (aCons (eVar 0) aNil)) aNil) [.d (.tuple (rs.map R.D)), .un, .un] = .ok (rng 0 rs.length) [.d (.tuple (rs.map R.D)), .un, .un] := by
    refine (eRng1_ok (n := (rs.length : Nat)) (ρ1 := [.d (.tuple (rs.map R.D)), .un, .un]) (by simp) (by omega)).trans ?_
    rw [Int.toNat_natCast]
  simp [-eRng1, m_is_spelling, c_is_spelling, fnP, d_MOST_RULES, l1, h1, a1, h2, a2, hr, Function.comp_def]
/-! breaking -/
def fits (r : R) (A B : Str) : Bool := Txt.endswith A (sL r.b) && Txt.startswith B (sL r.a)
def plain : R := ⟨[], [], [], []⟩
def pick (rs : List R) (A B : Str) : R := (rs.find? fun r => fits r A B).getD plain
def Pl (s : SV) : Prop := s = .un ∨ ∃ d, s = .d d
theorem Pl.d (d : DL.D) : Pl (.d d) := .inr ⟨d, rfl⟩
theorem plain_D : d_PLAIN = plain.D := by
  simp [d_PLAIN, R.D, plain, empty_sL]
def ruleBody : SC := (sIf (eAnd (eTruth (eMeth "str" dEnds (eVar 1) (aCons (eBin dIx (eVar 3) (eC (.int 1))) aNil))) (eTruth (eMeth "str" dStarts (eVar 2) (aCons (eBin dIx (eVar 3) (eC (.int 2))) aNil))))
    (sRet (eVar 3))
    sNx)
theorem rule_body (S : DL.D) (A B : Str) (r : R) : ruleBody [.d S, .d (.str A), .d (.str B), .d r.D] = if fits r A B = true then .rt r.D [.d S, .d (.str A), .d (.str B), .d r.D] else .nx [.d S, .d (.str A), .d (.str B), .d r.D] := by
  unfold fits ruleBody
  cases h1 : Txt.endswith A (sL r.b) <;> cases h2 : Txt.startswith B (sL r.a) <;> simp [R.D, dTy, atI, ixN, h1, h2]
theorem rule_loop (S : DL.D) (A B : Str) : ∀ (rs : List R) (s3 : SV), Pl s3 → ∃ s3', Pl s3' ∧ forRun (setN 3) ruleBody (rs.map R.D) [.d S, .d (.str A), .d (.str B), s3] = match rs.find? fun r => fits r A B with
    | some r => .rt r.D [.d S, .d (.str A), .d (.str B), s3']
    | none => .nx [.d S, .d (.str A), .d (.str B), s3']
  | [], s3, h => ⟨s3, h, rfl⟩
  | r :: rs, s3, h => by
    have hset : setN 3 r.D [.d S, .d (.str A), .d (.str B), s3] = some [.d S, .d (.str A), .d (.str B), .d r.D] := by
      rcases h with rfl | ⟨d, rfl⟩ <;> simp
    rw [List.map_cons]
    unfold forRun
    rw [hset]
    simp only [rule_body]
    cases hf : fits r A B with
    | true =>
      refine ⟨.d r.D, .d _, ?_⟩
      simp [hf]
    | false =>
      obtain ⟨s3', h', e⟩ := rule_loop S A B rs (.d r.D) (.d _)
      refine ⟨s3', h', ?_⟩
      simp [hf, e]
theorem rule_at_ok (rs : List R) (A B : Str) : m_rule_at [.tuple (rs.map R.D), .str A, .str B] = .ret (pick rs A B).D := by
  obtain ⟨s3', h', e⟩ := rule_loop (.tuple (rs.map R.D)) A B rs .un (.inl rfl)
  unfold ruleBody at e
  have pd := plain_D
  unfold pick
  cases hf : rs.find? fun r => fits r A B with
  | none =>
    rw [hf] at e
    simp [m_rule_at, c_rule_at, fnP, e, pd]
  | some r =>
    rw [hf] at e
    simp [m_rule_at, c_rule_at, fnP, e]
theorem pick_len {rs : List R} (h : ∀ r ∈ rs, r.ok) (A B : Str) : (pick rs A B).b.length ≤ 2 ∧ (pick rs A B).a.length ≤ 2 ∧ (pick rs A B).x.length ≤ 2 ∧ (pick rs A B).y.length ≤ 2 := by
  unfold pick
  cases hf : rs.find? fun r => fits r A B with
  | none => simp [plain]
  | some r =>
    have := h r (List.mem_of_find?_eq_some hf)
    exact ⟨this.lb, this.la, this.lx, this.ly⟩
def pickAt (rs : List R) (w : List Nat) (ps : List Int) (low p : Int) : R := pick rs (sL (cutL w (some low) (some p))) (sL (cutL w (some p) (some (ps.headD w.length))))
def brkL (rs : List R) (w : List Nat) : List Int → Int → List Nat → List (List Nat) × Int × List Nat
  | [], low, pc => ([], low, pc)
  | p :: ps, low, pc => ((pc ++ cutL w (some low) (some (p - (pickAt rs w ps low p).b.length)) ++ (pickAt rs w ps low p).x) :: (brkL rs w ps (p + (pickAt rs w ps low p).a.length) (pickAt rs w ps low p).y).1,
      (brkL rs w ps (p + (pickAt rs w ps low p).a.length) (pickAt rs w ps low p).y).2)
def brk (rs : List R) (w : List Nat) (ps : List Int) : List (List Nat) := (brkL rs w ps 0 []).1 ++ [(brkL rs w ps 0 []).2.2 ++ cutL w (some (brkL rs w ps 0 []).2.1) none]
theorem brkL_len (rs : List R) (w : List Nat) : ∀ (ps : List Int) (low : Int) (pc : List Nat), (brkL rs w ps low pc).1.length = ps.length
  | [], _, _ => rfl
  | p :: ps, low, pc => by
    unfold brkL
    rw [List.length_cons, List.length_cons, brkL_len]
theorem brkL_pc {rs : List R} (h : ∀ r ∈ rs, r.ok) (w : List Nat) : ∀ (ps : List Int) (low : Int) (pc : List Nat), pc.length ≤ 2 → (brkL rs w ps low pc).2.2.length ≤ 2
  | [], _, _, hp => hp
  | p :: ps, low, pc, hp => brkL_pc h w ps _ _ (pick_len h _ _).2.2.2
def strsOf (ls : List (List Nat)) : List DL.D := ls.map fun l => .str (sL l)
def mkE (p : DL.D × Nat) : DL.D := .tuple [.int (p.2 : Nat), p.1]
theorem enumD_mk (ds : List DL.D) : enumD ds = (ds.zipIdx 0).map mkE := rfl
def pcBody : SC :=
    (sSeq (sAsg (eCallB dLen (aCons (eVar 1) aNil)) (setN 8))
    (sSeq (sIf (eTest (eBin dLt (eBin dAdd (eVar 6) (eC (.int 1))) (eCallB dLen (aCons (eVar 2) aNil))))
    (sAsg (eBin dIx (eVar 2) (eBin dAdd (eVar 6) (eC (.int 1)))) (setN 8))
    sNx)
    (sSeq (sAsg (eCall 3 m_rule_at (aCons (eVar 0) (aCons (eSl dSl (eVar 1) (oSome (eVar 4)) (oSome (eVar 7))) (aCons (eSl dSl (eVar 1) (oSome (eVar 7)) (oSome (eVar 8))) aNil)))) (setN 9))
    (sSeq (sApp 3 (eBin dAdd (eBin dAdd (eVar 5) (eSl dSl (eVar 1) (oSome (eVar 4)) (oSome (eBin dSub (eVar 7) (eCallB dLen (aCons (eBin dIx (eVar 9) (eC (.int 1))) aNil)))))) (eBin dIx (eVar 9) (eC (.int 3)))))
    (sSeq (sAsg (eBin dIx (eVar 9) (eC (.int 4))) (setN 5))
    (sAsg (eBin dAdd (eVar 7) (eCallB dLen (aCons (eBin dIx (eVar 9) (eC (.int 2))) aNil))) (setN 4)))))))
def intL (ps : List Int) : List DL.D := ps.map PyData.int
theorem pc_body {rs : List R} (h : ∀ r ∈ rs, r.ok) (w : List Nat) (hw : w.length ≤ 100) (pre : List Int) (p : Int) (ps : List Int) (hl : (pre ++ p :: ps).length ≤ 100) (acc : List DL.D) (ha : acc.length ≤ 100) (low : Int) (pc : List Nat) (hp : pc.length ≤ 2) (s8 s9 : SV) (h8 : Pl s8) (h9 : Pl s9) :
    pcBody [.d (.tuple (rs.map R.D)), .d (.str (sL w)), .d (.tuple (intL (pre ++ p :: ps))), .own false (.lst acc), .d (.int low), .d (.str (sL pc)), .d (.int pre.length), .d (.int p), s8, s9] =
    .nx [.d (.tuple (rs.map R.D)), .d (.str (sL w)), .d (.tuple (intL (pre ++ p :: ps))), .own false (.lst (acc ++ [.str (sL (pc ++ cutL w (some low) (some (p - (pickAt rs w ps low p).b.length)) ++ (pickAt rs w ps low p).x))])), .d (.int (p + (pickAt rs w ps low p).a.length)), .d (.str (sL (pickAt rs w ps low p).y)), .d (.int pre.length), .d (.int p), .d (.int (ps.headD w.length)), .d (pickAt rs w ps low p).D] := by
  have zw : w.length ≤ sizeLine := le_line (by omega)
  have pl := pick_len h (sL (cutL w (some low) (some p))) (sL (cutL w (some p) (some (ps.headD w.length))))
  have hr := rule_at_ok rs (sL (cutL w (some low) (some p))) (sL (cutL w (some p) (some (ps.headD w.length))))
  have hr : m_rule_at [.tuple (rs.map R.D), .str (sL (cutL w (some low) (some p))), .str (sL (cutL w (some p) (some (ps.headD w.length))))] = .ret (pickAt rs w ps low p).D := hr
  obtain ⟨l1, l2, l3, l4⟩ : (pickAt rs w ps low p).b.length ≤ 2 ∧ (pickAt rs w ps low p).a.length ≤ 2 ∧ (pickAt rs w ps low p).x.length ≤ 2 ∧ (pickAt rs w ps low p).y.length ≤ 2 := pl
  generalize pickAt rs w ps low p = r at *
  have c1 := cutL_le w (some low) (some (p - r.b.length))
  have z1 : pc.length + (cutL w (some low) (some (p - r.b.length))).length ≤ sizeLine := le_line (by omega)
  have z2 : pc.length + ((cutL w (some low) (some (p - r.b.length))).length + r.x.length) ≤ sizeLine := le_line (by omega)
  have z3 : pc.length + (cutL w (some low) (some (p - r.b.length))).length + r.x.length ≤ sizeLine := le_line (by omega)
  have z4 : acc.length < sizeLine := lt_line (by omega)
  have z5 : r.b.length ≤ sizeLine := le_line (by omega)
  have z6 : r.a.length ≤ sizeLine := le_line (by omega)
  cases ps with
  | nil =>
    have t2 : ¬ ((pre.length : Int) + 1 < (pre.length : Int) + 1) := by omega
    simp only [List.headD_nil] at hr
    rcases h8 with rfl | ⟨d8, rfl⟩ <;> rcases h9 with rfl | ⟨d9, rfl⟩ <;>
      simp [pcBody, intL, zw, z1, z2, z3, z4, z5, z6, t2, hr, R.D, atI_five]
  | cons q qs =>
    have t2 : (pre.length : Int) + 1 < (pre.length : Int) + ((qs.length : Int) + 1 + 1) := by omega
    have e1 : atI (intL (pre ++ p :: q :: qs)) ((pre.length : Int) + 1) = some (.int q) := by
      rw [show (pre.length : Int) + 1 = ((pre.length + 1 : Nat) : Int) from by omega, atI_nat _ _ (by simp [intL])]
      simp [intL]
    simp only [intL, List.map_append, List.map_cons] at e1
    simp only [List.headD_cons] at hr
    rcases h8 with rfl | ⟨d8, rfl⟩ <;> rcases h9 with rfl | ⟨d9, rfl⟩ <;>
      simp [pcBody, intL, zw, z1, z2, z3, z4, z5, z6, t2, e1, hr, R.D, atI_five]
theorem pc_loop {rs : List R} (h : ∀ r ∈ rs, r.ok) (w : List Nat) (hw : w.length ≤ 100) : ∀ (ps pre : List Int) (acc : List DL.D) (low : Int) (pc : List Nat) (s6 s7 s8 s9 : SV), (pre ++ ps).length ≤ 50 → acc.length ≤ pre.length → pc.length ≤ 2 → Pl s6 → Pl s7 → Pl s8 → Pl s9 →
    ∃ t6 t7 t8 t9, Pl t6 ∧ Pl t7 ∧ Pl t8 ∧ Pl t9 ∧ forRun (setTup 2 (setCons (setN 6) (setCons (setN 7) setNil))) pcBody (((intL ps).zipIdx pre.length).map mkE)
      [.d (.tuple (rs.map R.D)), .d (.str (sL w)), .d (.tuple (intL (pre ++ ps))), .own false (.lst acc), .d (.int low), .d (.str (sL pc)), s6, s7, s8, s9] =
    .nx [.d (.tuple (rs.map R.D)), .d (.str (sL w)), .d (.tuple (intL (pre ++ ps))), .own false (.lst (acc ++ strsOf (brkL rs w ps low pc).1)), .d (.int (brkL rs w ps low pc).2.1), .d (.str (sL (brkL rs w ps low pc).2.2)), t6, t7, t8, t9]
  | [], pre, acc, low, pc, s6, s7, s8, s9, _, _, _, h6, h7, h8, h9 => ⟨s6, s7, s8, s9, h6, h7, h8, h9, by simp [intL, forRun, brkL, strsOf]⟩
  | p :: ps, pre, acc, low, pc, s6, s7, s8, s9, hl, ha, hp, h6, h7, h8, h9 => by
    have hset : setTup 2 (setCons (setN 6) (setCons (setN 7) setNil)) (.tuple [.int (pre.length : Nat), .int p]) [.d (.tuple (rs.map R.D)), .d (.str (sL w)), .d (.tuple (intL (pre ++ p :: ps))), .own false (.lst acc), .d (.int low), .d (.str (sL pc)), s6, s7, s8, s9] =
        some [.d (.tuple (rs.map R.D)), .d (.str (sL w)), .d (.tuple (intL (pre ++ p :: ps))), .own false (.lst acc), .d (.int low), .d (.str (sL pc)), .d (.int pre.length), .d (.int p), s8, s9] := by
      rcases h6 with rfl | ⟨d6, rfl⟩ <;> rcases h7 with rfl | ⟨d7, rfl⟩ <;> simp
    have hb := pc_body h w hw pre p ps (by omega) acc (by simp at hl; omega) low pc hp s8 s9 h8 h9
    have pl := pick_len h (sL (cutL w (some low) (some p))) (sL (cutL w (some p) (some (ps.headD w.length))))
    have e1 : pre ++ p :: ps = (pre ++ [p]) ++ ps := by simp
    obtain ⟨t6, t7, t8, t9, q6, q7, q8, q9, e⟩ := pc_loop h w hw ps (pre ++ [p]) (acc ++ [.str (sL (pc ++ cutL w (some low) (some (p - (pickAt rs w ps low p).b.length)) ++ (pickAt rs w ps low p).x))]) (p + (pickAt rs w ps low p).a.length) (pickAt rs w ps low p).y (.d (.int pre.length)) (.d (.int p)) (.d (.int (ps.headD w.length))) (.d (pickAt rs w ps low p).D)
      (by rw [← e1]; exact hl) (by simp; omega) pl.2.2.2 (.d _) (.d _) (.d _) (.d _)
    refine ⟨t6, t7, t8, t9, q6, q7, q8, q9, ?_⟩
    have ez : ((intL (p :: ps)).zipIdx pre.length).map mkE = .tuple [.int (pre.length : Nat), .int p] :: ((intL ps).zipIdx (pre ++ [p]).length).map mkE := by
      simp [intL, mkE]
    rw [ez]
    unfold forRun
    rw [hset]
    simp only [hb]
    rw [e1, e]
    simp [brkL, strsOf]
theorem pieces_ok {rs : List R} (h : ∀ r ∈ rs, r.ok) (w : List Nat) (hw : w.length ≤ 100) (ps : List Int) (hl : ps.length ≤ 50) : m_pieces_of [.tuple (rs.map R.D), .str (sL w), .tuple (intL ps)] = .ret (.tuple (strsOf (brk rs w ps))) := by
  obtain ⟨t6, t7, t8, t9, q6, q7, q8, q9, e⟩ := pc_loop h w hw ps [] [] 0 [] .un .un .un .un (by simpa using hl) (by simp) (by simp) (.inl rfl) (.inl rfl) (.inl rfl) (.inl rfl)
  have hz := brkL_pc h w ps 0 [] (by simp)
  have hn := brkL_len rs w ps 0 []
  have c1 := cutL_le w (some (brkL rs w ps 0 []).2.1) none
  have z0 : w.length ≤ sizeLine := le_line (by omega)
  have z1 : (brkL rs w ps 0 []).2.2.length + (cutL w (some (brkL rs w ps 0 []).2.1) none).length ≤ sizeLine := le_line (by omega)
  have z2 : (strsOf (brkL rs w ps 0 []).1).length < sizeLine := lt_line (by simp [strsOf]; omega)
  have z3 : (strsOf (brkL rs w ps 0 []).1).length + 1 ≤ sizeLine := le_line (by simp [strsOf]; omega)
  unfold pcBody at e
  simp only [List.length_nil, List.nil_append] at e
  have en := enumD_mk (intL ps)
  simp [m_pieces_of, c_pieces_of, fnP, itemsOf, enumA, en, empty_sL, e, z0, z1, z2]
  simp [brk, strsOf]
/-! the law's own breaking -/
def lastFit (qs : List R) (A B : Str) (r0 : R) : R := qs.foldl (fun a r => if fits r A B = true then r else a) r0
theorem lastFit_pick (rs : List R) (A B : Str) : lastFit rs.reverse A B plain = pick rs A B := by
  unfold lastFit pick
  rw [List.foldl_reverse]
  induction rs with
  | nil => rfl
  | cons r rs ih =>
    rw [List.foldr_cons, List.find?_cons]
    cases fits r A B with
    | true => simp
    | false => simpa using ih
def inBody : SC := (sIf (eAnd (eTruth (eMeth "str" dEnds (eSl dSl (eVar 1) (oSome (eVar 5)) (oSome (eVar 8))) (aCons (eBin dIx (eVar 10) (eC (.int 1))) aNil))) (eTruth (eMeth "str" dStarts (eSl dSl (eVar 1) (oSome (eVar 8)) (oSome (eBin dIx (eVar 6) (eBin dAdd (eVar 7) (eC (.int 1)))))) (aCons (eBin dIx (eVar 10) (eC (.int 2))) aNil))))
    (sAsg (eVar 10) (setN 9))
    sNx)
def lbBody : SC :=
    (sSeq (sAsg (eBin dIx (eVar 6) (eVar 7)) (setN 8))
    (sSeq (sAsg (eTup (aCons (eC (.str "spell")) (aCons (eC (.str "")) (aCons (eC (.str "")) (aCons (eC (.str "")) (aCons (eC (.str "")) aNil)))))) (setN 9))
    (sSeq (sFor (eIter (eRev (eVar 0))) (setN 10)
    (sIf (eAnd (eTruth (eMeth "str" dEnds (eSl dSl (eVar 1) (oSome (eVar 5)) (oSome (eVar 8))) (aCons (eBin dIx (eVar 10) (eC (.int 1))) aNil))) (eTruth (eMeth "str" dStarts (eSl dSl (eVar 1) (oSome (eVar 8)) (oSome (eBin dIx (eVar 6) (eBin dAdd (eVar 7) (eC (.int 1)))))) (aCons (eBin dIx (eVar 10) (eC (.int 2))) aNil))))
    (sAsg (eVar 10) (setN 9))
    sNx))
    (sSeq (sApp 3 (eBin dAdd (eBin dAdd (eVar 4) (eSl dSl (eVar 1) (oSome (eVar 5)) (oSome (eBin dSub (eVar 8) (eCallB dLen (aCons (eBin dIx (eVar 9) (eC (.int 1))) aNil)))))) (eBin dIx (eVar 9) (eC (.int 3)))))
    (sPar 4 5 (aCons (eBin dIx (eVar 9) (eC (.int 4))) (aCons (eBin dAdd (eVar 8) (eCallB dLen (aCons (eBin dIx (eVar 9) (eC (.int 2))) aNil))) aNil)))))))
theorem in_loop (S PLD F : SV) (w : List Nat) (hw : w.length ≤ 100) (pc : SV) (low p nx : Int) (M : List DL.D) (i : Nat) (hM : atI M ((i : Int) + 1) = some (.int nx)) : ∀ (qs : List R) (r0 : R) (s10 : SV), Pl s10 → ∃ t10, Pl t10 ∧ forRun (setN 10) inBody (qs.map R.D) [S, .d (.str (sL w)), PLD, F, pc, .d (.int low), .d (.list M), .d (.int (i : Nat)), .d (.int p), .d r0.D, s10] =
    .nx [S, .d (.str (sL w)), PLD, F, pc, .d (.int low), .d (.list M), .d (.int (i : Nat)), .d (.int p), .d (lastFit qs (sL (cutL w (some low) (some p))) (sL (cutL w (some p) (some nx))) r0).D, t10]
  | [], r0, s10, h => ⟨s10, h, rfl⟩
  | q :: qs, r0, s10, h => by
    have hset : setN 10 q.D [S, .d (.str (sL w)), PLD, F, pc, .d (.int low), .d (.list M), .d (.int (i : Nat)), .d (.int p), .d r0.D, s10] = some [S, .d (.str (sL w)), PLD, F, pc, .d (.int low), .d (.list M), .d (.int (i : Nat)), .d (.int p), .d r0.D, .d q.D] := by
      rcases h with rfl | ⟨d, rfl⟩ <;> simp
    have zw : w.length ≤ sizeLine := le_line (by omega)
    have hb : inBody [S, .d (.str (sL w)), PLD, F, pc, .d (.int low), .d (.list M), .d (.int (i : Nat)), .d (.int p), .d r0.D, .d q.D] = .nx [S, .d (.str (sL w)), PLD, F, pc, .d (.int low), .d (.list M), .d (.int (i : Nat)), .d (.int p), .d (if fits q (sL (cutL w (some low) (some p))) (sL (cutL w (some p) (some nx))) = true then q else r0).D, .d q.D] := by
      unfold fits inBody
      cases h1 : Txt.endswith (sL (cutL w (some low) (some p))) (sL q.b) <;> cases h2 : Txt.startswith (sL (cutL w (some p) (some nx))) (sL q.a) <;> simp [R.D, dTy, atI_five, zw, hM, h1, h2]
    rw [List.map_cons]
    unfold forRun
    rw [hset]
    simp only [hb]
    obtain ⟨t10, h', e⟩ := in_loop S PLD F w hw pc low p nx M i hM qs (if fits q (sL (cutL w (some low) (some p))) (sL (cutL w (some p) (some nx))) = true then q else r0) (.d q.D) (.d _)
    refine ⟨t10, h', ?_⟩
    rw [e]
    rfl
theorem lb_body {rs : List R} (h : ∀ r ∈ rs, r.ok) (w : List Nat) (hw : w.length ≤ 100) (PLD : DL.D) (M : List DL.D) (i : Nat) (p : Int) (ps : List Int) (hM : atI M ((i : Int) + 1) = some (.int (ps.headD w.length))) (hM0 : atI M (i : Int) = some (.int p)) (acc : List DL.D) (ha : acc.length ≤ 100) (low : Int) (pc : List Nat) (hp : pc.length ≤ 2) (s8 s9 s10 : SV) (h8 : Pl s8) (h9 : Pl s9) (h10 : Pl s10) :
    ∃ t10, Pl t10 ∧ lbBody [.d (.tuple (rs.map R.D)), .d (.str (sL w)), .d PLD, .own false (.lst acc), .d (.str (sL pc)), .d (.int low), .d (.list M), .d (.int (i : Nat)), s8, s9, s10] =
    .nx [.d (.tuple (rs.map R.D)), .d (.str (sL w)), .d PLD, .own false (.lst (acc ++ [.str (sL (pc ++ cutL w (some low) (some (p - (pickAt rs w ps low p).b.length)) ++ (pickAt rs w ps low p).x))])), .d (.str (sL (pickAt rs w ps low p).y)), .d (.int (p + (pickAt rs w ps low p).a.length)), .d (.list M), .d (.int (i : Nat)), .d (.int p), .d (pickAt rs w ps low p).D, t10] := by
  have zw : w.length ≤ sizeLine := le_line (by omega)
  obtain ⟨l1, l2, l3, l4⟩ : (pickAt rs w ps low p).b.length ≤ 2 ∧ (pickAt rs w ps low p).a.length ≤ 2 ∧ (pickAt rs w ps low p).x.length ≤ 2 ∧ (pickAt rs w ps low p).y.length ≤ 2 := pick_len h (sL (cutL w (some low) (some p))) (sL (cutL w (some p) (some (ps.headD w.length))))
  obtain ⟨t10, q10, e⟩ := in_loop (.d (.tuple (rs.map R.D))) (.d PLD) (.own false (.lst acc)) w hw (.d (.str (sL pc))) low p (ps.headD w.length) M i hM rs.reverse plain s10 h10
  rw [lastFit_pick] at e
  have e : forRun (setN 10) inBody (rs.reverse.map R.D) [.d (.tuple (rs.map R.D)), .d (.str (sL w)), .d PLD, .own false (.lst acc), .d (.str (sL pc)), .d (.int low), .d (.list M), .d (.int (i : Nat)), .d (.int p), .d plain.D, s10] =
    .nx [.d (.tuple (rs.map R.D)), .d (.str (sL w)), .d PLD, .own false (.lst acc), .d (.str (sL pc)), .d (.int low), .d (.list M), .d (.int (i : Nat)), .d (.int p), .d (pickAt rs w ps low p).D, t10] := e
  rw [List.map_reverse] at e
  generalize pickAt rs w ps low p = r at *
  have c1 := cutL_le w (some low) (some (p - r.b.length))
  have z1 : pc.length + (cutL w (some low) (some (p - r.b.length))).length ≤ sizeLine := le_line (by omega)
  have z2 : pc.length + ((cutL w (some low) (some (p - r.b.length))).length + r.x.length) ≤ sizeLine := le_line (by omega)
  have z3 : pc.length + (cutL w (some low) (some (p - r.b.length))).length + r.x.length ≤ sizeLine := le_line (by omega)
  have z4 : acc.length < sizeLine := lt_line (by omega)
  have z5 : r.b.length ≤ sizeLine := le_line (by omega)
  have z6 : r.a.length ≤ sizeLine := le_line (by omega)
  have z7 : 5 ≤ sizeLine := by decide
  unfold inBody at e
  have pD : plain.D = .tuple [.str "spell", .str (sL []), .str (sL []), .str (sL []), .str (sL [])] := rfl
  rw [pD] at e
  refine ⟨t10, q10, ?_⟩
  rcases h8 with rfl | ⟨d8, rfl⟩ <;> rcases h9 with rfl | ⟨d9, rfl⟩ <;>
    simp [lbBody, hM0, z7, empty_sL, e, zw, z1, z2, z3, z4, z5, z6, R.D, atI_five]
theorem lb_loop {rs : List R} (h : ∀ r ∈ rs, r.ok) (w : List Nat) (hw : w.length ≤ 100) (PLD : DL.D) : ∀ (ps pre : List Int) (acc : List DL.D) (low : Int) (pc : List Nat) (s7 s8 s9 s10 : SV), (pre ++ ps).length ≤ 50 → acc.length ≤ pre.length → pc.length ≤ 2 → Pl s7 → Pl s8 → Pl s9 → Pl s10 →
    ∃ t7 t8 t9 t10, Pl t7 ∧ Pl t8 ∧ Pl t9 ∧ Pl t10 ∧ forRun (setN 7) lbBody ((List.range' pre.length ps.length).map fun (i : Nat) => .int (0 + (i : Int)))
      [.d (.tuple (rs.map R.D)), .d (.str (sL w)), .d PLD, .own false (.lst acc), .d (.str (sL pc)), .d (.int low), .d (.list (intL (pre ++ ps) ++ [.int w.length])), s7, s8, s9, s10] =
    .nx [.d (.tuple (rs.map R.D)), .d (.str (sL w)), .d PLD, .own false (.lst (acc ++ strsOf (brkL rs w ps low pc).1)), .d (.str (sL (brkL rs w ps low pc).2.2)), .d (.int (brkL rs w ps low pc).2.1), .d (.list (intL (pre ++ ps) ++ [.int w.length])), t7, t8, t9, t10]
  | [], pre, acc, low, pc, s7, s8, s9, s10, _, _, _, h7, h8, h9, h10 => ⟨s7, s8, s9, s10, h7, h8, h9, h10, by simp [forRun, brkL, strsOf]⟩
  | p :: ps, pre, acc, low, pc, s7, s8, s9, s10, hl, ha, hp, h7, h8, h9, h10 => by
    have hset : setN 7 (.int (0 + ((pre.length : Nat) : Int))) [.d (.tuple (rs.map R.D)), .d (.str (sL w)), .d PLD, .own false (.lst acc), .d (.str (sL pc)), .d (.int low), .d (.list (intL (pre ++ p :: ps) ++ [.int w.length])), s7, s8, s9, s10] =
        some [.d (.tuple (rs.map R.D)), .d (.str (sL w)), .d PLD, .own false (.lst acc), .d (.str (sL pc)), .d (.int low), .d (.list (intL (pre ++ p :: ps) ++ [.int w.length])), .d (.int (pre.length : Nat)), s8, s9, s10] := by
      rcases h7 with rfl | ⟨d7, rfl⟩ <;> simp
    have m0 : atI (intL (pre ++ p :: ps) ++ [.int w.length]) ((pre.length : Nat) : Int) = some (.int p) := by
      rw [atI_nat _ _ (by simp [intL])]
      simp [intL]
    have m1 : atI (intL (pre ++ p :: ps) ++ [.int w.length]) (((pre.length : Nat) : Int) + 1) = some (.int (ps.headD w.length)) := by
      rw [show ((pre.length : Nat) : Int) + 1 = ((pre.length + 1 : Nat) : Int) from by omega, atI_nat _ _ (by simp [intL])]
      cases ps with
      | nil => simp [intL]
      | cons q qs => simp [intL]
    obtain ⟨u10, q10, hb⟩ := lb_body h w hw PLD (intL (pre ++ p :: ps) ++ [.int w.length]) pre.length p ps m1 m0 acc (by simp at hl; omega) low pc hp s8 s9 s10 h8 h9 h10
    have pl := pick_len h (sL (cutL w (some low) (some p))) (sL (cutL w (some p) (some (ps.headD w.length))))
    have e1 : pre ++ p :: ps = (pre ++ [p]) ++ ps := by simp
    obtain ⟨t7, t8, t9, t10, r7, r8, r9, r10, e⟩ := lb_loop h w hw PLD ps (pre ++ [p]) (acc ++ [.str (sL (pc ++ cutL w (some low) (some (p - (pickAt rs w ps low p).b.length)) ++ (pickAt rs w ps low p).x))]) (p + (pickAt rs w ps low p).a.length) (pickAt rs w ps low p).y (.d (.int (pre.length : Nat))) (.d (.int p)) (.d (pickAt rs w ps low p).D) u10
      (by rw [← e1]; exact hl) (by simp; omega) pl.2.2.2 (.d _) (.d _) (.d _) q10
    refine ⟨t7, t8, t9, t10, r7, r8, r9, r10, ?_⟩
    have ez : (List.range' pre.length (p :: ps).length).map (fun (i : Nat) => PyData.int (0 + (i : Int))) = .int (0 + ((pre.length : Nat) : Int)) :: (List.range' (pre ++ [p]).length ps.length).map (fun (i : Nat) => PyData.int (0 + (i : Int))) := by
      simp [List.range'_succ]
    rw [ez]
    unfold forRun
    rw [hset]
    simp only [hb]
    rw [e1, e]
    simp [brkL, strsOf]
theorem law_broken_ok {rs : List R} (h : ∀ r ∈ rs, r.ok) (w : List Nat) (hw : w.length ≤ 100) (ps : List Int) (hl : ps.length ≤ 50) : m__law_broken [.tuple (rs.map R.D), .str (sL w), .tuple (intL ps)] = .ret (.tuple (strsOf (brk rs w ps))) := by
  obtain ⟨t6, t7, t8, t9, q6, q7, q8, q9, e⟩ := lb_loop h w hw (.tuple (intL ps)) ps [] [] 0 [] .un .un .un .un (by simpa using hl) (by simp) (by simp) (.inl rfl) (.inl rfl) (.inl rfl) (.inl rfl)
  have hz := brkL_pc h w ps 0 [] (by simp)
  have hn := brkL_len rs w ps 0 []
  have c1 := cutL_le w (some (brkL rs w ps 0 []).2.1) none
  have z0 : w.length ≤ sizeLine := le_line (by omega)
  have z1 : (brkL rs w ps 0 []).2.2.length + (cutL w (some (brkL rs w ps 0 []).2.1) none).length ≤ sizeLine := le_line (by omega)
  have z2 : (strsOf (brkL rs w ps 0 []).1).length + 1 ≤ sizeLine := le_line (by simp [strsOf]; omega)
  have z3 : (intL ps).length + 1 ≤ sizeLine := le_line (by simp [intL]; omega)
  have z4 : 1 ≤ sizeLine := by decide
  have z5 : 2 ≤ sizeLine := by decide
  unfold lbBody at e
  simp only [List.length_nil, List.nil_append, empty_sL, Int.zero_add] at e
  have er : eRng1 (aCons (eCallB dLen (aCons (eVar 2) aNil)) aNil) [.d (.tuple (rs.map R.D)), .d (.str (sL w)), .d (.tuple (intL ps)), .own false (.lst []), .d (.str (sL [])), .d (.int 0), .d (.list (intL ps ++ [.int w.length])), .un, .un, .un, .un] = .ok ((List.range' 0 ps.length).map fun (i : Nat) => .int (0 + (i : Int))) [.d (.tuple (rs.map R.D)), .d (.str (sL w)), .d (.tuple (intL ps)), .own false (.lst []), .d (.str (sL [])), .d (.int 0), .d (.list (intL ps ++ [.int w.length])), .un, .un, .un, .un] := by
    refine (eRng1_ok (n := (ps.length : Nat)) (ρ1 := [.d (.tuple (rs.map R.D)), .d (.str (sL w)), .d (.tuple (intL ps)), .own false (.lst []), .d (.str (sL [])), .d (.int 0), .d (.list (intL ps ++ [.int w.length])), .un, .un, .un, .un]) (by simp [intL]) (by omega)).trans ?_
    rw [Int.toNat_natCast]
    simp [rng, List.range_eq_range']
  simp [-eRng1, m__law_broken, c__law_broken, fnP, empty_sL, z0, z1, z2, z3, z4, z5, er, e]
  simp [brk, strsOf]
/-! with no rule the pieces are the word again -/
theorem pick_nil (A B : Str) : pick [] A B = plain := rfl
def inc (lo : Int) : List Int → Int → Prop
  | [], _ => True
  | p :: ps, hi => lo ≤ p ∧ p ≤ hi ∧ inc p ps hi
theorem cutL_nat (w : List Nat) (a b : Nat) (ha : a ≤ w.length) (hb : b ≤ w.length) : cutL w (some (a : Int)) (some (b : Int)) = (w.drop a).take (b - a) := by
  unfold cutL
  rw [HT.sIx_nat, HT.sIx_nat, Nat.min_eq_left ha, Nat.min_eq_left hb]
theorem cutL_end (w : List Nat) (a : Nat) (ha : a ≤ w.length) : cutL w (some (a : Int)) none = w.drop a := by
  unfold cutL
  rw [HT.sIx_nat, Nat.min_eq_left ha]
  show (w.drop a).take (w.length - a) = _
  rw [List.take_of_length_le (by simp)]
theorem brk_nil_go (w : List Nat) : ∀ (ps : List Int) (a : Nat), a ≤ w.length → inc a ps w.length → (brkL [] w ps a []).1.flatten ++ ((brkL [] w ps a []).2.2 ++ cutL w (some (brkL [] w ps a []).2.1) none) = w.drop a
  | [], a, ha, _ => by
    simp [brkL, cutL_end w a ha]
  | p :: ps, a, ha, h => by
    obtain ⟨h1, h2, h3⟩ := h
    obtain ⟨b, rfl⟩ : ∃ b : Nat, p = (b : Int) := ⟨p.toNat, by omega⟩
    have hb : b ≤ w.length := by omega
    have ih := brk_nil_go w ps b hb h3
    have e : pickAt [] w ps (a : Int) (b : Int) = plain := rfl
    unfold brkL
    rw [e]
    have s1 : (b : Int) - ((plain.b.length : Nat) : Int) = (b : Int) := by simp [plain]
    have s2 : (b : Int) + ((plain.a.length : Nat) : Int) = (b : Int) := by simp [plain]
    rw [s1, s2]
    show (([] ++ cutL w (some (a : Int)) (some (b : Int)) ++ []) :: (brkL [] w ps (b : Int) []).1).flatten ++ ((brkL [] w ps (b : Int) []).2.2 ++ cutL w (some (brkL [] w ps (b : Int) []).2.1) none) = _
    rw [List.flatten_cons, List.nil_append, List.append_nil, List.append_assoc, ih, cutL_nat w a b ha hb]
    have hd : w.drop b = (w.drop a).drop (b - a) := by
      rw [List.drop_drop]
      congr 1
      omega
    rw [hd, List.take_append_drop]
theorem brk_nil (w : List Nat) (ps : List Int) (h : inc 0 ps w.length) : (brk [] w ps).flatten = w := by
  have := brk_nil_go w ps 0 (Nat.zero_le _) h
  unfold brk
  rw [List.flatten_append]
  simpa using this
/-! the tape's functions -/
theorem tape_loop (L : DL.D) : ∀ (ns : List Int) (seed : Int) (s2 : SV), Pl s2 → ∃ seed' t2, Pl t2 ∧ forRun (setN 2) (sAsg (eBin dMod (eCallB dInt (aCons (eBin dAdd (eBin dMul (eVar 1) (eC (.int 31))) (eVar 2)) aNil)) (eC (.int 1000003))) (setN 1)) (intL ns) [.d L, .d (.int seed), s2] = .nx [.d L, .d (.int seed'), t2]
  | [], seed, s2, h => ⟨seed, s2, h, rfl⟩
  | n :: ns, seed, s2, h => by
    have hset : setN 2 (.int n) [.d L, .d (.int seed), s2] = some [.d L, .d (.int seed), .d (.int n)] := by
      rcases h with rfl | ⟨d, rfl⟩ <;> simp
    obtain ⟨seed', t2, h2, e⟩ := tape_loop L ns ((seed * 31 + n) % 1000003) (.d (.int n)) (.d _)
    refine ⟨seed', t2, h2, ?_⟩
    show forRun _ _ (.int n :: intL ns) _ = _
    unfold forRun
    rw [hset]
    simp [mulOk, fitZ, e]
theorem tape_ok (ns : List Int) (h : ns.length ≤ 63) : ∃ cs sd, m__law_tape [.list (intL ns)] = .own (.tape cs sd) := by
  obtain ⟨seed', t2, h2, e⟩ := tape_loop (.list (intL ns)) ns 7 .un (.inl rfl)
  have hz : ns.length ≤ sizeLine := le_line (by omega)
  have h1 : lcRun [2] (setN 2) tYesD (eCallB dAbs (aCons (eCallB dInt (aCons (eVar 2) aNil)) aNil)) (intL ns) [.d (.list (intL ns)), .d (.int seed'), .un] [] = .ok ([] ++ (intL ns).map fun d => match d with
      | .int i => .int (if i < 0 then -i else i)
      | _ => .none) [.d (.list (intL ns)), .d (.int seed'), .un] := by
    refine lc_map _ _ (fun d hd => ?_) (by simp [intL, hz])
    obtain ⟨i, hi, rfl⟩ := List.mem_map.mp hd
    exact ⟨_, _, by simp; rfl, by simp; rfl, by simp, by simp⟩
  have h3 : DL.intsD ((intL ns).map fun d => match d with
      | .int i => .int (if i < 0 then -i else i)
      | _ => .none) = some (ns.map fun i => if i < 0 then -i else i) := by
    have := DL.ints_map (ns.map fun i => if i < 0 then -i else i)
    simpa [intL, Function.comp_def] using this
  refine ⟨ns.map fun i => if i < 0 then -i else i, seed' + 1, ?_⟩
  rcases h2 with rfl | ⟨d, rfl⟩ <;> simp [m__law_tape, c__law_tape, fnP, e, h1, h3]
def abk : List Nat := [97, 98, 107]
theorem abk_str : (Str.ofString "abk") = sL abk := by decide +kernel
theorem abk_low {c : Nat} (h : c ∈ abk) : lowc c := by
  simp [abk] at h
  unfold lowc
  omega
abbrev TpS := List Int × Int
/-- letters[_law_draw(tape, len(letters))] for k in .. -/
theorem str_loop (L : List Nat) (h0 : 1 ≤ L.length) (hL : L.length ≤ 1000) (b c : SV) (ds : List DL.D) (hds : ds.length ≤ 1000) (st : TpS) : ∃ (outs : List DL.D) (st' : TpS), lcRun [4] (setN 4) tYesD (eBin dIx (eVar 1) (eCallO 0 1 m__law_draw (aCons (eCallB dLen (aCons (eVar 1) aNil)) aNil))) ds
    [.own true (.tape st.1 st.2), .d (.str (sL L)), b, c, .un] [] = .ok ([] ++ outs) [.own true (.tape st'.1 st'.2), .d (.str (sL L)), b, c, .un] ∧ All2 (fun _ v => ∃ c ∈ L, v = .str (sL [c])) ds outs := by
  refine lc_stateAll (S := TpS) (En := fun (st : List Int × Int) => [.own true (.tape st.1 st.2), .d (.str (sL L)), b, c, .un]) ds [] st (fun d hd (st : List Int × Int) => ?_) (by simp; exact le_line (by omega))
  have zL : L.length ≤ sizeLine := le_line (by omega)
  obtain ⟨i, cs', sd', e, i0, i1⟩ := draw_go st.1 st.2 (L.length : Nat) (by omega) (by omega)
  obtain ⟨k, rfl⟩ : ∃ k : Nat, i = (k : Int) := ⟨i.toNat, by omega⟩
  have hk : k < L.length := by omega
  have ea : atI L (k : Int) = some L[k] := atI_nat L k hk
  refine ⟨[.own true (.tape st.1 st.2), .d (.str (sL L)), b, c, .d d], [.own true (.tape cs' sd'), .d (.str (sL L)), b, c, .d d], .str (sL [L[k]]), (cs', sd'), by simp, ?_, ⟨L[k], List.getElem_mem _, rfl⟩, by simp, by simp⟩
  simp [zL, m__law_draw, e, ea]
theorem all2_chars {L : List Nat} : ∀ {ds outs : List DL.D}, All2 (fun _ v => ∃ c ∈ L, v = .str (sL [c])) ds outs → ∃ w : List Nat, outs = chars w ∧ (∀ c ∈ w, c ∈ L) ∧ w.length = ds.length
  | _, _, .nil => ⟨[], rfl, by simp, rfl⟩
  | _, _, .cons ⟨c, hc, e⟩ t => by
    obtain ⟨w, e2, h2, l2⟩ := all2_chars t
    exact ⟨c :: w, by rw [e, e2]; rfl, by simpa using ⟨hc, h2⟩, by simp [l2]⟩
theorem flat1 : ∀ w : List Nat, (w.map fun c => [c]).flatten = w
  | [] => rfl
  | c :: w => by rw [List.map_cons, List.flatten_cons, flat1 w]; rfl
theorem join_chars (w : List Nat) (h : w.length ≤ 10000) : dJoin (.str (sL [])) [.list (chars w)] = some (.str (sL w)) := by
  have := dJoin_sL (w.map fun c => [c]) (by rw [flat1]; exact h)
  rw [flat1, List.map_map] at this
  exact this
theorem string_ok (L : List Nat) (h0 : 1 ≤ L.length) (hL : L.length ≤ 1000) (lo hi : Nat) (hlo : lo ≤ hi) (hhi : hi ≤ 1000) (cs : List Int) (sd : Int) : ∃ w cs' sd', m__law_string (.tape cs sd) [.str (sL L), .int lo, .int hi] = .ret (.str (sL w)) (.tape cs' sd') ∧ (∀ c ∈ w, c ∈ L) ∧ lo ≤ w.length ∧ w.length ≤ hi := by
  obtain ⟨i, cs1, sd1, e1, i0, i1⟩ := draw_go cs sd ((hi : Int) - lo + 1) (by omega) (by omega)
  have zn : (lo + i).natAbs ≤ 100000 := by omega
  obtain ⟨outs, st', e2, ha⟩ := str_loop L h0 hL (.d (.int lo)) (.d (.int hi)) (rng 0 (lo + i).toNat) (by simp [rng]; omega) (cs1, sd1)
  obtain ⟨w, rfl, hw, lw⟩ := all2_chars ha
  have lw : w.length = (lo + i).toNat := by rw [lw]; simp [rng]
  have hj := join_chars w (by omega)
  have er : eRng1 (aCons (eBin dAdd (eVar 2) (eCallO 0 1 m__law_draw (aCons (eBin dAdd (eBin dSub (eVar 3) (eVar 2)) (eC (.int 1))) aNil))) aNil) [.own true (.tape cs sd), .d (.str (sL L)), .d (.int lo), .d (.int hi), .un] = .ok (rng 0 (lo + i).toNat) [.own true (.tape cs1 sd1), .d (.str (sL L)), .d (.int lo), .d (.int hi), .un] := by
    exact eRng1_ok (n := lo + i) (by simp [m__law_draw, e1]) zn
  refine ⟨w, st'.1, st'.2, ?_, hw, by omega, by omega⟩
  simp [-eRng1, m__law_string, c__law_string, fnO, er, e2, empty_sL, dTy, hj]
/-! places -/
theorem all2_eq {sub outs : List DL.D} (h : All2 (fun d v => v = d) sub outs) : outs = sub := by
  induction h with
  | nil => rfl
  | cons e t ih => rw [e, ih]
def okP (w : List Nat) (ps : List Int) : Prop := ps.Pairwise (· < ·) ∧ ∀ p ∈ ps, 1 ≤ p ∧ p ≤ (w.length : Int) - 1
theorem okP_len {w : List Nat} {ps : List Int} (h : okP w ps) : ps.length ≤ w.length := by
  have key : ∀ (ps : List Int) (lo : Int), ps.Pairwise (· < ·) → (∀ p ∈ ps, lo < p ∧ p < w.length) → (ps.length : Int) ≤ max 0 ((w.length : Int) - lo) := by
    intro ps
    induction ps with
    | nil => intro lo _ _; simp; omega
    | cons p ps ih =>
      intro lo h1 h2
      obtain ⟨h3, h4⟩ := List.pairwise_cons.mp h1
      have hp := h2 p List.mem_cons_self
      have := ih p h4 fun q hq => ⟨h3 q hq, (h2 q (List.mem_cons_of_mem _ hq)).2⟩
      rw [List.length_cons]
      omega
  have := key ps 0 h.1 fun p hp => by have := h.2 p hp; omega
  omega
theorem places_go (w : List Nat) (hw : w.length ≤ 100) (cs : List Int) (sd : Int) : ∃ (ps : List Int) (cs' : List Int) (sd' : Int), m__law_some_places (.tape cs sd) [.str (sL w)] = .ret (.tuple (intL ps)) (.tape cs' sd') ∧ okP w ps := by
  obtain ⟨outs, st', e, sub, hs, hl, ha⟩ := lc_state (S := List Int × Int) (vs := [2]) (set := setN 2) (t := eTest (eBin dEq (eCallO 0 1 m__law_draw (aCons (eC (.int 3)) aNil)) (eC (.int 0)))) (fe := eVar 2)
    (En := fun (st : List Int × Int) => [.own true (.tape st.1 st.2), .d (.str (sL w)), .un]) (Pv := fun d v => v = d) (rng 1 (w.length - 1)) [] (cs, sd) (fun d hd (st : List Int × Int) => by
      obtain ⟨i, cs', sd', e, i0, i1⟩ := draw_go st.1 st.2 3 (by omega) (by omega)
      refine ⟨[.own true (.tape st.1 st.2), .d (.str (sL w)), .d d], [.own true (.tape cs' sd'), .d (.str (sL w)), .d d], [.own true (.tape cs' sd'), .d (.str (sL w)), .d d], decide (i = 0), (cs', sd'), by simp, by simp [m__law_draw, e], fun _ => ⟨d, by simp, rfl⟩, fun _ => rfl, by simp, by simp⟩) (by simp only [rng, List.length_nil, List.length_map, List.length_range, Nat.zero_add]; exact le_line (by omega))
  have eo := all2_eq ha
  subst eo
  unfold rng at hs
  obtain ⟨ns, hns, en⟩ := List.sublist_map_iff.mp hs
  have zw : w.length ≤ sizeLine := le_line (by omega)
  have er : eRng2 (aCons (eC (.int 1)) (aCons (eCallB dLen (aCons (eVar 1) aNil)) aNil)) [.own true (.tape cs sd), .d (.str (sL w)), .un] = .ok (rng 1 (w.length - 1)) [.own true (.tape cs sd), .d (.str (sL w)), .un] := by
    have e0 : (((w.length : Nat) : Int) - 1).toNat = w.length - 1 := by omega
    rw [← e0]
    exact eRng2_ok (m := 1) (n := (w.length : Nat)) (by simp [zw]) (by decide) (by omega)
  have eL : outs = intL (ns.map fun (n : Nat) => (1 : Int) + n) := by
    rw [en]
    simp [intL, Function.comp_def]
  refine ⟨ns.map fun (n : Nat) => (1 : Int) + n, st'.1, st'.2, ?_, ?_, ?_⟩
  · have e : lcRun [2] (setN 2) (eTest (eBin dEq (eCallO 0 1 m__law_draw (aCons (eC (.int 3)) aNil)) (eC (.int 0)))) (eVar 2) (rng 1 (w.length - 1)) [.own true (.tape cs sd), .d (.str (sL w)), .un] [] = .ok ([] ++ outs) [.own true (.tape st'.1 st'.2), .d (.str (sL w)), .un] := e
    simp [-eRng2, m__law_some_places, c__law_some_places, fnO, er, e, eL]
  · have hp : (List.range (w.length - 1)).Pairwise (· < ·) := List.pairwise_lt_range
    have := hp.sublist hns
    exact List.Pairwise.map _ (fun a b h => by omega) this
  · intro p hp
    obtain ⟨n, hn, rfl⟩ := List.mem_map.mp hp
    have := List.mem_range.mp (hns.subset hn)
    omega
theorem integer_ok (p lo hi : Int) : m_is_integer [.int p, .int lo, .int hi] = .ret (.bool (decide (lo ≤ p) && decide (p ≤ hi))) := by
  by_cases h1 : lo ≤ p <;> by_cases h2 : p ≤ hi <;> simp [m_is_integer, c_is_integer, fnP, h1, h2]
theorem zip_lt : ∀ {ps : List Int}, ps.Pairwise (· < ·) → ∀ d ∈ zipD (intL ps) (intL (ps.drop 1)), ∃ a b : Int, d = .tuple [.int a, .int b] ∧ a < b
  | [], _, d, h => by simp [intL, zipD] at h
  | [p], _, d, h => by simp [intL, zipD] at h
  | p :: q :: ps, hp, d, h => by
    obtain ⟨h1, h2⟩ := List.pairwise_cons.mp hp
    have h : d ∈ DL.zipD (intL (p :: q :: ps)) (intL (q :: ps)) := h
    rcases List.mem_cons.mp (show d ∈ .tuple [.int p, .int q] :: zipD (intL (q :: ps)) (intL ps) from h) with rfl | h
    · exact ⟨p, q, rfl, h1 q List.mem_cons_self⟩
    · exact zip_lt h2 d h
theorem cutD_one (ps : List Int) : DL.cutD (intL ps) (some 1) none = intL (ps.drop 1) := by
  unfold DL.cutD intL
  rw [show (1 : Int) = ((1 : Nat) : Int) from rfl, HT.sIx_nat]
  simp only [List.length_map, HT.sIx_none]
  rw [← List.map_drop, List.take_of_length_le (by simp)]
  cases ps with
  | nil => simp
  | cons p ps => simp
theorem is_places_ok (w : List Nat) (hw : w.length ≤ 100) (ps : List Int) (h : okP w ps) : m_is_places [.str (sL w), .tuple (intL ps)] = .ret (.bool true) := by
  have zw : w.length ≤ sizeLine := le_line (by omega)
  have hl := okP_len h
  have h1 : lcRun [2] (setN 2) tYesD (eCall 3 m_is_integer (aCons (eVar 2) (aCons (eC (.int 1)) (aCons (eBin dSub (eCallB dLen (aCons (eVar 0) aNil)) (eC (.int 1))) aNil)))) (intL ps) [.d (.str (sL w)), .d (.tuple (intL ps)), .un, .un, .un] [] = .ok ([] ++ (intL ps).map fun _ => .bool true) [.d (.str (sL w)), .d (.tuple (intL ps)), .un, .un, .un] := by
    refine lc_map _ _ (fun d hd => ?_) (by simp only [intL, List.length_nil, List.length_map, Nat.zero_add]; exact le_line (by omega))
    obtain ⟨p, hp, rfl⟩ := List.mem_map.mp hd
    obtain ⟨q1, q2⟩ := h.2 p hp
    exact ⟨[.d (.str (sL w)), .d (.tuple (intL ps)), .d (.int p), .un, .un], [.d (.str (sL w)), .d (.tuple (intL ps)), .d (.int p), .un, .un], by simp, by simp [zw, integer_ok, q1, q2], by simp, by simp⟩
  have h2 : lcRun [3, 4] (setTup 2 (setCons (setN 3) (setCons (setN 4) setNil))) tYesD (eBin dLt (eVar 3) (eVar 4)) (zipD (intL ps) (intL (ps.drop 1))) [.d (.str (sL w)), .d (.tuple (intL ps)), .un, .un, .un] [] = .ok ([] ++ (zipD (intL ps) (intL (ps.drop 1))).map fun _ => .bool true) [.d (.str (sL w)), .d (.tuple (intL ps)), .un, .un, .un] := by
    refine lc_map _ _ (fun d hd => ?_) (by rw [zipD_len]; simp only [intL, List.length_nil, List.length_map, Nat.zero_add, List.length_drop]; exact le_line (by omega))
    obtain ⟨a, b, rfl, hab⟩ := zip_lt h.1 d hd
    exact ⟨[.d (.str (sL w)), .d (.tuple (intL ps)), .un, .d (.int a), .d (.int b)], [.d (.str (sL w)), .d (.tuple (intL ps)), .un, .d (.int a), .d (.int b)], by simp, by simp [hab], by simp, by simp⟩
  have a1 := dAll_true ps
  have a2 := dAll_true (zipD (intL ps) (intL (ps.drop 1)))
  have a1 : dAll [.list ((intL ps).map fun _ => PyData.bool true)] = some (.bool true) := dAll_true (intL ps)
  have hc := cutD_one ps
  simp only [List.nil_append] at h1 h2
  simp [m_is_places, c_is_places, fnP, h1, a1, hc, -List.map_drop, -List.drop_one, -List.map_const']
  simp [h2, a2, -List.map_drop, -List.drop_one, -List.map_const']
/-! rules, picks -/
theorem pick_go (xs : List DL.D) (h : xs ≠ []) (hl : xs.length ≤ 1000) (cs : List Int) (sd : Int) : ∃ (x : DL.D) (cs' : List Int) (sd' : Int), x ∈ xs ∧ m__law_pick (.tape cs sd) [.list xs] = .ret x (.tape cs' sd') := by
  have hp : 0 < xs.length := List.length_pos_iff.mpr h
  obtain ⟨i, cs', sd', e, i0, i1⟩ := draw_go cs sd (xs.length : Nat) (by omega) (by omega)
  obtain ⟨k, rfl⟩ : ∃ k : Nat, i = (k : Int) := ⟨i.toNat, by omega⟩
  have hk : k < xs.length := by omega
  have ea : atI xs (k : Int) = some xs[k] := atI_nat xs k hk
  refine ⟨xs[k], cs', sd', List.getElem_mem _, ?_⟩
  simp [m__law_pick, c__law_pick, fnO, m__law_draw, e, ea]
theorem s02 (cs : List Int) (sd : Int) : ∃ (w : List Nat) (cs' : List Int) (sd' : Int), m__law_string (.tape cs sd) [.str "abk", .int 0, .int 2] = .ret (.str (sL w)) (.tape cs' sd') ∧ (∀ c ∈ w, lowc c) ∧ w.length ≤ 2 := by
  obtain ⟨w, cs', sd', e, h1, h2, h3⟩ := string_ok abk (by decide) (by decide) 0 2 (by decide) (by decide) cs sd
  exact ⟨w, cs', sd', by rw [abk_str]; exact e, fun c hc => abk_low (h1 c hc), h3⟩
theorem s19 (cs : List Int) (sd : Int) : ∃ (w : List Nat) (cs' : List Int) (sd' : Int), m__law_string (.tape cs sd) [.str "abk", .int 1, .int 9] = .ret (.str (sL w)) (.tape cs' sd') ∧ (∀ c ∈ w, lowc c) ∧ 1 ≤ w.length ∧ w.length ≤ 9 := by
  obtain ⟨w, cs', sd', e, h1, h2, h3⟩ := string_ok abk (by decide) (by decide) 1 9 (by decide) (by decide) cs sd
  exact ⟨w, cs', sd', by rw [abk_str]; exact e, fun c hc => abk_low (h1 c hc), h2, h3⟩
def rsBody : SC :=
    (sSeq (sPar 4 5 (aCons (eCallO 0 3 m__law_string (aCons (eC (.str "abk")) (aCons (eC (.int 0)) (aCons (eC (.int 2)) aNil)))) (aCons (eCallO 0 3 m__law_string (aCons (eC (.str "abk")) (aCons (eC (.int 0)) (aCons (eC (.int 2)) aNil)))) aNil)))
    (sSeq (sIf (eTest (eBin dEq (eBin dAdd (eVar 4) (eVar 5)) (eC (.str ""))))
    (sAsg (eC (.str "k")) (setN 4))
    sNx)
    (sSeq (sAsg (eTup (aCons (eC (.str "spell")) (aCons (eVar 4) (aCons (eVar 5) (aCons (eCallO 0 3 m__law_string (aCons (eC (.str "abk")) (aCons (eC (.int 0)) (aCons (eC (.int 2)) aNil)))) (aCons (eCallO 0 3 m__law_string (aCons (eC (.str "abk")) (aCons (eC (.int 0)) (aCons (eC (.int 2)) aNil)))) aNil)))))) (setN 6))
    (sIf (eTest (eBin dNotIn (eVar 6) (eVar 2)))
    (sApp 2 (eVar 6))
    sNx))))
theorem k_str : (Str.ofString "k") = sL [107] := by decide +kernel
theorem notIn_rs {rs : List R} (h : ∀ r ∈ rs, r.ok) {r : R} (hr : r.ok) : dNotIn r.D (.list (rs.map R.D)) = some (.bool (!decide (r ∈ rs))) := by
  show (if SeqAt.shaped r.D = true ∧ SeqAt.shaped (.list (rs.map R.D)) = true then some (PyData.bool (!(rs.map R.D).any fun z => PyData.eqv z r.D)) else none) = _
  rw [if_pos ⟨R.sh hr, rs_shl h⟩, rs_any]
theorem rs_body (most : DL.D) {rs : List R} (h : ∀ r ∈ rs, r.ok) (hn : rs.Nodup) (hl : rs.length ≤ 100) (cs : List Int) (sd : Int) (s3 s4 s5 s6 : SV) (h4 : Pl s4) (h5 : Pl s5) (h6 : Pl s6) :
    ∃ (rs' : List R) (cs' : List Int) (sd' : Int) (t4 t5 t6 : SV), Pl t4 ∧ Pl t5 ∧ Pl t6 ∧ (∀ r ∈ rs', r.ok) ∧ rs'.Nodup ∧ rs'.length ≤ rs.length + 1 ∧ rsBody [.own true (.tape cs sd), .d most, .own false (.lst (rs.map R.D)), s3, s4, s5, s6] = .nx [.own true (.tape cs' sd'), .d most, .own false (.lst (rs'.map R.D)), s3, t4, t5, t6] := by
  obtain ⟨b, cs1, sd1, e1, b1, b2⟩ := s02 cs sd
  obtain ⟨a, cs2, sd2, e2, a1, a2⟩ := s02 cs1 sd1
  obtain ⟨x, cs3, sd3, e3, x1, x2⟩ := s02 cs2 sd2
  obtain ⟨y, cs4, sd4, e4, y1, y2⟩ := s02 cs3 sd3
  have z5 : 5 ≤ sizeLine := by decide
  have z1 : b.length + a.length ≤ sizeLine := le_line (by omega)
  have z2 : rs.length < sizeLine := lt_line (by omega)
  have eb : ∃ b', (∀ c ∈ b', lowc c) ∧ b'.length ≤ 2 ∧ b' ++ a ≠ [] ∧ ((b ++ a = [] → b' = [107]) ∧ (b ++ a ≠ [] → b' = b)) := by
    by_cases hz : b ++ a = []
    · exact ⟨[107], by simp [lowc], by simp, by simp, fun _ => rfl, fun q => absurd hz q⟩
    · exact ⟨b, b1, b2, hz, fun q => absurd q hz, fun _ => rfl⟩
  obtain ⟨b', b3, b4, b5, b6, b7⟩ := eb
  have hok : R.ok ⟨b', a, x, y⟩ := ⟨b4, a2, x2, y2, b5, fun c hc => by
    simp only [List.mem_append] at hc
    rcases hc with ((hc | hc) | hc) | hc
    · exact b3 c hc
    · exact a1 c hc
    · exact x1 c hc
    · exact y1 c hc⟩
  have en := notIn_rs h hok
  simp only [R.D] at en
  have eq0 : dEq (.str (sL (b ++ a))) (.str (sL [])) = some (.bool (decide (b ++ a = []))) := by
    rw [dEq_str (low_ok fun c hc => (List.mem_append.mp hc).elim (b1 c) (a1 c)) nil_ok]
    simp
  refine ⟨if (⟨b', a, x, y⟩ : R) ∈ rs then rs else rs ++ [⟨b', a, x, y⟩], cs4, sd4, .d (.str (sL b')), .d (.str (sL a)), .d (R.D ⟨b', a, x, y⟩), .d _, .d _, .d _, ?_, ?_, ?_, ?_⟩
  · split
    · exact h
    · intro r hr
      rcases List.mem_append.mp hr with hr | hr
      · exact h r hr
      · rw [List.mem_singleton.mp hr]
        exact hok
  · split
    · exact hn
    · rename_i hnm
      rw [List.nodup_append]
      refine ⟨hn, by simp, ?_⟩
      intro p hp q hq e
      rw [List.mem_singleton.mp hq] at e
      exact hnm (e ▸ hp)
  · split <;> simp
  · by_cases hz : b ++ a = []
    · have := b6 hz
      subst this
      obtain ⟨rfl, rfl⟩ : b = [] ∧ a = [] := List.append_eq_nil_iff.mp hz
      have eq1 : dEq (.str (sL [])) (.str (sL [])) = some (.bool true) := by simpa using eq0
      by_cases hm : (⟨[107], [], x, y⟩ : R) ∈ rs <;>
      rcases h4 with rfl | ⟨d4, rfl⟩ <;> rcases h5 with rfl | ⟨d5, rfl⟩ <;> rcases h6 with rfl | ⟨d6, rfl⟩ <;>
        simp [rsBody, e1, e2, e3, e4, z2, z5, eq1, en, hm, k_str, empty_sL, R.D]
    · have := b7 hz
      subst this
      have hz' : decide (b' ++ a = []) = false := by simpa using hz
      rw [hz'] at eq0
      by_cases hm : (⟨b', a, x, y⟩ : R) ∈ rs <;>
      rcases h4 with rfl | ⟨d4, rfl⟩ <;> rcases h5 with rfl | ⟨d5, rfl⟩ <;> rcases h6 with rfl | ⟨d6, rfl⟩ <;>
        simp [rsBody, e1, e2, e3, e4, z1, z2, z5, eq0, en, hm, empty_sL, R.D]
theorem rs_loop (most : DL.D) : ∀ (ds : List DL.D) (rs : List R) (cs : List Int) (sd : Int) (s3 s4 s5 s6 : SV), (∀ r ∈ rs, r.ok) → rs.Nodup → rs.length + ds.length ≤ 50 → Pl s3 → Pl s4 → Pl s5 → Pl s6 →
    ∃ (rs' : List R) (cs' : List Int) (sd' : Int) (t3 t4 t5 t6 : SV), (∀ r ∈ rs', r.ok) ∧ rs'.Nodup ∧ rs'.length ≤ rs.length + ds.length ∧ forRun (setN 3) rsBody ds [.own true (.tape cs sd), .d most, .own false (.lst (rs.map R.D)), s3, s4, s5, s6] = .nx [.own true (.tape cs' sd'), .d most, .own false (.lst (rs'.map R.D)), t3, t4, t5, t6]
  | [], rs, cs, sd, s3, s4, s5, s6, h, hn, _, _, _, _, _ => ⟨rs, cs, sd, s3, s4, s5, s6, h, hn, Nat.le_refl _, rfl⟩
  | d :: ds, rs, cs, sd, s3, s4, s5, s6, h, hn, hl, h3, h4, h5, h6 => by
    rw [List.length_cons] at hl
    have hset : setN 3 d [.own true (.tape cs sd), .d most, .own false (.lst (rs.map R.D)), s3, s4, s5, s6] = some [.own true (.tape cs sd), .d most, .own false (.lst (rs.map R.D)), .d d, s4, s5, s6] := by
      rcases h3 with rfl | ⟨d3, rfl⟩ <;> simp
    obtain ⟨rs1, cs1, sd1, t4, t5, t6, q4, q5, q6, k1, k2, k3, e⟩ := rs_body most h hn (by omega) cs sd (.d d) s4 s5 s6 h4 h5 h6
    obtain ⟨rs2, cs2, sd2, u3, u4, u5, u6, m1, m2, m3, e2⟩ := rs_loop most ds rs1 cs1 sd1 (.d d) t4 t5 t6 k1 k2 (by omega) (.d _) q4 q5 q6
    refine ⟨rs2, cs2, sd2, u3, u4, u5, u6, m1, m2, by rw [List.length_cons]; omega, ?_⟩
    unfold forRun
    rw [hset]
    simp only [e]
    exact e2
theorem rules_go (cs : List Int) (sd : Int) : ∃ (rs : List R) (cs' : List Int) (sd' : Int), m__law_rules (.tape cs sd) [.int 5] = .ret (.tuple (rs.map R.D)) (.tape cs' sd') ∧ (∀ r ∈ rs, r.ok) ∧ rs.Nodup ∧ rs.length ≤ 6 := by
  obtain ⟨i, cs1, sd1, e1, i0, i1⟩ := draw_go cs sd 6 (by omega) (by omega)
  obtain ⟨rs, cs2, sd2, t3, t4, t5, t6, k1, k2, k3, e⟩ := rs_loop (.int 5) (rng 0 i.toNat) [] cs1 sd1 .un .un .un .un (by simp) (by simp) (by simp [rng]; omega) (.inl rfl) (.inl rfl) (.inl rfl) (.inl rfl)
  have k3 : rs.length ≤ 6 := by
    simp [rng] at k3
    omega
  have er : eRng1 (aCons (eCallO 0 1 m__law_draw (aCons (eBin dAdd (eVar 1) (eC (.int 1))) aNil)) aNil) [.own true (.tape cs sd), .d (.int 5), .own false (.lst []), .un, .un, .un, .un] = .ok (rng 0 i.toNat) [.own true (.tape cs1 sd1), .d (.int 5), .own false (.lst []), .un, .un, .un, .un] :=
    eRng1_ok (n := i) (by simp [m__law_draw, e1]) (by omega)
  unfold rsBody at e
  simp only [List.map_nil] at e
  refine ⟨rs, cs2, sd2, ?_, k1, k2, k3⟩
  simp [-eRng1, m__law_rules, c__law_rules, fnO, er, e]
/-! the law's own sameness -/
theorem same_bool (a b : Bool) : m__law_same 5 [.bool a, .bool b] = .ret (.bool (a == b)) := by
  simp [m__law_same, c__law_same, fnP]
theorem same_12 : m__law_same 5 [d_MOST_RULES, .int 12] = .ret (.bool true) := by kernel_rfl
theorem same_strN (n : Nat) (l : List Nat) (h : ∀ c ∈ l, c < 128) : m__law_same (n + 1) [.str (sL l), .str (sL l)] = .ret (.bool true) := by
  have e : dEq (.str (sL l)) (.str (sL l)) = some (.bool true) := by
    rw [dEq_str (strOk_sL h) (strOk_sL h)]
    simp
  simp [m__law_same, c__law_same, fnP, e]
theorem notIn_true {α : Type} (l : List α) : dNotIn (.bool false) (.list (l.map fun _ => PyData.bool true)) = some (.bool true) := by
  have s2 : SeqAt.shaped (.list (l.map fun _ => PyData.bool true)) = true := by
    have h1 : PyData.canLayAll0 (l.map fun _ => PyData.bool true) = true := by
      induction l with
      | nil => simp [PyData.canLayAll0]
      | cons a l ih => simp [PyData.canLayAll0, PyData.canLay0, ih]
    have h2 : PyData.depthAll (l.map fun _ => PyData.bool true) = 0 := by
      induction l with
      | nil => simp [PyData.depthAll]
      | cons a l ih =>
        simp only [List.map_cons, PyData.depthAll, PyData.depth]
        rw [ih (by
          simpa [PyData.canLayAll0, PyData.canLay0] using h1)]
        rfl
    simp [SeqAt.shaped, PyData.canLay0, PyData.depth, h1, h2]
  have h3 : ((l.map fun _ => PyData.bool true).any fun z => PyData.eqv z (.bool false)) = false := by
    induction l with
    | nil => rfl
    | cons a l ih => simp [PyData.eqv]
  show (if SeqAt.shaped (.bool false) = true ∧ SeqAt.shaped (.list (l.map fun _ => PyData.bool true)) = true then some (PyData.bool (!(l.map fun _ => PyData.bool true).any fun z => PyData.eqv z (.bool false))) else none) = _
  rw [if_pos ⟨sh_bool _, s2⟩, h3]
  rfl
theorem same_tup (ls : List (List Nat)) (hl : ls.length ≤ 1000) (h : ∀ l ∈ ls, ∀ c ∈ l, c < 128) : m__law_same 5 [.tuple (strsOf ls), .tuple (strsOf ls)] = .ret (.bool true) := by
  have h1 : lcRun [2] (setN 2) tYesD (eCall 2 (m__law_same 4) (aCons (eBin dIx (eVar 0) (eVar 2)) (aCons (eBin dIx (eVar 1) (eVar 2)) aNil))) (rng 0 ls.length) [.d (.tuple (strsOf ls)), .d (.tuple (strsOf ls)), .un] [] = .ok ([] ++ (rng 0 ls.length).map fun _ => .bool true) [.d (.tuple (strsOf ls)), .d (.tuple (strsOf ls)), .un] := by
    refine lc_map _ _ (fun d hd => ?_) (by simp only [rng, List.length_nil, List.length_map, List.length_range, Nat.zero_add]; exact le_line (by omega))
    obtain ⟨i, hi, rfl⟩ := List.mem_map.mp hd
    have hi := List.mem_range.mp hi
    have e1 : atI (strsOf ls) (i : Int) = some (.str (sL ls[i])) := by
      rw [atI_nat _ _ (by simpa [strsOf] using hi)]
      simp [strsOf]
    have e2 := same_strN 3 ls[i] (h ls[i] (List.getElem_mem _))
    exact ⟨[.d (.tuple (strsOf ls)), .d (.tuple (strsOf ls)), .d (.int i)], [.d (.tuple (strsOf ls)), .d (.tuple (strsOf ls)), .d (.int i)], by simp, by simp [e1, e2], by simp, by simp⟩
  have hr : eRng1 (aCons (eCallB dLen (aCons (eVar 1) aNil)) aNil) [.d (.tuple (strsOf ls)), .d (.tuple (strsOf ls)), .un] = .ok (rng 0 ls.length) [.d (.tuple (strsOf ls)), .d (.tuple (strsOf ls)), .un] := by
    refine (eRng1_ok (n := (ls.length : Nat)) (ρ1 := [.d (.tuple (strsOf ls)), .d (.tuple (strsOf ls)), .un]) (by simp [strsOf]) (by omega)).trans ?_
    rw [Int.toNat_natCast]
  have hn := notIn_true (rng 0 ls.length)
  show fnP (c__law_same (m__law_same 4)) 1 _ = _
  simp only [List.nil_append] at h1
  simp [-eRng1, c__law_same, fnP, hr, h1, hn, -List.map_const']
/-! calls -/
theorem check_ok {rs : List R} (h : ∀ r ∈ rs, r.ok) (hn : rs.Nodup) (hl : rs.length ≤ 12) : m_check_spelling [.tuple (rs.map R.D)] = .ret .none := by
  have := spelling_ok rs h hn hl
  simp [m_check_spelling, c_check_spelling, fnP, this]
theorem broken_ok {rs : List R} (h : ∀ r ∈ rs, r.ok) (hn : rs.Nodup) (hl : rs.length ≤ 12) (w : List Nat) (hw0 : 1 ≤ w.length) (hw : w.length ≤ 40) (hc : ∀ c ∈ w, lowc c) (ps : List Int) (hp : okP w ps) : m_broken [.tuple (rs.map R.D), .str (sL w), .tuple (intL ps)] = .ret (.tuple (strsOf (brk rs w ps))) := by
  have e1 := check_ok h hn hl
  have e2 := word_str w hw0 hw hc
  have e3 := is_places_ok w (by omega) ps hp
  have e4 := pieces_ok h w (by omega) ps (by have := okP_len hp; omega)
  simp [m_broken, c_broken, fnP, e1, e2, e3, e4]
theorem broken_word {rs : List R} (h : ∀ r ∈ rs, r.ok) (hn : rs.Nodup) (hl : rs.length ≤ 12) (w : List Nat) (hw0 : 1 ≤ w.length) (hw : w.length ≤ 40) (hc : ∀ c ∈ w, lowc c) (X : DL.D) (hX : m_is_places [.str (sL w), X] = .ret (.bool false)) : m_broken [.tuple (rs.map R.D), .str (sL w), X] = .exc ⟨"BadWord", []⟩ := by
  have e1 := check_ok h hn hl
  have e2 := word_str w hw0 hw hc
  simp [m_broken, c_broken, fnP, e1, e2, hX]
theorem broken_none {rs : List R} (h : ∀ r ∈ rs, r.ok) (hn : rs.Nodup) (hl : rs.length ≤ 12) (X : DL.D) : m_broken [.tuple (rs.map R.D), .str "", X] = .exc ⟨"BadWord", []⟩ := by
  have e1 := check_ok h hn hl
  have e2 : m_is_word [.str ""] = .ret (.bool false) := by kernel_rfl
  simp [m_broken, c_broken, fnP, e1, e2]
theorem sub_self (x : String) : sub_ x x = true := by simp [sub_]
theorem call_ret {A B C X : DL.D} (h : m_broken [A, B, C] = .ret X) : m__law_call [A, B, C] = .ret X := by
  simp [m__law_call, c__law_call, fnP, h]
theorem call_word {A B C : DL.D} (h : m_broken [A, B, C] = .exc ⟨"BadWord", []⟩) : m__law_call [A, B, C] = .ret (.str "word") := by
  simp [m__law_call, c__law_call, fnP, h, sub_]
/-! values that are no places -/
theorem odd_one (w : List Nat) (hw : w.length ≤ 100) (p : Int) (hp : ¬ (1 ≤ p ∧ p ≤ (w.length : Int) - 1)) : m_is_places [.str (sL w), .tuple [.int p]] = .ret (.bool false) := by
  have zw : w.length ≤ sizeLine := le_line (by omega)
  have z0 : 0 < sizeLine := by decide
  have hb : (decide (1 ≤ p) && decide (p ≤ (w.length : Int) - 1)) = false := by
    rw [Bool.and_eq_false_iff]
    simp only [decide_eq_false_iff_not]
    omega
  simp [m_is_places, c_is_places, fnP, lcRun, zw, z0, integer_ok, hb, dAll, boolsD]
theorem odd_11 (w : List Nat) (hw : w.length ≤ 100) : m_is_places [.str (sL w), .tuple [.int 1, .int 1]] = .ret (.bool false) := by
  have zw : w.length ≤ sizeLine := le_line (by omega)
  have z0 : 0 < sizeLine := by decide
  have z1 : 1 < sizeLine := by decide
  have e := cutD_one [1, 1]
  simp only [intL, List.map_cons, List.map_nil] at e
  by_cases h : (1 : Int) ≤ (w.length : Int) - 1 <;>
    simp [m_is_places, c_is_places, fnP, lcRun, zw, z0, z1, integer_ok, h, dAll, boolsD, e, zipD]
theorem odd_list (w : List Nat) : m_is_places [.str (sL w), .list [.int 1]] = .ret (.bool false) := by
  simp [m_is_places, c_is_places, fnP]
theorem odd_none (w : List Nat) : m_is_places [.str (sL w), .none] = .ret (.bool false) := by
  simp [m_is_places, c_is_places, fnP]
theorem odd_true (w : List Nat) (hw : w.length ≤ 100) : m_is_places [.str (sL w), .tuple [.bool true]] = .ret (.bool false) := by
  have zw : w.length ≤ sizeLine := le_line (by omega)
  have z0 : 0 < sizeLine := by decide
  simp [m_is_places, c_is_places, fnP, lcRun, zw, z0, m_is_integer, c_is_integer, dAll, boolsD]
theorem odd_str (w : List Nat) (hw : w.length ≤ 100) : m_is_places [.str (sL w), .tuple [.str "1"]] = .ret (.bool false) := by
  have zw : w.length ≤ sizeLine := le_line (by omega)
  have z0 : 0 < sizeLine := by decide
  simp [m_is_places, c_is_places, fnP, lcRun, zw, z0, m_is_integer, c_is_integer, dAll, boolsD]
def inB : SC :=
    (sSeq (sAsg (eCallO 1 3 m__law_string (aCons (eC (.str "abk")) (aCons (eC (.int 1)) (aCons (eC (.int 9)) aNil)))) (setN 5))
    (sSeq (sAsg (eCallO 1 1 m__law_some_places (aCons (eVar 5) aNil)) (setN 6))
    (sSeq (sIf (eNot (eTruth (eCall 2 (m__law_same 5) (aCons (eCall 3 m__law_call (aCons (eVar 3) (aCons (eVar 5) (aCons (eVar 6) aNil)))) (aCons (eCall 3 m__law_broken (aCons (eVar 3) (aCons (eVar 5) (aCons (eVar 6) aNil)))) aNil)))))
    (sRet (eC (.bool false)))
    sNx)
    (sIf (eNot (eTruth (eCall 2 (m__law_same 5) (aCons (eMeth "str" dJoin (eC (.str "")) (aCons (eCall 3 m__law_call (aCons (eTup aNil) (aCons (eVar 5) (aCons (eVar 6) aNil)))) aNil)) (aCons (eVar 5) aNil)))))
    (sRet (eC (.bool false)))
    sNx))))
def outB : SC :=
    (sSeq (sAsg (eCallO 1 1 m__law_rules (aCons (eC (.int 5)) aNil)) (setN 3))
    (sSeq (sIf (eNot (eTruth (eCall 2 (m__law_same 5) (aCons (eCall 1 m_is_spelling (aCons (eVar 3) aNil)) (aCons (eC (.bool true)) aNil)))))
    (sRet (eC (.bool false)))
    sNx)
    (sSeq (sFor (eRng1 (aCons (eC (.int 4)) aNil)) (setN 4)
    (sSeq (sAsg (eCallO 1 3 m__law_string (aCons (eC (.str "abk")) (aCons (eC (.int 1)) (aCons (eC (.int 9)) aNil)))) (setN 5))
    (sSeq (sAsg (eCallO 1 1 m__law_some_places (aCons (eVar 5) aNil)) (setN 6))
    (sSeq (sIf (eNot (eTruth (eCall 2 (m__law_same 5) (aCons (eCall 3 m__law_call (aCons (eVar 3) (aCons (eVar 5) (aCons (eVar 6) aNil)))) (aCons (eCall 3 m__law_broken (aCons (eVar 3) (aCons (eVar 5) (aCons (eVar 6) aNil)))) aNil)))))
    (sRet (eC (.bool false)))
    sNx)
    (sIf (eNot (eTruth (eCall 2 (m__law_same 5) (aCons (eMeth "str" dJoin (eC (.str "")) (aCons (eCall 3 m__law_call (aCons (eTup aNil) (aCons (eVar 5) (aCons (eVar 6) aNil)))) aNil)) (aCons (eVar 5) aNil)))))
    (sRet (eC (.bool false)))
    sNx)))))
    (sSeq (sAsg (eTup (aCons (eC (.str "spell")) (aCons (eC (.str "a")) (aCons (eC (.str "k")) (aCons (eC (.str "b")) (aCons (eC (.str "")) aNil)))))) (setN 7))
    (sSeq (sAsg (eN (nLst (aCons (eTup (aCons (eVar 7) (aCons (eVar 7) aNil))) (aCons (eTup (aCons (eTup (aCons (eC (.str "spell")) (aCons (eC (.str "")) (aCons (eC (.str "")) (aCons (eC (.str "a")) (aCons (eC (.str "b")) aNil)))))) aNil)) (aCons (eTup (aCons (eTup (aCons (eC (.str "spell")) (aCons (eC (.str "abka")) (aCons (eC (.str "")) (aCons (eC (.str "")) (aCons (eC (.str "")) aNil)))))) aNil)) (aCons (eTup (aCons (eTup (aCons (eC (.str "spell")) (aCons (eC (.str "a")) (aCons (eC (.str "")) (aCons (eC (.str "aaaaa")) (aCons (eC (.str "")) aNil)))))) aNil)) (aCons (eN (nLst (aCons (eVar 7) aNil))) (aCons (eVar 7) (aCons (eC .none) aNil))))))))) (setN 8))
    (sSeq (sAsg (eBin dAdd (eVar 8) (eN (nLst (aCons (eTup (aCons (eTup (aCons (eC (.str "spells")) (aCons (eC (.str "a")) (aCons (eC (.str "")) (aCons (eC (.str "")) (aCons (eC (.str "")) aNil)))))) aNil)) (aCons (eTup (aCons (eTup (aCons (eC (.str "spell")) (aCons (eC (.str "a")) (aCons (eC (.str "")) (aCons (eC (.str "")) aNil))))) aNil)) (aCons (eTup (aCons (eTup (aCons (eC (.str "spell")) (aCons (eC (.str "A")) (aCons (eC (.str "")) (aCons (eC (.str "")) (aCons (eC (.str "")) aNil)))))) aNil)) (aCons (eTup (aCons (eTup (aCons (eC (.str "spell")) (aCons (eC (.str "a")) (aCons (eC .none) (aCons (eC (.str "")) (aCons (eC (.str "")) aNil)))))) aNil)) aNil))))))) (setN 8))
    (sSeq (sAsg (eBin dAdd (eVar 8) (eN (nLst (aCons (eCallB dTuple (aCons (eN (nLc (List.map (·.2) ([("letter", 9)] : List (Str × Nat))) (eIter (eC (.str "abcdefghijklm"))) (setN 9) tYesD (eTup (aCons (eC (.str "spell")) (aCons (eC (.str "a")) (aCons (eC (.str "")) (aCons (eVar 9) (aCons (eC (.str "")) aNil)))))))) aNil)) aNil)))) (setN 8))
    (sSeq (sAsg (eCallO 1 1 m__law_pick (aCons (eVar 8) aNil)) (setN 10))
    (sSeq (sIf (eOr (eNot (eTruth (eCall 2 (m__law_same 5) (aCons (eCall 1 m_is_spelling (aCons (eVar 10) aNil)) (aCons (eC (.bool false)) aNil))))) (eTest (eBin dNe (eCall 3 m__law_call (aCons (eVar 10) (aCons (eC (.str "")) (aCons (eC .none) aNil)))) (eC (.str "spelling")))))
    (sRet (eC (.bool false)))
    sNx)
    (sSeq (sAsg (eCallO 1 1 m__law_pick (aCons (eN (nLst (aCons (eTup (aCons (eC (.int 0)) aNil)) (aCons (eTup (aCons (eCallB dLen (aCons (eVar 5) aNil)) aNil)) (aCons (eTup (aCons (eC (.int 1)) (aCons (eC (.int 1)) aNil))) (aCons (eN (nLst (aCons (eC (.int 1)) aNil))) (aCons (eC .none) (aCons (eTup (aCons (eC (.bool true)) aNil)) (aCons (eTup (aCons (eC (.str "1")) aNil)) aNil))))))))) aNil)) (setN 11))
    (sIf (eOr (eTest (eBin dNe (eCall 3 m__law_call (aCons (eVar 3) (aCons (eBin dAdd (eVar 5) (eC (.str "a"))) (aCons (eIf (eTest (eBin dNe (eVar 11) (eTup (aCons (eCallB dLen (aCons (eVar 5) aNil)) aNil)))) (eVar 11) (eTup (aCons (eBin dAdd (eCallB dLen (aCons (eVar 5) aNil)) (eC (.int 1))) aNil))) aNil)))) (eC (.str "word")))) (eTest (eBin dNe (eCall 3 m__law_call (aCons (eVar 3) (aCons (eC (.str "")) (aCons (eTup aNil) aNil)))) (eC (.str "word")))))
    (sRet (eC (.bool false)))
    sNx)))))))))))
theorem all_low_128 {l : List Nat} (h : ∀ c ∈ l, lowc c) : ∀ c ∈ l, c < 128 := fun c hc => by have := (h c hc).2; omega
theorem cutL_mem {w : List Nat} {lo hi : Option Int} {c : Nat} (h : c ∈ cutL w lo hi) : c ∈ w := List.mem_of_mem_drop (List.mem_of_mem_take h)
theorem pick_low {rs : List R} (h : ∀ r ∈ rs, r.ok) (A B : Str) : (∀ c ∈ (pick rs A B).x, lowc c) ∧ (∀ c ∈ (pick rs A B).y, lowc c) := by
  unfold pick
  cases hf : rs.find? fun r => fits r A B with
  | none => simp [plain]
  | some r =>
    have := R.parts (h r (List.mem_of_find?_eq_some hf))
    exact ⟨this.2.2.1, this.2.2.2⟩
theorem brkL_low {rs : List R} (h : ∀ r ∈ rs, r.ok) (w : List Nat) (hw : ∀ c ∈ w, lowc c) : ∀ (ps : List Int) (low : Int) (pc : List Nat), (∀ c ∈ pc, lowc c) → (∀ l ∈ (brkL rs w ps low pc).1, ∀ c ∈ l, lowc c) ∧ ∀ c ∈ (brkL rs w ps low pc).2.2, lowc c
  | [], low, pc, hp => ⟨by simp [brkL], hp⟩
  | p :: ps, low, pc, hp => by
    obtain ⟨hx, hy⟩ := pick_low h (sL (cutL w (some low) (some p))) (sL (cutL w (some p) (some (ps.headD w.length))))
    obtain ⟨i1, i2⟩ := brkL_low h w hw ps (p + (pickAt rs w ps low p).a.length) (pickAt rs w ps low p).y hy
    unfold brkL
    refine ⟨fun l hl c hc => ?_, i2⟩
    rcases List.mem_cons.mp hl with rfl | hl
    · rcases List.mem_append.mp hc with hc | hc
      · rcases List.mem_append.mp hc with hc | hc
        · exact hp c hc
        · exact hw c (cutL_mem hc)
      · exact hx c hc
    · exact i1 l hl c hc
theorem brk_low {rs : List R} (h : ∀ r ∈ rs, r.ok) (w : List Nat) (hw : ∀ c ∈ w, lowc c) (ps : List Int) : ∀ l ∈ brk rs w ps, ∀ c ∈ l, lowc c := by
  obtain ⟨i1, i2⟩ := brkL_low h w hw ps 0 [] (by simp)
  intro l hl c hc
  unfold brk at hl
  rcases List.mem_append.mp hl with hl | hl
  · exact i1 l hl c hc
  · rw [List.mem_singleton.mp hl] at hc
    rcases List.mem_append.mp hc with hc | hc
    · exact i2 c hc
    · exact hw c (cutL_mem hc)
theorem okP_inc {w : List Nat} {ps : List Int} (h : okP w ps) : inc 0 ps w.length := by
  have key : ∀ (ps : List Int) (lo : Int), ps.Pairwise (· < ·) → (∀ p ∈ ps, lo ≤ p ∧ p ≤ w.length) → inc lo ps w.length := by
    intro ps
    induction ps with
    | nil => intro lo _ _; trivial
    | cons p ps ih =>
      intro lo h1 h2
      obtain ⟨h3, h4⟩ := List.pairwise_cons.mp h1
      have hp := h2 p List.mem_cons_self
      exact ⟨hp.1, hp.2, ih p h4 fun q hq => ⟨by have := h3 q hq; omega, (h2 q (List.mem_cons_of_mem _ hq)).2⟩⟩
  exact key ps 0 h.1 fun p hp => by have := h.2 p hp; omega
theorem brk_count (rs : List R) (w : List Nat) (ps : List Int) : (brk rs w ps).length = ps.length + 1 := by
  unfold brk
  rw [List.length_append, brkL_len]
  rfl
theorem in_body (S : SV) {rs : List R} (h : ∀ r ∈ rs, r.ok) (hn : rs.Nodup) (hl : rs.length ≤ 12) (cs : List Int) (sd : Int) (s2 s4 s5 s6 s7 s8 s9 s10 s11 : SV) (h5 : Pl s5) (h6 : Pl s6) :
    ∃ (cs' : List Int) (sd' : Int) (w : List Nat) (ps : List Int), (1 ≤ w.length ∧ w.length ≤ 9 ∧ ∀ c ∈ w, lowc c) ∧ inB [S, .own false (.tape cs sd), s2, .d (.tuple (rs.map R.D)), s4, s5, s6, s7, s8, s9, s10, s11] = .nx [S, .own false (.tape cs' sd'), s2, .d (.tuple (rs.map R.D)), s4, .d (.str (sL w)), .d (.tuple (intL ps)), s7, s8, s9, s10, s11] := by
  obtain ⟨w, cs1, sd1, e1, hc, hw0, hw⟩ := s19 cs sd
  obtain ⟨ps, cs2, sd2, e2, hp⟩ := places_go w (by omega) cs1 sd1
  have hpl := okP_len hp
  have e3 := call_ret (broken_ok h hn hl w hw0 (by omega) hc ps hp)
  have e4 := law_broken_ok h w (by omega) ps (by omega)
  have e5 := same_tup (brk rs w ps) (by rw [brk_count]; omega) fun l hl => all_low_128 (brk_low h w hc ps l hl)
  have e6 := call_ret (broken_ok (rs := []) (by simp) (by simp) (by simp) w hw0 (by omega) hc ps hp)
  have e7 := dJoinT_sL (brk [] w ps) (by rw [brk_nil w ps (okP_inc hp)]; omega)
  rw [brk_nil w ps (okP_inc hp)] at e7
  have e8 := same_strN 4 w (all_low_128 hc)
  have z0 : 0 ≤ sizeLine := Nat.zero_le _
  refine ⟨cs2, sd2, w, ps, ⟨hw0, hw, hc⟩, ?_⟩
  simp only [List.map_nil, strsOf] at e3 e4 e5 e6 e7
  rcases h5 with rfl | ⟨d5, rfl⟩ <;> rcases h6 with rfl | ⟨d6, rfl⟩ <;>
    simp [inB, e1, e2, e3, e4, e5, e6, e7, e8, empty_sL, dTy]
def l13 : List Nat := [97, 98, 99, 100, 101, 102, 103, 104, 105, 106, 107, 108, 109]
theorem str13 : (Str.ofString "abcdefghijklm") = sL l13 := by decide +kernel
def many13 : List DL.D := (chars l13).map fun d => .tuple [.str "spell", .str "a", .str "", d, .str ""]
def W1 : List DL.D := [.tuple [.tuple [.str "spell", .str "a", .str "k", .str "b", .str ""], .tuple [.str "spell", .str "a", .str "k", .str "b", .str ""]], .tuple [.tuple [.str "spell", .str "", .str "", .str "a", .str "b"]], .tuple [.tuple [.str "spell", .str "abka", .str "", .str "", .str ""]],
  .tuple [.tuple [.str "spell", .str "a", .str "", .str "aaaaa", .str ""]], .list [.tuple [.str "spell", .str "a", .str "k", .str "b", .str ""]], .tuple [.str "spell", .str "a", .str "k", .str "b", .str ""], .none]
def W2 : List DL.D := [.tuple [.tuple [.str "spells", .str "a", .str "", .str "", .str ""]], .tuple [.tuple [.str "spell", .str "a", .str "", .str ""]], .tuple [.tuple [.str "spell", .str "A", .str "", .str "", .str ""]], .tuple [.tuple [.str "spell", .str "a", .none, .str "", .str ""]]]
def WR : List DL.D := W1 ++ W2 ++ [.tuple many13]
theorem wrong_ok : ∀ x ∈ WR, m_is_spelling [x] = .ret (.bool false) ∧ m__law_call [x, .str "", .none] = .ret (.str "spelling") := by
  intro x hx
  have hx : x ∈ [.tuple [.tuple [.str "spell", .str "a", .str "k", .str "b", .str ""], .tuple [.str "spell", .str "a", .str "k", .str "b", .str ""]], .tuple [.tuple [.str "spell", .str "", .str "", .str "a", .str "b"]], .tuple [.tuple [.str "spell", .str "abka", .str "", .str "", .str ""]],
  .tuple [.tuple [.str "spell", .str "a", .str "", .str "aaaaa", .str ""]], .list [.tuple [.str "spell", .str "a", .str "k", .str "b", .str ""]], .tuple [.str "spell", .str "a", .str "k", .str "b", .str ""], .none, .tuple [.tuple [.str "spells", .str "a", .str "", .str "", .str ""]], .tuple [.tuple [.str "spell", .str "a", .str "", .str ""]], .tuple [.tuple [.str "spell", .str "A", .str "", .str "", .str ""]], .tuple [.tuple [.str "spell", .str "a", .none, .str "", .str ""]], .tuple many13] := hx
  simp only [List.mem_cons, List.not_mem_nil, or_false] at hx
  rcases hx with rfl | rfl | rfl | rfl | rfl | rfl | rfl | rfl | rfl | rfl | rfl | rfl
  all_goals exact ⟨by kernel_rfl, by kernel_rfl⟩
theorem ne_spelling : dNe (.str "spelling") (.str "spelling") = some (.bool false) := by kernel_rfl
theorem ne_word : dNe (.str "word") (.str "word") = some (.bool false) := by kernel_rfl
def OD (w : List Nat) : List DL.D := [.tuple [.int 0], .tuple [.int (w.length : Nat)], .tuple [.int 1, .int 1], .list [.int 1], .none, .tuple [.bool true], .tuple [.str "1"]]
theorem one_ok : PyData.strOk (Str.ofString "1") = true := by decide +kernel
theorem odd_go (w : List Nat) (h0 : 1 ≤ w.length) (hw : w.length ≤ 40) : ∀ x ∈ OD w, ∃ b, dNe x (.tuple [.int (w.length : Nat)]) = some (.bool b) ∧ m_is_places [.str (sL (w ++ [97])), if b = true then x else .tuple [.int ((w.length : Nat) + 1)]] = .ret (.bool false) := by
  intro x hx
  have l1 : (w ++ [97]).length = w.length + 1 := by simp
  unfold OD at hx
  simp only [List.mem_cons, List.not_mem_nil, or_false] at hx
  have up := odd_one (w ++ [97]) (by omega) ((w.length : Nat) + 1) (by omega)
  rcases hx with rfl | rfl | rfl | rfl | rfl | rfl | rfl
  · refine ⟨true, ?_, odd_one (w ++ [97]) (by omega) 0 (by omega)⟩
    have : ¬ ((0 : Int) = (w.length : Nat)) := by omega
    simp [dNe, SeqAt.shaped, PyData.canLay0, PyData.canLayAll0, PyData.depth, PyData.depthAll, PyData.eqv, PyData.eqvAll]
    omega
  · refine ⟨false, ?_, up⟩
    simp [dNe, SeqAt.shaped, PyData.canLay0, PyData.canLayAll0, PyData.depth, PyData.depthAll, PyData.eqv, PyData.eqvAll]
  · refine ⟨true, ?_, odd_11 (w ++ [97]) (by omega)⟩
    simp [dNe, SeqAt.shaped, PyData.canLay0, PyData.canLayAll0, PyData.depth, PyData.depthAll, PyData.eqv, PyData.eqvAll]
  · refine ⟨true, ?_, odd_list (w ++ [97])⟩
    simp [dNe, SeqAt.shaped, PyData.canLay0, PyData.canLayAll0, PyData.depth, PyData.depthAll, PyData.eqv, PyData.eqvAll]
  · refine ⟨true, ?_, odd_none (w ++ [97])⟩
    simp [dNe, SeqAt.shaped, PyData.canLay0, PyData.canLayAll0, PyData.depth, PyData.depthAll, PyData.eqv, PyData.eqvAll]
  · by_cases h1 : (1 : Int) = (w.length : Nat)
    · refine ⟨false, ?_, up⟩
      rw [← h1]
      simp [dNe, SeqAt.shaped, PyData.canLay0, PyData.canLayAll0, PyData.depth, PyData.depthAll, PyData.eqv, PyData.eqvAll]
    · refine ⟨true, ?_, odd_true (w ++ [97]) (by omega)⟩
      simp [dNe, SeqAt.shaped, PyData.canLay0, PyData.canLayAll0, PyData.depth, PyData.depthAll, PyData.eqv, PyData.eqvAll, h1]
  · refine ⟨true, ?_, odd_str (w ++ [97]) (by omega)⟩
    simp [dNe, SeqAt.shaped, PyData.canLay0, PyData.canLayAll0, PyData.depth, PyData.depthAll, PyData.eqv, PyData.eqvAll, one_ok]
theorem in_loop4 (S : SV) {rs : List R} (h : ∀ r ∈ rs, r.ok) (hn : rs.Nodup) (hl : rs.length ≤ 12) : ∀ (ds : List DL.D), ds ≠ [] → ∀ (cs : List Int) (sd : Int) (s2 s4 s5 s6 s7 s8 s9 s10 s11 : SV), Pl s4 → Pl s5 → Pl s6 →
    ∃ (cs' : List Int) (sd' : Int) (w : List Nat) (t4 t6 : SV), Pl t4 ∧ Pl t6 ∧ (1 ≤ w.length ∧ w.length ≤ 9 ∧ ∀ c ∈ w, lowc c) ∧ forRun (setN 4) inB ds [S, .own false (.tape cs sd), s2, .d (.tuple (rs.map R.D)), s4, s5, s6, s7, s8, s9, s10, s11] = .nx [S, .own false (.tape cs' sd'), s2, .d (.tuple (rs.map R.D)), t4, .d (.str (sL w)), t6, s7, s8, s9, s10, s11]
  | [], hne => absurd rfl hne
  | [d], _ => fun cs sd s2 s4 s5 s6 s7 s8 s9 s10 s11 h4 h5 h6 => by
    have hset : setN 4 d [S, .own false (.tape cs sd), s2, .d (.tuple (rs.map R.D)), s4, s5, s6, s7, s8, s9, s10, s11] = some [S, .own false (.tape cs sd), s2, .d (.tuple (rs.map R.D)), .d d, s5, s6, s7, s8, s9, s10, s11] := by
      rcases h4 with rfl | ⟨d4, rfl⟩ <;> simp
    obtain ⟨cs1, sd1, w, ps, hw, e⟩ := in_body S h hn hl cs sd s2 (.d d) s5 s6 s7 s8 s9 s10 s11 h5 h6
    refine ⟨cs1, sd1, w, .d d, .d (.tuple (intL ps)), .d _, .d _, hw, ?_⟩
    unfold forRun
    rw [hset]
    simp only [e]
    rfl
  | d :: d' :: ds, _ => fun cs sd s2 s4 s5 s6 s7 s8 s9 s10 s11 h4 h5 h6 => by
    have hset : setN 4 d [S, .own false (.tape cs sd), s2, .d (.tuple (rs.map R.D)), s4, s5, s6, s7, s8, s9, s10, s11] = some [S, .own false (.tape cs sd), s2, .d (.tuple (rs.map R.D)), .d d, s5, s6, s7, s8, s9, s10, s11] := by
      rcases h4 with rfl | ⟨d4, rfl⟩ <;> simp
    obtain ⟨cs1, sd1, w, ps, hw, e⟩ := in_body S h hn hl cs sd s2 (.d d) s5 s6 s7 s8 s9 s10 s11 h5 h6
    obtain ⟨cs2, sd2, w2, t4, t6, q4, q6, hw2, e2⟩ := in_loop4 S h hn hl (d' :: ds) (by simp) cs1 sd1 s2 (.d d) (.d (.str (sL w))) (.d (.tuple (intL ps))) s7 s8 s9 s10 s11 (.d _) (.d _) (.d _)
    refine ⟨cs2, sd2, w2, t4, t6, q4, q6, hw2, ?_⟩
    unfold forRun
    rw [hset]
    simp only [e]
    exact e2
theorem setN_pl {i : Nat} {d : DL.D} {ρ : DL.Env} (h : ∃ s, ρ[i]? = some s ∧ Pl s) : setN i d ρ = some (ρ.set i (.d d)) := by
  obtain ⟨s, h1, h2⟩ := h
  unfold setN loose
  rw [h1]
  rcases h2 with rfl | ⟨x, rfl⟩ <;> rfl
theorem Pl_un : Pl .un := .inl rfl
theorem er4 (ρ : DL.Env) : eRng1 (aCons (eC (.int 4)) aNil) ρ = .ok (rng 0 4) ρ := eRng1_ok (n := 4) (by simp) (by decide)
theorem a_str : (Str.ofString "a") = sL [97] := by decide +kernel
theorem a_len : (Str.ofString "a").length = 1 := by decide +kernel
theorem app_a (w : List Nat) : sL w ++ Str.ofString "a" = sL (w ++ [97]) := by rw [a_str, sL_append]
theorem lc13 (x0 x1 x2 x3 x4 x5 x6 x7 x8 x10 x11 : SV) : lcRun [9] (setN 9) tYesD (eTup (aCons (eC (.str "spell")) (aCons (eC (.str "a")) (aCons (eC (.str "")) (aCons (eVar 9) (aCons (eC (.str "")) aNil)))))) (chars l13) [x0, x1, x2, x3, x4, x5, x6, x7, x8, .un, x10, x11] [] = .ok ([] ++ many13) [x0, x1, x2, x3, x4, x5, x6, x7, x8, .un, x10, x11] := by
  refine lc_map _ _ (fun d hd => ?_) (by decide)
  have z5 : 5 ≤ sizeLine := by decide
  exact ⟨[x0, x1, x2, x3, x4, x5, x6, x7, x8, .d d, x10, x11], [x0, x1, x2, x3, x4, x5, x6, x7, x8, .d d, x10, x11], by simp, by simp [z5], by simp, by simp⟩
theorem out_body (S s2 : SV) (cs : List Int) (sd : Int) (s3 s4 s5 s6 s7 s8 s9 s10 s11 : SV) (h3 : Pl s3) (h4 : Pl s4) (h5 : Pl s5) (h6 : Pl s6) (h7 : Pl s7) (h8 : Pl s8) (h9 : Pl s9) (h10 : Pl s10) (h11 : Pl s11) :
    ∃ (cs' : List Int) (sd' : Int) (t3 t4 t5 t6 t7 t8 t9 t10 t11 : SV), Pl t3 ∧ Pl t4 ∧ Pl t5 ∧ Pl t6 ∧ Pl t7 ∧ Pl t8 ∧ Pl t9 ∧ Pl t10 ∧ Pl t11 ∧ outB [S, .own false (.tape cs sd), s2, s3, s4, s5, s6, s7, s8, s9, s10, s11] = .nx [S, .own false (.tape cs' sd'), s2, t3, t4, t5, t6, t7, t8, t9, t10, t11] := by
  obtain ⟨rs, cs1, sd1, e1, hr, hn, hl⟩ := rules_go cs sd
  have e2 := spelling_ok rs hr hn (by omega)
  obtain ⟨cs2, sd2, w, t4, t6, q4, q6, ⟨hw0, hw, hc⟩, e3⟩ := in_loop4 S hr hn (by omega) (rng 0 4) (by simp [rng]) cs1 sd1 s2 s4 s5 s6 s7 s8 s9 s10 s11 h4 h5 h6
  unfold inB at e3
  obtain ⟨x, cs3, sd3, hx, e4⟩ := pick_go WR (by simp [WR]) (by decide) cs2 sd2
  obtain ⟨e5, e6⟩ := wrong_ok x hx
  obtain ⟨y, cs4, sd4, hy, e7⟩ := pick_go (OD w) (by simp [OD]) (by simp [OD]) cs3 sd3
  obtain ⟨b, e8, e9⟩ := odd_go w hw0 (by omega) y hy
  have hc' : ∀ c ∈ w ++ [97], lowc c := fun c hc2 => (List.mem_append.mp hc2).elim (hc c) fun h => by
    rw [List.mem_singleton.mp h]
    exact ⟨by decide, by decide⟩
  have e10 := call_word (broken_word hr hn (by omega) (w ++ [97]) (by simp) (by simp; omega) hc' _ e9)
  have e11 := call_word (broken_none hr hn (by omega) (.tuple []))
  have zw : w.length ≤ sizeLine := le_line (by omega)
  have zw1 : w.length + 1 ≤ sizeLine := le_line (by omega)
  have sb1 := same_bool true true
  have sb2 := same_bool false false
  have n1 := ne_spelling
  have n2 := ne_word
  have sT : fitZ (2 ^ 62) 4 = true := by decide
  simp only [WR, W1, W2, List.cons_append, List.nil_append] at e4
  simp only [OD] at e7
  refine ⟨cs4, sd4, .d (.tuple (rs.map R.D)), t4, .d (.str (sL w)), t6, .d (.tuple [.str "spell", .str "a", .str "k", .str "b", .str ""]), .d (.list WR), s9, .d x, .d y, .d _, q4, .d _, q6, .d _, .d _, h9, .d _, .d _, ?_⟩
  simp only [WR, W1, W2, List.cons_append, List.nil_append]
  have z1 : 1 ≤ sizeLine := by decide
  have z2 : 2 ≤ sizeLine := by decide
  have z4 : 4 ≤ sizeLine := by decide
  have z5 : 5 ≤ sizeLine := by decide
  have z7 : 7 ≤ sizeLine := by decide
  have z11 : 11 ≤ sizeLine := by decide
  have z12 : 12 ≤ sizeLine := by decide
  have z0 : 0 ≤ sizeLine := by decide
  cases b with
  | true =>
    rw [if_pos rfl] at e10
    rcases h9 with rfl | ⟨d9, rfl⟩ <;>
      simp [-setN, -eRng1, setN_pl, Pl.d, Pl_un, outB, er4, h3, h7, h8, h10, h11, e1, e2, sb1, sb2, e3, z0, z1, z2, z4, z5, z7, z11, z12, lc13, str13, e4, e5, e6, n1, n2, e7, e8, zw, zw1, a_len, app_a, e10, e11]
  | false =>
    rw [if_neg Bool.false_ne_true] at e10
    rcases h9 with rfl | ⟨d9, rfl⟩ <;>
      simp [-setN, -eRng1, setN_pl, Pl.d, Pl_un, outB, er4, h3, h7, h8, h10, h11, e1, e2, sb1, sb2, e3, z0, z1, z2, z4, z5, z7, z11, z12, lc13, str13, e4, e5, e6, n1, n2, e7, e8, zw, zw1, a_len, app_a, e10, e11]
theorem out_loop (S : SV) : ∀ (ds : List DL.D) (cs : List Int) (sd : Int) (s2 s3 s4 s5 s6 s7 s8 s9 s10 s11 : SV), Pl s2 → Pl s3 → Pl s4 → Pl s5 → Pl s6 → Pl s7 → Pl s8 → Pl s9 → Pl s10 → Pl s11 →
    ∃ ρ, forRun (setN 2) outB ds [S, .own false (.tape cs sd), s2, s3, s4, s5, s6, s7, s8, s9, s10, s11] = .nx ρ
  | [], cs, sd, s2, s3, s4, s5, s6, s7, s8, s9, s10, s11, _, _, _, _, _, _, _, _, _, _ => ⟨_, rfl⟩
  | d :: ds, cs, sd, s2, s3, s4, s5, s6, s7, s8, s9, s10, s11, h2, h3, h4, h5, h6, h7, h8, h9, h10, h11 => by
    have hset : setN 2 d [S, .own false (.tape cs sd), s2, s3, s4, s5, s6, s7, s8, s9, s10, s11] = some [S, .own false (.tape cs sd), .d d, s3, s4, s5, s6, s7, s8, s9, s10, s11] := setN_pl ⟨s2, rfl, h2⟩
    obtain ⟨cs', sd', t3, t4, t5, t6, t7, t8, t9, t10, t11, q3, q4, q5, q6, q7, q8, q9, q10, q11, e⟩ := out_body S (.d d) cs sd s3 s4 s5 s6 s7 s8 s9 s10 s11 h3 h4 h5 h6 h7 h8 h9 h10 h11
    obtain ⟨ρ, e2⟩ := out_loop S ds cs' sd' (.d d) t3 t4 t5 t6 t7 t8 t9 t10 t11 (.d _) q3 q4 q5 q6 q7 q8 q9 q10 q11
    refine ⟨ρ, ?_⟩
    unfold forRun
    rw [hset]
    simp only [e]
    exact e2
theorem law_true (ns : List Int) (h : ns.length ≤ 63) : m_law [.list (ns.map .int)] = .ret (.bool true) := by
  obtain ⟨cs, sd, e1⟩ := tape_ok ns h
  obtain ⟨ρ, e2⟩ := out_loop (.d (.list (intL ns))) (rng 0 4) cs sd .un .un .un .un .un .un .un .un .un .un Pl_un Pl_un Pl_un Pl_un Pl_un Pl_un Pl_un Pl_un Pl_un Pl_un
  have e3 := same_12
  unfold outB at e2
  have e1 : m__law_tape [.list (ns.map PyData.int)] = .own (.tape cs sd) := e1
  unfold intL at e2
  simp only [List.map_cons, List.map_nil] at e2
  simp [-eRng1, m_law, c_law, fnP, e1, e3, er4, e2]
end LW

open PySem PySem.W PyProof.Rows in
set_option maxRecDepth 100000 in
set_option maxHeartbeats 0 in
theorem PySem.Challenge.cw_joinedagain_k40_spelling_at_breaks_holds : PySem.Challenge.rw_joinedagain_k40_spelling_at_breaks.Holds := by
  w_on; o_law; k_head; (case hw => w_witness2)
  k_fill
  refine DL.walkT (l := PySem.Challenge.rw_joinedagain_k40_spelling_at_breaks) (n := 63) (k := 7) (m := LW.m_law) rfl (by decide) rfl ⟨rfl, by decide, by decide⟩ LW.law_true (fun w h Y => PySem.W.kIn_of Y) ?F
  case F =>
    intro w mg fa h KX G hmg
    refine' LW.all_mk KX G hmg ?a_is_part ?l_is_part ?c_is_part ?k_is_part ?a_is_integer ?l_is_integer ?c_is_integer ?k_is_integer ?a_is_word ?l_is_word ?c_is_word ?k_is_word ?a_is_places ?l_is_places ?c_is_places ?k_is_places ?a_is_rule ?l_is_rule ?c_is_rule ?k_is_rule ?a_is_spelling ?l_is_spelling ?c_is_spelling ?k_is_spelling ?a_check_spelling ?l_check_spelling ?c_check_spelling ?k_check_spelling ?a_rule_at ?l_rule_at ?c_rule_at ?k_rule_at ?a_pieces_of ?l_pieces_of ?c_pieces_of ?k_pieces_of ?a_broken ?l_broken ?c_broken ?k_broken ?a__law_tape ?l__law_tape ?c__law_tape ?k__law_tape ?a__law_draw ?l__law_draw ?c__law_draw ?k__law_draw ?a__law_pick ?l__law_pick ?c__law_pick ?k__law_pick ?a__law_same ?l__law_same ?c__law_same ?k__law_same ?a__law_string ?l__law_string ?c__law_string ?k__law_string ?a__law_rules ?l__law_rules ?c__law_rules ?k__law_rules ?a__law_broken ?l__law_broken ?c__law_broken ?k__law_broken ?a__law_some_places ?l__law_some_places ?c__law_some_places ?k__law_some_places ?a__law_call ?l__law_call ?c__law_call ?k__law_call ?a_law ?l_law ?c_law ?k_law ?a_BadTongue ?kc_BadTongue ?eC_BadTongue ?tC_BadTongue ?xL_BadTongue ?hb_BadTongue ?sa_BadTongue ?ga_BadTongue ?gg_BadTongue ?hC_BadTongue ?iC_BadTongue ?ti_BadTongue ?li_BadTongue ?ci_BadTongue ?ki_BadTongue ?nf_BadTongue_kind ?nf_BadTongue_name ?a_BadWord ?kc_BadWord ?eC_BadWord ?tC_BadWord ?q_BadWord ?a_MOST_LETTERS ?a_LETTERS_sounds ?a_LETTERS_words ?a_MOST_RULES ?a_PLAIN ?l_PLAIN ?z_abs ?z_all ?z_bool ?z_enumerate ?z_int ?z_isinstance ?z_len ?z_list ?z_range ?z_str ?z_tuple ?z_zip ?i_BadTongue ?e_BadTongue_BadTongue ?e_BadTongue_BadWord ?i_BadWord ?e_BadWord_BadTongue ?e_BadWord_BadWord
    (case a_is_part => k_is)
    (case l_is_part => k_is)
    (case c_is_part => k_is)
    (case k_is_part => k_is)
    (case a_is_integer => k_is)
    (case l_is_integer => k_is)
    (case c_is_integer => k_is)
    (case k_is_integer => k_is)
    (case a_is_word => k_is)
    (case l_is_word => k_is)
    (case c_is_word => k_is)
    (case k_is_word => k_is)
    (case a_is_places => k_is)
    (case l_is_places => k_is)
    (case c_is_places => k_is)
    (case k_is_places => k_is)
    (case a_is_rule => k_is)
    (case l_is_rule => k_is)
    (case c_is_rule => k_is)
    (case k_is_rule => k_is)
    (case a_is_spelling => k_is)
    (case l_is_spelling => k_is)
    (case c_is_spelling => k_is)
    (case k_is_spelling => k_is)
    (case a_check_spelling => k_is)
    (case l_check_spelling => k_is)
    (case c_check_spelling => k_is)
    (case k_check_spelling => k_is)
    (case a_rule_at => k_is)
    (case l_rule_at => k_is)
    (case c_rule_at => k_is)
    (case k_rule_at => k_is)
    (case a_pieces_of => k_is)
    (case l_pieces_of => k_is)
    (case c_pieces_of => k_is)
    (case k_pieces_of => k_is)
    (case a_broken => k_is)
    (case l_broken => k_is)
    (case c_broken => k_is)
    (case k_broken => k_is)
    (case a__law_tape => k_is)
    (case l__law_tape => k_is)
    (case c__law_tape => k_is)
    (case k__law_tape => k_is)
    (case a__law_draw => k_is)
    (case l__law_draw => k_is)
    (case c__law_draw => k_is)
    (case k__law_draw => k_is)
    (case a__law_pick => k_is)
    (case l__law_pick => k_is)
    (case c__law_pick => k_is)
    (case k__law_pick => k_is)
    (case a__law_same => k_is)
    (case l__law_same => k_is)
    (case c__law_same => k_is)
    (case k__law_same => k_is)
    (case a__law_string => k_is)
    (case l__law_string => k_is)
    (case c__law_string => k_is)
    (case k__law_string => k_is)
    (case a__law_rules => k_is)
    (case l__law_rules => k_is)
    (case c__law_rules => k_is)
    (case k__law_rules => k_is)
    (case a__law_broken => k_is)
    (case l__law_broken => k_is)
    (case c__law_broken => k_is)
    (case k__law_broken => k_is)
    (case a__law_some_places => k_is)
    (case l__law_some_places => k_is)
    (case c__law_some_places => k_is)
    (case k__law_some_places => k_is)
    (case a__law_call => k_is)
    (case l__law_call => k_is)
    (case c__law_call => k_is)
    (case k__law_call => k_is)
    (case a_law => k_is)
    (case l_law => k_is)
    (case c_law => k_is)
    (case k_law => k_is)
    (case a_BadTongue => k_is)
    (case kc_BadTongue => k_is)
    (case eC_BadTongue => k_is)
    (case tC_BadTongue => k_is)
    (case xL_BadTongue => k_is)
    (case hb_BadTongue => decide +kernel)
    (case sa_BadTongue => k_is)
    (case ga_BadTongue => k_is)
    (case gg_BadTongue => k_is)
    (case hC_BadTongue => k_is)
    (case iC_BadTongue => k_is)
    (case ti_BadTongue => k_is)
    (case li_BadTongue => k_is)
    (case ci_BadTongue => k_is)
    (case ki_BadTongue => k_is)
    (case nf_BadTongue_kind => k_is)
    (case nf_BadTongue_name => k_is)
    (case a_BadWord => k_is)
    (case kc_BadWord => k_is)
    (case eC_BadWord => k_is)
    (case tC_BadWord => k_is)
    (case q_BadWord => k_exc)
    (case a_MOST_LETTERS => k_is)
    (case a_LETTERS_sounds => k_is)
    (case a_LETTERS_words => k_is)
    (case a_MOST_RULES => k_is)
    (case a_PLAIN => k_is)
    (case l_PLAIN => k_is)
    (case z_abs => k_is)
    (case z_all => k_is)
    (case z_bool => k_is)
    (case z_enumerate => k_is)
    (case z_int => k_is)
    (case z_isinstance => k_is)
    (case z_len => k_is)
    (case z_list => k_is)
    (case z_range => k_is)
    (case z_str => k_is)
    (case z_tuple => k_is)
    (case z_zip => k_is)
    (case i_BadTongue => k_is)
    (case e_BadTongue_BadTongue => k_is)
    (case e_BadTongue_BadWord => k_is)
    (case i_BadWord => k_is)
    (case e_BadWord_BadTongue => k_is)
    (case e_BadWord_BadWord => k_is)
--#print axioms PySem.Challenge.cw_joinedagain_k40_spelling_at_breaks_holds
