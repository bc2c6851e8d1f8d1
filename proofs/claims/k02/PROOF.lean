import PyProof.Rows.All
import Wide.All
import OpenK.AllK
import Wide.FinOn
import HandS.ForMost
import HandS.Exc
import HandS.TryOnly
import HandS.ExcOwn
import HandS.WordsExc
import HandS.IsInst
import HandS.TupAny
import HandS.Deep
import HandS.StrMore
import HandS.RaiseMore
import HandS.TupLe
import HandS.CallLocal
import HandS.ExcInit
import HandS.ExcField
import HandS.TryMany
import HandS.Iter
import HandS.Zip
import HandS.Style
import KE.GoesEnum
import HandS.TupMul
import HandS.SortOrd
import KE.KDictSum
import HandS.Dict
import HandS.ExcValue
import HandS.Conv
import KE.DataMinMax
import PySem.Challenge.RW_joinedagain_k02_values_that_are_no_tongu
set_option Elab.async false
set_option linter.all false
set_option maxRecDepth 100000
set_option maxHeartbeats 8000000
set_option autoImplicit false
/-! The data layer: what a Python function does, over plain data (PyData), with lists of its own that it fills. -/
namespace DL
open PySem PySem.Spec L2

abbrev D := PyData
abbrev Fg := PySem.W.Frag

/-- a number of few bits (told by Nat, so that nothing is counted down) -/
def fitZ (b : Nat) (n : Int) : Bool := Nat.blt n.natAbs b
theorem fitZ_ok {b : Nat} {n : Int} (h : fitZ b n = true) : -(b : Int) < n ∧ n < b := by
  unfold fitZ at h
  have h := Nat.le_of_ble_eq_true h
  omega
theorem fitZ_of {b : Nat} {n : Int} (h : n.natAbs < b) : fitZ b n = true := Nat.ble_eq_true_of_le h
/-! ### heaps -/
theorem same_rd {H H' : Hp} {a : Addr} {u : HO} (e : Same H H') (h : Rd H a u) : Rd H' a u := by
  rcases h with h | ⟨o, h⟩
  · exact .inl (e a _ h)
  · exact .inr ⟨o, e a _ h⟩
theorem same_l {K : Fg} {H H' : Hp} {a : Addr} {xs : List V} (e : Same H H') (h : SqL K H a xs) : SqL K H' a xs := by
  rcases h with h | h
  · exact .inl (same_rd e h)
  · exact .inr h
theorem same_t {K : Fg} {H H' : Hp} {a : Addr} {xs : List V} (e : Same H H') (h : SqT K H a xs) : SqT K H' a xs := by
  rcases h with h | h
  · exact .inl (same_rd e h)
  · exact .inr h
/-- the class, the def that the top calls x -/
def IsCls (K : Fg) (x : Str) (C : Addr) : Prop := PySem.W.nsIn K mainGlobals x = some (some (.ref C))
/-! a value is plain data: numbers, texts, lists and tuples of such (lists that stand in H) -/
mutual
inductive Rp (K : Fg) (H : Hp) : V → D → Prop
  | non : Rp K H .non .none
  | bl (b : Bool) : Rp K H (.bl b) (.bool b)
  | int (i : Int) : Rp K H (.int i) (.int i)
  | str (x : Str) : Rp K H (.str x) (.str x)
  | lst {a : Addr} {xs : List V} {ds : List D} : SqL K H a xs → RpAll K H xs ds → Rp K H (.ref a) (.list ds)
  | tup {a : Addr} {xs : List V} {ds : List D} : SqT K H a xs → RpAll K H xs ds → Rp K H (.ref a) (.tuple ds)
  | fn {a : Addr} {x : Str} : IsCls K x a → Rp K H (.ref a) (.dict [(.str x, .none)])
inductive RpAll (K : Fg) (H : Hp) : List V → List D → Prop
  | nil : RpAll K H [] []
  | cons {v : V} {vs : List V} {d : D} {ds : List D} : Rp K H v d → RpAll K H vs ds → RpAll K H (v :: vs) (d :: ds)
end
mutual
theorem dp_mono {K : Fg} {H H' : Hp} (e : Same H H') : ∀ (d : D) (v : V), Rp K H v d → Rp K H' v d
  | .none, _, h => by cases h; exact .non
  | .bool b, _, h => by cases h; exact .bl b
  | .int i, _, h => by cases h; exact .int i
  | .str x, _, h => by cases h; exact .str x
  | .list ds, _, h => by
    cases h with
    | lst hs ha => exact .lst (same_l e hs) (dps_mono e ds _ ha)
  | .tuple ds, _, h => by
    cases h with
    | tup hs ha => exact .tup (same_t e hs) (dps_mono e ds _ ha)
  | .dict _, _, h => by
    cases h with
    | fn h => exact .fn h
theorem dps_mono {K : Fg} {H H' : Hp} (e : Same H H') : ∀ (ds : List D) (vs : List V), RpAll K H vs ds → RpAll K H' vs ds
  | [], _, h => by cases h; exact .nil
  | d :: ds, _, h => by
    cases h with
    | cons h1 h2 => exact .cons (dp_mono e d _ h1) (dps_mono e ds _ h2)
end
mutual
theorem rp_dp {K : Fg} {H : Hp} : ∀ (d : D) (v : V), PyData.canLay0 d = true → Rp K H v d → Dp K H v d
  | .none, _, _, h => by cases h; exact .non
  | .bool b, _, _, h => by cases h; exact .bl b
  | .int i, _, _, h => by cases h; exact .int i
  | .str x, _, _, h => by cases h; exact .str x
  | .list ds, _, c, h => by
    cases h with
    | lst hs ha => exact .lst hs (rps_dp ds _ (by simpa [PyData.canLay0] using c) ha)
  | .tuple ds, _, c, h => by
    cases h with
    | tup hs ha => exact .tup hs (rps_dp ds _ (by simpa [PyData.canLay0] using c) ha)
  | .dict _, _, c, h => by simp [PyData.canLay0] at c
theorem rps_dp {K : Fg} {H : Hp} : ∀ (ds : List D) (vs : List V), PyData.canLayAll0 ds = true → RpAll K H vs ds → DpAll K H vs ds
  | [], _, _, h => by cases h; exact .nil
  | d :: ds, _, c, h => by
    have c : PyData.canLay0 d = true ∧ PyData.canLayAll0 ds = true := by simpa [PyData.canLayAll0] using c
    cases h with
    | cons h1 h2 => exact .cons (rp_dp d _ c.1 h1) (rps_dp ds _ c.2 h2)
end
section
variable {K : Fg} {J H : Hp}
theorem dps_len : ∀ {vs : List V} {ds : List D}, RpAll K H vs ds → vs.length = ds.length
  | _, _, .nil => rfl
  | _, _, .cons _ t => congrArg (· + 1) (dps_len t)
theorem dps_get : ∀ {vs : List V} {ds : List D} {i : Nat} {d : D}, RpAll K H vs ds → ds[i]? = some d → ∃ v, vs[i]? = some v ∧ Rp K H v d
  | _, _, _, _, .nil, e => by simp at e
  | _, _, 0, _, .cons r _, e => by simp at e; subst e; exact ⟨_, rfl, r⟩
  | _, _, i + 1, d, .cons _ t, e => by
    obtain ⟨u, h1, h2⟩ := dps_get (i := i) (d := d) t (by simpa using e)
    exact ⟨u, by simpa using h1, h2⟩
theorem dps_get' {vs : List V} {ds : List D} {i : Nat} {v : V} (h : RpAll K H vs ds) (e : vs[i]? = some v) : ∃ d, ds[i]? = some d ∧ Rp K H v d := by
  have hi := (List.getElem?_eq_some_iff.mp e).1
  rw [dps_len h] at hi
  obtain ⟨u, h1, h2⟩ := dps_get h (List.getElem?_eq_getElem hi)
  rw [e] at h1
  cases h1
  exact ⟨_, List.getElem?_eq_getElem hi, h2⟩
theorem dps_append : ∀ {xs ys : List V} {ds es : List D}, RpAll K H xs ds → RpAll K H ys es → RpAll K H (xs ++ ys) (ds ++ es)
  | _, _, _, _, .nil, s => s
  | _, _, _, _, .cons r t, s => .cons r (dps_append t s)
theorem dps_take : ∀ {xs : List V} {ds : List D} (n : Nat), RpAll K H xs ds → RpAll K H (xs.take n) (ds.take n)
  | _, _, 0, _ => .nil
  | _, _, _ + 1, .nil => .nil
  | _, _, n + 1, .cons r t => .cons r (dps_take n t)
theorem dps_drop : ∀ {xs : List V} {ds : List D} (n : Nat), RpAll K H xs ds → RpAll K H (xs.drop n) (ds.drop n)
  | _, _, 0, r => r
  | _, _, _ + 1, .nil => .nil
  | _, _, n + 1, .cons _ t => dps_drop n t
theorem dps_set {x : V} {d : D} (r : Rp K H x d) : ∀ {xs : List V} {ds : List D} (i : Nat), RpAll K H xs ds → RpAll K H (xs.set i x) (ds.set i d)
  | _, _, _, .nil => .nil
  | _, _, 0, .cons _ t => .cons r t
  | _, _, i + 1, .cons q t => .cons q (dps_set r i t)
theorem dps_erase : ∀ {xs : List V} {ds : List D} (i : Nat), RpAll K H xs ds → RpAll K H (xs.eraseIdx i) (ds.eraseIdx i)
  | _, _, _, .nil => .nil
  | _, _, 0, .cons _ t => t
  | _, _, i + 1, .cons q t => .cons q (dps_erase i t)
theorem dps_dropLast {xs : List V} {ds : List D} (h : RpAll K H xs ds) : RpAll K H xs.dropLast ds.dropLast := by
  rw [List.dropLast_eq_take, List.dropLast_eq_take, dps_len h]
  exact dps_take _ h
theorem dps_rep {xs : List V} {ds : List D} (h : RpAll K H xs ds) : ∀ k : Nat, RpAll K H (List.replicate k xs).flatten (List.replicate k ds).flatten
  | 0 => .nil
  | k + 1 => by
    rw [List.replicate_succ, List.replicate_succ, List.flatten_cons, List.flatten_cons]
    exact dps_append h (dps_rep h k)
theorem dps_ints : ∀ (ns : List Int), RpAll K H (ns.map V.int) (ns.map PyData.int)
  | [] => .nil
  | n :: ns => .cons (.int n) (dps_ints ns)
theorem dps_strs : ∀ (ns : List Str), RpAll K H (ns.map V.str) (ns.map PyData.str)
  | [] => .nil
  | n :: ns => .cons (.str n) (dps_strs ns)
end

/-- from J, H to J', H': new objects alone, some of them plain data -/
structure Grow (J H J' H' : Hp) : Prop where
  j : Same J J'
  jh : Same J' H'
  old : ∀ a o, H a = some o → H' a = some o ∧ J' a = J a
theorem Grow.refl {J H : Hp} (e : Same J H) : Grow J H J H := ⟨.refl _, e, fun _ _ h => ⟨h, rfl⟩⟩
theorem Grow.h {J H J' H' : Hp} (g : Grow J H J' H') : Same H H' := fun a o h => (g.old a o h).1
theorem Grow.trans {J H J1 H1 J2 H2 : Hp} (a : Grow J H J1 H1) (b : Grow J1 H1 J2 H2) : Grow J H J2 H2 :=
  ⟨a.j.trans b.j, b.jh, fun x o h => by
    obtain ⟨h1, h2⟩ := a.old x o h
    obtain ⟨h3, h4⟩ := b.old x o h1
    exact ⟨h3, h4.trans h2⟩⟩
theorem same_new {H : Hp} {p : Addr} {o : HO} (h : H p = none) : Same H (upd H p o) := fun b x e => by
  rw [upd_ne (ne_of_none e h)]
  exact e
theorem same_upd2 {J H : Hp} {p : Addr} {o : HO} (e : Same J H) : Same (upd J p o) (upd H p o) := fun b x h => by
  by_cases q : b = p
  · subst q
    rw [upd_same] at h ⊢
    exact h
  · rw [upd_ne q] at h ⊢
    exact e _ _ h
theorem same_free {J H : Hp} {p : Addr} (e : Same J H) (h : H p = none) : J p = none := e.free h
theorem Grow.new {J H : Hp} {p : Addr} {o : HO} (e : Same J H) (h : H p = none) : Grow J H (upd J p o) (upd H p o) :=
  ⟨same_new (same_free e h), same_upd2 e, fun a u q => by
    have ne := ne_of_none q h
    rw [upd_ne ne, upd_ne ne]
    exact ⟨q, rfl⟩⟩
/-- a new object that is not plain data (yet) -/
theorem Grow.side {J H : Hp} {p : Addr} {o : HO} (e : Same J H) (h : H p = none) : Grow J H J (upd H p o) :=
  ⟨.refl _, e.trans (same_new h), fun a u q => by
    rw [upd_ne (ne_of_none q h)]
    exact ⟨q, rfl⟩⟩

/-! ### objects of one's own -/
inductive Own where
  | lst (xs : List D)
  | tape (cells : List Int) (seed : Int)
  | tapB (b : Addr) (cells : List Int) (seed : Int)
  | dct (kvs : List (Key × D))
  | dctT (kvs : List (List Key × D))
  | obj (c : Str) (fs : List (Str × D))
inductive SV where
  | un
  | d (x : D)
  | own (fx : Bool) (o : Own)
  | rf (a : Addr)
abbrev Env := List SV

/-- pairs of a key and plain data -/
inductive KvAll {κ : Type} (K : Fg) (J : Hp) : List (κ × V) → List (κ × D) → Prop
  | nil : KvAll K J [] []
  | cons {k : κ} {v : V} {d : D} {vs : List (κ × V)} {ds : List (κ × D)} : Rp K J v d → KvAll K J vs ds → KvAll K J ((k, v) :: vs) ((k, d) :: ds)
theorem kv_mono {κ : Type} {K : Fg} {J J' : Hp} (e : Same J J') {vs : List (κ × V)} {ds : List (κ × D)} (h : KvAll K J vs ds) : KvAll K J' vs ds := by
  induction h with
  | nil => exact .nil
  | cons r _ ih => exact .cons (dp_mono e _ _ r) ih
def OwnAt (K : Fg) (J H : Hp) : Own → List Addr → Prop
  | .dct kvs, f => ∃ a vs, f = [a] ∧ H a = some (.dK vs) ∧ KvAll K J vs kvs
  | .dctT kvs, f => ∃ a vs, f = [a] ∧ H a = some (.dT vs) ∧ KvAll K J vs kvs
  | .obj c fs, f => ∃ a C dx vs, f = [a] ∧ IsCls K c C ∧ H a = some (.ins C dx vs) ∧ KvAll K J vs fs
  | .lst xs, f => ∃ a vs, f = [a] ∧ H a = some (.lst vs) ∧ RpAll K J vs xs
  | .tape cs sd, f => ∃ a b, f = [a, b] ∧ a ≠ b ∧ H a = some (.lst [.ref b, .int sd]) ∧ H b = some (.lst (cs.map V.int))
  | .tapB b cs sd, f => ∃ a, f = [a, b] ∧ a ≠ b ∧ H a = some (.lst [.ref b, .int sd]) ∧ H b = some (.lst (cs.map V.int))
theorem OwnAt.known {K : Fg} {J H : Hp} {o : Own} {f : List Addr} (h : OwnAt K J H o f) : ∀ a ∈ f, ∃ u, H a = some u := by
  cases o with
  | dct kvs =>
    obtain ⟨a, vs, rfl, e, _⟩ := h
    intro b hb
    have : b = a := by simpa using hb
    subst this
    exact ⟨_, e⟩
  | dctT kvs =>
    obtain ⟨a, vs, rfl, e, _⟩ := h
    intro b hb
    have : b = a := by simpa using hb
    subst this
    exact ⟨_, e⟩
  | obj c fs =>
    obtain ⟨a, C, dx, vs, rfl, _, e, _⟩ := h
    intro b hb
    have : b = a := by simpa using hb
    subst this
    exact ⟨_, e⟩
  | lst xs =>
    obtain ⟨a, vs, rfl, e, _⟩ := h
    intro b hb
    have : b = a := by simpa using hb
    subst this
    exact ⟨_, e⟩
  | tape cs sd =>
    obtain ⟨a, b, rfl, _, e, e'⟩ := h
    intro c hc
    rcases (by simpa using hc : c = a ∨ c = b) with rfl | rfl
    · exact ⟨_, e⟩
    · exact ⟨_, e'⟩
  | tapB b cs sd =>
    obtain ⟨a, rfl, _, e, e'⟩ := h
    intro c hc
    rcases (by simpa using hc : c = a ∨ c = b) with rfl | rfl
    · exact ⟨_, e⟩
    · exact ⟨_, e'⟩
/-- the foot's objects stay, the plain data grows -/
theorem OwnAt.keep {K : Fg} {J H J' H' : Hp} {o : Own} {f : List Addr} (h : OwnAt K J H o f) (hj : Same J J') (hk : ∀ a ∈ f, ∀ u, H a = some u → H' a = some u) : OwnAt K J' H' o f := by
  cases o with
  | dct kvs =>
    obtain ⟨a, vs, rfl, e, r⟩ := h
    exact ⟨a, vs, rfl, hk a (by simp) _ e, kv_mono hj r⟩
  | dctT kvs =>
    obtain ⟨a, vs, rfl, e, r⟩ := h
    exact ⟨a, vs, rfl, hk a (by simp) _ e, kv_mono hj r⟩
  | obj c fs =>
    obtain ⟨a, C, dx, vs, rfl, hc, e, r⟩ := h
    exact ⟨a, C, dx, vs, rfl, hc, hk a (by simp) _ e, kv_mono hj r⟩
  | lst xs =>
    obtain ⟨a, vs, rfl, e, r⟩ := h
    exact ⟨a, vs, rfl, hk a (by simp) _ e, dps_mono hj _ _ r⟩
  | tape cs sd =>
    obtain ⟨a, b, rfl, n, e, e'⟩ := h
    exact ⟨a, b, rfl, n, hk a (by simp) _ e, hk b (by simp) _ e'⟩
  | tapB b cs sd =>
    obtain ⟨a, rfl, n, e, e'⟩ := h
    exact ⟨a, rfl, n, hk a (by simp) _ e, hk b (by simp) _ e'⟩

inductive SlOk (K : Fg) (J H : Hp) : Option V → SV → List Addr → Prop where
  | un (x : Option V) : SlOk K J H x .un []
  | d {v : V} {x : D} (h : Rp K J v x) : SlOk K J H (some v) (.d x) []
  | own {a : Addr} {r : List Addr} {fx : Bool} {o : Own} (h : OwnAt K J H o (a :: r)) : SlOk K J H (some (.ref a)) (.own fx o) (a :: r)
  | rf (a : Addr) : SlOk K J H (some (.ref a)) (.rf a) []
inductive SlsOk (K : Fg) (J H : Hp) : List (Option V) → List SV → List (List Addr) → Prop where
  | nil : SlsOk K J H [] [] []
  | cons {x : Option V} {s : SV} {f : List Addr} {xs : List (Option V)} {ss : List SV} {fs : List (List Addr)} : SlOk K J H x s f → SlsOk K J H xs ss fs → SlsOk K J H (x :: xs) (s :: ss) (f :: fs)
section
variable {K : Fg} {J H J' H' : Hp}
theorem SlOk.known {x : Option V} {s : SV} {f : List Addr} (h : SlOk K J H x s f) : ∀ a ∈ f, ∃ u, H a = some u := by
  cases h with
  | un => intro a h; cases h
  | d => intro a h; cases h
  | rf => intro a h; cases h
  | own h => exact h.known
theorem SlOk.keep {x : Option V} {s : SV} {f : List Addr} (h : SlOk K J H x s f) (hj : Same J J') (hk : ∀ a ∈ f, ∀ u, H a = some u → H' a = some u) : SlOk K J' H' x s f := by
  cases h with
  | un => exact .un _
  | d h => exact .d (dp_mono hj _ _ h)
  | rf a => exact .rf a
  | own h => exact .own (h.keep hj hk)
theorem SlsOk.keep {xs : List (Option V)} {ss : List SV} {fs : List (List Addr)} (h : SlsOk K J H xs ss fs) (hj : Same J J') (hk : ∀ f ∈ fs, ∀ a ∈ f, ∀ u, H a = some u → H' a = some u) : SlsOk K J' H' xs ss fs := by
  induction h with
  | nil => exact .nil
  | cons h t ih => exact .cons (h.keep hj (hk _ (List.mem_cons_self))) (ih fun f hf => hk f (List.mem_cons_of_mem _ hf))
theorem SlsOk.known {xs : List (Option V)} {ss : List SV} {fs : List (List Addr)} (h : SlsOk K J H xs ss fs) : ∀ f ∈ fs, ∀ a ∈ f, ∃ u, H a = some u := by
  induction h with
  | nil => intro f hf; cases hf
  | cons h t ih =>
    intro f hf
    rcases List.mem_cons.mp hf with rfl | hf
    · exact h.known
    · exact ih f hf
theorem SlsOk.len {xs : List (Option V)} {ss : List SV} {fs : List (List Addr)} (h : SlsOk K J H xs ss fs) : xs.length = ss.length ∧ fs.length = ss.length := by
  induction h with
  | nil => exact ⟨rfl, rfl⟩
  | cons h t ih => exact ⟨congrArg (· + 1) ih.1, congrArg (· + 1) ih.2⟩
theorem SlsOk.get : ∀ {xs : List (Option V)} {ss : List SV} {fs : List (List Addr)} {i : Nat} {s : SV}, SlsOk K J H xs ss fs → ss[i]? = some s → ∃ x f, xs[i]? = some x ∧ fs[i]? = some f ∧ SlOk K J H x s f
  | _, _, _, _, _, .nil, e => by simp at e
  | _, _, _, 0, _, .cons h _, e => by simp at e; subst e; exact ⟨_, _, rfl, rfl, h⟩
  | _, _, _, i + 1, s, .cons _ t, e => by
    obtain ⟨x, f, h1, h2, h3⟩ := SlsOk.get (i := i) (s := s) t (by simpa using e)
    exact ⟨x, f, by simpa using h1, by simpa using h2, h3⟩
theorem SlsOk.set {x : Option V} {s : SV} {f : List Addr} (h : SlOk K J H x s f) : ∀ {xs : List (Option V)} {ss : List SV} {fs : List (List Addr)} (i : Nat), SlsOk K J H xs ss fs → SlsOk K J H (xs.set i x) (ss.set i s) (fs.set i f)
  | _, _, _, _, .nil => .nil
  | _, _, _, 0, .cons _ t => .cons h t
  | _, _, _, i + 1, .cons q t => .cons q (SlsOk.set h i t)
/-- the environment's slot alone changes -/
theorem SlsOk.setS {s : SV} {f : List Addr} : ∀ {xs : List (Option V)} {ss : List SV} {fs : List (List Addr)} (i : Nat) (x : Option V), xs[i]? = some x → SlOk K J H x s f → SlsOk K J H xs ss fs → SlsOk K J H xs (ss.set i s) (fs.set i f)
  | _, _, _, _, _, e, _, .nil => .nil
  | _, _, _, 0, _, e, h, .cons _ t => by
    simp at e
    subst e
    exact .cons h t
  | _, _, _, i + 1, x, e, h, .cons q t => .cons q (SlsOk.setS i x (by simpa using e) h t)
end
/-- no object stands in two feet -/
def Apart (fs : List (List Addr)) : Prop := ∀ (i j : Nat) (f g : List Addr) (a : Addr), fs[i]? = some f → fs[j]? = some g → a ∈ f → a ∈ g → i = j
theorem Apart.set {fs : List (List Addr)} (h : Apart fs) (i : Nat) {f : List Addr} (hf : ∀ j g, j ≠ i → fs[j]? = some g → ∀ a ∈ f, a ∉ g) : Apart (fs.set i f) := by
  intro j k g1 g2 a e1 e2 h1 h2
  by_cases hj : j = i
  · by_cases hk : k = i
    · exact hj.trans hk.symm
    · subst hj
      rw [List.getElem?_set_ne (Ne.symm hk)] at e2
      by_cases hl : j < fs.length
      · rw [List.getElem?_set_self hl] at e1
        cases e1
        exact absurd h2 (hf k _ hk e2 a h1)
      · rw [List.getElem?_eq_none (by simpa using hl)] at e1
        cases e1
  · rw [List.getElem?_set_ne (Ne.symm hj)] at e1
    by_cases hk : k = i
    · subst hk
      by_cases hl : k < fs.length
      · rw [List.getElem?_set_self hl] at e2
        cases e2
        exact absurd h1 (hf j _ hj e1 a h2)
      · rw [List.getElem?_eq_none (by simpa using hl)] at e2
        cases e2
    · rw [List.getElem?_set_ne (Ne.symm hk)] at e2
      exact h j k _ _ a e1 e2 h1 h2
theorem Apart.nilSet {fs : List (List Addr)} (h : Apart fs) (i : Nat) : Apart (fs.set i []) := h.set i (by intro _ _ _ _ a ha; cases ha)
theorem mem_set_of {fs : List (List Addr)} {i : Nat} {f g : List Addr} (h : g ∈ fs.set i f) : g = f ∨ g ∈ fs := by
  rcases List.mem_or_eq_of_mem_set h with h | h
  · exact .inr h
  · exact .inl h

/-! ### the relation of an environment to slots and heap -/
structure Gd where
  P : Addr → Prop
  H0 : Hp
  J0 : Hp
  fx : Option (Nat × Addr)
structure ER (K : Fg) (G : Gd) (J H : Hp) (σ : L2.St) (ρ : Env) : Prop where
  ex : Same J H
  j0 : Same G.J0 J
  keep : ∀ a, G.P a → H a = G.H0 a ∧ J a = G.J0 a
  pn : ∀ a, G.P a → ∃ o, G.H0 a = some o
  ft : ∃ fs, SlsOk K J H σ ρ fs ∧ Apart fs ∧ ∀ f ∈ fs, ∀ a ∈ f, J a = none ∧ ¬ G.P a
  fx : ∀ i a, G.fx = some (i, a) → σ[i]? = some (some (.ref a)) ∧ ∃ o, ρ[i]? = some (.own true o)
section
variable {K : Fg} {G : Gd} {J H J' H' : Hp} {σ : L2.St} {ρ : Env}
theorem ER.len (e : ER K G J H σ ρ) : σ.length = ρ.length := by
  obtain ⟨fs, h, _⟩ := e.ft
  exact h.len.1
theorem ER.grow (e : ER K G J H σ ρ) (g : Grow J H J' H') : ER K G J' H' σ ρ := by
  obtain ⟨fs, h, ap, q⟩ := e.ft
  refine ⟨g.jh, e.j0.trans g.j, fun a p => ?_, e.pn, ⟨fs, h.keep g.j fun f hf a ha u hu => (g.old a u hu).1, ap, fun f hf a ha => ⟨?_, (q f hf a ha).2⟩⟩, e.fx⟩
  · obtain ⟨o, ho⟩ := e.pn a p
    obtain ⟨k1, k2⟩ := e.keep a p
    obtain ⟨g1, g2⟩ := g.old a o (k1.trans ho)
    exact ⟨g1.trans ho.symm, g2.trans k2⟩
  · obtain ⟨u, hu⟩ := h.known f hf a ha
    rw [(g.old a u hu).2]
    exact (q f hf a ha).1
/-- a slot that is not held fixed -/
def loose (ρ : Env) (i : Nat) : Bool := match ρ[i]? with
  | some (.own true _) => false
  | some _ => true
  | none => false
theorem ER.fx_ne (e : ER K G J H σ ρ) {i : Nat} (hl : loose ρ i = true) {j : Nat} {a : Addr} (h : G.fx = some (j, a)) : j ≠ i := by
  rintro rfl
  obtain ⟨_, o, ho⟩ := e.fx j a h
  unfold loose at hl
  rw [ho] at hl
  cases hl
theorem ER.setD {i : Nat} {v : V} {d : D} (e : ER K G J H σ ρ) (hv : Rp K J v d) (hl : loose ρ i = true) : ER K G J H (σ.set i (some v)) (ρ.set i (.d d)) := by
  obtain ⟨fs, h, ap, q⟩ := e.ft
  refine ⟨e.ex, e.j0, e.keep, e.pn, ⟨fs.set i [], SlsOk.set (.d hv) i h, ap.nilSet i, fun f hf a ha => ?_⟩, fun j a hj => ?_⟩
  · rcases mem_set_of hf with rfl | hf
    · cases ha
    · exact q f hf a ha
  · have ne := e.fx_ne hl hj
    rw [List.getElem?_set_ne ne.symm, List.getElem?_set_ne ne.symm]
    exact e.fx j a hj
/-- a slot is forgotten, whatever it holds from now on -/
theorem ER.setU {i : Nat} {x : Option V} (e : ER K G J H σ ρ) (hl : loose ρ i = true) : ER K G J H (σ.set i x) (ρ.set i .un) := by
  obtain ⟨fs, h, ap, q⟩ := e.ft
  refine ⟨e.ex, e.j0, e.keep, e.pn, ⟨fs.set i [], SlsOk.set (.un x) i h, ap.nilSet i, fun f hf a ha => ?_⟩, fun j a hj => ?_⟩
  · rcases mem_set_of hf with rfl | hf
    · cases ha
    · exact q f hf a ha
  · have ne := e.fx_ne hl hj
    rw [List.getElem?_set_ne ne.symm, List.getElem?_set_ne ne.symm]
    exact e.fx j a hj
theorem ER.dropS {i : Nat} (e : ER K G J H σ ρ) (hl : loose ρ i = true) : ER K G J H σ (ρ.set i .un) := by
  obtain ⟨fs, h, ap, q⟩ := e.ft
  have hi : i < ρ.length := by
    unfold loose at hl
    split at hl
    · cases hl
    · rename_i h1
      exact (List.getElem?_eq_some_iff.mp h1).1
    · cases hl
  have hs : i < σ.length := by rw [e.len]; exact hi
  have eq : σ.set i σ[i] = σ := List.set_getElem_self hs
  have := e.setU (x := σ[i]) hl
  rw [eq] at this
  exact this
/-- a new object of one's own comes to a slot -/
theorem ER.setO {i : Nat} {p : Addr} {u : HO} {o : Own} (e : ER K G J H σ ρ) (hp : H p = none) (hl : loose ρ i = true) (ho : OwnAt K J (upd H p u) o [p]) : ER K G J (upd H p u) (σ.set i (some (.ref p))) (ρ.set i (.own false o)) := by
  have g := Grow.side (o := u) e.ex hp
  have e1 := e.grow g
  obtain ⟨fs, h, ap, q⟩ := e1.ft
  obtain ⟨fs0, h0, ap0, q0⟩ := e.ft
  have fresh : ∀ f ∈ fs0, p ∉ f := fun f hf hm => by
    obtain ⟨u, hu⟩ := h0.known f hf p hm
    rw [hp] at hu
    cases hu
  have h1 : SlsOk K J (upd H p u) σ ρ fs0 := h0.keep (.refl _) fun f hf a ha w hw => (g.old a w hw).1
  refine ⟨g.jh, e.j0, e1.keep, e.pn, ⟨fs0.set i [p], SlsOk.set (.own ho) i h1, ap0.set i fun j f hj ef a ha => ?_, fun f hf a ha => ?_⟩, fun j a hj => ?_⟩
  · have : a = p := by simpa using ha
    subst this
    exact fresh f (List.mem_of_getElem? ef)
  · rcases mem_set_of hf with rfl | hf
    · have : a = p := by simpa using ha
      subst this
      refine ⟨same_free e.ex hp, fun hP => ?_⟩
      obtain ⟨o, ho⟩ := e.pn _ hP
      rw [(e.keep _ hP).1, ho] at hp
      cases hp
    · exact q0 f hf a ha
  · have ne := e.fx_ne hl hj
    rw [List.getElem?_set_ne ne.symm, List.getElem?_set_ne ne.symm]
    exact e.fx j a hj
/-- the list of a slot changes -/
theorem ER.mutL {i : Nat} {a : Addr} {fx : Bool} {xs xs' : List D} {vs' : List V} (e : ER K G J H σ ρ) (hi : ρ[i]? = some (.own fx (.lst xs))) (hs : σ[i]? = some (some (.ref a))) (hv : RpAll K J vs' xs') :
    ER K G J (upd H a (.lst vs')) σ (ρ.set i (.own fx (.lst xs'))) := by
  obtain ⟨fs, h, ap, q⟩ := e.ft
  obtain ⟨x, f, e1, e2, r⟩ := h.get hi
  rw [hs] at e1
  cases e1
  cases r with
  | own ho =>
  obtain ⟨a', vs, ef, ha, hd⟩ := ho
  injection ef with ea er
  subst ea er
  have qa := q _ (List.mem_of_getElem? e2) a (by simp)
  have other : ∀ j f, j ≠ i → fs[j]? = some f → a ∉ f := fun j f hj ef hm => hj (ap j i f [a] a ef e2 hm (by simp))
  refine ⟨fun b u hu => ?_, e.j0, fun b hb => ?_, e.pn, ⟨fs, ?_, ap, q⟩, fun j b hj => ?_⟩
  · have ne : b ≠ a := ne_of_none hu qa.1
    rw [upd_ne ne]
    exact e.ex _ _ hu
  · have ne : b ≠ a := fun z => qa.2 (z ▸ hb)
    rw [upd_ne ne]
    exact e.keep b hb
  · -- the slots
    have key : ∀ (σ : List (Option V)) (ρ : List SV) (fs : List (List Addr)) (i : Nat), SlsOk K J H σ ρ fs → ρ[i]? = some (.own fx (.lst xs)) → σ[i]? = some (some (.ref a)) → fs[i]? = some [a] → (∀ j f, j ≠ i → fs[j]? = some f → a ∉ f) →
        SlsOk K J (upd H a (.lst vs')) σ (ρ.set i (.own fx (.lst xs'))) fs := by
      intro σ ρ fs i h
      induction h generalizing i with
      | nil => intro e; simp at e
      | @cons x s f xs ss fs h t ih =>
        intro e1 e2 e3 e4
        cases i with
        | zero =>
          simp at e1 e2 e3
          subst e1 e2 e3
          refine .cons (.own ⟨a, vs', rfl, upd_same, hv⟩) (t.keep (.refl _) fun g hg b hb u hu => ?_)
          obtain ⟨k, hk, hk2⟩ := List.getElem_of_mem hg
          have : a ∉ g := e4 (k + 1) g (by omega) (by simp [hk, hk2])
          rw [upd_ne (show b ≠ a from fun z => this (z ▸ hb))]
          exact hu
        | succ i =>
          refine .cons (h.keep (.refl _) fun b hb u hu => ?_) (ih i (by simpa using e1) (by simpa using e2) (by simpa using e3) fun j g hj hg => e4 (j + 1) g (by omega) (by simpa using hg))
          have : a ∉ f := e4 0 f (by omega) rfl
          rw [upd_ne (show b ≠ a from fun z => this (z ▸ hb))]
          exact hu
    exact key σ ρ fs i h hi hs e2 other
  · obtain ⟨f1, o, f2⟩ := e.fx j b hj
    refine ⟨f1, ?_⟩
    by_cases hij : i = j
    · subst hij
      rw [hi] at f2
      cases f2
      refine ⟨.lst xs', ?_⟩
      rw [List.getElem?_set_self (List.getElem?_eq_some_iff.mp hi).1]
    · rw [List.getElem?_set_ne hij]
      exact ⟨o, f2⟩
/-- a list of a slot becomes plain data; the slot is left -/
theorem ER.freeze {i : Nat} {xs : List D} (e : ER K G J H σ ρ) (hi : ρ[i]? = some (.own false (.lst xs))) : ∃ a J', σ[i]? = some (some (.ref a)) ∧ Same J J' ∧ Rp K J' (.ref a) (.list xs) ∧ ER K G J' H σ (ρ.set i .un) := by
  obtain ⟨fs, h, ap, q⟩ := e.ft
  obtain ⟨x, f, e1, e2, r⟩ := h.get hi
  have hl : loose ρ i = true := by unfold loose; rw [hi]
  cases r with
  | own ho =>
  rename_i a r
  obtain ⟨a', vs, ef, ha, hd⟩ := ho
  injection ef with ea er
  subst ea er
  have qa := q _ (List.mem_of_getElem? e2) a (by simp)
  have sj : Same J (upd J a (.lst vs)) := same_new qa.1
  refine ⟨a, upd J a (.lst vs), e1, sj, .lst (.of upd_same) (dps_mono sj _ _ hd), ?_⟩
  have hs : SlsOk K (upd J a (.lst vs)) H σ (ρ.set i .un) (fs.set i []) := SlsOk.setS i _ e1 (.un _) (h.keep sj fun _ _ _ _ _ hu => hu)
  refine ⟨fun b u hu => ?_, e.j0.trans sj, fun b hb => ?_, e.pn, ⟨fs.set i [], hs, ap.nilSet i, fun f hf b hb => ?_⟩, fun j b hj => ?_⟩
  · by_cases z : b = a
    · subst z
      rw [upd_same] at hu
      cases hu
      exact ha
    · rw [upd_ne z] at hu
      exact e.ex _ _ hu
  · have ne : b ≠ a := fun z => qa.2 (z ▸ hb)
    rw [upd_ne ne]
    exact e.keep b hb
  · obtain ⟨k, hk, hk2⟩ := List.getElem_of_mem hf
    by_cases z : k = i
    · subst z
      have : f = [] := by
        rw [← hk2, List.getElem_set_self]
      subst this
      cases hb
    · rw [List.length_set] at hk
      rw [List.getElem_set_ne (Ne.symm z)] at hk2
      have hfk : fs[k]? = some f := by rw [List.getElem?_eq_getElem hk, hk2]
      have ne : b ≠ a := fun w => z (ap k i f [a] a hfk e2 (w ▸ hb) (by simp))
      rw [upd_ne ne]
      exact q f (List.mem_of_getElem? hfk) b hb
  · have ne := e.fx_ne hl hj
    rw [List.getElem?_set_ne ne.symm]
    exact e.fx j b hj
end
end DL

namespace DL
open PySem PySem.Spec L2

/-! ### what running gives -/
structure EV where
  cls : String
  fs : List (Str × D)
inductive VV where
  | val (d : D)
  | slot (i : Nat)
inductive Out (α : Type) where
  | ok (a : α) (ρ : Env)
  | exc (e : EV) (ρ : Env)
  | bad
@[reducible, simp] def Out.bind {α β : Type} (x : Out α) (k : α → Env → Out β) : Out β := match x with
  | .ok a ρ => k a ρ
  | .exc e ρ => .exc e ρ
  | .bad => .bad
structure Yx where
  ct : String → Option Value
  W : WX
/-- the fields of an exception, in its own dict -/
def FsOk (K : Fg) (J : Hp) : List (Str × V) → List (Str × D) → Prop
  | [], [] => True
  | (f, v) :: vs, (g, d) :: ds => f = g ∧ Rp K J v d ∧ FsOk K J vs ds
  | _, _ => False
def ExcAt (Y : Yx) (K : Fg) (J H : Hp) (e : EV) (c : Value) (dx : Option Addr) : Prop :=
  Y.ct e.cls = some c ∧ ((e.fs = [] ∧ dx = none) ∨ ∃ a vs, dx = some a ∧ J a = none ∧ H a = some (.xd vs) ∧ FsOk K J vs e.fs)

def RV (K : Fg) (σ : L2.St) (J : Hp) (v : V) : VV → Prop
  | .val d => Rp K J v d
  | .slot i => σ[i]? = some (some v)
def RVs (K : Fg) (σ : L2.St) (J : Hp) : List V → List VV → Prop
  | [], [] => True
  | v :: vs, x :: xs => RV K σ J v x ∧ RVs K σ J vs xs
  | _, _ => False
theorem RV.mono {K : Fg} {σ : L2.St} {J J' : Hp} (s : Same J J') {v : V} : ∀ {x : VV}, RV K σ J v x → RV K σ J' v x
  | .val _, h => dp_mono s _ _ h
  | .slot _, h => h
theorem RVs.mono {K : Fg} {σ : L2.St} {J J' : Hp} (s : Same J J') : ∀ {vs : List V} {xs : List VV}, RVs K σ J vs xs → RVs K σ J' vs xs
  | [], [], _ => trivial
  | _ :: _, _ :: _, h => ⟨h.1.mono s, RVs.mono s h.2⟩
  | [], _ :: _, h => h.elim
  | _ :: _, [], h => h.elim
@[simp] def deref (ρ : Env) : VV → Option D
  | .val d => some d
  | .slot i => match ρ[i]? with
    | some (.own _ (.lst xs)) => some (.list xs)
    | _ => none
@[simp] def derefs (ρ : Env) : List VV → Option (List D)
  | [] => some []
  | x :: xs => match deref ρ x with
    | some d => match derefs ρ xs with
      | some ds => some (d :: ds)
      | none => none
    | none => none
/-- v is the datum d here and now: plain data, or a list of one's own that holds plain data -/
def Wk (K : Fg) (J H : Hp) (v : V) (d : D) : Prop := Rp K J v d ∨ ∃ a vs xs, v = .ref a ∧ d = .list xs ∧ H a = some (.lst vs) ∧ RpAll K J vs xs
def Wks (K : Fg) (J H : Hp) : List V → List D → Prop
  | [], [] => True
  | v :: vs, x :: xs => Wk K J H v x ∧ Wks K J H vs xs
  | _, _ => False
section
variable {K : Fg} {G : Gd} {J H J' H' : Hp} {σ : L2.St} {ρ : Env} {Y : Yx}
theorem deref_ok (e : ER K G J H σ ρ) {v : V} {x : VV} {d : D} (r : RV K σ J v x) (h : deref ρ x = some d) : Wk K J H v d := by
  cases x with
  | val d' =>
    cases h
    exact .inl r
  | slot i =>
    have h : (match ρ[i]? with
      | some (.own _ (.lst xs)) => some (PyData.list xs)
      | _ => none) = some d := h
    split at h
    · rename_i fx xs hi
      cases h
      obtain ⟨fs, hs, _⟩ := e.ft
      obtain ⟨y, f, e1, _, so⟩ := hs.get hi
      have e2 : σ[i]? = some (some v) := r
      rw [e2] at e1
      cases e1
      cases so with
      | own ho =>
        obtain ⟨a, vs, ef, ha, hd⟩ := ho
        injection ef with ea er
        subst ea er
        exact .inr ⟨_, vs, xs, rfl, rfl, ha, hd⟩
    · cases h
theorem derefs_ok (e : ER K G J H σ ρ) : ∀ {vs : List V} {xs : List VV} {ds : List D}, RVs K σ J vs xs → derefs ρ xs = some ds → Wks K J H vs ds
  | [], [], ds, _, h => by
    cases h
    trivial
  | v :: vs, x :: xs, ds, r, h => by
    unfold derefs at h
    split at h
    · rename_i d hd
      split at h
      · rename_i ds' hds
        cases h
        exact ⟨deref_ok e r.1 hd, derefs_ok e r.2 hds⟩
      · cases h
    · cases h
  | [], _ :: _, _, r, _ => r.elim
  | _ :: _, [], _, r, _ => r.elim
/-- seen with all of H -/
theorem Wk.rp {v : V} {d : D} (s : Same J H) (h : Wk K J H v d) : Rp K H v d := by
  rcases h with h | ⟨a, vs, xs, rfl, rfl, ha, r⟩
  · exact dp_mono s _ _ h
  · exact .lst (.of ha) (dps_mono s _ _ r)
theorem Wk.dp {v : V} {d : D} (s : Same J H) (c : SeqAt.shaped d = true) (h : Wk K J H v d) : Dp K H v d := rp_dp _ _ (by
  unfold SeqAt.shaped at c
  rw [Bool.and_eq_true] at c
  exact c.1) (h.rp s)
theorem Wk.list {v : V} {xs : List D} (s : Same J H) (h : Wk K J H v (.list xs)) : ∃ a vs, v = .ref a ∧ SqL K H a vs ∧ RpAll K J vs xs := by
  rcases h with h | ⟨a, vs, xs', rfl, e, ha, r⟩
  · cases h with
    | lst hs ha => exact ⟨_, _, rfl, same_l s hs, ha⟩
  · cases e
    exact ⟨_, _, rfl, .of ha, r⟩
theorem Wk.tup {v : V} {xs : List D} (s : Same J H) (h : Wk K J H v (.tuple xs)) : ∃ a vs, v = .ref a ∧ SqT K H a vs ∧ RpAll K J vs xs ∧ Rp K J v (.tuple xs) := by
  rcases h with h | ⟨a, vs, xs', rfl, e, ha, r⟩
  · have h' := h
    cases h with
    | tup hs ha => exact ⟨_, _, rfl, same_t s hs, ha, h'⟩
  · cases e
theorem Wk.int {v : V} {i : Int} (h : Wk K J H v (.int i)) : v = .int i := by
  rcases h with h | ⟨_, _, _, _, e, _⟩
  · cases h; rfl
  · cases e
theorem Wk.str {v : V} {i : Str} (h : Wk K J H v (.str i)) : v = .str i := by
  rcases h with h | ⟨_, _, _, _, e, _⟩
  · cases h; rfl
  · cases e
theorem Wk.bl {v : V} {i : Bool} (h : Wk K J H v (.bool i)) : v = .bl i := by
  rcases h with h | ⟨_, _, _, _, e, _⟩
  · cases h; rfl
  · cases e
theorem Wk.non {v : V} (h : Wk K J H v .none) : v = .non := by
  rcases h with h | ⟨_, _, _, _, e, _⟩
  · cases h; rfl
  · cases e

/-- what is wanted behind a run, told over the run's end -/
def Post {α β : Type} (K : Fg) (Y : Yx) (G : Gd) (J : Hp) (σ : L2.St) (R : Hp → β → α → Prop) (o : Out α) (Q : β → Hp → Prop) : Prop := match o with
  | .ok x ρ => ∀ v J' H', Same J J' → R J' v x → ER K G J' H' σ ρ → Q v H'
  | .exc e ρ => ∀ c dx J' H', Same J J' → ExcAt Y K J' H' e c dx → ER K G J' H' σ ρ → Y.W c dx σ H'
  | .bad => False
theorem Post.mono {α β : Type} {R : Hp → β → α → Prop} {o : Out α} {Q : β → Hp → Prop} (s : Same J J') (h : Post K Y G J σ R o Q) : Post K Y G J' σ R o Q := by
  cases o with
  | ok x ρ => exact fun v J1 H1 s1 r e => h v J1 H1 (s.trans s1) r e
  | exc e ρ => exact fun c dx J1 H1 s1 r e => h c dx J1 H1 (s.trans s1) r e
  | bad => exact h
theorem Post.bind {α β α' β' : Type} {R : Hp → β → α → Prop} {R' : Hp → β' → α' → Prop} {o : Out α} {k : α → Env → Out α'} {Q : β' → Hp → Prop} (h : Post K Y G J σ R' (o.bind k) Q) {Q' : β → Hp → Prop}
    (hk : ∀ x ρ v J' H', Same J J' → R J' v x → ER K G J' H' σ ρ → Post K Y G J' σ R' (k x ρ) Q → Q' v H') : Post K Y G J σ R o Q' := by
  cases o with
  | ok x ρ => exact fun v J1 H1 s1 r e => hk x ρ v J1 H1 s1 r e (Post.mono s1 h)
  | exc e ρ => exact h
  | bad => exact h
theorem Post.now {α β : Type} {R : Hp → β → α → Prop} {x : α} {Q : β → Hp → Prop} {v : β} (h : Post K Y G J σ R (.ok x ρ) Q) (r : R J v x) (e : ER K G J H σ ρ) : Q v H := h v J H (.refl J) r e
theorem Post.grow {α β : Type} {R : Hp → β → α → Prop} {x : α} {Q : β → Hp → Prop} {v : β} (h : Post K Y G J σ R (.ok x ρ) Q) (e : ER K G J H σ ρ) (g : Grow J H J' H') (r : R J' v x) : Q v H' := h v J' H' g.j r (e.grow g)
end

/-! ### readings -/
abbrev EC := Env → Out VV
abbrev TC := Env → Out Bool
def tE (K : Fg) (Y : Yx) (f : EC) : TE := fun σ H Q => ∃ G J ρ, ER K G J H σ ρ ∧ Post K Y G J σ (RV K σ) (f ρ) Q
def tT (K : Fg) (Y : Yx) (f : TC) : TT := fun σ H Q => ∃ G J ρ, ER K G J H σ ρ ∧ Post K Y G J σ (fun _ v x => v = x) (f ρ) Q
def tA (K : Fg) (Y : Yx) (f : Env → Out (List VV)) : TA := fun σ H Q => ∃ G J ρ, ER K G J H σ ρ ∧ Post K Y G J σ (RVs K σ) (f ρ) Q
/-- a new list -/
def PostN (K : Fg) (Y : Yx) (G : Gd) (J : Hp) (σ : L2.St) (o : Out (List D)) (Q : VK) : Prop := match o with
  | .ok xs ρ => ∀ p vs J' H', Same J J' → H' p = none → RpAll K J' vs xs → ER K G J' H' σ ρ → Q (.ref p) (upd H' p (.lst vs))
  | .exc e ρ => ∀ c dx J' H', Same J J' → ExcAt Y K J' H' e c dx → ER K G J' H' σ ρ → Y.W c dx σ H'
  | .bad => False
def tN (K : Fg) (Y : Yx) (f : Env → Out (List D)) : TE := fun σ H Q => ∃ G J ρ, ER K G J H σ ρ ∧ PostN K Y G J σ (f ρ) Q
theorem PE.imp {X : Cx} {e : Expr} {t t' : TE} (h : PE X e t) (i : ∀ σ H Q, t' σ H Q → t σ H Q) : PE X e t' := ⟨fun pins s σ H Q I hw => h.run pins s σ H Q I (i _ _ _ hw)⟩
theorem PT.imp {X : Cx} {e : Expr} {t t' : TT} (h : PT X e t) (i : ∀ σ H Q, t' σ H Q → t σ H Q) : PT X e t' := ⟨fun pins s σ H Q I hw => h.run pins s σ H Q I (i _ _ _ hw)⟩
theorem PW.imp {X : Cx} {e : Expr} {t t' : TT} (h : PW X e t) (i : ∀ σ H Q, t' σ H Q → t σ H Q) : PW X e t' := ⟨fun wh pins s σ H Q I hw => h.run wh pins s σ H Q I (i _ _ _ hw)⟩
theorem PA.imp {X : Cx} {e : List Expr} {t t' : TA} (h : PA X e t) (i : ∀ σ H Q, t' σ H Q → t σ H Q) : PA X e t' := ⟨fun pos pins s σ H Q I hw => h.run pos pins s σ H Q I (i _ _ _ hw)⟩
abbrev DE (X : Cx) (Y : Yx) (e : Expr) (f : EC) : Prop := PE X e (tE X.K Y f)
abbrev DT (X : Cx) (Y : Yx) (e : Expr) (f : TC) : Prop := PT X e (tT X.K Y f)
abbrev DW (X : Cx) (Y : Yx) (e : Expr) (f : TC) : Prop := PW X e (tT X.K Y f)
abbrev DA (X : Cx) (Y : Yx) (es : List Expr) (f : Env → Out (List VV)) : Prop := PA X es (tA X.K Y f)
abbrev DN (X : Cx) (Y : Yx) (e : Expr) (f : Env → Out (List D)) : Prop := PE X e (tN X.K Y f)

/-! ### names, constants -/
@[simp] def eVar (i : Nat) (ρ : Env) : Out VV := match ρ[i]? with
  | some (.d d) => .ok (.val d) ρ
  | some (.own _ (.lst _)) => .ok (.slot i) ρ
  | _ => .bad
@[simp] def eC (d : D) (ρ : Env) : Out VV := .ok (.val d) ρ
section
variable {X : Cx} {Y : Yx} {a b c : Expr} {pos : Pos}
theorem de_var (i : Nat) {x : Str} (hN : X.N[i]? = some x := by rfl) (hv : Vis X.env.scope x := by first | exact Or.inl rfl | exact Or.inr (Or.inl rfl) | exact Or.inr (Or.inr rfl)) (hd : (x == ("__debug__" : Str)) = false := by decide)
    (hcd : (x == ("__classdict__" : Str)) = false := by decide) : DE X Y (.Name x pos) (eVar i) := by
  refine PE.imp (pe_var (i := i) hN hv hd hcd) fun σ H Q ⟨G, J, ρ, er, h⟩ => ?_
  unfold eVar at h
  split at h
  · rename_i d hi
    obtain ⟨fs, hs, _⟩ := er.ft
    obtain ⟨y, f, e1, _, so⟩ := hs.get hi
    cases so with
    | d hd => exact ⟨_, e1, h.now hd er⟩
  · rename_i fx xs hi
    obtain ⟨fs, hs, _⟩ := er.ft
    obtain ⟨y, f, e1, _, so⟩ := hs.get hi
    cases so with
    | own ho => exact ⟨_, e1, h.now (v := .ref _) (show RV X.K σ J (.ref _) (.slot i) from e1) er⟩
  · exact h.elim
theorem de_of_c {v : V} {d : D} (h : PE X a (tC v)) (r : ∀ J, Rp X.K J v d) : DE X Y a (eC d) := PE.imp h fun σ H Q ⟨G, J, ρ, er, h⟩ => Post.now h (r J) er
theorem de_int {i : Int} {j} : DE X Y (.Constant (.int i) j pos) (eC (.int i)) := de_of_c pe_int fun _ => .int i
theorem de_bl {i : Bool} {j} : DE X Y (.Constant (.bool i) j pos) (eC (.bool i)) := de_of_c pe_bl fun _ => .bl i
theorem de_str {i : Str} {j} : DE X Y (.Constant (.str i) j pos) (eC (.str i)) := de_of_c pe_str fun _ => .str i
theorem de_non {j} : DE X Y (.Constant .none j pos) (eC .none) := de_of_c pe_non fun _ => .non
/-- a module's constant -/
structure GlD (K : Fg) (mg : Str → Option Value) (x : Str) (d : D) : Prop where
  ex : ∃ v u, mg x = some u ∧ RelV v u ∧ ∀ J, Rp K J v d
theorem de_glob {x : Str} {d : D} (g : GlD X.K X.mg x d) (hg : Gl X x := by rfl) (hd : (x == ("__debug__" : Str)) = false := by decide) : DE X Y (.Name x pos) (eC d) := by
  obtain ⟨v, u, h1, h2, h3⟩ := g.ex
  exact de_of_c (pe_glob hg h1 h2 hd) h3

/-! ### operators -/
def rD (K : Fg) (g : D → D → Option D) : R2 := fun x y H Q => ∃ J dx dy d, Same J H ∧ Wk K J H x dx ∧ Wk K J H y dy ∧ g dx dy = some d ∧ ∀ v J' H', Grow J H J' H' → Rp K J' v d → Q v H'
abbrev OpD (X : Cx) (f : Value → Value → Sem Value) (g : D → D → Option D) : Prop := OpR X f (rD X.K g)
@[simp] def eBin (g : D → D → Option D) (fa fb : EC) (ρ : Env) : Out VV := (fa ρ).bind fun x ρ1 => (fb ρ1).bind fun y ρ2 => match deref ρ2 x, deref ρ2 y with
  | some dx, some dy => match g dx dy with
    | some d => .ok (.val d) ρ2
    | none => .bad
  | _, _ => .bad
theorem bin_end {K : Fg} {Y : Yx} {G : Gd} {J H : Hp} {σ : L2.St} {ρ : Env} {g : D → D → Option D} {x y : VV} {v w : V} {Q : VK} (er : ER K G J H σ ρ) (rx : RV K σ J v x) (ry : RV K σ J w y)
    (h : Post K Y G J σ (RV K σ) (match deref ρ x, deref ρ y with
      | some dx, some dy => match g dx dy with
        | some d => Out.ok (.val d) ρ
        | none => .bad
      | _, _ => .bad) Q) : rD K g v w H Q := by
  split at h
  · rename_i dx dy h1 h2
    split at h
    · rename_i d h3
      exact ⟨J, dx, dy, d, er.ex, deref_ok er rx h1, deref_ok er ry h2, h3, fun v J' H' gr r => h.grow er gr r⟩
    · exact h.elim
  · exact h.elim
theorem bin_imp {K : Fg} {Y : Yx} {g : D → D → Option D} {fa fb : EC} : ∀ σ H Q, tE K Y (eBin g fa fb) σ H Q → tOp (rD K g) (tE K Y fa) (tE K Y fb) σ H Q := fun σ H Q ⟨G, J, ρ, er, h⟩ =>
  ⟨G, J, ρ, er, Post.bind h fun x ρ1 v J1 H1 s1 r1 e1 h1 => ⟨G, J1, ρ1, e1, Post.bind h1 fun y ρ2 w J2 H2 s2 r2 e2 h2 => bin_end e2 (r1.mono s2) r2 h2⟩⟩
theorem de_op {op : Operator} {g : D → D → Option D} {fa fb : EC} (ho : OpD X (binaryOp op) g) (ha : DE X Y a fa) (hb : DE X Y b fb) : DE X Y (.BinOp a op b pos) (eBin g fa fb) := PE.imp (pe_op ho ha hb) bin_imp
theorem de_cmp {op : CmpOp} {g : D → D → Option D} {fa fb : EC} (ho : OpD X (compareOp op) g) (ha : DE X Y a fa) (hb : DE X Y b fb) (hm : behindInMarks op b = false := by first | exact nomark _ | rfl) : DE X Y (.Compare a [op] [b] pos) (eBin g fa fb) :=
  PE.imp (pe_cmpR ho ha hb hm) bin_imp
/-- a bool, as a test -/
@[simp] def eTest (f : EC) (ρ : Env) : Out Bool := (f ρ).bind fun x ρ1 => match x with
  | .val (.bool b) => .ok b ρ1
  | _ => .bad
theorem dt_cmp {op : CmpOp} {g : D → D → Option D} {fa fb : EC} (ho : OpD X (compareOp op) g) (ha : DE X Y a fa) (hb : DE X Y b fb) (hm : behindInMarks op b = false := by first | exact nomark _ | rfl) : DT X Y (.Compare a [op] [b] pos) (eTest (eBin g fa fb)) := by
  refine PT.imp (pt_cmpR ho ha hb hm) fun σ H Q ⟨G, J, ρ, er, h⟩ => ?_
  refine bin_imp (Y := Y) σ H _ ⟨G, J, ρ, er, Post.bind h fun x ρ1 v J1 H1 s1 r1 e1 h1 => ?_⟩
  split at h1
  · cases r1
    exact ⟨_, rfl, h1.now rfl e1⟩
  · exact h1.elim
/-- a value's truth -/
def truth : D → Option Bool
  | .none => some false
  | .bool b => some b
  | .int i => some (i != 0)
  | .str x => if x.length ≤ sizeLine then some ((x.length : Int) != 0) else none
  | .list xs => some (!xs.isEmpty)
  | .tuple xs => some (!xs.isEmpty)
  | .dict _ => none
@[simp] theorem truth_n : truth .none = some false := rfl
@[simp] theorem truth_b (b : Bool) : truth (.bool b) = some b := rfl
@[simp] theorem truth_i (i : Int) : truth (.int i) = some (i != 0) := rfl
@[simp] theorem truth_s (x : Str) : truth (.str x) = if x.length ≤ sizeLine then some ((x.length : Int) != 0) else none := rfl
@[simp] theorem truth_l (xs : List D) : truth (.list xs) = some (!xs.isEmpty) := rfl
@[simp] theorem truth_t (xs : List D) : truth (.tuple xs) = some (!xs.isEmpty) := rfl
@[simp] def eTruth (f : EC) (ρ : Env) : Out Bool := (f ρ).bind fun x ρ1 => match deref ρ1 x with
  | some d => match truth d with
    | some b => .ok b ρ1
    | none => .bad
  | none => .bad
theorem rps_empty {K : Fg} {J : Hp} {vs : List V} {xs : List D} (h : RpAll K J vs xs) : (!xs.isEmpty) = !vs.isEmpty := by
  cases h <;> rfl
theorem truth_ok {K : Fg} {J H : Hp} {v : V} {d : D} {b : Bool} (s : Same J H) (h : Wk K J H v d) (t : truth d = some b) : TruV K v H b := by
  cases d with
  | none =>
    cases h.non
    exact (Option.some.inj t).symm
  | bool i =>
    cases h.bl
    exact (Option.some.inj t).symm
  | int i =>
    cases h.int
    exact (Option.some.inj t).symm
  | str i =>
    cases h.str
    have t : (if i.length ≤ sizeLine then some ((i.length : Int) != 0) else none) = some b := t
    split at t
    · rename_i hl
      exact ⟨hl, (Option.some.inj t).symm⟩
    · cases t
  | list xs =>
    obtain ⟨a, vs, rfl, hr, hd⟩ := h.list s
    exact .inl ⟨vs, hr, ((Option.some.inj t).symm.trans (rps_empty hd))⟩
  | tuple xs =>
    obtain ⟨a, vs, rfl, hr, hd, _⟩ := h.tup s
    exact .inr (.inl ⟨vs, hr, ((Option.some.inj t).symm.trans (rps_empty hd))⟩)
  | dict _ => cases t
theorem dt_truth {f : EC} (ha : DE X Y a f) (he : ∀ whole, isTrue a X.env whole = (do let v ← whole; standAt a.pos; holding [v] (truthy v)) := by intro _; rfl) : DT X Y a (eTruth f) := by
  refine PT.imp (pt_truth ha he) fun σ H Q ⟨G, J, ρ, er, h⟩ => ⟨G, J, ρ, er, Post.bind h fun x ρ1 v J1 H1 s1 r1 e1 h1 => ?_⟩
  split at h1
  · rename_i d hd
    split at h1
    · rename_i b hb
      exact ⟨b, truth_ok e1.ex (deref_ok e1 r1 hd) hb, h1.now rfl e1⟩
    · exact h1.elim
  · exact h1.elim
@[simp] def eAnd (f g : TC) (ρ : Env) : Out Bool := (f ρ).bind fun x ρ1 => if x = true then g ρ1 else .ok false ρ1
@[simp] def eOr (f g : TC) (ρ : Env) : Out Bool := (f ρ).bind fun x ρ1 => if x = true then .ok true ρ1 else g ρ1
@[simp] def eNot (f : TC) (ρ : Env) : Out Bool := (f ρ).bind fun x ρ1 => .ok (!x) ρ1
variable {rest : List Expr} {f g : TC}
theorem dw_and1 (ha : DT X Y a f) : DW X Y (.BoolOp .And [a] pos) f := pw_and1 ha
theorem dw_or1 (ha : DT X Y a f) : DW X Y (.BoolOp .Or [a] pos) f := pw_or1 ha
theorem dw_and (ha : DT X Y a f) (hb : DW X Y (.BoolOp .And (b :: rest) pos) g) : DW X Y (.BoolOp .And (a :: b :: rest) pos) (eAnd f g) := by
  refine PW.imp (pw_and ha hb) fun σ H Q ⟨G, J, ρ, er, h⟩ => ⟨G, J, ρ, er, Post.bind h fun x ρ1 v J1 H1 s1 r1 e1 h1 => ?_⟩
  cases r1
  cases x with
  | true => exact ⟨G, J1, ρ1, e1, h1⟩
  | false => exact h1.now rfl e1
theorem dw_or (ha : DT X Y a f) (hb : DW X Y (.BoolOp .Or (b :: rest) pos) g) : DW X Y (.BoolOp .Or (a :: b :: rest) pos) (eOr f g) := by
  refine PW.imp (pw_or ha hb) fun σ H Q ⟨G, J, ρ, er, h⟩ => ⟨G, J, ρ, er, Post.bind h fun x ρ1 v J1 H1 s1 r1 e1 h1 => ?_⟩
  cases r1
  cases x with
  | true => exact h1.now rfl e1
  | false => exact ⟨G, J1, ρ1, e1, h1⟩
theorem dt_not (ha : DT X Y a f) : DT X Y (.UnaryOp .Not a pos) (eNot f) := by
  refine PT.imp (pt_not ha) fun σ H Q ⟨G, J, ρ, er, h⟩ => ⟨G, J, ρ, er, Post.bind h fun x ρ1 v J1 H1 s1 r1 e1 h1 => ?_⟩
  cases r1
  exact h1.now rfl e1
/-- and, or, not as values -/
@[simp] def eAndV (f g : EC) (ρ : Env) : Out VV := (f ρ).bind fun x ρ1 => match x with
  | .val (.bool true) => g ρ1
  | .val (.bool false) => .ok (.val (.bool false)) ρ1
  | _ => .bad
@[simp] def eOrV (f g : EC) (ρ : Env) : Out VV := (f ρ).bind fun x ρ1 => match x with
  | .val (.bool true) => .ok (.val (.bool true)) ρ1
  | .val (.bool false) => g ρ1
  | _ => .bad
@[simp] def eNotV (f : EC) (ρ : Env) : Out VV := (f ρ).bind fun x ρ1 => match x with
  | .val (.bool c) => .ok (.val (.bool (!c))) ρ1
  | _ => .bad
theorem de_one {op} {f : EC} (h : DE X Y a f) : DE X Y (.BoolOp op [a] pos) f := pe_one h
theorem de_and {f g : EC} (ha : DE X Y a f) (hb : DE X Y (.BoolOp .And (b :: rest) pos) g) : DE X Y (.BoolOp .And (a :: b :: rest) pos) (eAndV f g) := by
  refine PE.imp (pe_and ha hb) fun σ H Q ⟨G, J, ρ, er, h⟩ => ⟨G, J, ρ, er, Post.bind h fun x ρ1 v J1 H1 s1 r1 e1 h1 => ?_⟩
  split at h1
  · cases r1
    exact ⟨true, rfl, G, J1, ρ1, e1, h1⟩
  · cases r1
    exact ⟨false, rfl, h1.now (.bl false) e1⟩
  · exact h1.elim
theorem de_or {f g : EC} (ha : DE X Y a f) (hb : DE X Y (.BoolOp .Or (b :: rest) pos) g) : DE X Y (.BoolOp .Or (a :: b :: rest) pos) (eOrV f g) := by
  refine PE.imp (pe_or ha hb) fun σ H Q ⟨G, J, ρ, er, h⟩ => ⟨G, J, ρ, er, Post.bind h fun x ρ1 v J1 H1 s1 r1 e1 h1 => ?_⟩
  split at h1
  · cases r1
    exact ⟨true, rfl, h1.now (.bl true) e1⟩
  · cases r1
    exact ⟨false, rfl, G, J1, ρ1, e1, h1⟩
  · exact h1.elim
theorem de_not {f : EC} (ha : DE X Y a f) : DE X Y (.UnaryOp .Not a pos) (eNotV f) := by
  refine PE.imp (pe_not ha) fun σ H Q ⟨G, J, ρ, er, h⟩ => ⟨G, J, ρ, er, Post.bind h fun x ρ1 v J1 H1 s1 r1 e1 h1 => ?_⟩
  split at h1
  · cases r1
    exact ⟨_, rfl, h1.now (.bl _) e1⟩
  · exact h1.elim
@[simp] def eIf (t : TC) (f g : EC) (ρ : Env) : Out VV := (t ρ).bind fun x ρ1 => if x = true then f ρ1 else g ρ1
theorem de_if {t : TC} {f g : EC} (hc : DT X Y c t) (ha : DE X Y a f) (hb : DE X Y b g) : DE X Y (.IfExp c a b pos) (eIf t f g) := by
  refine PE.imp (pe_ifExp hc ha hb) fun σ H Q ⟨G, J, ρ, er, h⟩ => ⟨G, J, ρ, er, Post.bind h fun x ρ1 v J1 H1 s1 r1 e1 h1 => ?_⟩
  cases r1
  cases x with
  | true => exact ⟨G, J1, ρ1, e1, h1⟩
  | false => exact ⟨G, J1, ρ1, e1, h1⟩
/-- a op b op c -/
@[simp] def eChain (g g' : D → D → Option D) (fa fb fc : EC) (ρ : Env) : Out VV := (fa ρ).bind fun x ρ1 => (fb ρ1).bind fun y ρ2 => match deref ρ2 x, deref ρ2 y with
  | some dx, some dy => match g dx dy with
    | some (.bool true) => (fc ρ2).bind fun z ρ3 => match deref ρ3 y, deref ρ3 z with
      | some dy', some dz => match g' dy' dz with
        | some d => .ok (.val d) ρ3
        | none => .bad
      | _, _ => .bad
    | some (.bool false) => .ok (.val (.bool false)) ρ2
    | _ => .bad
  | _, _ => .bad
theorem chain_imp {K : Fg} {Y : Yx} {g g' : D → D → Option D} {fa fb fc : EC} : ∀ σ H Q, tE K Y (eChain g g' fa fb fc) σ H Q → tChain (rD K g) (rD K g') (tE K Y fa) (tE K Y fb) (tE K Y fc) σ H Q := fun σ H Q ⟨G, J, ρ, er, h⟩ =>
  ⟨G, J, ρ, er, Post.bind h fun x ρ1 v J1 H1 s1 r1 e1 h1 => ⟨G, J1, ρ1, e1, Post.bind h1 fun y ρ2 w J2 H2 s2 r2 e2 h2 => by
    split at h2
    · rename_i dx dy d1 d2
      split at h2
      · rename_i h3
        refine ⟨J2, dx, dy, _, e2.ex, deref_ok e2 (r1.mono s2) d1, deref_ok e2 r2 d2, h3, fun k J' H' gr r => ?_⟩
        cases r
        refine ⟨true, rfl, ?_⟩
        rw [if_pos rfl]
        exact ⟨G, J', ρ2, e2.grow gr, Post.bind (h2.mono gr.j) fun z ρ3 u J3 H3 s3 r3 e3 h4 => bin_end e3 ((r2.mono gr.j).mono s3) r3 h4⟩
      · rename_i h3
        refine ⟨J2, dx, dy, _, e2.ex, deref_ok e2 (r1.mono s2) d1, deref_ok e2 r2 d2, h3, fun k J' H' gr r => ?_⟩
        cases r
        refine ⟨false, rfl, ?_⟩
        rw [if_neg Bool.false_ne_true]
        exact h2.grow e2 gr (.bl false)
      · exact h2.elim
    · exact h2.elim⟩⟩
theorem de_chain {op op' : CmpOp} {g g' : D → D → Option D} {fa fb fc : EC} (ho : OpD X (compareOp op) g) (ho' : OpD X (compareOp op') g') (ha : DE X Y a fa) (hb : DE X Y b fb) (hc : DE X Y c fc) (hm : lastMarks [op, op'] [b, c] = false := by with_unfolding_all rfl) :
    DE X Y (.Compare a [op, op'] [b, c] pos) (eChain g g' fa fb fc) := PE.imp (pe_chain ho ho' ha hb hc hm) chain_imp
theorem dt_chain {op op' : CmpOp} {g g' : D → D → Option D} {fa fb fc : EC} (ho : OpD X (compareOp op) g) (ho' : OpD X (compareOp op') g') (ha : DE X Y a fa) (hb : DE X Y b fb) (hc : DE X Y c fc) (hm : lastMarks [op, op'] [b, c] = false := by with_unfolding_all rfl) :
    DT X Y (.Compare a [op, op'] [b, c] pos) (eTest (eChain g g' fa fb fc)) := by
  refine PT.imp (pt_chain ho ho' ha hb hc hm) fun σ H Q ⟨G, J, ρ, er, h⟩ => ?_
  refine chain_imp (Y := Y) σ H _ ⟨G, J, ρ, er, Post.bind h fun x ρ1 v J1 H1 s1 r1 e1 h1 => ?_⟩
  split at h1
  · cases r1
    exact ⟨_, rfl, h1.now rfl e1⟩
  · exact h1.elim

/-! ### argument lists, displays -/
@[simp] def aNil (ρ : Env) : Out (List VV) := .ok [] ρ
@[simp] def aCons (f : EC) (g : Env → Out (List VV)) (ρ : Env) : Out (List VV) := (f ρ).bind fun x ρ1 => (g ρ1).bind fun xs ρ2 => .ok (x :: xs) ρ2
variable {es : List Expr} {fa : Env → Out (List VV)}
theorem da_nil : DA X Y [] aNil := PA.imp pa_nil fun σ H Q ⟨G, J, ρ, er, h⟩ => Post.now h (v := []) trivial er
theorem da_cons {f : EC} (ha : DE X Y a f) (hr : DA X Y es fa) (hs : starEach (a :: es) X.env = (false, eval a X.env) :: starEach es X.env := by rfl) : DA X Y (a :: es) (aCons f fa) := by
  refine PA.imp (pa_cons ha hr hs) fun σ H Q ⟨G, J, ρ, er, h⟩ => ⟨G, J, ρ, er, Post.bind h fun x ρ1 v J1 H1 s1 r1 e1 h1 => ⟨G, J1, ρ1, e1, Post.bind h1 fun xs ρ2 vs J2 H2 s2 r2 e2 h2 => ?_⟩⟩
  exact h2.now (v := v :: vs) ⟨r1.mono s2, r2⟩ e2
/-- plain data all -/
@[simp] def vals : List VV → Option (List D)
  | [] => some []
  | .val d :: xs => match vals xs with
    | some ds => some (d :: ds)
    | none => none
  | .slot _ :: _ => none
theorem vals_ok {K : Fg} {σ : L2.St} {J : Hp} : ∀ {vs : List V} {xs : List VV} {ds : List D}, RVs K σ J vs xs → vals xs = some ds → RpAll K J vs ds
  | [], [], ds, _, h => by
    cases h
    exact .nil
  | v :: vs, .val d :: xs, ds, r, h => by
    unfold vals at h
    split at h
    · rename_i ds' hds
      cases h
      exact .cons r.1 (vals_ok r.2 hds)
    · cases h
  | v :: vs, .slot _ :: xs, ds, r, h => by cases h
  | [], _ :: _, _, r, _ => r.elim
  | _ :: _, [], _, r, _ => r.elim
@[simp] def eTup (fa : Env → Out (List VV)) (ρ : Env) : Out VV := (fa ρ).bind fun xs ρ1 => match vals xs with
  | some ds => if ds.length ≤ sizeLine then .ok (.val (.tuple ds)) ρ1 else .bad
  | none => .bad
theorem de_tup {k} (h : DA X Y es fa) : DE X Y (.Tuple es k pos) (eTup fa) := by
  refine PE.imp (pe_tup h) fun σ H Q ⟨G, J, ρ, er, h⟩ => ⟨G, J, ρ, er, Post.bind h fun xs ρ1 vs J1 H1 s1 r1 e1 h1 => ?_⟩
  split at h1
  · rename_i ds hds
    split at h1
    · rename_i hl
      have r := vals_ok r1 hds
      refine ⟨by rw [dps_len r]; exact hl, fun p hp => ?_⟩
      have gr := Grow.new (o := .tup vs) e1.ex hp
      exact h1.grow e1 gr (.tup (.of upd_same) (dps_mono gr.j _ _ r))
    · exact h1.elim
  · exact h1.elim
@[simp] def nLst (fa : Env → Out (List VV)) (ρ : Env) : Out (List D) := (fa ρ).bind fun xs ρ1 => match vals xs with
  | some ds => if ds.length ≤ sizeLine then .ok ds ρ1 else .bad
  | none => .bad
theorem PostN.of {α β : Type} {K : Fg} {Y : Yx} {G : Gd} {J : Hp} {σ : L2.St} {R : Hp → β → α → Prop} {o : Out α} {k : α → Env → Out (List D)} {Q : VK} (h : PostN K Y G J σ (o.bind k) Q) {Q' : β → Hp → Prop}
    (hk : ∀ x ρ v J' H', Same J J' → R J' v x → ER K G J' H' σ ρ → PostN K Y G J' σ (k x ρ) Q → Q' v H') : Post K Y G J σ R o Q' := by
  cases o with
  | ok x ρ =>
    refine fun v J1 H1 s1 r e => hk x ρ v J1 H1 s1 r e ?_
    have h : PostN K Y G J σ (k x ρ) Q := h
    show PostN K Y G J1 σ (k x ρ) Q
    cases hkx : k x ρ with
    | ok y ρ' =>
      rw [hkx] at h
      exact fun p vs J2 H2 s2 => h p vs J2 H2 (s1.trans s2)
    | exc e ρ' =>
      rw [hkx] at h
      exact fun c dx J2 H2 s2 => h c dx J2 H2 (s1.trans s2)
    | bad =>
      rw [hkx] at h
      exact h
  | exc e ρ => exact h
  | bad => exact h
theorem PostN.now {K : Fg} {Y : Yx} {G : Gd} {J H : Hp} {σ : L2.St} {ρ : Env} {xs : List D} {vs : List V} {Q : VK} {p : Addr} (h : PostN K Y G J σ (.ok xs ρ) Q) (e : ER K G J H σ ρ) (hp : H p = none) (r : RpAll K J vs xs) : Q (.ref p) (upd H p (.lst vs)) :=
  h p vs J H (.refl J) hp r e
theorem dn_lst (h : DA X Y es fa) : DN X Y (.List es pos) (nLst fa) := by
  refine PE.imp (pe_lst h) fun σ H Q ⟨G, J, ρ, er, h⟩ => ⟨G, J, ρ, er, PostN.of h fun xs ρ1 vs J1 H1 s1 r1 e1 h1 => ?_⟩
  split at h1
  · rename_i ds hds
    split at h1
    · rename_i hl
      have r := vals_ok r1 hds
      exact ⟨by rw [dps_len r]; exact hl, fun p hp => h1.now e1 hp r⟩
    · exact h1.elim
  · exact h1.elim
/-- a new list as plain data -/
@[simp] def eN (fn : Env → Out (List D)) (ρ : Env) : Out VV := (fn ρ).bind fun xs ρ1 => .ok (.val (.list xs)) ρ1
theorem de_n {fn : Env → Out (List D)} (h : DN X Y a fn) : DE X Y a (eN fn) := by
  refine PE.imp h fun σ H Q ⟨G, J, ρ, er, h⟩ => ⟨G, J, ρ, er, ?_⟩
  unfold eN at h
  cases hf : fn ρ with
  | ok xs ρ1 =>
    rw [hf] at h
    intro p vs J' H' s hp r e
    have gr := Grow.new (o := .lst vs) e.ex hp
    exact h _ _ _ (s.trans gr.j) (.lst (.of upd_same) (dps_mono gr.j _ _ r)) (e.grow gr)
  | exc e ρ1 =>
    rw [hf] at h
    exact h
  | bad =>
    rw [hf] at h
    exact h

/-! ### calls of built-ins -/
def rCD (K : Fg) (g : List D → Option D) : List V → Hp → VK → Prop := fun vs H Q => ∃ J ds d, Same J H ∧ Wks K J H vs ds ∧ g ds = some d ∧ ∀ v J' H', Grow J H J' H' → Rp K J' v d → Q v H'
abbrev CallD (X : Cx) (f : Value) (g : List D → Option D) : Prop := CallR X f (rCD X.K g)
@[simp] def eCallB (g : List D → Option D) (fa : Env → Out (List VV)) (ρ : Env) : Out VV := (fa ρ).bind fun xs ρ1 => match derefs ρ1 xs with
  | some ds => match g ds with
    | some d => .ok (.val d) ρ1
    | none => .bad
  | none => .bad
theorem callB_imp {K : Fg} {Y : Yx} {g : List D → Option D} {fa : Env → Out (List VV)} : ∀ σ H Q, tE K Y (eCallB g fa) σ H Q → tCB (rCD K g) (tA K Y fa) σ H Q := fun σ H Q ⟨G, J, ρ, er, h⟩ =>
  ⟨G, J, ρ, er, Post.bind h fun xs ρ1 vs J1 H1 s1 r1 e1 h1 => by
    split at h1
    · rename_i ds hds
      split at h1
      · rename_i d hd
        exact ⟨J1, ds, d, e1.ex, derefs_ok e1 r1 hds, hd, fun v J' H' gr r => h1.grow e1 gr r⟩
      · exact h1.elim
    · exact h1.elim⟩
theorem de_callB {x : Str} {e : Expr} {id : String} {p : Pos} {g : List D → Option D} (hc : CallD X (.builtin id) g) (hm : X.mg x = none) (hv : bootBuiltins x = some (.builtin id)) (ha : DA X Y (e :: es) fa) (hg : Gl X x := by rfl) (hn : x ≠ "__name__" := by decide)
    (hdb : (x == ("__debug__" : Str)) = false := by decide) (he : starEach (e :: es) X.env = (false, eval e X.env) :: starEach es X.env := by rfl) (hpl : (backTo pos (starEach es X.env)).any (·.1) = false := by rfl) : DE X Y (.Call (.Name x p) (e :: es) [] pos) (eCallB g fa) :=
  PE.imp (pe_callB hc hg hm hv ha hn hdb he hpl) callB_imp
theorem de_callTy {x : Str} {e : Expr} {T : String} {p : Pos} {g : List D → Option D} (hc : CallD X (.type T) g) (hm : X.mg x = none) (hv : bootBuiltins x = some (.type T)) (ha : DA X Y (e :: es) fa) (hg : Gl X x := by rfl) (hn : x ≠ "__name__" := by decide)
    (hdb : (x == ("__debug__" : Str)) = false := by decide) (he : starEach (e :: es) X.env = (false, eval e X.env) :: starEach es X.env := by rfl) (hpl : (backTo pos (starEach es X.env)).any (·.1) = false := by rfl) : DE X Y (.Call (.Name x p) (e :: es) [] pos) (eCallB g fa) :=
  PE.imp (pe_callTy hc hg hm hv ha hn hdb he hpl) callB_imp
/-- .. that lay a new list -/
def rCN (K : Fg) (g : List D → Option (List D)) : List V → Hp → VK → Prop := fun vs H Q => ∃ J ds xs, Same J H ∧ Wks K J H vs ds ∧ g ds = some xs ∧ ∀ p us, H p = none → RpAll K J us xs → Q (.ref p) (upd H p (.lst us))
abbrev CallN (X : Cx) (f : Value) (g : List D → Option (List D)) : Prop := CallR X f (rCN X.K g)
@[simp] def nCallB (g : List D → Option (List D)) (fa : Env → Out (List VV)) (ρ : Env) : Out (List D) := (fa ρ).bind fun xs ρ1 => match derefs ρ1 xs with
  | some ds => match g ds with
    | some d => .ok d ρ1
    | none => .bad
  | none => .bad
theorem callN_imp {K : Fg} {Y : Yx} {g : List D → Option (List D)} {fa : Env → Out (List VV)} : ∀ σ H Q, tN K Y (nCallB g fa) σ H Q → tCB (rCN K g) (tA K Y fa) σ H Q := fun σ H Q ⟨G, J, ρ, er, h⟩ =>
  ⟨G, J, ρ, er, PostN.of h fun xs ρ1 vs J1 H1 s1 r1 e1 h1 => by
    split at h1
    · rename_i ds hds
      split at h1
      · rename_i d hd
        exact ⟨J1, ds, d, e1.ex, derefs_ok e1 r1 hds, hd, fun p us hp r => h1.now e1 hp r⟩
      · exact h1.elim
    · exact h1.elim⟩
theorem dn_callB {x : Str} {e : Expr} {id : String} {p : Pos} {g : List D → Option (List D)} (hc : CallN X (.builtin id) g) (hm : X.mg x = none) (hv : bootBuiltins x = some (.builtin id)) (ha : DA X Y (e :: es) fa) (hg : Gl X x := by rfl) (hn : x ≠ "__name__" := by decide)
    (hdb : (x == ("__debug__" : Str)) = false := by decide) (he : starEach (e :: es) X.env = (false, eval e X.env) :: starEach es X.env := by rfl) (hpl : (backTo pos (starEach es X.env)).any (·.1) = false := by rfl) : DN X Y (.Call (.Name x p) (e :: es) [] pos) (nCallB g fa) :=
  PE.imp (pe_callB hc hg hm hv ha hn hdb he hpl) callN_imp
theorem dn_callTy {x : Str} {e : Expr} {T : String} {p : Pos} {g : List D → Option (List D)} (hc : CallN X (.type T) g) (hm : X.mg x = none) (hv : bootBuiltins x = some (.type T)) (ha : DA X Y (e :: es) fa) (hg : Gl X x := by rfl) (hn : x ≠ "__name__" := by decide)
    (hdb : (x == ("__debug__" : Str)) = false := by decide) (he : starEach (e :: es) X.env = (false, eval e X.env) :: starEach es X.env := by rfl) (hpl : (backTo pos (starEach es X.env)).any (·.1) = false := by rfl) : DN X Y (.Call (.Name x p) (e :: es) [] pos) (nCallB g fa) :=
  PE.imp (pe_callTy hc hg hm hv ha hn hdb he hpl) callN_imp
/-- a two-place operation that lays a new list -/
def rN (K : Fg) (g : D → D → Option (List D)) : R2 := fun x y H Q => ∃ J dx dy xs, Same J H ∧ Wk K J H x dx ∧ Wk K J H y dy ∧ g dx dy = some xs ∧ ∀ p us, H p = none → RpAll K J us xs → Q (.ref p) (upd H p (.lst us))
abbrev OpN (X : Cx) (f : Value → Value → Sem Value) (g : D → D → Option (List D)) : Prop := OpR X f (rN X.K g)
@[simp] def nBin (g : D → D → Option (List D)) (fa fb : EC) (ρ : Env) : Out (List D) := (fa ρ).bind fun x ρ1 => (fb ρ1).bind fun y ρ2 => match deref ρ2 x, deref ρ2 y with
  | some dx, some dy => match g dx dy with
    | some d => .ok d ρ2
    | none => .bad
  | _, _ => .bad
theorem dn_op {op : Operator} {g : D → D → Option (List D)} {fa fb : EC} (ho : OpN X (binaryOp op) g) (ha : DE X Y a fa) (hb : DE X Y b fb) : DN X Y (.BinOp a op b pos) (nBin g fa fb) := by
  refine PE.imp (pe_op ho ha hb) fun σ H Q ⟨G, J, ρ, er, h⟩ => ⟨G, J, ρ, er, PostN.of h fun x ρ1 v J1 H1 s1 r1 e1 h1 => ⟨G, J1, ρ1, e1, PostN.of h1 fun y ρ2 w J2 H2 s2 r2 e2 h2 => ?_⟩⟩
  split at h2
  · rename_i dx dy d1 d2
    split at h2
    · rename_i d h3
      exact ⟨J2, dx, dy, d, e2.ex, deref_ok e2 (r1.mono s2) d1, deref_ok e2 r2 d2, h3, fun p us hp r => h2.now e2 hp r⟩
    · exact h2.elim
  · exact h2.elim

/-! ### methods of built-in types -/
def rMD (K : Fg) (g : D → List D → Option D) : V → List V → Hp → VK → Prop := fun x xs H Q => ∃ J dx ds d, Same J H ∧ Wk K J H x dx ∧ Wks K J H xs ds ∧ g dx ds = some d ∧ ∀ v J' H', Grow J H J' H' → Rp K J' v d → Q v H'
abbrev MtD (X : Cx) (id : String) (g : D → List D → Option D) : Prop := MtR X id (rMD X.K g)
def dTy (T : String) : D → Bool
  | .str _ => T == "str"
  | .int _ => T == "int"
  | .list _ => T == "list"
  | _ => false
@[simp] def eMeth (T : String) (g : D → List D → Option D) (fo : EC) (fa : Env → Out (List VV)) (ρ : Env) : Out VV := (fo ρ).bind fun o ρ1 => match deref ρ1 o with
  | some d0 => if dTy T d0 = true then (fa ρ1).bind fun xs ρ2 => match deref ρ2 o, derefs ρ2 xs with
      | some dx, some ds => match g dx ds with
        | some d => .ok (.val d) ρ2
        | none => .bad
      | _, _ => .bad
    else .bad
  | none => .bad
theorem dTy_ok {K : Fg} {J H : Hp} {T : String} {v : V} {d : D} (s : Same J H) (h : Wk K J H v d) (t : dTy T d = true) : tyV K T v H := by
  cases d with
  | str x =>
    cases h.str
    exact eq_of_beq t
  | int x =>
    cases h.int
    exact eq_of_beq t
  | list xs =>
    obtain ⟨a, vs, rfl, hr, _⟩ := h.list s
    exact .inl ⟨eq_of_beq t, vs, hr⟩
  | _ => cases t
theorem de_meth {o e : Expr} {T id : String} {name : Str} {apos : Pos} {g : D → List D → Option D} {fo : EC} (pa : PlainAttrs T) (slot : Slot T name id) (hty : typeOf (.builtin id) = pure (.type "method_descriptor")) (hm : MtD X id g) (ho : DE X Y o fo) (ha : DA X Y (e :: es) fa)
    (hbase : attributeBase o name X.env (eval o X.env) = eval o X.env := by rfl)
    (hfew : ((backTo pos (starEach (e :: es) X.env)).all (fun x => !x.1) && (backToKw pos (keywordEach [] X.env)).all (fun x => x.1.isSome)
      && decide ((e :: es).length + ([] : List Keyword).length + (if ([] : List Keyword).isEmpty then 0 else 1) < 30)) = true := by rfl)
    (hline : (apos.endLine == pos.line) = true := by rfl) (hs : starEach (e :: es) X.env = (false, eval e X.env) :: starEach es X.env := by rfl) (hplain : (backTo pos (starEach es X.env)).any (·.1) = false := by rfl) :
    DE X Y (.Call (.Attribute o name apos) (e :: es) [] pos) (eMeth T g fo fa) := by
  refine PE.imp (pe_bm pa slot hty hm ho ha hbase hfew hline hs hplain) fun σ H Q ⟨G, J, ρ, er, h⟩ => ⟨G, J, ρ, er, Post.bind h fun x ρ1 v J1 H1 s1 r1 e1 h1 => ?_⟩
  split at h1
  · rename_i d0 h0
    split at h1
    · rename_i ht
      refine ⟨dTy_ok e1.ex (deref_ok e1 r1 h0) ht, G, J1, ρ1, e1, Post.bind h1 fun xs ρ2 vs J2 H2 s2 r2 e2 h2 => ?_⟩
      split at h2
      · rename_i dx ds d1 d2
        split at h2
        · rename_i d h3
          exact ⟨J2, dx, ds, d, e2.ex, deref_ok e2 (r1.mono s2) d1, derefs_ok e2 r2 d2, h3, fun v J' H' gr r => h2.grow e2 gr r⟩
        · exact h2.elim
      · exact h2.elim
    · exact h1.elim
  · exact h1.elim
theorem de_meth0 {o : Expr} {T id : String} {name : Str} {apos : Pos} {g : D → List D → Option D} {fo : EC} (pa : PlainAttrs T) (slot : Slot T name id) (hty : typeOf (.builtin id) = pure (.type "method_descriptor")) (hm : MtD X id g) (ho : DE X Y o fo)
    (hbase : attributeBase o name X.env (eval o X.env) = eval o X.env := by rfl) (hline : (apos.endLine == pos.line) = true := by rfl) :
    DE X Y (.Call (.Attribute o name apos) [] [] pos) (eMeth T g fo aNil) := by
  refine PE.imp (pe_bm0 pa slot hty hm ho hbase hline) fun σ H Q ⟨G, J, ρ, er, h⟩ => ⟨G, J, ρ, er, Post.bind h fun x ρ1 v J1 H1 s1 r1 e1 h1 => ?_⟩
  split at h1
  · rename_i d0 h0
    split at h1
    · rename_i ht
      refine ⟨dTy_ok e1.ex (deref_ok e1 r1 h0) ht, ?_⟩
      have h2 : Post X.K Y G J1 σ (RV X.K σ) (match deref ρ1 x, derefs ρ1 [] with
        | some dx, some ds => match g dx ds with
          | some d => Out.ok (.val d) ρ1
          | none => .bad
        | _, _ => .bad) Q := h1
      split at h2
      · rename_i dx ds d1 d2
        split at h2
        · rename_i d h3
          exact ⟨J1, dx, ds, d, e1.ex, deref_ok e1 r1 d1, derefs_ok e1 (vs := []) (xs := []) trivial d2, h3, fun v J' H' gr r => h2.grow e1 gr r⟩
        · exact h2.elim
      · exact h2.elim
    · exact h1.elim
  · exact h1.elim

/-! ### subscripts, slices -/
abbrev IxD (X : Cx) (g : D → D → Option D) : Prop := IxR X (rD X.K g)
theorem de_ix {g : D → D → Option D} {fa fb : EC} (hr : IxD X g) (ha : DE X Y a fa) (hb : DE X Y b fb) (hs : PlainIx b := by exact fun _ _ => rfl) : DE X Y (.Subscript a b pos) (eBin g fa fb) := PE.imp (pe_ix hr ha hb hs) bin_imp
def tOp1 (K : Fg) (Y : Yx) (f : Env → Out (Option Int)) : TO := fun σ H Q => ∃ G J ρ, ER K G J H σ ρ ∧ Post K Y G J σ (fun _ v x => v = x) (f ρ) Q
abbrev DO (X : Cx) (Y : Yx) (e : Option Expr) (f : Env → Out (Option Int)) : Prop := PO X e (tOp1 X.K Y f)
@[simp] def oNone (ρ : Env) : Out (Option Int) := .ok none ρ
@[simp] def oSome (f : EC) (ρ : Env) : Out (Option Int) := (f ρ).bind fun x ρ1 => match x with
  | .val (.int i) => .ok (some i) ρ1
  | _ => .bad
theorem PO.imp {X : Cx} {e : Option Expr} {t t' : TO} (h : PO X e t) (i : ∀ σ H Q, t' σ H Q → t σ H Q) : PO X e t' := ⟨fun pins s σ H Q I hw => h.run pins s σ H Q I (i _ _ _ hw)⟩
theorem do_none : DO X Y none oNone := PO.imp po_none fun σ H Q ⟨G, J, ρ, er, h⟩ => Post.now h rfl er
theorem do_some {f : EC} (h : DE X Y a f) : DO X Y (some a) (oSome f) := by
  refine PO.imp (po_some h) fun σ H Q ⟨G, J, ρ, er, h⟩ => ⟨G, J, ρ, er, Post.bind h fun x ρ1 v J1 H1 s1 r1 e1 h1 => ?_⟩
  split at h1
  · cases r1
    exact ⟨_, rfl, h1.now rfl e1⟩
  · exact h1.elim
def rSD (K : Fg) (g : D → Option Int → Option Int → Option D) : V → Option Int → Option Int → Hp → VK → Prop := fun x lo hi H Q => ∃ J dx d, Same J H ∧ Wk K J H x dx ∧ g dx lo hi = some d ∧ ∀ v J' H', Grow J H J' H' → Rp K J' v d → Q v H'
abbrev SlD (X : Cx) (g : D → Option Int → Option Int → Option D) : Prop := SlR X (rSD X.K g)
@[simp] def eSl (g : D → Option Int → Option Int → Option D) (fa : EC) (fl fh : Env → Out (Option Int)) (ρ : Env) : Out VV := (fa ρ).bind fun x ρ1 => (fl ρ1).bind fun lo ρ2 => (fh ρ2).bind fun hi ρ3 => match deref ρ3 x with
  | some dx => match g dx lo hi with
    | some d => .ok (.val d) ρ3
    | none => .bad
  | none => .bad
theorem de_sl {g : D → Option Int → Option Int → Option D} {fo : EC} {lo hi : Option Expr} {fl fh : Env → Out (Option Int)} {p2 : Pos} (hr : SlD X g) (ha : DE X Y a fo) (hl : DO X Y lo fl) (hu : DO X Y hi fh) : DE X Y (.Subscript a (.Slice lo hi none p2) pos) (eSl g fo fl fh) := by
  refine PE.imp (pe_slice hr ha hl hu) fun σ H Q ⟨G, J, ρ, er, h⟩ => ⟨G, J, ρ, er, Post.bind h fun x ρ1 v J1 H1 s1 r1 e1 h1 => ⟨G, J1, ρ1, e1, Post.bind h1 fun l ρ2 w J2 H2 s2 r2 e2 h2 => ⟨G, J2, ρ2, e2, Post.bind h2 fun u ρ3 w3 J3 H3 s3 r3 e3 h3 => ?_⟩⟩⟩
  cases r2
  cases r3
  split at h3
  · rename_i dx d1
    split at h3
    · rename_i d h4
      exact ⟨J3, dx, d, e3.ex, deref_ok e3 ((r1.mono s2).mono s3) d1, h4, fun v J' H' gr r => h3.grow e3 gr r⟩
    · exact h3.elim
  · exact h3.elim
end
end DL

namespace DL
open PySem PySem.Spec L2

/-! ### operations on data -/
def mulOk (i j : Int) : Bool := fitZ (2 ^ 64) i || fitZ (2 ^ 64) j
def strRep (x : Str) (n : Int) : Str := if n < 1 then Str.empty else x
def dAdd : D → D → Option D
  | .int i, .int j => some (.int (i + j))
  | .str a, .str b => if a.length + b.length ≤ sizeLine then some (.str (a ++ b)) else none
  | .list xs, .list ys => if xs.length + ys.length ≤ sizeLine then some (.list (xs ++ ys)) else none
  | .tuple xs, .tuple ys => if xs.length + ys.length ≤ sizeLine then some (.tuple (xs ++ ys)) else none
  | _, _ => none
def nAdd : D → D → Option (List D)
  | .list xs, .list ys => if xs.length + ys.length ≤ sizeLine then some (xs ++ ys) else none
  | _, _ => none
def dSub : D → D → Option D
  | .int i, .int j => some (.int (i - j))
  | _, _ => none
def repS (a : Str) (n : Nat) : Str := ⟨(List.replicate n a.cps).foldl (· ++ ·) #[]⟩
def dMul : D → D → Option D
  | .int i, .int j => if mulOk i j = true then some (.int (i * j)) else none
  | .str a, .int n => if n < 1 then (if fitZ (2 ^ 63) n = true then some (.str Str.empty) else none) else if n = 1 then some (.str a) else if Nat.ble n.natAbs 1000 = true ∧ Nat.ble (a.length * n.toNat) 100000 = true then some (.str (repS a n.toNat)) else none
  | _, _ => none
def nMul : D → D → Option (List D)
  | .list xs, .int k => if fitZ (2 ^ 63) k = true ∧ xs.length * k.toNat ≤ sizeLine then some (List.replicate k.toNat xs).flatten else none
  | _, _ => none
def dFdiv : D → D → Option D
  | .int i, .int j => if 0 < j ∧ fitZ 1073741824 j = true then some (.int (i / j)) else none
  | _, _ => none
def dMod : D → D → Option D
  | .int i, .int j => if 0 < j then some (.int (i % j)) else none
  | _, _ => none
def dEq (d e : D) : Option D := if SeqAt.shaped d = true ∧ SeqAt.shaped e = true then some (.bool (PyData.eqv d e)) else none
def dNe (d e : D) : Option D := if SeqAt.shaped d = true ∧ SeqAt.shaped e = true then some (.bool (!PyData.eqv d e)) else none
def dLt : D → D → Option D
  | .int i, .int j => some (.bool (decide (i < j)))
  | .str a, .str b => some (.bool (decide (a.cps.toList < b.cps.toList)))
  | _, _ => none
def dLe : D → D → Option D
  | .int i, .int j => some (.bool (decide (i ≤ j)))
  | .str a, .str b => some (.bool (!decide (b.cps.toList < a.cps.toList)))
  | _, _ => none
def dGt : D → D → Option D
  | .int i, .int j => some (.bool (decide (j < i)))
  | .str a, .str b => some (.bool (decide (b.cps.toList < a.cps.toList)))
  | _, _ => none
def dGe : D → D → Option D
  | .int i, .int j => some (.bool (decide (j ≤ i)))
  | .str a, .str b => some (.bool (!decide (a.cps.toList < b.cps.toList)))
  | _, _ => none
def strIn (a b : Str) : Bool := !(Builtin.Str.occurrences b a 0 b.length 1).isEmpty
def dIn : D → D → Option D
  | .str a, .str b => some (.bool (strIn a b))
  | x, .list ys => if SeqAt.shaped x = true ∧ SeqAt.shaped (.list ys) = true then some (.bool (ys.any fun z => PyData.eqv z x)) else none
  | x, .tuple ys => if SeqAt.shaped x = true ∧ SeqAt.shaped (.tuple ys) = true then some (.bool (ys.any fun z => PyData.eqv z x)) else none
  | _, _ => none
def dNotIn : D → D → Option D
  | .str a, .str b => some (.bool (!strIn a b))
  | x, .list ys => if SeqAt.shaped x = true ∧ SeqAt.shaped (.list ys) = true then some (.bool (!ys.any fun z => PyData.eqv z x)) else none
  | x, .tuple ys => if SeqAt.shaped x = true ∧ SeqAt.shaped (.tuple ys) = true then some (.bool (!ys.any fun z => PyData.eqv z x)) else none
  | _, _ => none
def isNone : D → Bool
  | .none => true
  | _ => false
def dIs : D → D → Option D
  | .bool a, .bool b => some (.bool (decide (a = b)))
  | x, .none => some (.bool (isNone x))
  | _, _ => none
def dIsNot : D → D → Option D
  | .bool a, .bool b => some (.bool (!decide (a = b)))
  | x, .none => some (.bool (!isNone x))
  | _, _ => none

@[simp] theorem dAdd_i (i j : Int) : dAdd (.int i) (.int j) = some (.int (i + j)) := rfl
@[simp] theorem dAdd_s (a b : Str) : dAdd (.str a) (.str b) = if a.length + b.length ≤ sizeLine then some (.str (a ++ b)) else none := rfl
@[simp] theorem dAdd_l (a b : List D) : dAdd (.list a) (.list b) = if a.length + b.length ≤ sizeLine then some (.list (a ++ b)) else none := rfl
@[simp] theorem dAdd_t (a b : List D) : dAdd (.tuple a) (.tuple b) = if a.length + b.length ≤ sizeLine then some (.tuple (a ++ b)) else none := rfl
@[simp] theorem nAdd_l (a b : List D) : nAdd (.list a) (.list b) = if a.length + b.length ≤ sizeLine then some (a ++ b) else none := rfl
@[simp] theorem dSub_i (i j : Int) : dSub (.int i) (.int j) = some (.int (i - j)) := rfl
@[simp] theorem nMul_l (xs : List D) (k : Int) : nMul (.list xs) (.int k) = if fitZ (2 ^ 63) k = true ∧ xs.length * k.toNat ≤ sizeLine then some (List.replicate k.toNat xs).flatten else none := rfl
@[simp] theorem dFdiv_i (i j : Int) : dFdiv (.int i) (.int j) = if 0 < j ∧ fitZ 1073741824 j = true then some (.int (i / j)) else none := rfl
@[simp] theorem dMod_i (i j : Int) : dMod (.int i) (.int j) = if 0 < j then some (.int (i % j)) else none := rfl
@[simp] theorem dLt_i (i j : Int) : dLt (.int i) (.int j) = some (.bool (decide (i < j))) := rfl
@[simp] theorem dLt_s (a b : Str) : dLt (.str a) (.str b) = some (.bool (decide (a.cps.toList < b.cps.toList))) := rfl
@[simp] theorem dLe_i (i j : Int) : dLe (.int i) (.int j) = some (.bool (decide (i ≤ j))) := rfl
@[simp] theorem dLe_s (a b : Str) : dLe (.str a) (.str b) = some (.bool (!decide (b.cps.toList < a.cps.toList))) := rfl
@[simp] theorem dGt_i (i j : Int) : dGt (.int i) (.int j) = some (.bool (decide (j < i))) := rfl
@[simp] theorem dGt_s (a b : Str) : dGt (.str a) (.str b) = some (.bool (decide (b.cps.toList < a.cps.toList))) := rfl
@[simp] theorem dGe_i (i j : Int) : dGe (.int i) (.int j) = some (.bool (decide (j ≤ i))) := rfl
@[simp] theorem dGe_s (a b : Str) : dGe (.str a) (.str b) = some (.bool (!decide (a.cps.toList < b.cps.toList))) := rfl
@[simp] theorem isNone_n : isNone .none = true := rfl
@[simp] theorem isNone_b (b : Bool) : isNone (.bool b) = false := rfl
@[simp] theorem isNone_i (b : Int) : isNone (.int b) = false := rfl
@[simp] theorem isNone_s (b : Str) : isNone (.str b) = false := rfl
@[simp] theorem isNone_l (b : List D) : isNone (.list b) = false := rfl
@[simp] theorem isNone_t (b : List D) : isNone (.tuple b) = false := rfl
@[simp] theorem isNone_d (b : List (D × D)) : isNone (.dict b) = false := rfl
@[simp] theorem dIs_b (a b : Bool) : dIs (.bool a) (.bool b) = some (.bool (decide (a = b))) := rfl
@[simp] theorem dIs_n (x : D) : dIs x .none = some (.bool (isNone x)) := by cases x <;> rfl
@[simp] theorem dIsNot_b (a b : Bool) : dIsNot (.bool a) (.bool b) = some (.bool (!decide (a = b))) := rfl
@[simp] theorem dIsNot_n (x : D) : dIsNot x .none = some (.bool (!isNone x)) := by cases x <;> rfl

section
variable {K : Fg} {J H : Hp}
theorem wk_isN {v : V} {d : D} (h : Wk K J H v d) : decide (v = .non) = isNone d := by
  cases d with
  | none => cases h.non; rfl
  | bool i => cases h.bl; rfl
  | int i => cases h.int; rfl
  | str i => cases h.str; rfl
  | list xs =>
    rcases h with h | ⟨a, vs, xs', rfl, e, ha, r⟩
    · cases h; rfl
    · rfl
  | tuple xs =>
    rcases h with h | ⟨a, vs, xs', rfl, e, ha, r⟩
    · cases h; rfl
    · rfl
  | dict _ =>
    rcases h with h | ⟨a, vs, xs', rfl, e, ha, r⟩
    · cases h; rfl
    · cases e
end

section
variable {X : Cx}
theorem opd_of {f : Value → Value → Sem Value} {r : R2} {g : D → D → Option D} (h : OpR X f r) (i : ∀ x y H Q, rD X.K g x y H Q → r x y H Q) : OpD X f g := fun pins s σ H x y v u Q I rx ry q => h pins s σ H x y v u Q I rx ry (i _ _ _ _ q)
/-- a list that is read, its object -/
def rCatL (K : Fg) : R2 := fun x y H Q => ∃ l b xs zs, x = .ref l ∧ y = .ref b ∧ SqL K H l xs ∧ SqL K H b zs ∧ xs.length + zs.length ≤ sizeLine ∧ ∀ p, H p = none → Q (.ref p) (upd H p (.lst (xs ++ zs)))
theorem op_catL : OpR X (binaryOp .Add) (rCatL X.K) := by
  intro pins s σ H x y v u Q I rx ry h
  obtain ⟨l, b, xs, zs, rfl, rfl, hH, hB, hz, q⟩ := h
  cases rx
  cases ry
  obtain ⟨its, r, ⟨⟨cls, dd, data, sl⟩, n, ho, hc, hd0, hd⟩, hl⟩ := I.list hH
  obtain ⟨its2, r2, ⟨⟨cls2, dd2, data2, sl2⟩, n2, ho2, hc2, hd02, hd2⟩, hl2⟩ := I.list hB
  simp only at hc hd hc2 hd2
  subst hc hd hc2 hd2
  have e : its.toArray ++ its2.toArray = (its ++ its2).toArray := by simp
  have n1 := r.length
  have n2' := r2.length
  refine concat_meets ⟨_, ho, rfl⟩ ⟨_, ho2, rfl⟩ noFill_list_add seq_list_add PySem.F.slot_list_add PySem.F.entry_list_add (PySem.F.args_list_add_2 _ _) (PyProof.Rows.list_addW l b its.toArray its2.toArray n n2 dd dd2 sl sl2 (by simp; omega)) ⟨ho, ho2, ?_⟩
  rw [e]
  exact ⟨.ref _, _, I.lnew (t' := s.toks) (r.append r2) (by rw [List.length_append]; omega), rfl, q _ I.fresh⟩
theorem rd_lst {pins : List (Addr × Obj)} {σ : L2.St} {H : Hp} {s : Shared} {l : Addr} {xs : List V} (I : Inv X pins σ H s) (h : Rd H l (.lst xs)) :
    xs.length ≤ sizeLine ∧ ∃ (its : List Value) (n : Nat), Vals xs its ∧ xs.length = its.length ∧ s.heap.get? l = some { cls := .type "list", data := .seq its.toArray n } := by
  obtain ⟨z, its, n, r, e⟩ := h.ok I.hok
  exact ⟨z, its, n, r, r.length, e⟩
def rRepR : R2 := fun x y H Q => ∃ l k xs, x = .ref l ∧ y = .int k ∧ Rd H l (.lst xs) ∧ -(2 ^ 63) ≤ k ∧ k < 2 ^ 63 ∧ xs.length * k.toNat ≤ sizeLine ∧
  ∀ p, H p = none → Q (.ref p) (upd H p (.lst (List.replicate k.toNat xs).flatten))
theorem op_repR : OpR X (binaryOp .Mult) rRepR := by
  intro pins s σ H x y v u Q I rx ry h
  obtain ⟨l, k, xs, rfl, rfl, hH, h1, h2, hz, q⟩ := h
  cases rx
  obtain ⟨t, rfl⟩ := ry
  obtain ⟨z, its, n, r, hl, e⟩ := rd_lst I hH
  have hlen : its.toArray.size * k.toNat ≤ sizeLine := by rw [List.size_toArray, ← hl]; exact hz
  have hcap : ¬ its.toArray.size * k.toNat > (2 ^ 63 - 1) / 8 := by
    have : (sizeLine : Nat) ≤ (2 ^ 63 - 1) / 8 := by decide
    omega
  have hfit : ¬ (!Builtin.List.listFitsIndex k) = true := by
    rw [fitsIndex_both h1 h2]
    exact Bool.false_ne_true
  have hlong : ¬ Builtin.List.listTooLong (its.toArray.size * k.toNat) = true := by
    rw [notLongL hlen]
    exact Bool.false_ne_true
  have hnew : List.foldl (fun x1 x2 => x1 ++ x2) #[] (List.replicate (if its.toArray.isEmpty = true then 0 else k.toNat) its.toArray) = (List.replicate k.toNat its).flatten.toArray := by
    have f0 : ∀ m : Nat, List.foldl (fun x1 x2 => x1 ++ x2) #[] (List.replicate m its.toArray) = (List.replicate m its).flatten.toArray := fun m => by
      have := foldl_rep its m []
      rw [List.nil_append] at this
      exact this
    rw [f0]
    cases its with
    | nil => simp
    | cons a r' => rw [if_neg (by simp)]
  refine wpAny_binaryOp_repeat_ref (T := "list") (U := "int") (by decide) ⟨_, e, rfl⟩ (fun s' => typeIs_int s' k t) noFill_list_mul F.fills_int_mul F.slot_int_rmul repeat_list F.slot_int_index.lookup
    (call_meets F.slot_int_rmul (typeIs_int s k t) F.entry_int_rmul (F.args_int_rmul_2 _ _) (int___rmul___int_list k t l its.toArray n)
      ⟨e, rfl, ⟨_, e, rfl⟩, call_meets F.slot_list_mul ⟨_, e, rfl⟩ F.entry_list_mul (F.args_list_mul_2 _ _) (AutoListH.list___mul___list_int_3 l its.toArray n k t hfit hcap hlong) ⟨e, ?_⟩⟩)
  rw [hnew]
  exact ⟨.ref _, _, I.lnew (t' := s.toks) (r.rep k.toNat) (by rw [PyProof.Rows.lm_len_rep_flat, Nat.mul_comm]; exact hz), rfl, q _ I.fresh⟩
theorem od_add : OpD X (binaryOp .Add) dAdd := by
  refine opd_of (op_add.or (op_add_str.or (op_catL.or op_catA))) fun x y H Q ⟨J, dx, dy, d, s, wx, wy, e, q⟩ => ?_
  unfold dAdd at e
  split at e
  · cases e
    cases wx.int
    cases wy.int
    exact .inl ⟨_, _, rfl, rfl, q _ J H (.refl s) (.int _)⟩
  · split at e
    · rename_i hl
      cases e
      cases wx.str
      cases wy.str
      exact .inr (.inl ⟨_, _, rfl, rfl, hl, q _ J H (.refl s) (.str _)⟩)
    · cases e
  · split at e
    · rename_i hl
      cases e
      obtain ⟨a, vs, rfl, h1, r1⟩ := wx.list s
      obtain ⟨b, ws, rfl, h2, r2⟩ := wy.list s
      refine .inr (.inr (.inl ⟨a, b, vs, ws, rfl, rfl, h1, h2, by rw [dps_len r1, dps_len r2]; exact hl, fun p hp => ?_⟩))
      have gr := Grow.new (o := .lst (vs ++ ws)) s hp
      exact q _ _ _ gr (.lst (.of upd_same) (dps_mono gr.j _ _ (dps_append r1 r2)))
    · cases e
  · split at e
    · rename_i hl
      cases e
      obtain ⟨a, vs, rfl, h1, r1, p1⟩ := wx.tup s
      obtain ⟨b, ws, rfl, h2, r2, p2⟩ := wy.tup s
      refine .inr (.inr (.inr ⟨a, b, vs, ws, rfl, rfl, h1, h2, by rw [dps_len r1, dps_len r2]; exact hl, fun e => ?_, fun _ e => ?_, fun _ _ p hp => ?_⟩))
      · subst e
        cases r1
        exact q _ J H (.refl s) p2
      · subst e
        cases r2
        rw [List.append_nil] at q
        exact q _ J H (.refl s) p1
      · have gr := Grow.new (o := .tup (vs ++ ws)) s hp
        exact q _ _ _ gr (.tup (.of upd_same) (dps_mono gr.j _ _ (dps_append r1 r2)))
    · cases e
  · cases e
theorem opn_of {f : Value → Value → Sem Value} {r : R2} {g : D → D → Option (List D)} (h : OpR X f r) (i : ∀ x y H Q, rN X.K g x y H Q → r x y H Q) : OpN X f g := fun pins s σ H x y v u Q I rx ry q => h pins s σ H x y v u Q I rx ry (i _ _ _ _ q)
theorem on_add : OpN X (binaryOp .Add) nAdd := by
  refine opn_of op_catL fun x y H Q ⟨J, dx, dy, d, s, wx, wy, e, q⟩ => ?_
  unfold nAdd at e
  split at e
  · split at e
    · rename_i hl
      cases e
      obtain ⟨a, vs, rfl, h1, r1⟩ := wx.list s
      obtain ⟨b, ws, rfl, h2, r2⟩ := wy.list s
      exact ⟨a, b, vs, ws, rfl, rfl, h1, h2, by rw [dps_len r1, dps_len r2]; exact hl, fun p hp => q p _ hp (dps_append r1 r2)⟩
    · cases e
  · cases e
theorem PostN.mono {K : Fg} {Y : Yx} {G : Gd} {J J' : Hp} {σ : L2.St} {o : Out (List D)} {Q : VK} (s : Same J J') (h : PostN K Y G J σ o Q) : PostN K Y G J' σ o Q := by
  cases o with
  | ok xs ρ => exact fun p vs J2 H2 s2 => h p vs J2 H2 (s.trans s2)
  | exc e ρ => exact fun c dx J2 H2 s2 => h c dx J2 H2 (s.trans s2)
  | bad => exact h
/-- a new list, n times -/
@[simp] def nRep (fn : Env → Out (List D)) (fb : EC) (ρ : Env) : Out (List D) := (fn ρ).bind fun xs ρ1 => (fb ρ1).bind fun y ρ2 => match deref ρ2 y with
  | some dy => match nMul (.list xs) dy with
    | some d => .ok d ρ2
    | none => .bad
  | none => .bad
theorem dn_rep {Y : Yx} {a b : Expr} {pos : Pos} {fn : Env → Out (List D)} {fb : EC} (ha : DN X Y a fn) (hb : DE X Y b fb) : DN X Y (.BinOp a .Mult b pos) (nRep fn fb) := by
  refine PE.imp (pe_op op_repR ha hb) fun σ H Q ⟨G, J, ρ, er, h⟩ => ⟨G, J, ρ, er, ?_⟩
  unfold nRep at h
  cases hf : fn ρ with
  | bad =>
    rw [hf] at h
    exact h
  | exc e ρ1 =>
    rw [hf] at h
    exact h
  | ok xs ρ1 =>
    rw [hf] at h
    intro p vs J1 H1 s1 hp r1 e1
    have gr := Grow.new (o := .lst vs) e1.ex hp
    have h : PostN X.K Y G J σ ((fb ρ1).bind fun y ρ2 => match deref ρ2 y with
      | some dy => match nMul (.list xs) dy with
        | some d => .ok d ρ2
        | none => .bad
      | none => .bad) Q := h
    refine ⟨G, _, ρ1, e1.grow gr, ?_⟩
    have hrd : Rd (upd J1 p (.lst vs)) p (.lst vs) := Rd.of upd_same
    refine PostN.of (PostN.mono (s1.trans gr.j) h) fun y ρ2 w J2 H2 s2 r2 e2 h2 => ?_
    split at h2
    · rename_i dy hy
      split at h2
      · rename_i d hd
        obtain ⟨k, rfl, hl⟩ : ∃ k, dy = .int k ∧ nMul (.list xs) (.int k) = some d := by
          cases dy with
          | int k => exact ⟨k, rfl, hd⟩
          | _ => cases hd
        have hl : (if fitZ (2 ^ 63) k = true ∧ xs.length * k.toNat ≤ sizeLine then some (List.replicate k.toNat xs).flatten else none) = some d := hl
        split at hl
        · rename_i hl'
          cases hl
          have hw := deref_ok e2 r2 hy
          cases hw.int
          exact ⟨p, k, vs, rfl, rfl, same_rd (s2.trans e2.ex) hrd, by have := fitZ_ok hl'.1; omega, by have := fitZ_ok hl'.1; omega, by rw [dps_len r1]; exact hl'.2, fun p' hp' => h2.now e2 hp' (dps_rep (dps_mono (gr.j.trans s2) _ _ r1) _)⟩
        · cases hl
      · exact h2.elim
    · exact h2.elim
theorem od_sub : OpD X (binaryOp .Sub) dSub := by
  refine opd_of op_sub fun x y H Q ⟨J, dx, dy, d, s, wx, wy, e, q⟩ => ?_
  unfold dSub at e
  split at e
  · cases e
    cases wx.int
    cases wy.int
    exact ⟨_, _, rfl, rfl, q _ J H (.refl s) (.int _)⟩
  · cases e
theorem op_repS : OpR X (binaryOp .Mult) (fun x y H Q => ∃ a n, x = .str a ∧ y = .int n ∧ ((n < 1 ∧ -(2 ^ 63) ≤ n ∧ Q (.str Str.empty) H) ∨ (n = 1 ∧ Q (.str a) H) ∨ (1 < n ∧ n ≤ 1000 ∧ a.length * n.toNat ≤ 100000 ∧ Q (.str (repS a n.toNat)) H))) := by
  intro pins s σ H x y v u Q I rx ry h
  obtain ⟨a, n, rfl, rfl, h⟩ := h
  obtain ⟨t, rfl⟩ := rx
  obtain ⟨t', rfl⟩ := ry
  rcases h with ⟨h1, h2, q⟩ | ⟨rfl, q⟩ | ⟨h1, h2, h3, q⟩
  · exact PySem.P.mul_str_none h1 (by omega) ⟨.str _, H, I.tok _, ⟨_, rfl⟩, q⟩
  · refine PySem.P.mul_str (by decide) (fun _ z => ?_) (fun _ z => ?_) ?_
    · cases z
    · cases z
    · rw [if_neg (by decide), if_pos (show ((1 : Int) == 1 || a.length == 0) = true from rfl)]
      exact ⟨.str a, H, I, ⟨_, rfl⟩, q⟩
  · have hsz : (repS a n.toNat).length = a.length * n.toNat := by
      have key : ∀ (k : Nat) (acc : Array Nat), ((List.replicate k a.cps).foldl (· ++ ·) acc).size = acc.size + a.cps.size * k := by
        intro k
        induction k with
        | zero => intro acc; simp
        | succ k ih =>
          intro acc
          rw [List.replicate_succ, List.foldl_cons, ih, Array.size_append, Nat.mul_succ]
          omega
      have := key n.toNat #[]
      simpa [repS, Str.length] using this
    by_cases h0 : a.length = 0
    · refine PySem.P.mul_str (by rw [decide_eq_false (by omega), decide_eq_false (by omega)]; rfl) (fun _ z => ?_) (fun _ z => ?_) ?_
      · rw [show (a.length == 0) = true from by simp [h0], Bool.or_true] at z
        cases z
      · rw [show (a.length == 0) = true from by simp [h0], Bool.or_true] at z
        cases z
      · rw [if_neg (by omega), if_pos (by rw [show (a.length == 0) = true from by simp [h0], Bool.or_true])]
        have e : repS a n.toNat = a := by
          have e1 : (repS a n.toNat).cps = #[] := Array.eq_empty_of_size_eq_zero (by have : (repS a n.toNat).cps.size = a.length * n.toNat := hsz; rw [this, h0]; omega)
          have e2 : a.cps = #[] := Array.eq_empty_of_size_eq_zero h0
          cases a
          simp at e2
          subst e2
          show (⟨(repS ⟨#[]⟩ n.toNat).cps⟩ : Str) = _
          rw [e1]
        rw [e] at q
        exact ⟨.str a, H, I, ⟨_, rfl⟩, q⟩
    · refine PySem.P.mul_str (by rw [decide_eq_false (by omega), decide_eq_false (by omega)]; rfl) (fun _ z => ?_) (fun _ z => ?_) ?_
      · have : (a.length : Int) ≤ 100000 := by
          have : a.length * 1 ≤ a.length * n.toNat := Nat.mul_le_mul_left _ (by omega)
          omega
        have h5 : (9223372036854775807 : Int) / 1000 ≤ (2 ^ 63 - 1) / n := by
          rw [Int.le_ediv_iff_mul_le (by omega)]
          have : (9223372036854775807 : Int) / 1000 * n ≤ 9223372036854775807 / 1000 * 1000 := Int.mul_le_mul_of_nonneg_left h2 (by decide)
          omega
        omega
      · have hl : a.length * n.toNat ≤ sizeLine := Nat.le_trans h3 (by decide)
        unfold Builtin.Str.tooLong
        exact decide_eq_false (by omega)
      · rw [if_neg (by omega), if_neg (by
          rw [Bool.or_eq_true]
          rintro (z | z)
          · have := eq_of_beq z
            omega
          · exact h0 (eq_of_beq z))]
        exact ⟨by have := hsz; show (repS a n.toNat).length ≤ sizeLine; rw [this]; exact Nat.le_trans h3 (by decide), .str _, H, I.tok _, ⟨_, rfl⟩, q⟩
theorem od_mul : OpD X (binaryOp .Mult) dMul := by
  refine opd_of (op_mul.or op_repS) fun x y H Q ⟨J, dx, dy, d, s, wx, wy, e, q⟩ => ?_
  unfold dMul at e
  split at e
  · split at e
    · rename_i hm
      cases e
      cases wx.int
      cases wy.int
      refine .inl ⟨_, _, rfl, rfl, ?_, q _ J H (.refl s) (.int _)⟩
      unfold mulOk at hm
      rcases Bool.or_eq_true_iff.mp hm with hm | hm
      · have := fitZ_ok hm
        exact .inl ⟨by omega, by omega⟩
      · have := fitZ_ok hm
        exact .inr ⟨by omega, by omega⟩
    · cases e
  · cases wx.str
    cases wy.int
    split at e
    · split at e
      · cases e
        exact .inr ⟨_, _, rfl, rfl, .inl ⟨by assumption, by rename_i hf; have := fitZ_ok hf; omega, q _ J H (.refl s) (.str _)⟩⟩
      · cases e
    · split at e
      · cases e
        exact .inr ⟨_, _, rfl, rfl, .inr (.inl ⟨by assumption, q _ J H (.refl s) (.str _)⟩)⟩
      · split at e
        · rename_i hn0 hn1 hf
          cases e
          have f1 := Nat.le_of_ble_eq_true hf.1
          have f2 := Nat.le_of_ble_eq_true hf.2
          exact .inr ⟨_, _, rfl, rfl, .inr (.inr ⟨by omega, by omega, f2, q _ J H (.refl s) (.str _)⟩)⟩
        · cases e
  · cases e
theorem od_fdiv : OpD X (binaryOp .FloorDiv) dFdiv := by
  refine opd_of op_fdiv fun x y H Q ⟨J, dx, dy, d, s, wx, wy, e, q⟩ => ?_
  unfold dFdiv at e
  split at e
  · split at e
    · rename_i hm
      cases e
      cases wx.int
      cases wy.int
      exact ⟨_, _, rfl, rfl, ⟨hm.1, by have := fitZ_ok hm.2; omega⟩, q _ J H (.refl s) (.int _)⟩
    · cases e
  · cases e
theorem od_mod : OpD X (binaryOp .Mod) dMod := by
  refine opd_of op_mod fun x y H Q ⟨J, dx, dy, d, s, wx, wy, e, q⟩ => ?_
  unfold dMod at e
  split at e
  · split at e
    · rename_i hm
      cases e
      cases wx.int
      cases wy.int
      exact ⟨_, _, rfl, rfl, hm, q _ J H (.refl s) (.int _)⟩
    · cases e
  · cases e
/-! ### comparisons -/
theorem od_eq (hu : X.A.units + 64 < cLine) : OpD X (compareOp .Eq) dEq := by
  refine opd_of (op_eqD hu) fun x y H Q ⟨J, dx, dy, d, s, wx, wy, e, q⟩ => ?_
  unfold dEq at e
  split at e
  · rename_i h
    cases e
    exact ⟨dx, dy, wx.dp s h.1, wy.dp s h.2, h.1, h.2, q _ J H (.refl s) (.bl _)⟩
  · cases e
theorem od_ne (hu : X.A.units + 64 < cLine) : OpD X (compareOp .NotEq) dNe := by
  refine opd_of (op_neD hu) fun x y H Q ⟨J, dx, dy, d, s, wx, wy, e, q⟩ => ?_
  unfold dNe at e
  split at e
  · rename_i h
    cases e
    exact ⟨dx, dy, wx.dp s h.1, wy.dp s h.2, h.1, h.2, q _ J H (.refl s) (.bl _)⟩
  · cases e
theorem od_lt : OpD X (compareOp .Lt) dLt := by
  refine opd_of (op_lt.or op_lt_str) fun x y H Q ⟨J, dx, dy, d, s, wx, wy, e, q⟩ => ?_
  unfold dLt at e
  split at e
  · cases e
    cases wx.int
    cases wy.int
    exact .inl ⟨_, _, rfl, rfl, q _ J H (.refl s) (.bl _)⟩
  · cases e
    cases wx.str
    cases wy.str
    exact .inr ⟨_, _, rfl, rfl, q _ J H (.refl s) (.bl _)⟩
  · cases e
theorem od_le : OpD X (compareOp .LtE) dLe := by
  refine opd_of (op_le.or op_le_str) fun x y H Q ⟨J, dx, dy, d, s, wx, wy, e, q⟩ => ?_
  unfold dLe at e
  split at e
  · cases e
    cases wx.int
    cases wy.int
    exact .inl ⟨_, _, rfl, rfl, q _ J H (.refl s) (.bl _)⟩
  · cases e
    cases wx.str
    cases wy.str
    exact .inr ⟨_, _, rfl, rfl, q _ J H (.refl s) (.bl _)⟩
  · cases e
theorem od_gt : OpD X (compareOp .Gt) dGt := by
  refine opd_of (op_gt.or op_gt_str) fun x y H Q ⟨J, dx, dy, d, s, wx, wy, e, q⟩ => ?_
  unfold dGt at e
  split at e
  · cases e
    cases wx.int
    cases wy.int
    exact .inl ⟨_, _, rfl, rfl, q _ J H (.refl s) (.bl _)⟩
  · cases e
    cases wx.str
    cases wy.str
    exact .inr ⟨_, _, rfl, rfl, q _ J H (.refl s) (.bl _)⟩
  · cases e
theorem od_ge : OpD X (compareOp .GtE) dGe := by
  refine opd_of (op_ge.or op_ge_str) fun x y H Q ⟨J, dx, dy, d, s, wx, wy, e, q⟩ => ?_
  unfold dGe at e
  split at e
  · cases e
    cases wx.int
    cases wy.int
    exact .inl ⟨_, _, rfl, rfl, q _ J H (.refl s) (.bl _)⟩
  · cases e
    cases wx.str
    cases wy.str
    exact .inr ⟨_, _, rfl, rfl, q _ J H (.refl s) (.bl _)⟩
  · cases e
def rInT (K : Fg) : R2 := fun x y H Q => ∃ d ds, Dp K H x d ∧ Dp K H y (.tuple ds) ∧ SeqAt.shaped d = true ∧ SeqAt.shaped (.tuple ds) = true ∧ Q (.bl (ds.any fun z => PyData.eqv z d)) H
def rNotInT (K : Fg) : R2 := fun x y H Q => ∃ d ds, Dp K H x d ∧ Dp K H y (.tuple ds) ∧ SeqAt.shaped d = true ∧ SeqAt.shaped (.tuple ds) = true ∧ Q (.bl (!ds.any fun z => PyData.eqv z d)) H
theorem op_inT (hu : X.A.units + 65 < cLine) : OpR X (compareOp .In) (rInT X.K) := by
  intro pins s σ H x y v u Q I rx ry h
  obtain ⟨d, ds, hd, he, sd, se, q⟩ := h
  obtain ⟨as, r1⟩ := Dp.reads I d x v hd rx
  obtain ⟨bs, r2⟩ := Dp.reads I (.tuple ds) y u he ry
  exact SeqAt.in_tuple_reads r2 r1 (SeqAt.canLay_of_shaped se) (SeqAt.canLay_of_shaped sd) (PyProof.Rows.room_in_shaped sd hu) ⟨.bl _, H, I, rfl, q⟩
theorem op_notInT (hu : X.A.units + 65 < cLine) : OpR X (compareOp .NotIn) (rNotInT X.K) := by
  intro pins s σ H x y v u Q I rx ry h
  obtain ⟨d, ds, hd, he, sd, se, q⟩ := h
  obtain ⟨as, r1⟩ := Dp.reads I d x v hd rx
  obtain ⟨bs, r2⟩ := Dp.reads I (.tuple ds) y u he ry
  exact SeqAt.notIn_tuple_reads r2 r1 (SeqAt.canLay_of_shaped se) (SeqAt.canLay_of_shaped sd) (PyProof.Rows.room_in_shaped sd hu) ⟨.bl _, H, I, rfl, q⟩
theorem od_in (hu : X.A.units + 65 < cLine) : OpD X (compareOp .In) dIn := by
  refine opd_of (op_in_str.or ((op_inD hu).or (op_inT hu))) fun x y H Q ⟨J, dx, dy, d, s, wx, wy, e, q⟩ => ?_
  unfold dIn at e
  split at e
  · cases e
    cases wx.str
    cases wy.str
    exact .inl ⟨_, _, rfl, rfl, q _ J H (.refl s) (.bl _)⟩
  · split at e
    · rename_i h
      cases e
      exact .inr (.inl ⟨_, _, wx.dp s h.1, wy.dp s h.2, h.1, h.2, q _ J H (.refl s) (.bl _)⟩)
    · cases e
  · split at e
    · rename_i h
      cases e
      exact .inr (.inr ⟨_, _, wx.dp s h.1, wy.dp s h.2, h.1, h.2, q _ J H (.refl s) (.bl _)⟩)
    · cases e
  · cases e
theorem od_notIn (hu : X.A.units + 65 < cLine) : OpD X (compareOp .NotIn) dNotIn := by
  refine opd_of (op_notin_str.or ((op_notInD hu).or (op_notInT hu))) fun x y H Q ⟨J, dx, dy, d, s, wx, wy, e, q⟩ => ?_
  unfold dNotIn at e
  split at e
  · cases e
    cases wx.str
    cases wy.str
    exact .inl ⟨_, _, rfl, rfl, q _ J H (.refl s) (.bl _)⟩
  · split at e
    · rename_i h
      cases e
      exact .inr (.inl ⟨_, _, wx.dp s h.1, wy.dp s h.2, h.1, h.2, q _ J H (.refl s) (.bl _)⟩)
    · cases e
  · split at e
    · rename_i h
      cases e
      exact .inr (.inr ⟨_, _, wx.dp s h.1, wy.dp s h.2, h.1, h.2, q _ J H (.refl s) (.bl _)⟩)
    · cases e
  · cases e
theorem od_is : OpD X (compareOp .Is) dIs := by
  refine opd_of (op_is_bl.or op_isN) fun x y H Q ⟨J, dx, dy, d, s, wx, wy, e, q⟩ => ?_
  unfold dIs at e
  split at e
  · cases e
    cases wx.bl
    cases wy.bl
    exact .inl ⟨_, _, rfl, rfl, q _ J H (.refl s) (.bl _)⟩
  · cases e
    cases wy.non
    exact .inr ⟨rfl, by rw [wk_isN wx]; exact q _ J H (.refl s) (.bl _)⟩
  · cases e
theorem od_isNot : OpD X (compareOp .IsNot) dIsNot := by
  refine opd_of (op_isnot_bl.or op_notN) fun x y H Q ⟨J, dx, dy, d, s, wx, wy, e, q⟩ => ?_
  unfold dIsNot at e
  split at e
  · cases e
    cases wx.bl
    cases wy.bl
    exact .inl ⟨_, _, rfl, rfl, q _ J H (.refl s) (.bl _)⟩
  · cases e
    cases wy.non
    exact .inr ⟨rfl, by rw [wk_isN wx]; exact q _ J H (.refl s) (.bl _)⟩
  · cases e
end
end DL

namespace DL
open PySem PySem.Spec L2

/-! ### subscripts and slices -/
def dIx : D → D → Option D
  | .list xs, .int i => atI xs i
  | .tuple xs, .int i => atI xs i
  | .str z, .int i => if z.length ≤ sizeLine then (match atI z.cps.toList i with
    | some c => some (.str ⟨#[c]⟩)
    | none => none) else none
  | _, _ => none
def cutD (xs : List D) (lo hi : Option Int) : List D := (xs.drop (HT.sIx xs.length 0 lo)).take (HT.sIx xs.length xs.length hi - HT.sIx xs.length 0 lo)
def dSl : D → Option Int → Option Int → Option D
  | .list xs, lo, hi => some (.list (cutD xs lo hi))
  | .tuple xs, lo, hi => some (.tuple (cutD xs lo hi))
  | .str z, lo, hi => if z.length ≤ sizeLine then some (.str (cutS z lo hi)) else none
  | _, _, _ => none
@[simp] theorem dIx_l (xs : List D) (i : Int) : dIx (.list xs) (.int i) = atI xs i := rfl
@[simp] theorem dIx_t (xs : List D) (i : Int) : dIx (.tuple xs) (.int i) = atI xs i := rfl
@[simp] theorem dIx_s (z : Str) (i : Int) : dIx (.str z) (.int i) = if z.length ≤ sizeLine then (match atI z.cps.toList i with
    | some c => some (.str ⟨#[c]⟩)
    | none => none) else none := rfl
@[simp] theorem dSl_l (xs : List D) (lo hi : Option Int) : dSl (.list xs) lo hi = some (.list (cutD xs lo hi)) := rfl
@[simp] theorem dSl_t (xs : List D) (lo hi : Option Int) : dSl (.tuple xs) lo hi = some (.tuple (cutD xs lo hi)) := rfl
@[simp] theorem dSl_s (z : Str) (lo hi : Option Int) : dSl (.str z) lo hi = if z.length ≤ sizeLine then some (.str (cutS z lo hi)) else none := rfl
section
variable {X : Cx} {K : Fg} {J H : Hp}
theorem atI_dps {vs : List V} {ds : List D} {i : Int} {d : D} (r : RpAll K J vs ds) (h : atI ds i = some d) : ∃ v, atI vs i = some v ∧ Rp K J v d := by
  unfold atI at h ⊢
  rw [dps_len r]
  cases e : ixN ds.length i with
  | none =>
    rw [e] at h
    cases h
  | some j =>
    rw [e] at h
    exact dps_get r h
theorem cut_dps {vs : List V} {ds : List D} (lo hi : Option Int) (r : RpAll K J vs ds) : RpAll K J (cutV vs lo hi) (cutD ds lo hi) := by
  unfold cutV cutD
  rw [dps_len r]
  exact dps_take _ (dps_drop _ r)
theorem ixd_of {r : R2} {g : D → D → Option D} (h : IxR X r) (i : ∀ x y H Q, rD X.K g x y H Q → r x y H Q) : IxD X g := fun a b pins s σ H x y v u Q I rx ry q hs => h a b pins s σ H x y v u Q I rx ry (i _ _ _ _ q) hs
theorem od_ix : IxD X dIx := by
  refine ixd_of ix_seq fun x y H Q ⟨J, dx, dy, d, s, wx, wy, e, q⟩ => ?_
  unfold dIx at e
  split at e
  · obtain ⟨a, vs, rfl, h1, r1⟩ := wx.list s
    cases wy.int
    obtain ⟨v, h2, r2⟩ := atI_dps r1 e
    exact .inl ⟨a, vs, _, v, rfl, rfl, h1, h2, q _ J H (.refl s) r2⟩
  · obtain ⟨a, vs, rfl, h1, r1, _⟩ := wx.tup s
    cases wy.int
    obtain ⟨v, h2, r2⟩ := atI_dps r1 e
    exact .inr (.inl ⟨a, vs, _, v, rfl, rfl, h1, h2, q _ J H (.refl s) r2⟩)
  · split at e
    · rename_i hl
      cases wx.str
      cases wy.int
      split at e
      · rename_i c hc
        cases e
        exact .inr (.inr ⟨_, _, c, rfl, rfl, hl, hc, q _ J H (.refl s) (.str _)⟩)
      · cases e
    · cases e
  · cases e
theorem sld_of {r : V → Option Int → Option Int → Hp → VK → Prop} {g : D → Option Int → Option Int → Option D} (h : SlR X r) (i : ∀ x lo hi H Q, rSD X.K g x lo hi H Q → r x lo hi H Q) : SlD X g :=
  fun pins s σ H x v vl vu lo hi sl Q I rx hs pl pu q => h pins s σ H x v vl vu lo hi sl Q I rx hs pl pu (i _ _ _ _ _ q)
theorem od_sl : SlD X dSl := by
  refine sld_of (sl_list.or (sl_tupA.or sl_str)) fun x lo hi H Q ⟨J, dx, d, s, wx, e, q⟩ => ?_
  cases dx with
  | list xs =>
    cases (show some (PyData.list (cutD xs lo hi)) = some d from e)
    obtain ⟨a, vs, rfl, h1, r1⟩ := wx.list s
    refine .inl ⟨a, vs, rfl, h1, fun p hp => ?_⟩
    have gr := Grow.new (o := .lst (cutV vs lo hi)) s hp
    exact q _ _ _ gr (.lst (.of upd_same) (dps_mono gr.j _ _ (cut_dps lo hi r1)))
  | tuple xs =>
    cases (show some (PyData.tuple (cutD xs lo hi)) = some d from e)
    obtain ⟨a, vs, rfl, h1, r1, p1⟩ := wx.tup s
    refine .inr (.inl ⟨a, vs, rfl, h1, fun hw => ?_, fun _ p hp => ?_⟩)
    · have e : cutD xs lo hi = xs := by
        unfold cutD
        rw [← dps_len r1, hw.1, hw.2, List.drop_zero, Nat.sub_zero, dps_len r1, List.take_length]
      rw [e] at q
      exact q _ J H (.refl s) p1
    · have gr := Grow.new (o := .tup (cutV vs lo hi)) s hp
      exact q _ _ _ gr (.tup (.of upd_same) (dps_mono gr.j _ _ (cut_dps lo hi r1)))
  | str z =>
    have e : (if z.length ≤ sizeLine then some (PyData.str (cutS z lo hi)) else none) = some d := e
    split at e
    · rename_i hl
      cases e
      cases wx.str
      exact .inr (.inr ⟨_, rfl, hl, q _ J H (.refl s) (.str _)⟩)
    · cases e
  | _ => cases e
end

/-! ### built-in functions -/
def intsD : List D → Option (List Int)
  | [] => some []
  | .int i :: r => match intsD r with
    | some l => some (i :: l)
    | none => none
  | _ => none
def strsD : List D → Option (List Str)
  | [] => some []
  | .str i :: r => match strsD r with
    | some l => some (i :: l)
    | none => none
  | _ => none
def boolsD : List D → Option (List Bool)
  | [] => some []
  | .bool i :: r => match boolsD r with
    | some l => some (i :: l)
    | none => none
  | _ => none
theorem ints_map (l : List Int) : intsD (l.map PyData.int) = some l := by
  induction l with
  | nil => rfl
  | cons a l ih => simp [intsD, ih]
theorem strs_map (l : List Str) : strsD (l.map PyData.str) = some l := by
  induction l with
  | nil => rfl
  | cons a l ih => simp [strsD, ih]
theorem bools_map (l : List Bool) : boolsD (l.map PyData.bool) = some l := by
  induction l with
  | nil => rfl
  | cons a l ih => simp [boolsD, ih]
theorem ints_inv : ∀ {ds : List D} {l : List Int}, intsD ds = some l → ds = l.map PyData.int
  | [], l, h => by cases h; rfl
  | .int i :: r, l, h => by
    unfold intsD at h
    split at h
    · rename_i l' e
      cases h
      rw [ints_inv e]
      rfl
    · cases h
  | .none :: _, _, h => by cases h
  | .bool _ :: _, _, h => by cases h
  | .str _ :: _, _, h => by cases h
  | .list _ :: _, _, h => by cases h
  | .tuple _ :: _, _, h => by cases h
  | .dict _ :: _, _, h => by cases h
theorem strs_inv : ∀ {ds : List D} {l : List Str}, strsD ds = some l → ds = l.map PyData.str
  | [], l, h => by cases h; rfl
  | .str i :: r, l, h => by
    unfold strsD at h
    split at h
    · rename_i l' e
      cases h
      rw [strs_inv e]
      rfl
    · cases h
  | .none :: _, _, h => by cases h
  | .bool _ :: _, _, h => by cases h
  | .int _ :: _, _, h => by cases h
  | .list _ :: _, _, h => by cases h
  | .tuple _ :: _, _, h => by cases h
  | .dict _ :: _, _, h => by cases h
theorem bools_inv : ∀ {ds : List D} {l : List Bool}, boolsD ds = some l → ds = l.map PyData.bool
  | [], l, h => by cases h; rfl
  | .bool i :: r, l, h => by
    unfold boolsD at h
    split at h
    · rename_i l' e
      cases h
      rw [bools_inv e]
      rfl
    · cases h
  | .none :: _, _, h => by cases h
  | .str _ :: _, _, h => by cases h
  | .int _ :: _, _, h => by cases h
  | .list _ :: _, _, h => by cases h
  | .tuple _ :: _, _, h => by cases h
  | .dict _ :: _, _, h => by cases h
theorem dps_ints_inv {K : Fg} {J : Hp} : ∀ {vs : List V} {l : List Int}, RpAll K J vs (l.map PyData.int) → vs = l.map V.int
  | [], [], _ => rfl
  | [], _ :: _, h => by cases h
  | _ :: _, [], h => by cases h
  | v :: vs, i :: l, h => by
    cases h with
    | cons h1 h2 =>
      cases h1
      rw [dps_ints_inv h2]
      rfl
theorem dps_strs_inv {K : Fg} {J : Hp} : ∀ {vs : List V} {l : List Str}, RpAll K J vs (l.map PyData.str) → vs = l.map V.str
  | [], [], _ => rfl
  | [], _ :: _, h => by cases h
  | _ :: _, [], h => by cases h
  | v :: vs, i :: l, h => by
    cases h with
    | cons h1 h2 =>
      cases h1
      rw [dps_strs_inv h2]
      rfl
theorem dps_bools_inv {K : Fg} {J : Hp} : ∀ {vs : List V} {l : List Bool}, RpAll K J vs (l.map PyData.bool) → vs = l.map V.bl
  | [], [], _ => rfl
  | [], _ :: _, h => by cases h
  | _ :: _, [], h => by cases h
  | v :: vs, i :: l, h => by
    cases h with
    | cons h1 h2 =>
      cases h1
      rw [dps_bools_inv h2]
      rfl
def dLen : List D → Option D
  | [.list xs] => some (.int xs.length)
  | [.tuple xs] => some (.int xs.length)
  | [.str z] => if z.length ≤ sizeLine then some (.int z.length) else none
  | _ => none
@[simp] theorem dLen_l (xs : List D) : dLen [.list xs] = some (.int xs.length) := rfl
@[simp] theorem dLen_t (xs : List D) : dLen [.tuple xs] = some (.int xs.length) := rfl
@[simp] theorem dLen_s (z : Str) : dLen [.str z] = if z.length ≤ sizeLine then some (.int z.length) else none := rfl
def dAll : List D → Option D
  | [.list xs] => match boolsD xs with
    | some l => some (.bool (l.all id))
    | none => none
  | _ => none
def dAny : List D → Option D
  | [.list xs] => match boolsD xs with
    | some l => some (.bool (l.any id))
    | none => none
  | _ => none
def dSum : List D → Option D
  | [.list xs] => match intsD xs with
    | some l => some (.int l.sum)
    | none => none
  | _ => none
def maxL : List Int → Int
  | [] => 0
  | [a] => a
  | a :: r => max a (maxL r)
def minL : List Int → Int
  | [] => 0
  | [a] => a
  | a :: r => min a (minL r)
theorem maxL_mem : ∀ (l : List Int), l ≠ [] → maxL l ∈ l ∧ ∀ y ∈ l, y ≤ maxL l
  | [], h => (h rfl).elim
  | [a], _ => ⟨by simp [maxL], by simp [maxL]⟩
  | a :: b :: r, _ => by
    obtain ⟨h1, h2⟩ := maxL_mem (b :: r) (by simp)
    show max a (maxL (b :: r)) ∈ a :: b :: r ∧ ∀ y ∈ a :: b :: r, y ≤ max a (maxL (b :: r))
    refine ⟨?_, fun y hy => ?_⟩
    · by_cases h : a ≤ maxL (b :: r)
      · rw [Int.max_eq_right h]
        exact List.mem_cons_of_mem _ h1
      · rw [Int.max_eq_left (by omega)]
        exact List.mem_cons_self
    · rcases List.mem_cons.mp hy with rfl | hy
      · omega
      · have := h2 y hy
        omega
theorem minL_mem : ∀ (l : List Int), l ≠ [] → minL l ∈ l ∧ ∀ y ∈ l, minL l ≤ y
  | [], h => (h rfl).elim
  | [a], _ => ⟨by simp [minL], by simp [minL]⟩
  | a :: b :: r, _ => by
    obtain ⟨h1, h2⟩ := minL_mem (b :: r) (by simp)
    show min a (minL (b :: r)) ∈ a :: b :: r ∧ ∀ y ∈ a :: b :: r, min a (minL (b :: r)) ≤ y
    refine ⟨?_, fun y hy => ?_⟩
    · by_cases h : a ≤ minL (b :: r)
      · rw [Int.min_eq_left h]
        exact List.mem_cons_self
      · rw [Int.min_eq_right (by omega)]
        exact List.mem_cons_of_mem _ h1
    · rcases List.mem_cons.mp hy with rfl | hy
      · omega
      · have := h2 y hy
        omega
def dMax : List D → Option D
  | [.list xs] => match intsD xs with
    | some l => if l ≠ [] then some (.int (maxL l)) else none
    | none => none
  | [.int i, .int j] => some (.int (if j > i then j else i))
  | _ => none
def dMin : List D → Option D
  | [.list xs] => match intsD xs with
    | some l => if l ≠ [] then some (.int (minL l)) else none
    | none => none
  | [.int i, .int j] => some (.int (if j < i then j else i))
  | _ => none
def dAbs : List D → Option D
  | [.int i] => some (.int (if i < 0 then -i else i))
  | _ => none
def dInt : List D → Option D
  | [.int i] => some (.int i)
  | [.bool b] => some (.int (if b then 1 else 0))
  | [.str a] => if a.length ≤ 640 then (match PySem.intText? a with
    | some n => some (.int n)
    | none => none) else none
  | _ => none
def dStr : List D → Option D
  | [.int i] => if i.natAbs.log2 < 1920 then some (.str (toString i)) else none
  | [.str a] => some (.str a)
  | _ => none
def dRepr : List D → Option D
  | [.int i] => if i.natAbs.log2 < 1920 then some (.str (toString i)) else none
  | [.bool b] => some (.str (if b then "True" else "False"))
  | _ => none
def dTuple : List D → Option D
  | [.list xs] => some (.tuple xs)
  | [.tuple xs] => some (.tuple xs)
  | _ => none
def nList : List D → Option (List D)
  | [.list xs] => some xs
  | [.tuple xs] => some xs
  | _ => none
@[simp] theorem dAbs_i (i : Int) : dAbs [.int i] = some (.int (if i < 0 then -i else i)) := rfl
@[simp] theorem dInt_i (i : Int) : dInt [.int i] = some (.int i) := rfl
@[simp] theorem dInt_b (b : Bool) : dInt [.bool b] = some (.int (if b then 1 else 0)) := rfl
@[simp] theorem dTuple_l (xs : List D) : dTuple [.list xs] = some (.tuple xs) := rfl
@[simp] theorem dTuple_t (xs : List D) : dTuple [.tuple xs] = some (.tuple xs) := rfl
@[simp] theorem nList_l (xs : List D) : nList [.list xs] = some xs := rfl
@[simp] theorem nList_t (xs : List D) : nList [.tuple xs] = some xs := rfl
section
variable {X : Cx} {K : Fg} {J H : Hp}
theorem cd_of {f : Value} {r : List V → Hp → VK → Prop} {g : List D → Option D} (h : CallR X f r) (i : ∀ xs H Q, rCD X.K g xs H Q → r xs H Q) : CallD X f g := fun pins s σ H xs us Q I r q => h pins s σ H xs us Q I r (i _ _ _ q)
theorem cn_of {f : Value} {r : List V → Hp → VK → Prop} {g : List D → Option (List D)} (h : CallR X f r) (i : ∀ xs H Q, rCN X.K g xs H Q → r xs H Q) : CallN X f g := fun pins s σ H xs us Q I r q => h pins s σ H xs us Q I r (i _ _ _ q)
theorem wks1 {vs : List V} {d : D} (h : Wks K J H vs [d]) : ∃ v, vs = [v] ∧ Wk K J H v d := by
  cases vs with
  | nil => exact h.elim
  | cons v vs =>
    cases vs with
    | nil => exact ⟨v, rfl, h.1⟩
    | cons _ _ => exact h.2.elim
theorem wks2 {vs : List V} {d e : D} (h : Wks K J H vs [d, e]) : ∃ v w, vs = [v, w] ∧ Wk K J H v d ∧ Wk K J H w e := by
  cases vs with
  | nil => exact h.elim
  | cons v vs =>
    obtain ⟨w, rfl, h2⟩ := wks1 h.2
    exact ⟨v, w, rfl, h.1, h2⟩
theorem cd_len : CallD X (.builtin "len") dLen := by
  refine cd_of call_len fun xs H Q ⟨J, ds, d, s, w, e, q⟩ => ?_
  unfold dLen at e
  split at e
  · cases e
    obtain ⟨v, rfl, wv⟩ := wks1 w
    obtain ⟨a, vs, rfl, h1, r1⟩ := wv.list s
    exact ⟨_, vs.length, rfl, .inl ⟨vs, h1, rfl⟩, by rw [dps_len r1]; exact q _ J H (.refl s) (.int _)⟩
  · cases e
    obtain ⟨v, rfl, wv⟩ := wks1 w
    obtain ⟨a, vs, rfl, h1, r1, _⟩ := wv.tup s
    exact ⟨_, vs.length, rfl, .inr ⟨vs, h1, rfl⟩, by rw [dps_len r1]; exact q _ J H (.refl s) (.int _)⟩
  · split at e
    · rename_i hl
      cases e
      obtain ⟨v, rfl, wv⟩ := wks1 w
      cases wv.str
      exact ⟨_, _, rfl, ⟨hl, rfl⟩, q _ J H (.refl s) (.int _)⟩
    · cases e
  · cases e
theorem cd_all (hc : X.calm = true) : CallD X (.builtin "all") dAll := by
  refine cd_of (cr_all hc) fun xs H Q ⟨J, ds, d, s, w, e, q⟩ => ?_
  unfold dAll at e
  split at e
  · split at e
    · rename_i l hl
      cases e
      obtain ⟨v, rfl, wv⟩ := wks1 w
      obtain ⟨a, vs, rfl, h1, r1⟩ := wv.list s
      rw [bools_inv hl] at r1
      have := dps_bools_inv r1
      subst this
      exact ⟨a, l, rfl, h1, q _ J H (.refl s) (.bl _)⟩
    · cases e
  · cases e
theorem cd_any (hc : X.calm = true) : CallD X (.builtin "any") dAny := by
  refine cd_of (cr_any hc) fun xs H Q ⟨J, ds, d, s, w, e, q⟩ => ?_
  unfold dAny at e
  split at e
  · split at e
    · rename_i l hl
      cases e
      obtain ⟨v, rfl, wv⟩ := wks1 w
      obtain ⟨a, vs, rfl, h1, r1⟩ := wv.list s
      rw [bools_inv hl] at r1
      have := dps_bools_inv r1
      subst this
      exact ⟨a, l, rfl, h1, q _ J H (.refl s) (.bl _)⟩
    · cases e
  · cases e
theorem cd_sum (hc : X.calm = true) : CallD X (.builtin "sum") dSum := by
  refine cd_of (cr_sum hc) fun xs H Q ⟨J, ds, d, s, w, e, q⟩ => ?_
  unfold dSum at e
  split at e
  · split at e
    · rename_i l hl
      cases e
      obtain ⟨v, rfl, wv⟩ := wks1 w
      obtain ⟨a, vs, rfl, h1, r1⟩ := wv.list s
      rw [ints_inv hl] at r1
      have := dps_ints_inv r1
      subst this
      exact ⟨a, l, rfl, h1, q _ J H (.refl s) (.int _)⟩
    · cases e
  · cases e
theorem cd_max (hc : X.calm = true) : CallD X (.builtin "max") dMax := by
  refine cd_of ((cr_max hc).or (call_max2 hc)) fun xs H Q ⟨J, ds, d, s, w, e, q⟩ => ?_
  unfold dMax at e
  split at e
  · split at e
    · rename_i l hl
      split at e
      · rename_i hne
        cases e
        obtain ⟨v, rfl, wv⟩ := wks1 w
        obtain ⟨a, vs, rfl, h1, r1⟩ := wv.list s
        rw [ints_inv hl] at r1
        have := dps_ints_inv r1
        subst this
        refine .inl ⟨a, l, rfl, h1, List.length_pos_iff.mpr hne, fun m hm hy => ?_⟩
        obtain ⟨k1, k2⟩ := maxL_mem l hne
        have e : m = maxL l := by
          have a1 := k2 m hm
          have a2 := hy _ k1
          omega
        subst e
        exact q _ J H (.refl s) (.int _)
      · cases e
    · cases e
  · cases e
    obtain ⟨v, u, rfl, wv, wu⟩ := wks2 w
    cases wv.int
    cases wu.int
    exact .inr ⟨_, _, rfl, q _ J H (.refl s) (.int _)⟩
  · cases e
theorem cd_min (hc : X.calm = true) : CallD X (.builtin "min") dMin := by
  refine cd_of ((cr_min hc).or (call_min2 hc)) fun xs H Q ⟨J, ds, d, s, w, e, q⟩ => ?_
  unfold dMin at e
  split at e
  · split at e
    · rename_i l hl
      split at e
      · rename_i hne
        cases e
        obtain ⟨v, rfl, wv⟩ := wks1 w
        obtain ⟨a, vs, rfl, h1, r1⟩ := wv.list s
        rw [ints_inv hl] at r1
        have := dps_ints_inv r1
        subst this
        refine .inl ⟨a, l, rfl, h1, List.length_pos_iff.mpr hne, fun m hm hy => ?_⟩
        obtain ⟨k1, k2⟩ := minL_mem l hne
        have e : m = minL l := by
          have a1 := k2 m hm
          have a2 := hy _ k1
          omega
        subst e
        exact q _ J H (.refl s) (.int _)
      · cases e
    · cases e
  · cases e
    obtain ⟨v, u, rfl, wv, wu⟩ := wks2 w
    cases wv.int
    cases wu.int
    exact .inr ⟨_, _, rfl, q _ J H (.refl s) (.int _)⟩
  · cases e
theorem cd_abs : CallD X (.builtin "abs") dAbs := by
  refine cd_of call_abs fun xs H Q ⟨J, ds, d, s, w, e, q⟩ => ?_
  unfold dAbs at e
  split at e
  · cases e
    obtain ⟨v, rfl, wv⟩ := wks1 w
    cases wv.int
    exact ⟨_, rfl, q _ J H (.refl s) (.int _)⟩
  · cases e
theorem cd_int : CallD X (.type "int") dInt := by
  refine cd_of (call_int1.or call_int_str) fun xs H Q ⟨J, ds, d, s, w, e, q⟩ => ?_
  unfold dInt at e
  split at e
  · cases e
    obtain ⟨v, rfl, wv⟩ := wks1 w
    cases wv.int
    exact .inl (.inl ⟨_, rfl, q _ J H (.refl s) (.int _)⟩)
  · cases e
    obtain ⟨v, rfl, wv⟩ := wks1 w
    cases wv.bl
    exact .inl (.inr ⟨_, rfl, q _ J H (.refl s) (.int _)⟩)
  · obtain ⟨v, rfl, wv⟩ := wks1 w
    cases wv.str
    split at e
    · rename_i hl
      split at e
      · rename_i n hn
        cases e
        exact .inr ⟨_, n, rfl, hn, hl, q _ J H (.refl s) (.int _)⟩
      · cases e
    · cases e
  · cases e
theorem cd_str : CallD X (.type "str") dStr := by
  refine cd_of (call_str_int.or SkE.call_str_str) fun xs H Q ⟨J, ds, d, s, w, e, q⟩ => ?_
  unfold dStr at e
  split at e
  · split at e
    · rename_i hl
      cases e
      obtain ⟨v, rfl, wv⟩ := wks1 w
      cases wv.int
      exact .inl ⟨_, rfl, hl, q _ J H (.refl s) (.str _)⟩
    · cases e
  · cases e
    obtain ⟨v, rfl, wv⟩ := wks1 w
    cases wv.str
    exact .inr ⟨_, rfl, q _ J H (.refl s) (.str _)⟩
  · cases e
theorem call_repr_bl : CallR X (.builtin "repr") (fun xs H Q => ∃ b : Bool, xs = [.bl b] ∧ Q (.str (if b then "True" else "False")) H) := by
  intro pins s σ H xs us Q I r h
  obtain ⟨b, rfl, q⟩ := h
  obtain ⟨u, rfl, r1⟩ := vals1 r
  cases r1
  exact PySem.P.repr_of_bool ⟨.str _, H, I.tok _, ⟨_, rfl⟩, q⟩
theorem cd_repr : CallD X (.builtin "repr") dRepr := by
  refine cd_of (SkE.call_repr_int.or call_repr_bl) fun xs H Q ⟨J, ds, d, s, w, e, q⟩ => ?_
  unfold dRepr at e
  split at e
  · split at e
    · rename_i hl
      cases e
      obtain ⟨v, rfl, wv⟩ := wks1 w
      cases wv.int
      exact .inl ⟨_, rfl, hl, q _ J H (.refl s) (.str _)⟩
    · cases e
  · cases e
    obtain ⟨v, rfl, wv⟩ := wks1 w
    cases wv.bl
    exact .inr ⟨_, rfl, q _ J H (.refl s) (.str _)⟩
  · cases e
theorem cd_tuple : CallD X (.type "tuple") dTuple := by
  refine cd_of call_tuple_of fun xs H Q ⟨J, ds, d, s, w, e, q⟩ => ?_
  unfold dTuple at e
  split at e
  · cases e
    obtain ⟨v, rfl, wv⟩ := wks1 w
    obtain ⟨a, vs, rfl, h1, r1⟩ := wv.list s
    refine ⟨a, vs, rfl, .inl ⟨h1, fun p hp => ?_⟩⟩
    have gr := Grow.new (o := .tup vs) s hp
    exact q _ _ _ gr (.tup (.of upd_same) (dps_mono gr.j _ _ r1))
  · cases e
    obtain ⟨v, rfl, wv⟩ := wks1 w
    obtain ⟨a, vs, rfl, h1, r1, p1⟩ := wv.tup s
    exact ⟨a, vs, rfl, .inr ⟨h1, q _ J H (.refl s) p1⟩⟩
  · cases e
theorem cn_list : CallN X (.type "list") nList := by
  refine cn_of call_list_of fun xs H Q ⟨J, ds, d, s, w, e, q⟩ => ?_
  unfold nList at e
  split at e
  · cases e
    obtain ⟨v, rfl, wv⟩ := wks1 w
    obtain ⟨a, vs, rfl, h1, r1⟩ := wv.list s
    exact ⟨a, vs, rfl, .inl h1, fun p hp => q p _ hp r1⟩
  · cases e
    obtain ⟨v, rfl, wv⟩ := wks1 w
    obtain ⟨a, vs, rfl, h1, r1, p1⟩ := wv.tup s
    exact ⟨a, vs, rfl, .inr h1, fun p hp => q p _ hp r1⟩
  · cases e
end

/-! ### isinstance of built-in types -/
def tyOf : D → String
  | .none => "NoneType"
  | .bool _ => "bool"
  | .int _ => "int"
  | .str _ => "str"
  | .list _ => "list"
  | .tuple _ => "tuple"
  | .dict _ => "dict"
def isTy (t : String) : D → Option Bool
  | .dict _ => none
  | d => kitB (tyOf d) t
theorem isTy_kit {t : String} {d : D} {b : Bool} (h : isTy t d = some b) : kitB (tyOf d) t = some b ∧ ∀ kvs, d ≠ .dict kvs := by
  cases d <;> first | (cases h; done) | exact ⟨h, fun _ z => nomatch z⟩
def anyTy : List String → D → Option Bool
  | [], _ => some false
  | t :: ts, d => match isTy t d with
    | some true => some true
    | some false => anyTy ts d
    | none => none
@[simp] def eIsi (ts : List String) (f : EC) (ρ : Env) : Out VV := (f ρ).bind fun x ρ1 => match deref ρ1 x with
  | some d => match anyTy ts d with
    | some b => .ok (.val (.bool b)) ρ1
    | none => .bad
  | none => .bad
section
variable {X : Cx} {Y : Yx} {K : Fg} {J H : Hp} {a : Expr} {pos : Pos}
theorem wk_ty {v : V} {d : D} (s : Same J H) (h : Wk K J H v d) (hd : ∀ kvs, d ≠ .dict kvs) : TyX K H v (.type (tyOf d)) := by
  cases d with
  | none => cases h.non; exact .base .non
  | bool i => cases h.bl; exact .base (.bl _)
  | int i => cases h.int; exact .base (.int _)
  | str i => cases h.str; exact .base (.str _)
  | list xs =>
    obtain ⟨a, vs, rfl, h1, _⟩ := h.list s
    rcases h1 with (h1 | ⟨o, h1⟩) | ⟨o, its, n, h1, h2, _⟩
    · exact .base (.lst h1)
    · exact .base (.frz h1)
    · exact .kList h1 h2
  | tuple xs =>
    obtain ⟨a, vs, rfl, h1, _⟩ := h.tup s
    rcases h1 with (h1 | ⟨o, h1⟩) | ⟨o, its, n, h1, h2, _⟩
    · exact .base (.tup h1)
    · exact .fTuple h1
    · exact .kTuple h1 h2
  | dict kvs => exact absurd rfl (hd kvs)
theorem any_nodict {t : String} {ts : List String} {d : D} {b : Bool} (h : anyTy (t :: ts) d = some b) : ∀ kvs, d ≠ .dict kvs := by
  unfold anyTy at h
  split at h
  · rename_i e
    exact (isTy_kit e).2
  · rename_i e
    exact (isTy_kit e).2
  · cases h
theorem kitAny_of {t : String} : ∀ {ts : List String} {d : D} {b : Bool}, anyTy ts d = some b → PySem.W.kitAny K (.type (tyOf d)) (ts.map Value.type) = some b
  | [], d, b, h => by
    cases h
    rfl
  | t' :: ts, d, b, h => by
    unfold anyTy at h
    split at h
    · rename_i e
      cases h
      exact kitAny_cons (b := true) (kit_ty (isTy_kit e).1) (fun z => nomatch z) fun _ => rfl
    · rename_i e
      exact kitAny_cons (b := false) (kit_ty (isTy_kit e).1) (fun _ => kitAny_of (t := t) h) fun z => nomatch z
    · cases h
theorem de_isi {t : String} {x : Str} {f : EC} {p p2 : Pos} (ha : DE X Y a f) (hm : X.mg "isinstance" = none) (hm2 : X.mg x = none) (hv2 : bootBuiltins x = some (.type t)) (hg : Gl X "isinstance" := by rfl) (hg2 : Gl X x := by rfl)
    (hv : bootBuiltins "isinstance" = some (.builtin "isinstance") := by decide +kernel) (hn2 : x ≠ "__name__" := by decide) (hd2 : (x == ("__debug__" : Str)) = false := by decide)
    (he : starEach [a, .Name x p2] X.env = (false, eval a X.env) :: starEach [.Name x p2] X.env := by rfl) (he2 : starEach [.Name x p2] X.env = (false, eval (.Name x p2) X.env) :: starEach [] X.env := by rfl) (hpl : (backTo pos (starEach [.Name x p2] X.env)).any (·.1) = false := by rfl) :
    DE X Y (.Call (.Name "isinstance" p) [a, .Name x p2] [] pos) (eIsi [t] f) := by
  have h2 : PE X (.Name x p2) (tC (.ty t)) := pe_bltn hg2 hm2 hv2 rfl hn2 hd2
  refine PE.imp (pe_callB call_isi hg hm hv (pa_cons ha (pa_cons h2 pa_nil he2) he) (by decide) (by decide) he hpl) fun σ H Q ⟨G, J, ρ, er, h⟩ => ⟨G, J, ρ, er, Post.bind h fun y ρ1 v J1 H1 s1 r1 e1 h1 => ?_⟩
  split at h1
  · rename_i d hd
    split at h1
    · rename_i b hb
      have wv := deref_ok e1 r1 hd
      have hb' : kitB (tyOf d) t = some b := by
        unfold anyTy at hb
        split at hb
        · rename_i e
          cases hb
          exact (isTy_kit e).1
        · rename_i e
          cases hb
          exact (isTy_kit e).1
        · cases hb
      exact ⟨v, .ty t, _, _, b, rfl, .ty t, wk_ty e1.ex wv (any_nodict hb), kit_ty hb', h1.now (.bl b) e1⟩
    · exact h1.elim
  · exact h1.elim
end

/-! ### methods of texts -/
def dJoin : D → List D → Option D
  | .str a, [.list xs] => match strsD xs with
    | some ys => if (ys.map (·.length)).sum + ys.length * a.length ≤ 16777216 then some (.str (Txt.join a ys)) else none
    | none => none
  | .str a, [.tuple xs] => match strsD xs with
    | some ys => if (ys.map (·.length)).sum + ys.length * a.length ≤ 16777216 then some (.str (Txt.join a ys)) else none
    | none => none
  | _, _ => none
def dSplit : D → List D → Option D
  | .str a, [.str b] => if (b.length == 0) = false ∧ a.length + 2 ≤ sizeLine then some (.list ((Txt.split a b).map PyData.str)) else none
  | _, _ => none
def dStarts : D → List D → Option D
  | .str a, [.str b] => some (.bool (Txt.startswith a b))
  | _, _ => none
def dEnds : D → List D → Option D
  | .str a, [.str b] => some (.bool (Txt.endswith a b))
  | _, _ => none
def dSIndex : D → List D → Option D
  | .str a, [.str b] => match Builtin.Str.occurrences a b 0 a.length 1 with
    | i :: _ => some (.int (i : Nat))
    | [] => none
  | _, _ => none
@[simp] theorem dStarts_s (a b : Str) : dStarts (.str a) [.str b] = some (.bool (Txt.startswith a b)) := rfl
@[simp] theorem dEnds_s (a b : Str) : dEnds (.str a) [.str b] = some (.bool (Txt.endswith a b)) := rfl
section
variable {X : Cx} {K : Fg} {J H : Hp}
theorem md_of {id : String} {r : V → List V → Hp → VK → Prop} {g : D → List D → Option D} (h : MtR X id r) (i : ∀ x xs H Q, rMD X.K g x xs H Q → r x xs H Q) : MtD X id g := fun pins s σ H x xs v us Q I rx r q => h pins s σ H x xs v us Q I rx r (i _ _ _ _ q)
theorem md_join : MtD X "str.join" dJoin := by
  refine md_of mt_join fun x xs H Q ⟨J, dx, ds, d, s, wx, w, e, q⟩ => ?_
  unfold dJoin at e
  split at e
  · split at e
    · rename_i ys hy
      split at e
      · rename_i hl
        cases e
        cases wx.str
        obtain ⟨v, rfl, wv⟩ := wks1 w
        obtain ⟨a, vs, rfl, h1, r1⟩ := wv.list s
        rw [strs_inv hy] at r1
        have := dps_strs_inv r1
        subst this
        exact ⟨_, a, ys, rfl, rfl, .inl h1, hl, q _ J H (.refl s) (.str _)⟩
      · cases e
    · cases e
  · split at e
    · rename_i ys hy
      split at e
      · rename_i hl
        cases e
        cases wx.str
        obtain ⟨v, rfl, wv⟩ := wks1 w
        obtain ⟨a, vs, rfl, h1, r1, _⟩ := wv.tup s
        rw [strs_inv hy] at r1
        have := dps_strs_inv r1
        subst this
        exact ⟨_, a, ys, rfl, rfl, .inr h1, hl, q _ J H (.refl s) (.str _)⟩
      · cases e
    · cases e
  · cases e
theorem md_split : MtD X "str.split" dSplit := by
  refine md_of mt_split fun x xs H Q ⟨J, dx, ds, d, s, wx, w, e, q⟩ => ?_
  unfold dSplit at e
  split at e
  · rename_i a b
    split at e
    · rename_i hl
      cases e
      cases wx.str
      obtain ⟨v, rfl, wv⟩ := wks1 w
      cases wv.str
      refine ⟨_, _, rfl, rfl, hl.1, hl.2, fun p hp => ?_⟩
      have gr := Grow.new (o := .lst ((Txt.split a b).map V.str)) s hp
      exact q _ _ _ gr (.lst (.of upd_same) (dps_strs _))
    · cases e
  · cases e
theorem md_starts : MtD X "str.startswith" dStarts := by
  refine md_of mt_startswith fun x xs H Q ⟨J, dx, ds, d, s, wx, w, e, q⟩ => ?_
  unfold dStarts at e
  split at e
  · cases e
    cases wx.str
    obtain ⟨v, rfl, wv⟩ := wks1 w
    cases wv.str
    exact ⟨_, _, rfl, rfl, q _ J H (.refl s) (.bl _)⟩
  · cases e
theorem md_ends : MtD X "str.endswith" dEnds := by
  refine md_of mt_endswith fun x xs H Q ⟨J, dx, ds, d, s, wx, w, e, q⟩ => ?_
  unfold dEnds at e
  split at e
  · cases e
    cases wx.str
    obtain ⟨v, rfl, wv⟩ := wks1 w
    cases wv.str
    exact ⟨_, _, rfl, rfl, q _ J H (.refl s) (.bl _)⟩
  · cases e
end
end DL

namespace DL
open PySem PySem.Spec L2

/-! ### what is walked -/
structure ItOk (K : Fg) (J : Hp) (It : It) (ds : List D) : Prop where
  go : ∀ i J1 H, Same J J1 → Same J1 H → i < ds.length → It.go i H
  yld : ∀ i J1 H x H', Same J J1 → Same J1 H → i < ds.length → It.yld i H x H' → ∃ J2 d, Grow J1 H J2 H' ∧ ds[i]? = some d ∧ Rp K J2 x d
  stop : ∀ J1 H, Same J J1 → Same J1 H → It.stop ds.length H
theorem ItOk.mono {K : Fg} {J J' : Hp} {It : It} {ds : List D} (h : ItOk K J It ds) (s : Same J J') : ItOk K J' It ds :=
  ⟨fun i J1 H a b c => h.go i J1 H (s.trans a) b c, fun i J1 H x H' a b c d => h.yld i J1 H x H' (s.trans a) b c d, fun J1 H a b => h.stop J1 H (s.trans a) b⟩
def tI (K : Fg) (Y : Yx) (f : Env → Out (List D)) : TI := fun σ H R => ∃ G J ρ, ER K G J H σ ρ ∧ Post K Y G J σ (fun J' It ds => ItOk K J' It ds) (f ρ) R
abbrev DI (X : Cx) (Y : Yx) (tg e : Expr) (f : Env → Out (List D)) : Prop := PI X tg e (tI X.K Y f)
theorem PI.imp {X : Cx} {tg e : Expr} {t t' : TI} (h : PI X tg e t) (i : ∀ σ H Q, t' σ H Q → t σ H Q) : PI X tg e t' := ⟨fun pins s σ H R I hw => h.run pins s σ H R I (i _ _ _ hw)⟩
theorem PI.or {X : Cx} {tg e : Expr} {t t' : TI} (h : PI X tg e t) (h' : PI X tg e t') : PI X tg e (fun σ H Q => t σ H Q ∨ t' σ H Q) := ⟨fun pins s σ H R I hw => by
  rcases hw with hw | hw
  · exact h.run pins s σ H R I hw
  · exact h'.run pins s σ H R I hw⟩
def itemsOf : D → Option (List D)
  | .list xs => some xs
  | .tuple xs => some xs
  | .str z => some (z.cps.toList.map fun c => .str ⟨#[c]⟩)
  | _ => none
@[simp] theorem itemsOf_l (xs : List D) : itemsOf (.list xs) = some xs := rfl
@[simp] theorem itemsOf_t (xs : List D) : itemsOf (.tuple xs) = some xs := rfl
@[simp] theorem itemsOf_s (z : Str) : itemsOf (.str z) = some (z.cps.toList.map fun c => .str ⟨#[c]⟩) := rfl
@[simp] def eIter (f : EC) (ρ : Env) : Out (List D) := (f ρ).bind fun x ρ1 => match x with
  | .val d => match itemsOf d with
    | some ds => .ok ds ρ1
    | none => .bad
  | .slot _ => .bad
theorem it_list {K : Fg} {J : Hp} {a : Addr} {vs : List V} {ds : List D} (h : SqL K J a vs) (r : RpAll K J vs ds) : ItOk K J (Itl K a) ds := by
  refine ⟨fun i J1 H s1 s2 hi => ?_, fun i J1 H x H' s1 s2 hi y => ?_, fun J1 H s1 s2 => ⟨vs, same_l s2 (same_l s1 h), by rw [dps_len r]; exact Nat.le_refl _⟩⟩
  · rw [← dps_len r] at hi
    exact ⟨vs, vs[i], same_l s2 (same_l s1 h), by simp [hi]⟩
  · obtain ⟨rfl, y⟩ := y
    obtain ⟨d, h1, h2⟩ := dps_get' r (y vs (same_l s2 (same_l s1 h)))
    exact ⟨J1, d, .refl s2, h1, dp_mono s1 _ _ h2⟩
theorem it_tup {K : Fg} {J : Hp} {a : Addr} {vs : List V} {ds : List D} (h : SqT K J a vs) (r : RpAll K J vs ds) : ItOk K J (Itt K a) ds := by
  refine ⟨fun i J1 H s1 s2 hi => ?_, fun i J1 H x H' s1 s2 hi y => ?_, fun J1 H s1 s2 => ⟨vs, same_t s2 (same_t s1 h), by rw [dps_len r]; exact Nat.le_refl _⟩⟩
  · rw [← dps_len r] at hi
    exact ⟨vs, vs[i], same_t s2 (same_t s1 h), by simp [hi]⟩
  · obtain ⟨rfl, y⟩ := y
    obtain ⟨d, h1, h2⟩ := dps_get' r (y vs (same_t s2 (same_t s1 h)))
    exact ⟨J1, d, .refl s2, h1, dp_mono s1 _ _ h2⟩
theorem it_str {K : Fg} {J : Hp} {z : Str} : ItOk K J (Its z) (z.cps.toList.map fun c => .str ⟨#[c]⟩) := by
  refine ⟨fun i J1 H s1 s2 hi => ?_, fun i J1 H x H' s1 s2 hi y => ?_, fun J1 H s1 s2 => ?_⟩
  · show i < z.cps.size
    simpa using hi
  · obtain ⟨rfl, c, h1, rfl⟩ := y
    refine ⟨J1, .str ⟨#[c]⟩, .refl s2, ?_, .str _⟩
    rw [List.getElem?_map, Array.getElem?_toList, h1]
    rfl
  · show z.cps.size ≤ _
    simp
section
variable {X : Cx} {Y : Yx} {tg a b c : Expr} {pos : Pos}
theorem di_seq {f : EC} (h : DE X Y a f) : DI X Y tg a (eIter f) := by
  refine PI.imp (DL.PI.or (pi_list h) (DL.PI.or (pi_tup h) (pi_str h))) fun σ H R ⟨G, J, ρ, er, hp⟩ => ?_
  unfold eIter at hp
  cases hf : f ρ with
  | exc e ρ1 =>
    rw [hf] at hp
    exact .inl ⟨G, J, ρ, er, by rw [hf]; exact hp⟩
  | bad =>
    rw [hf] at hp
    exact hp.elim
  | ok x ρ1 =>
    rw [hf] at hp
    cases x with
    | slot i => exact hp.elim
    | val d =>
      have hp : Post X.K Y G J σ (fun J' It ds => ItOk X.K J' It ds) (match itemsOf d with
        | some ds => .ok ds ρ1
        | none => .bad) R := hp
      cases d with
      | list xs =>
        refine .inl ⟨G, J, ρ, er, ?_⟩
        rw [hf]
        intro v J' H' s r e
        cases r with
        | lst h1 h2 => exact ⟨_, rfl, ⟨_, same_l e.ex h1⟩, hp _ J' H' s (it_list h1 h2) e⟩
      | tuple xs =>
        refine .inr (.inl ⟨G, J, ρ, er, ?_⟩)
        rw [hf]
        intro v J' H' s r e
        cases r with
        | tup h1 h2 => exact ⟨_, rfl, ⟨_, same_t e.ex h1⟩, hp _ J' H' s (it_tup h1 h2) e⟩
      | str z =>
        refine .inr (.inr ⟨G, J, ρ, er, ?_⟩)
        rw [hf]
        intro v J' H' s r e
        cases r
        exact ⟨_, rfl, hp _ J' H' s it_str e⟩
      | _ => exact hp.elim
def rng (lo : Int) (n : Nat) : List D := (List.range n).map fun (i : Nat) => .int (lo + (i : Int))
theorem it_rng {K : Fg} {J : Hp} {lo : Int} {n : Nat} : ItOk K J (Itr lo n) (rng lo n) := by
  refine ⟨fun i J1 H s1 s2 hi => by
    show i < n
    simpa [rng] using hi, fun i J1 H x H' s1 s2 hi y => ?_, fun J1 H s1 s2 => by show n ≤ _; simp [rng]⟩
  obtain ⟨rfl, rfl⟩ := y
  have hi : i < n := by simpa [rng] using hi
  exact ⟨J1, _, .refl s2, by simp [rng, hi], .int _⟩
@[simp] def eRng1 (fa : Env → Out (List VV)) (ρ : Env) : Out (List D) := (fa ρ).bind fun xs ρ1 => match xs with
  | [.val (.int n)] => if fitZ (2 ^ 62) n = true then .ok (rng 0 n.toNat) ρ1 else .bad
  | _ => .bad
@[simp] def eRng2 (fa : Env → Out (List VV)) (ρ : Env) : Out (List D) := (fa ρ).bind fun xs ρ1 => match xs with
  | [.val (.int m), .val (.int n)] => if fitZ (2 ^ 62) m = true ∧ fitZ (2 ^ 62) n = true then .ok (rng m (n - m).toNat) ρ1 else .bad
  | _ => .bad
theorem rvs1 {K : Fg} {σ : L2.St} {J : Hp} {vs : List V} {x : VV} (h : RVs K σ J vs [x]) : ∃ v, vs = [v] ∧ RV K σ J v x := by
  cases vs with
  | nil => exact h.elim
  | cons v vs =>
    cases vs with
    | nil => exact ⟨v, rfl, h.1⟩
    | cons _ _ => exact h.2.elim
theorem rvs2 {K : Fg} {σ : L2.St} {J : Hp} {vs : List V} {x y : VV} (h : RVs K σ J vs [x, y]) : ∃ v w, vs = [v, w] ∧ RV K σ J v x ∧ RV K σ J w y := by
  cases vs with
  | nil => exact h.elim
  | cons v vs =>
    obtain ⟨w, rfl, h2⟩ := rvs1 h.2
    exact ⟨v, w, rfl, h.1, h2⟩
theorem di_range1 {fa : Env → Out (List VV)} {p : Pos} (hm : X.mg "range" = none) (ha : DA X Y [a] fa) (hg : Gl X "range" := by rfl) (hs : starEach [a] X.env = [(false, eval a X.env)] := by rfl) : DI X Y tg (.Call (.Name "range" p) [a] [] pos) (eRng1 fa) := by
  refine PI.imp (pi_range1 hg hm ha hs) fun σ H R ⟨G, J, ρ, er, hp⟩ => ⟨G, J, ρ, er, Post.bind hp fun xs ρ1 vs J1 H1 s1 r1 e1 h1 => ?_⟩
  split at h1
  · rename_i n
    split at h1
    · rename_i hn
      obtain ⟨v, rfl, rv⟩ := rvs1 r1
      cases rv
      exact ⟨n, rfl, by have := fitZ_ok hn; omega, by have := fitZ_ok hn; omega, h1.now it_rng e1⟩
    · exact h1.elim
  · exact h1.elim
theorem di_range2 {fa : Env → Out (List VV)} {p : Pos} (hm : X.mg "range" = none) (ha : DA X Y [a, b] fa) (hg : Gl X "range" := by rfl) (hs : starEach [a, b] X.env = [(false, eval a X.env), (false, eval b X.env)] := by rfl) (hs2 : starEach [b] X.env = [(false, eval b X.env)] := by rfl) :
    DI X Y tg (.Call (.Name "range" p) [a, b] [] pos) (eRng2 fa) := by
  refine PI.imp (pi_range2 hg hm ha hs hs2) fun σ H R ⟨G, J, ρ, er, hp⟩ => ⟨G, J, ρ, er, Post.bind hp fun xs ρ1 vs J1 H1 s1 r1 e1 h1 => ?_⟩
  split at h1
  · rename_i m n
    split at h1
    · rename_i hn
      obtain ⟨v, w, rfl, rv, rw'⟩ := rvs2 r1
      cases rv
      cases rw'
      exact ⟨m, n, rfl, ⟨by have := fitZ_ok hn.1; omega, by have := fitZ_ok hn.1; omega, by have := fitZ_ok hn.2; omega, by have := fitZ_ok hn.2; omega⟩, h1.now it_rng e1⟩
    · exact h1.elim
  · exact h1.elim

/-! ### targets -/
/-- σ' is σ but at the places of is -/
def Upd (is : List Nat) (σ σ' : L2.St) : Prop := σ'.length = σ.length ∧ ∀ k : Nat, k ∉ is → σ'[k]? = σ[k]?
def tG (K : Fg) (is : List Nat) (set : D → Env → Option Env) : TG := fun v σ H Q => ∃ G J ρ d ρ', ER K G J H σ ρ ∧ Rp K J v d ∧ set d ρ = some ρ' ∧ ∀ σ' J' H', Same J J' → Upd is σ σ' → ER K G J' H' σ' ρ' → Q σ' H'
abbrev DG (X : Cx) (tg : Expr) (is : List Nat) (set : D → Env → Option Env) : Prop := PG X tg (tG X.K is set)
@[simp] def setN (i : Nat) (d : D) (ρ : Env) : Option Env := if loose ρ i = true then some (ρ.set i (.d d)) else none
theorem PG.imp {X : Cx} {tg : Expr} {t t' : TG} (h : PG X tg t) (i : ∀ v σ H Q, t' v σ H Q → t v σ H Q) : PG X tg t' := ⟨fun pins s σ H v u Q I r hw => h.run pins s σ H v u Q I r (i _ _ _ _ hw)⟩
theorem dg_name (i : Nat) {x : Str} (hN : X.N.Nodup) (hi : X.N[i]? = some x := by rfl) (hx : Loc X.env.scope x := by first | exact Or.inl rfl | exact Or.inr rfl) (hf : X.fn x = true ∨ X.env.scope.names.lookup x = some .local := by first | exact .inl rfl | exact .inr rfl | assumption) :
    DG X (.Name x pos) [i] (setN i) := by
  refine PG.imp (pg_name hN hi hx hf) fun v σ H Q ⟨G, J, ρ, d, ρ', er, rv, hs, hq⟩ => ?_
  unfold setN at hs
  split at hs
  · rename_i hl
    cases hs
    refine hq _ J H (.refl J) ⟨List.length_set, fun k hk => ?_⟩ (er.setD rv hl)
    rw [List.getElem?_set_ne (fun e => hk (by simp [e]))]
  · cases hs
/-- several targets -/
def tGs (K : Fg) (is : List Nat) (set : List D → Env → Option Env) : TGs := fun vs σ H Q => ∃ G J ρ ds ρ', ER K G J H σ ρ ∧ RpAll K J vs ds ∧ set ds ρ = some ρ' ∧ ∀ σ' J' H', Same J J' → Upd is σ σ' → ER K G J' H' σ' ρ' → Q σ' H'
abbrev DGs (X : Cx) (tgs : List Expr) (is : List Nat) (set : List D → Env → Option Env) : Prop := PGs X tgs (tGs X.K is set)
theorem PGs.imp {X : Cx} {tg : List Expr} {t t' : TGs} (h : PGs X tg t) (i : ∀ v σ H Q, t' v σ H Q → t v σ H Q) : PGs X tg t' := ⟨fun pins s σ H v u Q I r hw => h.run pins s σ H v u Q I r (i _ _ _ _ hw)⟩
@[simp] def setNil (ds : List D) (ρ : Env) : Option Env := match ds with
  | [] => some ρ
  | _ => none
@[simp] def setCons (s : D → Env → Option Env) (t : List D → Env → Option Env) (ds : List D) (ρ : Env) : Option Env := match ds with
  | d :: r => match s d ρ with
    | some ρ1 => t r ρ1
    | none => none
  | [] => none
theorem dgs_nil : DGs X [] [] setNil := by
  refine PGs.imp pgs_nil fun vs σ H Q ⟨G, J, ρ, ds, ρ', er, rv, hs, hq⟩ => ?_
  cases ds with
  | nil =>
    cases rv
    cases hs
    exact ⟨rfl, hq _ J H (.refl J) ⟨rfl, fun _ _ => rfl⟩ er⟩
  | cons d ds => cases hs
theorem dgs_cons {e : Expr} {es : List Expr} {is js : List Nat} {s : D → Env → Option Env} {t : List D → Env → Option Env} (h1 : DG X e is s) (h2 : DGs X es js t) (hs : (assignEach (e :: es) X.env).map (·.2) = assign e X.env :: (assignEach es X.env).map (·.2) := by rfl) :
    DGs X (e :: es) (is ++ js) (setCons s t) := by
  refine PGs.imp (pgs_cons h1 h2 hs) fun vs σ H Q ⟨G, J, ρ, ds, ρ', er, rv, hs, hq⟩ => ?_
  cases ds with
  | nil => cases hs
  | cons d ds =>
    cases rv with
    | cons r1 r2 =>
      have hs : (match s d ρ with
        | some ρ1 => t ds ρ1
        | none => none) = some ρ' := hs
      split at hs
      · rename_i ρ1 e1
        refine ⟨_, _, rfl, G, J, ρ, d, ρ1, er, r1, e1, fun σ1 J1 H1 s1 u1 er1 => ⟨G, J1, ρ1, ds, ρ', er1, dps_mono s1 _ _ r2, hs, fun σ2 J2 H2 s2 u2 er2 => hq σ2 J2 H2 (s1.trans s2) ⟨u2.1.trans u1.1, fun k hk => ?_⟩ er2⟩⟩
        have hk : k ∉ is ∧ k ∉ js := by simpa using hk
        exact (u2.2 k hk.2).trans (u1.2 k hk.1)
      · cases hs
@[simp] def setTup (n : Nat) (t : List D → Env → Option Env) (d : D) (ρ : Env) : Option Env := match d with
  | .tuple ds => if ds.length = n then t ds ρ else none
  | _ => none
theorem dg_tup {es : List Expr} {k n : Nat} {is : List Nat} {t : List D → Env → Option Env} (hc : X.calm = true) (h : DGs X es is t) (hn : (assignEach es X.env).length = n := by rfl) (hst : (assignEach es X.env).findIdx? (·.1) = none := by rfl) :
    DG X (.Tuple es k pos) is (setTup n t) := by
  refine PG.imp (pg_tup hc h hn hst) fun v σ H Q ⟨G, J, ρ, d, ρ', er, rv, hs, hq⟩ => ?_
  cases d with
  | tuple ds =>
    have hs : (if ds.length = n then t ds ρ else none) = some ρ' := hs
    split at hs
    · rename_i hl
      cases rv with
      | tup h1 h2 => exact ⟨_, _, rfl, same_t er.ex h1, by rw [dps_len h2]; exact hl, G, J, ρ, ds, ρ', er, h2, hs, hq⟩
    · cases hs
  | _ => cases hs

/-! ### comprehensions -/
@[simp] def wipeE (ρ : Env) : List Nat → Env
  | [] => ρ
  | v :: vs => (wipeE ρ vs).set v .un
/-- the slots of vs hold plain data or nothing -/
@[simp] def plainAt (ρ : Env) (i : Nat) : Bool := match ρ[i]? with
  | some .un => true
  | some (.d _) => true
  | _ => false
@[simp] def allPlain (ρ : Env) (vs : List Nat) : Bool := vs.all (plainAt ρ)
/-- ρ' with the slots of vs as in ρ -/
@[simp] def backE (ρ ρ' : Env) : List Nat → Env
  | [] => ρ'
  | v :: vs => (backE ρ ρ' vs).set v (ρ[v]?.getD .un)
def lcRun (vs : List Nat) (set : D → Env → Option Env) (t : TC) (fe : EC) : List D → Env → List D → Out (List D)
  | [], ρ, acc => .ok acc ρ
  | d :: ds, ρ, acc => match set d ρ with
    | none => .bad
    | some ρ1 => match t ρ1 with
      | .ok true ρ2 => match fe ρ2 with
        | .ok (.val v) ρ3 => if acc.length < sizeLine ∧ allPlain ρ3 vs = true then lcRun vs set t fe ds (wipeE ρ3 vs) (acc ++ [v]) else .bad
        | _ => .bad
      | .ok false ρ2 => if allPlain ρ2 vs = true then lcRun vs set t fe ds (wipeE ρ2 vs) acc else .bad
      | _ => .bad
@[simp] def nLc (vs : List Nat) (fi : Env → Out (List D)) (set : D → Env → Option Env) (t : TC) (fe : EC) (ρ : Env) : Out (List D) := (fi ρ).bind fun ds ρ1 => if allPlain ρ1 vs = true then
    match lcRun vs set t fe ds (wipeE ρ1 vs) [] with
    | .ok xs ρ2 => .ok xs (backE ρ1 ρ2 vs)
    | _ => .bad
  else .bad
end
section
variable {K : Fg} {G : Gd} {J H J' H' : Hp} {σ : L2.St} {ρ : Env}
theorem plain_loose {i : Nat} (h : plainAt ρ i = true) : loose ρ i = true := by
  unfold plainAt at h
  unfold loose
  split at h
  · rename_i e; rw [e]
  · rename_i e; rw [e]
  · cases h
theorem plain_set {i j : Nat} {s : SV} (hs : s = .un ∨ ∃ d, s = .d d) (h : plainAt ρ i = true) : plainAt (ρ.set j s) i = true := by
  unfold plainAt at h ⊢
  by_cases e : j = i
  · subst e
    by_cases hl : j < ρ.length
    · rw [List.getElem?_set_self hl]
      rcases hs with rfl | ⟨d, rfl⟩ <;> rfl
    · rw [List.getElem?_eq_none (by simpa using hl)] at h
      cases h
  · rw [List.getElem?_set_ne e]
    exact h
theorem plain_wipe {i : Nat} (h : plainAt ρ i = true) : ∀ vs, plainAt (wipeE ρ vs) i = true
  | [] => h
  | v :: vs => plain_set (.inl rfl) (plain_wipe h vs)
theorem wipeE_len : ∀ vs, (wipeE ρ vs).length = ρ.length
  | [] => rfl
  | v :: vs => by
    unfold wipeE
    rw [List.length_set, wipeE_len vs]
theorem ER.wipe (e : ER K G J H σ ρ) : ∀ {vs : List Nat}, (∀ i ∈ vs, plainAt ρ i = true) → ER K G J H (wipe σ vs) (wipeE ρ vs)
  | [], _ => e
  | v :: vs, h => (ER.wipe e fun i hi => h i (List.mem_cons_of_mem _ hi)).setU (plain_loose (plain_wipe (h v List.mem_cons_self) vs))
/-- a slot gets back what it held -/
theorem ER.setB {i : Nat} {x : Option V} {s : SV} (e : ER K G J H σ ρ) (hl : loose ρ i = true) (hs : SlOk K J H x s []) : ER K G J H (σ.set i x) (ρ.set i s) := by
  obtain ⟨fs, h, ap, q⟩ := e.ft
  refine ⟨e.ex, e.j0, e.keep, e.pn, ⟨fs.set i [], SlsOk.set hs i h, ap.nilSet i, fun f hf a ha => ?_⟩, fun j a hj => ?_⟩
  · rcases mem_set_of hf with rfl | hf
    · cases ha
    · exact q f hf a ha
  · have ne := e.fx_ne hl hj
    rw [List.getElem?_set_ne ne.symm, List.getElem?_set_ne ne.symm]
    exact e.fx j a hj
/-- the guard holds D, too -/
def Gd.add (G : Gd) (p : Addr) (o : HO) : Gd := ⟨fun a => G.P a ∨ a = p, upd G.H0 p o, G.J0, G.fx⟩
theorem ER.guard {p : Addr} {o : HO} (e : ER K G J H σ ρ) (hp : H p = none) : ER K (G.add p o) J (upd H p o) σ ρ := by
  have g := Grow.side (o := o) e.ex hp
  have e1 := e.grow g
  obtain ⟨fs, h, ap, q⟩ := e.ft
  have hj := same_free e.ex hp
  refine ⟨e1.ex, e.j0, fun a ha => ?_, fun a ha => ?_, ⟨fs, h.keep (.refl _) fun f hf a ha w hw => (g.old a w hw).1, ap, fun f hf a ha => ⟨(q f hf a ha).1, fun hP => ?_⟩⟩, e.fx⟩
  · by_cases z : a = p
    · subst z
      refine ⟨by rw [upd_same]; exact upd_same.symm, hj.trans (same_free e.j0 hj).symm⟩
    · rcases ha with ha | ha
      · show upd H p o a = upd G.H0 p o a ∧ _
        rw [upd_ne z, upd_ne z]
        exact e.keep a ha
      · exact absurd ha z
  · by_cases z : a = p
    · subst z
      exact ⟨o, upd_same⟩
    · rcases ha with ha | ha
      · show ∃ o', upd G.H0 p o a = some o'
        rw [upd_ne z]
        exact e.pn a ha
      · exact absurd ha z
  · rcases hP with hP | rfl
    · exact (q f hf a ha).2 hP
    · obtain ⟨u, hu⟩ := h.known f hf a ha
      rw [hp] at hu
      cases hu
theorem ER.gAt {p : Addr} {o : HO} (e : ER K (G.add p o) J H σ ρ) : H p = some o ∧ J p = G.J0 p := by
  obtain ⟨h1, h2⟩ := e.keep p (.inr rfl)
  exact ⟨h1.trans upd_same, h2⟩
theorem ER.poke {p : Addr} {o o' : HO} (e : ER K (G.add p o) J H σ ρ) (hn : G.J0 p = none) : ER K (G.add p o') J (upd H p o') σ ρ := by
  obtain ⟨h1, h2⟩ := e.gAt
  have hj : J p = none := h2.trans hn
  obtain ⟨fs, h, ap, q⟩ := e.ft
  refine ⟨fun b u hu => ?_, e.j0, fun a ha => ?_, fun a ha => ?_, ⟨fs, h.keep (.refl _) fun f hf a ha w hw => ?_, ap, fun f hf a ha => ⟨(q f hf a ha).1, (q f hf a ha).2⟩⟩, e.fx⟩
  · rw [upd_ne (ne_of_none hu hj)]
    exact e.ex _ _ hu
  · by_cases z : a = p
    · subst z
      exact ⟨by rw [upd_same]; exact upd_same.symm, h2⟩
    · rcases ha with ha | ha
      · obtain ⟨k1, k2⟩ := e.keep a (.inl ha)
        refine ⟨?_, k2⟩
        rw [upd_ne z]
        show H a = upd G.H0 p o' a
        rw [upd_ne z]
        have k1 : H a = upd G.H0 p o a := k1
        rw [upd_ne z] at k1
        exact k1
      · exact absurd ha z
  · by_cases z : a = p
    · subst z
      exact ⟨o', upd_same⟩
    · obtain ⟨u, hu⟩ := e.pn a ha
      refine ⟨u, ?_⟩
      show upd G.H0 p o' a = some u
      have hu : upd G.H0 p o a = some u := hu
      rw [upd_ne z] at hu ⊢
      exact hu
  · have : a ≠ p := fun z => (q f hf a ha).2 (.inr z)
    rw [upd_ne this]
    exact hw
def cutOff (H : Hp) (p : Addr) : Hp := fun b => if b = p then none else H b
theorem cutOff_upd {H : Hp} {p : Addr} {o : HO} (h : H p = some o) : upd (cutOff H p) p o = H := by
  funext b
  unfold upd cutOff
  by_cases z : b = p
  · subst z
    rw [if_pos rfl, h]
  · rw [if_neg z, if_neg z]
theorem ER.off {p : Addr} {o : HO} (e : ER K (G.add p o) J H σ ρ) (hn : G.J0 p = none) (hg : ¬ G.P p) : ER K G J (cutOff H p) σ ρ := by
  obtain ⟨h1, h2⟩ := e.gAt
  have hj : J p = none := h2.trans hn
  have ne : ∀ b, b ≠ p → cutOff H p b = H b := fun b z => if_neg z
  obtain ⟨fs, h, ap, q⟩ := e.ft
  refine ⟨fun b u hu => ?_, e.j0, fun a ha => ?_, fun a ha => ?_, ⟨fs, h.keep (.refl _) fun f hf a ha w hw => ?_, ap, fun f hf a ha => ⟨(q f hf a ha).1, fun z => (q f hf a ha).2 (.inl z)⟩⟩, e.fx⟩
  · rw [ne b (ne_of_none hu hj)]
    exact e.ex _ _ hu
  · have z : a ≠ p := fun z => hg (z ▸ ha)
    rw [ne a z]
    obtain ⟨k1, k2⟩ := e.keep a (.inl ha)
    have k1 : H a = upd G.H0 p o a := k1
    rw [upd_ne z] at k1
    exact ⟨k1, k2⟩
  · have z : a ≠ p := fun z => hg (z ▸ ha)
    obtain ⟨u, hu⟩ := e.pn a (.inl ha)
    have hu : upd G.H0 p o a = some u := hu
    rw [upd_ne z] at hu
    exact ⟨u, hu⟩
  · have : a ≠ p := fun z => (q f hf a ha).2 (.inr z)
    rw [ne a this]
    exact hw
end
end DL

namespace DL
open PySem PySem.Spec L2
section
variable {K : Fg} {G : Gd} {J H J' H' : Hp} {σ : L2.St} {ρ : Env}
theorem wipe_at {k : Nat} : ∀ {vs : List Nat}, k ∈ vs → k < σ.length → (wipe σ vs)[k]? = some none
  | [], h, _ => by cases h
  | v :: vs, h, hl => by
    unfold wipe
    by_cases e : v = k
    · subst e
      rw [List.getElem?_set_self (by rw [wipe_length]; exact hl)]
    · rw [List.getElem?_set_ne e]
      exact wipe_at (by simpa [Ne.symm e] using h) hl
theorem wipe_upd {vs is : List Nat} {σ2 : L2.St} (hsub : ∀ i ∈ is, i ∈ vs) (u : Upd is (wipe σ vs) σ2) : wipe σ2 vs = wipe σ vs := by
  apply List.ext_getElem?
  intro k
  have hl : σ2.length = σ.length := u.1.trans (wipe_length _ _)
  by_cases hk : k ∈ vs
  · by_cases hb : k < σ.length
    · rw [wipe_at hk hb, wipe_at hk (by rw [hl]; exact hb)]
    · rw [List.getElem?_eq_none (by rw [wipe_length]; omega), List.getElem?_eq_none (by rw [wipe_length]; omega)]
  · rw [wipe_out hk]
    exact u.2 k fun z => hk (hsub k z)
def backS (σ τ : L2.St) : List Nat → L2.St
  | [] => τ
  | v :: vs => (backS σ τ vs).set v (σ[v]?.getD none)
theorem backS_len {τ : L2.St} : ∀ vs, (backS σ τ vs).length = τ.length
  | [] => rfl
  | v :: vs => by
    unfold backS
    rw [List.length_set, backS_len vs]
theorem backS_get {τ : L2.St} (hl : τ.length = σ.length) {k : Nat} : ∀ vs, (backS σ τ vs)[k]? = if k ∈ vs then σ[k]? else τ[k]?
  | [] => by simp [backS]
  | v :: vs => by
    unfold backS
    by_cases e : v = k
    · subst e
      rw [if_pos List.mem_cons_self]
      by_cases hb : v < σ.length
      · rw [List.getElem?_set_self (by rw [backS_len, hl]; exact hb), List.getElem?_eq_getElem hb]
        rfl
      · rw [List.getElem?_eq_none (by rw [List.length_set, backS_len, hl]; omega), List.getElem?_eq_none (by omega)]
    · rw [List.getElem?_set_ne e, backS_get hl vs]
      have : k ∈ v :: vs ↔ k ∈ vs := by simp [Ne.symm e]
      by_cases h : k ∈ vs
      · rw [if_pos h, if_pos (this.mpr h)]
      · rw [if_neg h, if_neg (fun z => h (this.mp z))]
theorem backS_wipe (vs : List Nat) : backS σ (wipe σ vs) vs = σ := by
  apply List.ext_getElem?
  intro k
  rw [backS_get (wipe_length _ _)]
  by_cases h : k ∈ vs
  · rw [if_pos h]
  · rw [if_neg h, wipe_out h]
theorem backE_plain {ρ1 ρ2 : Env} {i : Nat} (h1 : ∀ i, plainAt ρ1 i = true ∨ ρ1[i]? = none ∨ True) (h : plainAt ρ2 i = true) : ∀ us : List Nat, (∀ u ∈ us, plainAt ρ1 u = true) → plainAt (backE ρ1 ρ2 us) i = true
  | [], _ => h
  | u :: us, hu => by
    unfold backE
    refine plain_set ?_ (backE_plain h1 h us fun x hx => hu x (List.mem_cons_of_mem _ hx))
    have := hu u List.mem_cons_self
    unfold plainAt at this
    split at this
    · rename_i e; rw [e]; exact .inl rfl
    · rename_i e; rw [e]; exact .inr ⟨_, rfl⟩
    · cases this
theorem ER.back {J1 H1 : Hp} {τ : L2.St} {ρ1 ρ2 : Env} (e1 : ER K G J1 H1 σ ρ1) (s : Same J1 J) (e : ER K G J H τ ρ2) : ∀ {us : List Nat}, (∀ u ∈ us, plainAt ρ1 u = true) → (∀ u ∈ us, plainAt ρ2 u = true) → ER K G J H (backS σ τ us) (backE ρ1 ρ2 us)
  | [], _, _ => e
  | u :: us, h1, h2 => by
    have ih := ER.back e1 s e (us := us) (fun x hx => h1 x (List.mem_cons_of_mem _ hx)) (fun x hx => h2 x (List.mem_cons_of_mem _ hx))
    refine ih.setB (plain_loose (backE_plain (fun _ => .inr (.inr trivial)) (h2 u List.mem_cons_self) us fun x hx => h1 x (List.mem_cons_of_mem _ hx))) ?_
    have := h1 u List.mem_cons_self
    unfold plainAt at this
    split at this
    · rename_i e
      rw [e]
      exact .un _
    · rename_i d e
      obtain ⟨fs, hs, _⟩ := e1.ft
      obtain ⟨y, f, q1, _, so⟩ := hs.get e
      rw [e, q1]
      cases so with
      | d hd => exact .d (dp_mono s _ _ hd)
    · cases this
end
theorem allPlain_at {ρ : Env} {vs : List Nat} (h : allPlain ρ vs = true) : ∀ i ∈ vs, plainAt ρ i = true := fun i hi => List.all_eq_true.mp h i hi
def Yx.no (Y : Yx) : Yx := ⟨Y.ct, fun _ _ _ _ => False⟩
section
variable {X : Cx} {Y : Yx}
theorem lc_imp {K : Fg} {is vs : List Nat} {fi : Env → Out (List D)} {set : D → Env → Option Env} {t : TC} {fe : EC} (hsub : ∀ i ∈ is, i ∈ vs) : ∀ σ H Q, tN K Y (nLc vs fi set t fe) σ H Q → tLc (tI K Y fi) (tG K is set) (tT K Y.no t) (tE K Y.no fe) vs σ H Q := by
  rintro σ H Q ⟨G, J, ρ, er, h⟩
  refine ⟨G, J, ρ, er, PostN.of h fun ds ρ1 It J1 H1 s1 itok e1 h1 => ?_⟩
  split at h1
  · rename_i hpl
    split at h1
    · rename_i xs ρ2 hrun
      intro p hp
      have hj1 : J1 p = none := same_free e1.ex hp
      have hj0 : G.J0 p = none := same_free e1.j0 hj1
      have hgp : ¬ G.P p := fun z => by
        obtain ⟨o, ho⟩ := e1.pn p z
        rw [(e1.keep p z).1, ho] at hp
        cases hp
      let Nx : Nat → Hp → Prop := fun i H => ∃ J' ρ' accv acc, Same J1 J' ∧ ER K (G.add p (.lst accv)) J' H (wipe σ vs) ρ' ∧ (∀ u ∈ vs, plainAt ρ' u = true) ∧ RpAll K J' accv acc ∧ lcRun vs set t fe (ds.drop i) ρ' acc = .ok xs ρ2
      refine ⟨fun i m H => m = ds.length - i ∧ i ≤ ds.length ∧ Nx i H, ⟨ds.length, by simp, Nat.zero_le _, J1, wipeE ρ1 vs, [], [], .refl _, (e1.wipe (allPlain_at hpl)).guard hp, fun u hu => plain_wipe (allPlain_at hpl u hu) vs, .nil, hrun⟩, ?_⟩
      rintro i m H2 ⟨rfl, hi, J', ρ', accv, acc, sJ, eD, pD, rD, hr⟩
      by_cases hlt : i < ds.length
      · refine .inr ⟨itok.go i J' H2 sJ eD.ex hlt, Nx (i + 1), fun H' n => ⟨ds.length - (i + 1), by omega, rfl, hlt, n⟩, fun x H' hy => ?_⟩
        obtain ⟨J2, d, gr, hd, rx⟩ := itok.yld i J' H2 x H' sJ eD.ex hlt hy
        have hdr : ds.drop i = d :: ds.drop (i + 1) := by
          have := List.getElem_cons_drop (h := hlt)
          rw [← this]
          congr 1
          rw [List.getElem?_eq_getElem hlt] at hd
          exact Option.some.inj hd
        rw [hdr] at hr
        have hr : (match set d ρ' with
          | none => .bad
          | some ρ1 => match t ρ1 with
            | .ok true ρ2 => match fe ρ2 with
              | .ok (.val v) ρ3 => if acc.length < sizeLine ∧ allPlain ρ3 vs = true then lcRun vs set t fe (ds.drop (i + 1)) (wipeE ρ3 vs) (acc ++ [v]) else .bad
              | _ => .bad
            | .ok false ρ2 => if allPlain ρ2 vs = true then lcRun vs set t fe (ds.drop (i + 1)) (wipeE ρ2 vs) acc else .bad
            | _ => .bad) = Out.ok xs ρ2 := hr
        split at hr
        · cases hr
        · rename_i ρa hset
          refine ⟨_, J2, ρ', d, ρa, eD.grow gr, rx, hset, fun σ2 J3 H3 s3 u3 e3 => ⟨wipe_upd hsub u3, _, J3, ρa, e3, ?_⟩⟩
          have hw : wipe σ2 vs = wipe σ vs := wipe_upd hsub u3
          split at hr
          · rename_i ρb ht
            rw [ht]
            intro b J4 H4 s4 hb e4
            subst hb
            rw [if_pos rfl]
            refine ⟨_, J4, ρb, e4, ?_⟩
            split at hr
            · rename_i v ρc hfe
              rw [hfe]
              intro y J5 H5 s5 ry e5
              split at hr
              · rename_i hz
                obtain ⟨a1, a2⟩ := e5.gAt
                refine ⟨accv, a1, by rw [dps_len rD]; exact hz.1, J5, wipeE ρc vs, accv ++ [y], acc ++ [v], (((sJ.trans gr.j).trans s3).trans s4).trans s5, ?_, fun u hu => plain_wipe (allPlain_at hz.2 u hu) vs, dps_append (dps_mono (((gr.j).trans s3).trans (s4.trans s5)) _ _ rD) (.cons ry .nil), hr⟩
                have := (e5.poke (o' := .lst (accv ++ [y])) hj0).wipe (allPlain_at hz.2)
                rw [hw] at this
                exact this
              · cases hr
            · cases hr
          · rename_i ρb ht
            rw [ht]
            intro b J4 H4 s4 hb e4
            subst hb
            rw [if_neg Bool.false_ne_true]
            split at hr
            · rename_i hz
              refine ⟨J4, wipeE ρb vs, accv, acc, ((sJ.trans gr.j).trans s3).trans s4, ?_, fun u hu => plain_wipe (allPlain_at hz u hu) vs, dps_mono ((gr.j.trans s3).trans s4) _ _ rD, hr⟩
              have := e4.wipe (allPlain_at hz)
              rw [hw] at this
              exact this
            · cases hr
          · cases hr
      · have hie : i = ds.length := by omega
        subst hie
        refine .inl ⟨itok.stop J' H2 sJ eD.ex, ?_⟩
        rw [List.drop_length] at hr
        have hr : Out.ok acc ρ' = Out.ok xs ρ2 := hr
        cases hr
        obtain ⟨a1, a2⟩ := eD.gAt
        have eo := ER.back e1 sJ (eD.off hj0 hgp) (us := vs) (allPlain_at hpl) pD
        rw [backS_wipe] at eo
        have := h1 p accv J' (cutOff H2 p) sJ (if_pos rfl) rD eo
        rw [cutOff_upd a1] at this
        exact this
    · exact h1.elim
  · exact h1.elim
/-- a comprehension, a new list -/
theorem dn_lc {elt tg iter : Expr} {ifs : List Expr} {scope : Scope} {own : List (Str × Nat)} {pos : Pos} {is : List Nat} {fi : Env → Out (List D)} {set : D → Env → Option Env} {t : TC} {fe : EC} (hc : X.calm = true) (hN : X.N.Nodup) (hi : DI X Y tg iter fi)
    (ok : BlkOk X.N X.env.scope scope own) (hsub : ∀ i ∈ is, i ∈ own.map (·.2))
    (hg : ∀ (s : Shared) (H : Hp) (C : Addr) (cl : List (Str × Addr)) (fp : List Addr), DG (X.blk s H scope (compEnvC scope cl C X.env) fp) tg is set)
    (ht : ∀ (s : Shared) (H : Hp) (C : Addr) (cl : List (Str × Addr)) (fp : List Addr), PTs (X.blk s H scope (compEnvC scope cl C X.env) fp) ifs (tT X.K Y.no t))
    (he : ∀ (s : Shared) (H : Hp) (C : Addr) (cl : List (Str × Addr)) (fp : List Addr), DE (X.blk s H scope (compEnvC scope cl C X.env) fp) Y.no elt fe) (hs : ∀ x, foldedSetIterable iter X.env x = pure x := by intro _; rfl) :
    DN X Y (.ListComp elt [⟨tg, iter, ifs, 0⟩] scope pos) (nLc (own.map (·.2)) fi set t fe) := PE.imp (pe_lc hc hN hi ok hg ht he hs) (lc_imp hsub)
/-- no test -/
@[simp] def tYesD (ρ : Env) : Out Bool := .ok true ρ
theorem dts_nil : PTs X [] (tT X.K Y tYesD) := ⟨fun pins s σ H Q I ⟨G, J, ρ, er, h⟩ => pts_nil.run pins s σ H Q I (Post.now h rfl er)⟩
theorem dts_one {c : Expr} {f : TC} (h : DT X Y c f) : PTs X [c] (tT X.K Y f) := pts_one h
end

/-! ### statements -/
inductive SO where
  | nx (ρ : Env)
  | rt (d : D) (ρ : Env)
  | ro (o : Own) (ρ : Env)
  | bk (ρ : Env)
  | ct (ρ : Env)
  | exc (e : EV) (ρ : Env)
  | bad
abbrev SC := Env → SO
def SPost (K : Fg) (Y : Yx) (G : Gd) (J : Hp) (o : SO) (D : Ends) : Prop := match o with
  | .nx ρ => ∀ σ J' H', Same J J' → ER K G J' H' σ ρ → D.nx σ H'
  | .bk ρ => ∀ σ J' H', Same J J' → ER K G J' H' σ ρ → D.bk σ H'
  | .ct ρ => ∀ σ J' H', Same J J' → ER K G J' H' σ ρ → D.ct σ H'
  | .rt d ρ => ∀ v σ J' H', Same J J' → Rp K J' v d → ER K G J' H' σ ρ → D.rt v H'
  | .ro o ρ => ∀ a r σ J' H', Same J J' → OwnAt K J' H' o (a :: r) → (∀ b ∈ a :: r, J' b = none ∧ ¬ G.P b) → ER K G J' H' σ ρ → D.rt (.ref a) H'
  | .exc e ρ => ∀ c dx σ J' H', Same J J' → ExcAt Y K J' H' e c dx → ER K G J' H' σ ρ → Y.W c dx σ H'
  | .bad => False
def tS (K : Fg) (Y : Yx) (c : SC) : TS := fun D σ H => ∃ G J ρ, ER K G J H σ ρ ∧ SPost K Y G J (c ρ) D
abbrev DS (X : Cx) (Y : Yx) (st : Stmt) (c : SC) : Prop := PS X st (tS X.K Y c)
abbrev DSs (X : Cx) (Y : Yx) (st : List Stmt) (c : SC) : Prop := PSs X st (tS X.K Y c)
theorem PS.imp {X : Cx} {st : Stmt} {t t' : TS} (h : PS X st t) (i : ∀ D σ H, t' D σ H → t D σ H) : PS X st t' := ⟨fun pins s σ H D I hw => h.run pins s σ H D I (i _ _ _ hw)⟩
theorem PSs.imp {X : Cx} {st : List Stmt} {t t' : TS} (h : PSs X st t) (i : ∀ D σ H, t' D σ H → t D σ H) : PSs X st t' := ⟨fun pins s σ H D I hw => h.run pins s σ H D I (i _ _ _ hw)⟩
section
variable {K : Fg} {G : Gd} {J H J' H' : Hp} {σ : L2.St} {ρ : Env} {Y : Yx}
theorem SPost.mono {o : SO} {D : Ends} (s : Same J J') (h : SPost K Y G J o D) : SPost K Y G J' o D := by
  cases o with
  | nx ρ => exact fun σ J1 H1 s1 e => h σ J1 H1 (s.trans s1) e
  | bk ρ => exact fun σ J1 H1 s1 e => h σ J1 H1 (s.trans s1) e
  | ct ρ => exact fun σ J1 H1 s1 e => h σ J1 H1 (s.trans s1) e
  | rt d ρ => exact fun v σ J1 H1 s1 r e => h v σ J1 H1 (s.trans s1) r e
  | ro o ρ => exact fun a r σ J1 H1 s1 ho hb e => h a r σ J1 H1 (s.trans s1) ho hb e
  | exc e ρ => exact fun c dx σ J1 H1 s1 r e => h c dx σ J1 H1 (s.trans s1) r e
  | bad => exact h
/-- an expression, then what comes of it -/
@[reducible, simp] def Out.then {α : Type} (x : Out α) (k : α → Env → SO) : SO := match x with
  | .ok a ρ => k a ρ
  | .exc e ρ => .exc e ρ
  | .bad => .bad
theorem Post.then {α β : Type} {R : Hp → β → α → Prop} {o : Out α} {k : α → Env → SO} {D : Ends} (h : SPost K Y G J (o.then k) D) {Q : β → Hp → Prop}
    (hk : ∀ x ρ v J' H', Same J J' → R J' v x → ER K G J' H' σ ρ → SPost K Y G J' (k x ρ) D → Q v H') : Post K Y G J σ R o Q := by
  cases o with
  | ok x ρ => exact fun v J1 H1 s1 r e => hk x ρ v J1 H1 s1 r e (SPost.mono s1 h)
  | exc e ρ => exact fun c dx J1 H1 s1 r e => h c dx σ J1 H1 s1 r e
  | bad => exact h
theorem PostN.then {o : Out (List D)} {k : List D → Env → SO} {D' : Ends} (h : SPost K Y G J (o.then k) D') {Q : VK}
    (hk : ∀ xs ρ p vs J' H', Same J J' → H' p = none → RpAll K J' vs xs → ER K G J' H' σ ρ → SPost K Y G J' (k xs ρ) D' → Q (.ref p) (upd H' p (.lst vs))) : PostN K Y G J σ o Q := by
  cases o with
  | ok x ρ => exact fun p vs J1 H1 s1 hp r e => hk x ρ p vs J1 H1 s1 hp r e (SPost.mono s1 h)
  | exc e ρ => exact fun c dx J1 H1 s1 r e => h c dx σ J1 H1 s1 r e
  | bad => exact h
end
@[simp] def sSeq (c c' : SC) (ρ : Env) : SO := match c ρ with
  | .nx ρ1 => c' ρ1
  | o => o
@[simp] def sNx (ρ : Env) : SO := .nx ρ
@[simp] def sBk (ρ : Env) : SO := .bk ρ
@[simp] def sCt (ρ : Env) : SO := .ct ρ
section
variable {X : Cx} {Y : Yx} {st : Stmt} {sts : List Stmt} {a b c e : Expr} {pos : Pos}
theorem dss_nil : DSs X Y [] sNx := PSs.imp pss_nil fun D σ H ⟨G, J, ρ, er, h⟩ => h σ J H (.refl J) er
theorem seq_imp {K : Fg} {c c' : SC} : ∀ D σ H, tS K Y (sSeq c c') D σ H → tSeq (tS K Y c) (tS K Y c') D σ H := fun D σ H ⟨G, J, ρ, er, h⟩ => by
  refine ⟨G, J, ρ, er, ?_⟩
  unfold sSeq at h
  cases hc : c ρ with
  | nx ρ1 =>
    rw [hc] at h
    exact fun σ' J' H' s e => ⟨G, J', ρ1, e, SPost.mono s h⟩
  | rt d ρ1 => rw [hc] at h; exact h
  | ro o ρ1 => rw [hc] at h; exact h
  | bk ρ1 => rw [hc] at h; exact h
  | ct ρ1 => rw [hc] at h; exact h
  | exc e ρ1 => rw [hc] at h; exact h
  | bad => rw [hc] at h; exact h
theorem dss_cons {c c' : SC} (h1 : DS X Y st c) (h2 : DSs X Y sts c') : DSs X Y (st :: sts) (sSeq c c') := PSs.imp (pss_cons h1 h2) seq_imp
theorem dss_one {c : SC} (h : DS X Y st c) : DSs X Y [st] c := pss_one h
theorem ds_pass : DS X Y (.Pass pos) sNx := PS.imp ps_pass fun D σ H ⟨G, J, ρ, er, h⟩ => h σ J H (.refl J) er
theorem ds_break : DS X Y (.Break pos) sBk := PS.imp ps_break fun D σ H ⟨G, J, ρ, er, h⟩ => h σ J H (.refl J) er
theorem ds_continue : DS X Y (.Continue pos) sCt := PS.imp ps_continue fun D σ H ⟨G, J, ρ, er, h⟩ => h σ J H (.refl J) er
/-- a value that may be kept: plain data, or a list of one's own that becomes plain data -/
@[simp] def keepV (ρ : Env) : VV → Option (D × Env)
  | .val d => some (d, ρ)
  | .slot i => match ρ[i]? with
    | some (.own false (.lst xs)) => some (.list xs, ρ.set i .un)
    | _ => none
theorem keep_ok {K : Fg} {G : Gd} {J H : Hp} {σ : L2.St} {ρ ρ' : Env} {v : V} {x : VV} {d : D} (e : ER K G J H σ ρ) (r : RV K σ J v x) (h : keepV ρ x = some (d, ρ')) : ∃ J', Same J J' ∧ Rp K J' v d ∧ ER K G J' H σ ρ' := by
  cases x with
  | val d' =>
    cases h
    exact ⟨J, .refl J, r, e⟩
  | slot i =>
    have h : (match ρ[i]? with
      | some (.own false (.lst xs)) => some (PyData.list xs, ρ.set i .un)
      | _ => none) = some (d, ρ') := h
    split at h
    · rename_i xs hi
      cases h
      obtain ⟨p, J', h1, h2, h3, h4⟩ := e.freeze hi
      have r : σ[i]? = some (some v) := r
      rw [r] at h1
      cases h1
      exact ⟨J', h2, h3, h4⟩
    · cases h
@[simp] def sRet (f : EC) (ρ : Env) : SO := (f ρ).then fun x ρ1 => match keepV ρ1 x with
  | some (d, ρ2) => .rt d ρ2
  | none => .bad
theorem ds_ret {f : EC} (h : DE X Y e f) : DS X Y (.Return (some e) pos) (sRet f) := by
  refine PS.imp (ps_ret h) fun D σ H ⟨G, J, ρ, er, hp⟩ => ⟨G, J, ρ, er, Post.then hp fun x ρ1 v J1 H1 s1 r1 e1 h1 => ?_⟩
  split at h1
  · rename_i d ρ2 hk
    obtain ⟨J2, s2, r2, e2⟩ := keep_ok e1 r1 hk
    exact h1 v σ J2 H1 s2 r2 e2
  · exact h1.elim
/-- return a new list that is the caller's own -/
@[simp] def sRetNew (fn : Env → Out (List D)) (ρ : Env) : SO := (fn ρ).then fun xs ρ1 => .ro (.lst xs) ρ1
theorem ER.np {K : Fg} {G : Gd} {J H : Hp} {σ : L2.St} {ρ : Env} {p : Addr} (e : ER K G J H σ ρ) (hp : H p = none) : J p = none ∧ ¬ G.P p := ⟨same_free e.ex hp, fun hP => by
  obtain ⟨o, ho⟩ := e.pn _ hP
  rw [(e.keep _ hP).1, ho] at hp
  cases hp⟩
theorem ds_retNew {fn : Env → Out (List D)} (h : DN X Y e fn) : DS X Y (.Return (some e) pos) (sRetNew fn) := by
  refine PS.imp (ps_ret h) fun D σ H ⟨G, J, ρ, er, hp⟩ => ⟨G, J, ρ, er, PostN.then hp fun xs ρ1 p vs J1 H1 s1 hq r1 e1 h1 => ?_⟩
  have gr := Grow.side (o := .lst vs) e1.ex hq
  exact h1 p [] σ J1 _ (.refl _) ⟨p, vs, rfl, upd_same, r1⟩ (fun b hb => by
    have : b = p := by simpa using hb
    subst this
    exact e1.np hq) (e1.grow gr)
@[simp] def sRetN (ρ : Env) : SO := .rt .none ρ
theorem ds_retN : DS X Y (.Return none pos) sRetN := PS.imp ps_retN fun D σ H ⟨G, J, ρ, er, h⟩ => h _ σ J H (.refl J) .non er
@[simp] def sDrop (f : EC) (ρ : Env) : SO := (f ρ).then fun _ ρ1 => .nx ρ1
theorem ds_expr {f : EC} (h : DE X Y e f) (hs : swapsWith e none pos.line X.env = pure false := by rfl) : DS X Y (.Expr e pos) (sDrop f) :=
  PS.imp (ps_expr h hs) fun D σ H ⟨G, J, ρ, er, hp⟩ => ⟨G, J, ρ, er, Post.then hp fun x ρ1 v J1 H1 s1 r1 e1 h1 => h1 σ J1 H1 (.refl _) e1⟩
theorem ds_doc {x j p} : DS X Y (.Expr (.Constant (.str x) j p) pos) sNx := PS.imp ps_doc fun D σ H ⟨G, J, ρ, er, h⟩ => h σ J H (.refl J) er
@[simp] def sIf (t : TC) (c c' : SC) (ρ : Env) : SO := (t ρ).then fun b ρ1 => if b = true then c ρ1 else c' ρ1
theorem ds_if {t : TC} {c1 c2 : SC} {s1 s2 : List Stmt} (hc : DT X Y c t) (h1 : DSs X Y s1 c1) (h2 : DSs X Y s2 c2) : DS X Y (.If c s1 s2 pos) (sIf t c1 c2) := by
  refine PS.imp (ps_if hc h1 h2) fun D σ H ⟨G, J, ρ, er, hp⟩ => ⟨G, J, ρ, er, Post.then hp fun x ρ1 v J1 H1 s1 r1 e1 h1 => ?_⟩
  cases r1
  cases x with
  | true => exact ⟨G, J1, ρ1, e1, h1⟩
  | false => exact ⟨G, J1, ρ1, e1, h1⟩
/-- target = value -/
@[simp] def sAsg (f : EC) (set : D → Env → Option Env) (ρ : Env) : SO := (f ρ).then fun x ρ1 => match x with
  | .val d => match set d ρ1 with
    | some ρ2 => .nx ρ2
    | none => .bad
  | .slot _ => .bad
theorem asg_fin {K : Fg} {is : List Nat} {set : D → Env → Option Env} {G : Gd} {J1 H1 : Hp} {σ : L2.St} {ρ1 : Env} {v : V} {d : D} {D' : Ends} (r1 : Rp K J1 v d) (e1 : ER K G J1 H1 σ ρ1) (h1 : SPost K Y G J1 (match set d ρ1 with
    | some ρ2 => .nx ρ2
    | none => .bad) D') : tG K is set v σ H1 D'.nx := by
  split at h1
  · rename_i ρ2 h2
    exact ⟨G, J1, ρ1, d, ρ2, e1, r1, h2, fun σ' J' H' s u e => h1 σ' J' H' s e⟩
  · exact h1.elim
theorem ds_asg {f : EC} {is : List Nat} {set : D → Env → Option Env} {tg : Expr} (h : DE X Y e f) (hg : DG X tg is set) (hs : swapsWithSole [tg] e pos.line X.env = pure false := by rfl) (hw : swappedStores [tg] e X.env = pure none := by rfl)
    (h1 : (assignEach [tg] X.env).map (·.2) = [assign tg X.env] := by rfl) : DS X Y (.Assign [tg] e pos) (sAsg f set) := by
  refine PS.imp (ps_asg h hg hs hw h1) fun D σ H ⟨G, J, ρ, er, hp⟩ => ⟨G, J, ρ, er, Post.then hp fun x ρ1 v J1 H1 s1 r1 e1 h1 => ?_⟩
  cases x with
  | val d => exact asg_fin r1 e1 h1
  | slot i => exact h1.elim
/-- name = a new list that is one's own -/
@[simp] def sNew (i : Nat) (fn : Env → Out (List D)) (ρ : Env) : SO := (fn ρ).then fun xs ρ1 => if loose ρ1 i = true then .nx (ρ1.set i (.own false (.lst xs))) else .bad
theorem ds_new (i : Nat) {x : Str} {fn : Env → Out (List D)} {p : Pos} (h : DN X Y e fn) (hN : X.N.Nodup) (hi : X.N[i]? = some x := by rfl) (hx : Loc X.env.scope x := by first | exact Or.inl rfl | exact Or.inr rfl)
    (hf : X.fn x = true ∨ X.env.scope.names.lookup x = some .local := by first | exact .inl rfl | exact .inr rfl | assumption) (hs : swapsWithSole [.Name x p] e pos.line X.env = pure false := by rfl) (hw : swappedStores [.Name x p] e X.env = pure none := by rfl)
    (h1 : (assignEach [.Name x p] X.env).map (·.2) = [assign (.Name x p) X.env] := by rfl) : DS X Y (.Assign [.Name x p] e pos) (sNew i fn) := by
  refine PS.imp (ps_asg h (pg_name hN hi hx hf) hs hw h1) fun D σ H ⟨G, J, ρ, er, hp⟩ => ⟨G, J, ρ, er, PostN.then hp fun xs ρ1 q vs J1 H1 s1 hq r1 e1 h1 => ?_⟩
  split at h1
  · rename_i hl
    exact h1 _ J1 _ (.refl _) (e1.setO hq hl ⟨q, vs, rfl, upd_same, r1⟩)
  · exact h1.elim
/-- name = [comprehension], plain data and one's own -/
theorem ds_setLc (i : Nat) {y : Str} {py : Pos} {elt tg iter : Expr} {ifs : List Expr} {scope : Scope} {own : List (Str × Nat)} {pos spos : Pos} {is : List Nat} {fi : Env → Out (List D)} {set : D → Env → Option Env} {t : TC} {fe : EC} (hc : X.calm = true) (hN : X.N.Nodup)
    (hi : DI X Y tg iter fi) (ok : BlkOk X.N X.env.scope scope own) (hsub : ∀ i ∈ is, i ∈ own.map (·.2))
    (hg : ∀ (s : Shared) (H : Hp) (C : Addr) (cl : List (Str × Addr)) (fp : List Addr), DG (X.blk s H scope (compEnvC scope cl C X.env) fp) tg is set)
    (ht : ∀ (s : Shared) (H : Hp) (C : Addr) (cl : List (Str × Addr)) (fp : List Addr), PTs (X.blk s H scope (compEnvC scope cl C X.env) fp) ifs (tT X.K Y.no t))
    (he : ∀ (s : Shared) (H : Hp) (C : Addr) (cl : List (Str × Addr)) (fp : List Addr), DE (X.blk s H scope (compEnvC scope cl C X.env) fp) Y.no elt fe)
    (hsw : swapsWith (.ListComp elt [⟨tg, iter, ifs, 0⟩] scope pos) (some (.Name y py)) spos.line X.env = pure true) (hy : X.N[i]? = some y := by rfl) (hyl : X.env.scope.names.lookup y = some .local := by rfl) (hs : ∀ x, foldedSetIterable iter X.env x = pure x := by intro _; rfl) :
    DS X Y (.Assign [.Name y py] (.ListComp elt [⟨tg, iter, ifs, 0⟩] scope pos) spos) (sAsg (eN (nLc (own.map (·.2)) fi set t fe)) (setN i)) := by
  refine PS.imp (ps_setLc hc hN hy hyl hsw hi ok hg ht he hs) fun D σ H ⟨G, J, ρ, er, hp⟩ => lc_imp (Y := Y) hsub σ H _ ⟨G, J, ρ, er, ?_⟩
  have hp : SPost X.K Y G J ((nLc (own.map (·.2)) fi set t fe ρ).then fun xs ρ1 => match setN i (.list xs) ρ1 with
    | some ρ2 => .nx ρ2
    | none => .bad) D := by
    unfold sAsg eN at hp
    cases hf : nLc (own.map (·.2)) fi set t fe ρ with
    | ok xs ρ1 => rw [hf] at hp; exact hp
    | exc e ρ1 => rw [hf] at hp; exact hp
    | bad => rw [hf] at hp; exact hp
  refine PostN.then hp fun xs ρ1 q vs J1 H1 s1 hq r1 e1 h1 => ?_
  unfold setN at h1
  split at h1
  · rename_i ρ2 h2
    split at h2
    · rename_i hl
      cases h2
      have gr := Grow.new (o := .lst vs) e1.ex hq
      exact h1 _ _ _ gr.j ((e1.grow gr).setD (.lst (.of upd_same) (dps_mono gr.j _ _ r1)) hl)
    · cases h2
  · exact h1.elim
theorem ds_newLc (i : Nat) {y : Str} {py : Pos} {elt tg iter : Expr} {ifs : List Expr} {scope : Scope} {own : List (Str × Nat)} {pos spos : Pos} {is : List Nat} {fi : Env → Out (List D)} {set : D → Env → Option Env} {t : TC} {fe : EC} (hc : X.calm = true) (hN : X.N.Nodup)
    (hi : DI X Y tg iter fi) (ok : BlkOk X.N X.env.scope scope own) (hsub : ∀ i ∈ is, i ∈ own.map (·.2))
    (hg : ∀ (s : Shared) (H : Hp) (C : Addr) (cl : List (Str × Addr)) (fp : List Addr), DG (X.blk s H scope (compEnvC scope cl C X.env) fp) tg is set)
    (ht : ∀ (s : Shared) (H : Hp) (C : Addr) (cl : List (Str × Addr)) (fp : List Addr), PTs (X.blk s H scope (compEnvC scope cl C X.env) fp) ifs (tT X.K Y.no t))
    (he : ∀ (s : Shared) (H : Hp) (C : Addr) (cl : List (Str × Addr)) (fp : List Addr), DE (X.blk s H scope (compEnvC scope cl C X.env) fp) Y.no elt fe)
    (hsw : swapsWith (.ListComp elt [⟨tg, iter, ifs, 0⟩] scope pos) (some (.Name y py)) spos.line X.env = pure true) (hy : X.N[i]? = some y := by rfl) (hyl : X.env.scope.names.lookup y = some .local := by rfl) (hs : ∀ x, foldedSetIterable iter X.env x = pure x := by intro _; rfl) :
    DS X Y (.Assign [.Name y py] (.ListComp elt [⟨tg, iter, ifs, 0⟩] scope pos) spos) (sNew i (nLc (own.map (·.2)) fi set t fe)) := by
  refine PS.imp (ps_setLc hc hN hy hyl hsw hi ok hg ht he hs) fun D σ H ⟨G, J, ρ, er, hp⟩ => lc_imp (Y := Y) hsub σ H _ ⟨G, J, ρ, er, ?_⟩
  refine PostN.then hp fun xs ρ1 q vs J1 H1 s1 hq r1 e1 h1 => ?_
  split at h1
  · rename_i hl
    exact h1 _ J1 _ (.refl _) (e1.setO hq hl ⟨q, vs, rfl, upd_same, r1⟩)
  · exact h1.elim
end
end DL

namespace DL
open PySem PySem.Spec L2

/-! ### loops -/
def forRun (set : D → Env → Option Env) (body : SC) : List D → Env → SO
  | [], ρ => .nx ρ
  | d :: ds, ρ => match set d ρ with
    | none => .bad
    | some ρ1 => match body ρ1 with
      | .nx ρ2 => forRun set body ds ρ2
      | .ct ρ2 => forRun set body ds ρ2
      | .bk ρ2 => .nx ρ2
      | o => o
@[simp] def sFor (fi : Env → Out (List D)) (set : D → Env → Option Env) (body : SC) (ρ : Env) : SO := (fi ρ).then fun ds ρ1 => forRun set body ds ρ1
def whileRun (t : TC) (body : SC) : Nat → Env → SO
  | 0, _ => .bad
  | n + 1, ρ => (t ρ).then fun b ρ1 => if b = true then (match body ρ1 with
      | .nx ρ2 => whileRun t body n ρ2
      | .ct ρ2 => whileRun t body n ρ2
      | .bk ρ2 => .nx ρ2
      | o => o)
    else .nx ρ1
@[simp] def sWhile (n : Env → Nat) (t : TC) (body : SC) (ρ : Env) : SO := whileRun t body (n ρ) ρ
section
variable {X : Cx} {Y : Yx} {a b c e : Expr} {pos : Pos}
theorem ds_for {tg iter : Expr} {body : List Stmt} {fi : Env → Out (List D)} {is : List Nat} {set : D → Env → Option Env} {cb : SC} (hp : PassesOwn (model X.prog X.w) X.A X.env X.xe) (hc : X.calm = true) (hi : DI X Y tg iter fi) (hg : DG X tg is set) (hb : DSs X Y body cb)
    (hs : ∀ x, foldedSetIterable iter X.env x = pure x := by intro _; rfl) : DS X Y (.For tg iter body [] pos) (sFor fi set cb) := by
  refine PS.imp (ps_for hp hc hi hg hb hs) fun D σ H ⟨G, J, ρ, er, h⟩ => ⟨G, J, ρ, er, Post.then h fun ds ρ1 It J1 H1 s1 itok e1 h1 => ?_⟩
  let N : Nat → L2.St → Hp → Prop := fun i σ H => ∃ J' ρ', Same J1 J' ∧ ER X.K G J' H σ ρ' ∧ SPost X.K Y G J' (forRun set cb (ds.drop i) ρ') D
  refine ⟨fun i m σ H => m = ds.length - i ∧ i ≤ ds.length ∧ N i σ H, ⟨ds.length, by simp, Nat.zero_le _, J1, ρ1, .refl _, e1, h1⟩, ?_⟩
  rintro i m σ2 H2 ⟨rfl, hi, J', ρ', sJ, eR, hr⟩
  by_cases hlt : i < ds.length
  · refine .inr ⟨itok.go i J' H2 sJ eR.ex hlt, N (i + 1), fun σ' H' n => ⟨ds.length - (i + 1), by omega, rfl, hlt, n⟩, fun x H' hy => ?_⟩
    obtain ⟨J2, d, gr, hd, rx⟩ := itok.yld i J' H2 x H' sJ eR.ex hlt hy
    have hdr : ds.drop i = d :: ds.drop (i + 1) := by
      have := List.getElem_cons_drop (h := hlt)
      rw [← this]
      congr 1
      rw [List.getElem?_eq_getElem hlt] at hd
      exact Option.some.inj hd
    rw [hdr] at hr
    have hr : SPost X.K Y G J' (match set d ρ' with
      | none => .bad
      | some ρ1 => match cb ρ1 with
        | .nx ρ2 => forRun set cb (ds.drop (i + 1)) ρ2
        | .ct ρ2 => forRun set cb (ds.drop (i + 1)) ρ2
        | .bk ρ2 => .nx ρ2
        | o => o) D := hr
    split at hr
    · exact hr.elim
    · rename_i ρa hset
      refine ⟨G, J2, ρ', d, ρa, eR.grow gr, rx, hset, fun σ3 J3 H3 s3 u3 e3 => ⟨G, J3, ρa, e3, ?_⟩⟩
      have sJ3 : Same J' J3 := gr.j.trans s3
      cases hcb : cb ρa with
      | nx ρb =>
        rw [hcb] at hr
        exact fun σ4 J4 H4 s4 e4 => ⟨J4, ρb, (sJ.trans sJ3).trans s4, e4, SPost.mono (sJ3.trans s4) hr⟩
      | ct ρb =>
        rw [hcb] at hr
        exact fun σ4 J4 H4 s4 e4 => ⟨J4, ρb, (sJ.trans sJ3).trans s4, e4, SPost.mono (sJ3.trans s4) hr⟩
      | bk ρb =>
        rw [hcb] at hr
        exact fun σ4 J4 H4 s4 e4 => hr σ4 J4 H4 (sJ3.trans s4) e4
      | rt d2 ρb =>
        rw [hcb] at hr
        exact fun v σ4 J4 H4 s4 r e4 => hr v σ4 J4 H4 (sJ3.trans s4) r e4
      | ro o ρb =>
        rw [hcb] at hr
        exact fun a r σ4 J4 H4 s4 ho hb e4 => hr a r σ4 J4 H4 (sJ3.trans s4) ho hb e4
      | exc ev ρb =>
        rw [hcb] at hr
        exact fun c dx σ4 J4 H4 s4 r e4 => hr c dx σ4 J4 H4 (sJ3.trans s4) r e4
      | bad =>
        rw [hcb] at hr
        exact hr
  · have hie : i = ds.length := by omega
    subst hie
    refine .inl ⟨itok.stop J' H2 sJ eR.ex, ?_⟩
    rw [List.drop_length] at hr
    exact hr σ2 J' H2 (.refl _) eR
theorem ds_while {body : List Stmt} {t : TC} {cb : SC} (n : Env → Nat) (hp : PassesOwn (model X.prog X.w) X.A X.env X.xe) (hc : DT X Y c t) (hb : DSs X Y body cb) : DS X Y (.While c body [] pos) (sWhile n t cb) := by
  refine PS.imp (ps_while hp hc hb) fun D σ H ⟨G, J, ρ, er, h⟩ => ?_
  let N : Nat → L2.St → Hp → Prop := fun m σ H => ∃ J' ρ', Same J J' ∧ ER X.K G J' H σ ρ' ∧ SPost X.K Y G J' (whileRun t cb m ρ') D
  refine ⟨N, ⟨n ρ, J, ρ, .refl _, er, h⟩, ?_⟩
  rintro m σ2 H2 ⟨J', ρ', sJ, eR, hr⟩
  cases m with
  | zero => exact hr.elim
  | succ m =>
    refine ⟨G, J', ρ', eR, Post.then (k := fun b ρ1 => if b = true then (match cb ρ1 with
      | .nx ρ2 => whileRun t cb m ρ2
      | .ct ρ2 => whileRun t cb m ρ2
      | .bk ρ2 => .nx ρ2
      | o => o)
    else .nx ρ1) hr fun b ρ1 v J3 H3 s3 r3 e3 h3 => ?_⟩
    cases r3
    cases b with
    | false =>
      rw [if_neg Bool.false_ne_true]
      exact h3 σ2 J3 H3 (.refl _) e3
    | true =>
      rw [if_pos rfl]
      rw [if_pos rfl] at h3
      refine ⟨N m, fun σ' H' n => ⟨m, Nat.lt_succ_self m, n⟩, G, J3, ρ1, e3, ?_⟩
      cases hcb : cb ρ1 with
      | nx ρb =>
        rw [hcb] at h3
        exact fun σ4 J4 H4 s4 e4 => ⟨J4, ρb, (sJ.trans s3).trans s4, e4, SPost.mono s4 h3⟩
      | ct ρb =>
        rw [hcb] at h3
        exact fun σ4 J4 H4 s4 e4 => ⟨J4, ρb, (sJ.trans s3).trans s4, e4, SPost.mono s4 h3⟩
      | bk ρb =>
        rw [hcb] at h3
        exact h3
      | rt d2 ρb =>
        rw [hcb] at h3
        exact h3
      | ro o ρb =>
        rw [hcb] at h3
        exact h3
      | exc ev ρb =>
        rw [hcb] at h3
        exact h3
      | bad =>
        rw [hcb] at h3
        exact h3

/-! ### name op= e -/
@[simp] def sAug (i : Nat) (g : D → D → Option D) (f : EC) (ρ : Env) : SO := match ρ[i]? with
  | some (.d dx) => (f ρ).then fun y ρ1 => match deref ρ1 y with
    | some dy => match g dx dy with
      | some d => if loose ρ1 i = true then .nx (ρ1.set i (.d d)) else .bad
      | none => .bad
    | none => .bad
  | _ => .bad
theorem ds_aug (i : Nat) {x : Str} {op : Operator} {g : D → D → Option D} {f : EC} {p : Pos} (hN : X.N.Nodup) (he : DE X Y e f) (ho : OpD X (inplaceOp op) g) (hi : X.N[i]? = some x := by rfl) (hx : Loc X.env.scope x := by first | exact Or.inl rfl | exact Or.inr rfl)
    (hf : X.fn x = true ∨ X.env.scope.names.lookup x = some .local := by first | exact .inl rfl | exact .inr rfl | assumption) : DS X Y (.AugAssign (.Name x p) op e pos) (sAug i g f) := by
  refine PS.imp (ps_aug hN hi hx he (show PIp X op (rD X.K g) from ho) hf) fun D σ H ⟨G, J, ρ, er, h⟩ => ?_
  unfold sAug at h
  split at h
  · rename_i dx hx
    obtain ⟨fs, hs, _⟩ := er.ft
    obtain ⟨y, fo, e1, _, so⟩ := hs.get hx
    cases so with
    | d hd =>
      refine ⟨_, e1, G, J, ρ, er, Post.then h fun y ρ1 w J1 H1 s1 r1 e1' h1 => ?_⟩
      split at h1
      · rename_i dy h2
        split at h1
        · rename_i d h3
          split at h1
          · rename_i hl
            refine ⟨J1, dx, dy, d, e1'.ex, .inl (dp_mono s1 _ _ hd), deref_ok e1' r1 h2, h3, fun v J' H' gr r => h1 _ _ _ gr.j ((e1'.grow gr).setD r hl)⟩
          · exact h1.elim
        · exact h1.elim
      · exact h1.elim
  · exact h.elim

/-! ### lists of one's own change -/
theorem own_at {K : Fg} {G : Gd} {J H : Hp} {σ : L2.St} {ρ : Env} {i : Nat} {fx : Bool} {xs : List D} (e : ER K G J H σ ρ) (hi : ρ[i]? = some (.own fx (.lst xs))) : ∃ a vs, σ[i]? = some (some (.ref a)) ∧ H a = some (.lst vs) ∧ RpAll K J vs xs := by
  obtain ⟨fs, hs, _⟩ := e.ft
  obtain ⟨y, f, e1, _, so⟩ := hs.get hi
  cases so with
  | own ho =>
    obtain ⟨a, vs, ef, ha, hd⟩ := ho
    injection ef with ea er
    subst ea er
    exact ⟨_, vs, e1, ha, hd⟩
/-- name.append(e) -/
@[simp] def sApp (i : Nat) (f : EC) (ρ : Env) : SO := match ρ[i]? with
  | some (.own _ (.lst _)) => (f ρ).then fun y ρ1 => match keepV ρ1 y with
    | some (d, ρ2) => match ρ2[i]? with
      | some (.own fx (.lst xs)) => if xs.length < sizeLine then .nx (ρ2.set i (.own fx (.lst (xs ++ [d])))) else .bad
      | _ => .bad
    | none => .bad
  | _ => .bad
theorem ds_app (i : Nat) {x : Str} {f : EC} {p apos cpos : Pos} (he : DE X Y e f) (hN : X.N[i]? = some x := by rfl) (hv : Vis X.env.scope x := by first | exact Or.inl rfl | exact Or.inr (Or.inl rfl) | exact Or.inr (Or.inr rfl)) (hd : (x == ("__debug__" : Str)) = false := by decide)
    (hcd : (x == ("__classdict__" : Str)) = false := by decide) (hbase : attributeBase (.Name x p) "append" X.env (eval (.Name x p) X.env) = eval (.Name x p) X.env := by rfl)
    (hfew : ((backTo cpos (starEach [e] X.env)).all (fun x => !x.1) && (backToKw cpos (keywordEach [] X.env)).all (fun x => x.1.isSome)
      && decide ([e].length + ([] : List Keyword).length + (if ([] : List Keyword).isEmpty then 0 else 1) < 30)) = true := by rfl)
    (hline : (apos.endLine == cpos.line) = true := by rfl) (hs : starEach [e] X.env = (false, eval e X.env) :: starEach [] X.env := by rfl) (hplain : (backTo cpos (starEach [] X.env)).any (·.1) = false := by rfl)
    (hsw : swapsWith (.Call (.Attribute (.Name x p) "append" apos) [e] [] cpos) none pos.line X.env = pure false := by rfl) :
    DS X Y (.Expr (.Call (.Attribute (.Name x p) "append" apos) [e] [] cpos) pos) (sApp i f) := by
  refine PS.imp (ps_expr (pe_bm PySem.F.plainAttrs_list PySem.F.slot_list_append PySem.F.type_list_append mt_append (pe_var (i := i) hN hv hd hcd) (pa_cons he pa_nil hs) hbase hfew hline hs hplain) hsw) fun D σ H ⟨G, J, ρ, er, h⟩ => ?_
  unfold sApp at h
  split at h
  · rename_i fx xs hi
    obtain ⟨a, vs, h1, h2, h3⟩ := own_at er hi
    refine ⟨_, h1, .inl ⟨rfl, vs, .inl (.inl h2)⟩, G, J, ρ, er, Post.then h fun y ρ1 v J1 H1 s1 r1 e1 hp => ?_⟩
    split at hp
    · rename_i d ρ2 hk
      obtain ⟨J2, s2, r2, e2⟩ := keep_ok e1 r1 hk
      split at hp
      · rename_i fx2 xs2 hi2
        split at hp
        · rename_i hz
          obtain ⟨a2, vs2, q1, q2, q3⟩ := own_at e2 hi2
          rw [h1] at q1
          cases q1
          exact ⟨_, vs2, v, rfl, rfl, q2, by rw [dps_len q3]; exact hz, hp _ _ _ s2 (e2.mutL hi2 h1 (dps_append q3 (.cons r2 .nil)))⟩
        · exact hp.elim
      · exact hp.elim
    · exact hp.elim
  · exact h.elim
/-- name.extend(a new list) -/
@[simp] def sExt (i : Nat) (fn : Env → Out (List D)) (ρ : Env) : SO := match ρ[i]? with
  | some (.own _ (.lst _)) => (fn ρ).then fun ys ρ1 => match ρ1[i]? with
      | some (.own fx (.lst xs)) => if xs.length + ys.length ≤ sizeLine then .nx (ρ1.set i (.own fx (.lst (xs ++ ys)))) else .bad
      | _ => .bad
  | _ => .bad
theorem ds_ext (i : Nat) {x : Str} {fn : Env → Out (List D)} {p apos cpos : Pos} (he : DN X Y e fn) (hN : X.N[i]? = some x := by rfl) (hv : Vis X.env.scope x := by first | exact Or.inl rfl | exact Or.inr (Or.inl rfl) | exact Or.inr (Or.inr rfl)) (hd : (x == ("__debug__" : Str)) = false := by decide)
    (hcd : (x == ("__classdict__" : Str)) = false := by decide) (hbase : attributeBase (.Name x p) "extend" X.env (eval (.Name x p) X.env) = eval (.Name x p) X.env := by rfl)
    (hfew : ((backTo cpos (starEach [e] X.env)).all (fun x => !x.1) && (backToKw cpos (keywordEach [] X.env)).all (fun x => x.1.isSome)
      && decide ([e].length + ([] : List Keyword).length + (if ([] : List Keyword).isEmpty then 0 else 1) < 30)) = true := by rfl)
    (hline : (apos.endLine == cpos.line) = true := by rfl) (hs : starEach [e] X.env = (false, eval e X.env) :: starEach [] X.env := by rfl) (hplain : (backTo cpos (starEach [] X.env)).any (·.1) = false := by rfl)
    (hsw : swapsWith (.Call (.Attribute (.Name x p) "extend" apos) [e] [] cpos) none pos.line X.env = pure false := by rfl) :
    DS X Y (.Expr (.Call (.Attribute (.Name x p) "extend" apos) [e] [] cpos) pos) (sExt i fn) := by
  refine PS.imp (ps_expr (pe_bm PySem.F.plainAttrs_list PySem.F.slot_list_extend PySem.F.type_list_extend mt_extend (pe_var (i := i) hN hv hd hcd) (pa_cons he pa_nil hs) hbase hfew hline hs hplain) hsw) fun D σ H ⟨G, J, ρ, er, h⟩ => ?_
  unfold sExt at h
  split at h
  · rename_i fx xs hi
    obtain ⟨a, vs, h1, h2, h3⟩ := own_at er hi
    refine ⟨_, h1, .inl ⟨rfl, vs, .inl (.inl h2)⟩, G, J, ρ, er, PostN.then h fun ys ρ1 q ws J1 H1 s1 hq r1 e1 hp => ?_⟩
    split at hp
    · rename_i fx2 xs2 hi2
      split at hp
      · rename_i hz
        have gr := Grow.side (o := .lst ws) e1.ex hq
        have e2 := e1.grow gr
        obtain ⟨a2, vs2, q1, q2, q3⟩ := own_at e2 hi2
        rw [h1] at q1
        cases q1
        exact ⟨_, q, vs2, ws, rfl, rfl, q2, upd_same, by rw [dps_len q3, dps_len r1]; exact hz, hp _ _ _ (.refl _) (e2.mutL hi2 h1 (dps_append q3 r1))⟩
      · exact hp.elim
    · exact hp.elim
  · exact h.elim
/-- name.pop(), a value -/
@[simp] def ePop (i : Nat) (ρ : Env) : Out VV := match ρ[i]? with
  | some (.own fx (.lst xs)) => match xs[xs.length - 1]? with
    | some d => .ok (.val d) (ρ.set i (.own fx (.lst xs.dropLast)))
    | none => .bad
  | _ => .bad
theorem de_pop (i : Nat) {x : Str} {p apos : Pos} (hN : X.N[i]? = some x := by rfl) (hv : Vis X.env.scope x := by first | exact Or.inl rfl | exact Or.inr (Or.inl rfl) | exact Or.inr (Or.inr rfl)) (hd : (x == ("__debug__" : Str)) = false := by decide)
    (hcd : (x == ("__classdict__" : Str)) = false := by decide) (hbase : attributeBase (.Name x p) "pop" X.env (eval (.Name x p) X.env) = eval (.Name x p) X.env := by rfl) (hline : (apos.endLine == pos.line) = true := by rfl) :
    DE X Y (.Call (.Attribute (.Name x p) "pop" apos) [] [] pos) (ePop i) := by
  refine PE.imp (pe_bm0 PySem.F.plainAttrs_list PySem.F.slot_list_pop PySem.F.type_list_pop mt_pop (pe_var (i := i) hN hv hd hcd) hbase hline) fun σ H Q ⟨G, J, ρ, er, h⟩ => ?_
  unfold ePop at h
  split at h
  · rename_i fx xs hi
    obtain ⟨a, vs, h1, h2, h3⟩ := own_at er hi
    split at h
    · rename_i d hd
      rw [← dps_len h3] at hd
      obtain ⟨v, k1, k2⟩ := dps_get h3 hd
      exact ⟨_, h1, .inl ⟨rfl, vs, .inl (.inl h2)⟩, a, vs, v, rfl, rfl, h2, k1, h _ _ _ (.refl _) k2 (er.mutL hi h1 (dps_dropLast h3))⟩
    · exact h.elim
  · exact h.elim
/-- name[i] = e -/
@[simp] def sSetL (i : Nat) (fi fv : EC) (ρ : Env) : SO := (fv ρ).then fun y ρ1 => match keepV ρ1 y with
  | some (d, ρ2) => match ρ2[i]? with
    | some (.own _ (.lst _)) => (fi ρ2).then fun k ρ3 => match k, ρ3[i]? with
      | .val (.int n), some (.own fx (.lst xs)) => match ixN xs.length n with
        | some j => .nx (ρ3.set i (.own fx (.lst (xs.set j d))))
        | none => .bad
      | _, _ => .bad
    | _ => .bad
  | none => .bad
theorem ds_setL (i : Nat) {x : Str} {ix : Expr} {fi fv : EC} {p tpos : Pos} (hv : DE X Y e fv) (hx : DE X Y ix fi) (hN : X.N[i]? = some x := by rfl) (hvis : Vis X.env.scope x := by first | exact Or.inl rfl | exact Or.inr (Or.inl rfl) | exact Or.inr (Or.inr rfl)) (hd : (x == ("__debug__" : Str)) = false := by decide)
    (hcd : (x == ("__classdict__" : Str)) = false := by decide)
    (ha : ∀ v, assign (.Subscript (.Name x p) ix tpos) X.env v = (do
      let ov ← holding [v] (eval (.Name x p) X.env)
      let iv ← holding [v, ov] (eval ix X.env)
      standAt tpos
      holding [v, ov, iv] (setItem ov iv v)
      release [v, ov, iv] []) := by intro _; rfl) (hs : swapsWithSole [.Subscript (.Name x p) ix tpos] e pos.line X.env = pure false := by rfl) (hw : swappedStores [.Subscript (.Name x p) ix tpos] e X.env = pure none := by rfl)
    (h1 : (assignEach [.Subscript (.Name x p) ix tpos] X.env).map (·.2) = [assign (.Subscript (.Name x p) ix tpos) X.env] := by rfl) : DS X Y (.Assign [.Subscript (.Name x p) ix tpos] e pos) (sSetL i fi fv) := by
  refine PS.imp (ps_asg hv (pg_sub (pe_var (i := i) hN hvis hd hcd) hx set_list ha) hs hw h1) fun D σ H ⟨G, J, ρ, er, h⟩ => ⟨G, J, ρ, er, Post.then h fun y ρ1 v J1 H1 s1 r1 e1 hp => ?_⟩
  split at hp
  · rename_i d ρ2 hk
    obtain ⟨J2, s2, r2, e2⟩ := keep_ok e1 r1 hk
    split at hp
    · rename_i fx0 xs0 hi0
      obtain ⟨a, vs, q1, q2, q3⟩ := own_at e2 hi0
      refine ⟨_, q1, G, J2, ρ2, e2, Post.then (SPost.mono s2 hp) fun k ρ3 w J3 H3 s3 r3 e3 hp3 => ?_⟩
      split at hp3
      · rename_i n fx xs hi3
        split at hp3
        · rename_i j hj
          cases r3
          obtain ⟨a3, vs3, k1, k2, k3⟩ := own_at e3 hi3
          rw [q1] at k1
          cases k1
          exact ⟨_, vs3, n, j, rfl, rfl, k2, by rw [dps_len k3]; exact hj, hp3 _ _ _ (.refl _) (e3.mutL hi3 q1 (dps_set (dp_mono s3 _ _ r2) j k3))⟩
        · exact hp3.elim
      · exact hp3.elim
    · exact hp.elim
  · exact hp.elim
/-- a list of one's own becomes plain data for good -/
@[simp] def eFrz (i : Nat) (ρ : Env) : Out VV := match ρ[i]? with
  | some (.own false (.lst xs)) => .ok (.val (.list xs)) (ρ.set i (.d (.list xs)))
  | some (.d d) => .ok (.val d) ρ
  | _ => .bad
theorem ER.freeze2 {K : Fg} {G : Gd} {J H : Hp} {σ : L2.St} {ρ : Env} {i : Nat} {xs : List D} (e : ER K G J H σ ρ) (hi : ρ[i]? = some (.own false (.lst xs))) : ∃ a J', σ[i]? = some (some (.ref a)) ∧ Same J J' ∧ Rp K J' (.ref a) (.list xs) ∧ ER K G J' H σ (ρ.set i (.d (.list xs))) := by
  obtain ⟨a, J', h1, h2, h3, h4⟩ := e.freeze hi
  have hl : loose (ρ.set i .un) i = true := by
    unfold loose
    rw [List.getElem?_set_self (List.getElem?_eq_some_iff.mp hi).1]
  have h5 := h4.setD h3 hl
  have e1 : σ.set i (some (.ref a)) = σ := by
    obtain ⟨hb, e⟩ := List.getElem?_eq_some_iff.mp h1
    rw [← e]
    exact List.set_getElem_self hb
  rw [e1, List.set_set] at h5
  exact ⟨a, J', h1, h2, h3, h5⟩
theorem de_frz (i : Nat) {x : Str} (hN : X.N[i]? = some x := by rfl) (hv : Vis X.env.scope x := by first | exact Or.inl rfl | exact Or.inr (Or.inl rfl) | exact Or.inr (Or.inr rfl)) (hd : (x == ("__debug__" : Str)) = false := by decide)
    (hcd : (x == ("__classdict__" : Str)) = false := by decide) : DE X Y (.Name x pos) (eFrz i) := by
  refine PE.imp (pe_var (i := i) hN hv hd hcd) fun σ H Q ⟨G, J, ρ, er, h⟩ => ?_
  unfold eFrz at h
  split at h
  · rename_i xs hi
    obtain ⟨a, J', h1, h2, h3, h4⟩ := er.freeze2 hi
    exact ⟨_, h1, h _ _ _ h2 h3 h4⟩
  · rename_i d hi
    obtain ⟨fs, hs, _⟩ := er.ft
    obtain ⟨y, f, e1, _, so⟩ := hs.get hi
    cases so with
    | d hd => exact ⟨_, e1, h.now hd er⟩
  · exact h.elim

/-! ### functions of one's own -/
inductive FO where
  | ret (d : D)
  | own (o : Own)
  | exc (e : EV)
  | bad
def FOk (K : Fg) (Y : Yx) (J H : Hp) (o : FO) (Q : VK) (E : XK) : Prop := match o with
  | .ret d => ∀ v J' H', Grow J H J' H' → Rp K J' v d → Q v H'
  | .own o => ∀ a r J' H', Grow J H J' H' → OwnAt K J' H' o (a :: r) → (∀ b ∈ a :: r, J' b = none ∧ H b = none) → Q (.ref a) H'
  | .exc e => ∀ c dx J' H', Grow J H J' H' → ExcAt Y K J' H' e c dx → E c dx H'
  | .bad => False
/-- plain data in, plain data out -/
def spP (K : Fg) (ct : String → Option Value) (n : Nat) (m : List D → FO) : Sp := fun vs H Q E => ∃ J ds, Same J H ∧ RpAll K J vs ds ∧ ds.length = n ∧ FOk K ⟨ct, fun _ _ _ _ => True⟩ J H (m ds) Q E
theorem ExcAt.ct {Y Y' : Yx} {K : Fg} {J H : Hp} {e : EV} {c : Value} {dx : Option Addr} (h : ExcAt Y K J H e c dx) (hc : Y.ct = Y'.ct) : ExcAt Y' K J H e c dx := by
  unfold ExcAt at h ⊢
  rw [← hc]
  exact h
@[simp] def eCall (n : Nat) (m : List D → FO) (fa : Env → Out (List VV)) (ρ : Env) : Out VV := (fa ρ).bind fun xs ρ1 => match vals xs with
  | some ds => if ds.length = n then (match m ds with
    | .ret d => .ok (.val d) ρ1
    | .exc e => .exc e ρ1
    | _ => .bad) else .bad
  | none => .bad
/-- what a callee lets out is taken -/
def Takes' (X : Cx) (Y : Yx) : Prop := ∀ σ, PassesAt (L2.CX X.prog X.w) X σ (WE Y.W σ)
theorem takes_at {X : Cx} {Y : Yx} (tk : Takes X Y.W) : Takes' X Y := fun σ => passAt tk σ
theorem takes_no {X : Cx} {Y : Yx} : Takes' X Y.no := fun σ pins H s e s' I h => passL pins σ H s e s' I h
theorem de_call {m : List D → FO} {n k : Nat} {f : Addr} {fd : FuncData} {ps : List Str} {x : Str} {es : List Expr} {fa : Env → Out (List VV)} {p : Pos} (F : FnOk X.prog X.w X.K X.mg X.base (L2.CX X.prog X.w) k f fd ps (spP X.K Y.ct n m)) (hr : Room k X.A) (hm : X.mg x = some (.ref f))
    (hk : PySem.W.keepIn X.K (.ref f) = true) (hb : Binds X.K fd ps []) (tk : Takes' X Y) (ha : DA X Y (e :: es) fa) (hg : Gl X x := by rfl) (hdb : (x == ("__debug__" : Str)) = false := by decide)
    (he : starEach (e :: es) X.env = (false, eval e X.env) :: starEach es X.env := by rfl) (hpl : (backTo pos (starEach es X.env)).any (·.1) = false := by rfl) : DE X Y (.Call (.Name x p) (e :: es) [] pos) (eCall n m fa) := by
  refine PE.imp (pe_callS F hr hg hm hk hb tk ha hdb he hpl) fun σ H Q ⟨G, J, ρ, er, h⟩ => ⟨G, J, ρ, er, ?_⟩
  unfold eCall at h
  cases hf : fa ρ with
  | exc ev ρ1 => rw [hf] at h; exact h
  | bad => rw [hf] at h; exact h
  | ok xs ρ1 =>
    rw [hf] at h
    intro vs J1 H1 s1 r1 e1
    have h1 : Post X.K Y G J1 σ (RV X.K σ) (match vals xs with
      | some ds => if ds.length = n then (match m ds with
        | .ret d => Out.ok (.val d) ρ1
        | .exc e => .exc e ρ1
        | _ => .bad) else .bad
      | none => .bad) Q := Post.mono s1 h
    split at h1
    · rename_i ds hds
      split at h1
      · rename_i hl
        refine ⟨J1, ds, e1.ex, vals_ok r1 hds, hl, ?_⟩
        cases hm : m ds with
        | ret d =>
          rw [hm] at h1
          exact fun v J' H' gr r => h1.grow e1 gr r
        | exc ev =>
          rw [hm] at h1
          exact fun c dx J' H' gr r => h1 c dx J' H' gr.j (r.ct rfl) (e1.grow gr)
        | bad =>
          rw [hm] at h1
          exact h1.elim
        | own o =>
          rw [hm] at h1
          exact h1.elim
      · exact h1.elim
    · exact h1.elim
/-- a body, run from its arguments -/
def fnP (c : SC) (k : Nat) : List D → FO := fun ds => match c (ds.map SV.d ++ List.replicate k .un) with
  | .nx _ => .ret .none
  | .rt d _ => .ret d
  | .ro o _ => .own o
  | .exc e _ => .exc e
  | _ => .bad
end
theorem sls_start {K : Fg} {J H : Hp} : ∀ {vs : List V} {ds : List D} (k : Nat), RpAll K J vs ds → SlsOk K J H (vs.map some ++ List.replicate k none) (ds.map SV.d ++ List.replicate k .un) (List.replicate (ds.length + k) [])
  | [], [], 0, _ => .nil
  | [], [], k + 1, r => by
    have ih := sls_start (H := H) k r
    rw [List.replicate_succ, List.replicate_succ]
    have e : ([] : List D).length + (k + 1) = (([] : List D).length + k) + 1 := rfl
    rw [e, List.replicate_succ]
    exact .cons (.un _) ih
  | v :: vs, d :: ds, k, r => by
    cases r with
    | cons r1 r2 =>
      have ih := sls_start (H := H) k r2
      have e : (d :: ds).length + k = (ds.length + k) + 1 := by
        rw [List.length_cons]
        omega
      rw [e, List.replicate_succ]
      exact .cons (.d r1) ih
  | [], _ :: _, _, r => by cases r
  | _ :: _, [], _, r => by cases r
theorem er_start {K : Fg} {J H : Hp} {vs : List V} {ds : List D} (k : Nat) (s : Same J H) (r : RpAll K J vs ds) : ER K ⟨fun a => ∃ o, H a = some o, H, J, none⟩ J H (vs.map some ++ List.replicate k none) (ds.map SV.d ++ List.replicate k .un) := by
  refine ⟨s, .refl J, fun a _ => ⟨rfl, rfl⟩, fun a h => h, ⟨_, sls_start k r, fun i j f g a h1 _ h2 _ => ?_, fun f hf a ha => ?_⟩, fun i a h => nomatch h⟩
  · rw [List.eq_of_mem_replicate (List.mem_of_getElem? h1)] at h2
    cases h2
  · rw [List.eq_of_mem_replicate hf] at ha
    cases ha
theorem grow_end {K : Fg} {J H J' H' : Hp} {σ : L2.St} {ρ : Env} (e : ER K ⟨fun a => ∃ o, H a = some o, H, J, none⟩ J' H' σ ρ) : Grow J H J' H' :=
  ⟨e.j0, e.ex, fun a o h => by
    obtain ⟨h1, h2⟩ := e.keep a ⟨o, h⟩
    exact ⟨h1.trans h, h2⟩⟩
section
variable {P : Program} {w : World} {K : Fg} {mg : Str → Option Value} {base : Heap}
/-- THE RULE for a def of plain data, by its body -/
theorem fn_p {x qual : Str} {st : Stmt} {f : Addr} {fd : FuncData} {N ps : List Str} {k j n : Nat} {c : SC} {ct : String → Option Value} (F : Fun K x qual st f fd) (S : FnScope N ps (defScope st)) (hn : ps.length = n) (hj : N.length = n + j)
    (hb : ∀ (cdv : Value) (A : Around) (outer : List PySem.Env) (s : Shared) (H : Hp) (E : XK), Room k (A.deeper (PyProof.Rows.envOfC qual (defScope st) s.heap.objs.size f cdv)) →
      DSs (cxOf (L2.CX P w) P w K mg base N qual (defScope st) f cdv A outer s H E) ⟨ct, fun c dx _ H => E c dx H⟩ (defBody st) c) : FnOk P w K mg base (L2.CX P w) (k + 1) f fd ps (spP K ct n (fnP c j)) := by
  refine F.okX S (fun vs H Q E h => ?_) (fun cdv A outer s H vs Q E hr h => ?_)
  · obtain ⟨J, ds, _, r, hl, _⟩ := h
    rw [dps_len r, hl, hn]
  · obtain ⟨J, ds, sJ, r, hl, hp⟩ := h
    refine ⟨_, hb cdv A outer s H E hr, ⟨fun a => ∃ o, H a = some o, H, J, none⟩, J, ds.map SV.d ++ List.replicate j .un, ?_, ?_⟩
    · have hst : L2.start N vs = vs.map some ++ List.replicate j none := by
        unfold L2.start
        rw [hj, dps_len r, hl]
        congr 2
        omega
      rw [hst]
      exact er_start j sJ r
    · unfold fnP at hp
      cases hc : c (ds.map SV.d ++ List.replicate j .un) with
      | nx ρ => rw [hc] at hp; exact fun σ J' H' _ e => hp _ J' H' (grow_end e) .non
      | rt d ρ => rw [hc] at hp; exact fun v σ J' H' _ r e => hp v J' H' (grow_end e) r
      | ro o ρ =>
        rw [hc] at hp
        refine fun a r σ J' H' _ ho hb e => hp a r J' H' (grow_end e) ho fun b hb' => ⟨(hb b hb').1, ?_⟩
        cases hH : H b with
        | none => rfl
        | some u => exact absurd ⟨u, hH⟩ (hb b hb').2
      | exc ev ρ => rw [hc] at hp; exact fun c dx σ J' H' _ x e => hp c dx J' H' (grow_end e) (x.ct rfl)
      | bk ρ => rw [hc] at hp; exact hp.elim
      | ct ρ => rw [hc] at hp; exact hp.elim
      | bad => rw [hc] at hp; exact hp.elim
end
end DL

namespace DL
open PySem PySem.Spec L2

/-! ### functions that change an object of the caller's -/
inductive OO where
  | ret (d : D) (o : Own)
  | exc (e : EV) (o : Own)
  | bad
structure GrowO (J H J' H' : Hp) (ft : List Addr) : Prop where
  j : Same J J'
  jh : Same J' H'
  old : ∀ a o, a ∉ ft → H a = some o → H' a = some o ∧ J' a = J a
def OOk (K : Fg) (Y : Yx) (J H : Hp) (a : Addr) (r : List Addr) (o : OO) (Q : VK) (E : XK) : Prop := match o with
  | .ret d o' => ∀ v J' H' r', GrowO J H J' H' (a :: r) → OwnAt K J' H' o' (a :: r') → (∀ b ∈ a :: r', J' b = none ∧ (b ∈ a :: r ∨ H b = none)) → Rp K J' v d → Q v H'
  | .exc e o' => ∀ c dx J' H' r', GrowO J H J' H' (a :: r) → OwnAt K J' H' o' (a :: r') → (∀ b ∈ a :: r', J' b = none ∧ (b ∈ a :: r ∨ H b = none)) → ExcAt Y K J' H' e c dx → E c dx H'
  | .bad => False
def spO (K : Fg) (ct : String → Option Value) (n : Nat) (m : Own → List D → OO) : Sp := fun vs H Q E => ∃ J a r us o ds, vs = .ref a :: us ∧ Same J H ∧ OwnAt K J H o (a :: r) ∧ (∀ b ∈ a :: r, J b = none) ∧ RpAll K J us ds ∧ ds.length = n ∧
  OOk K ⟨ct, fun _ _ _ _ => True⟩ J H a r (m o ds) Q E
section
variable {K : Fg} {G : Gd} {J H J' H' : Hp} {σ : L2.St} {ρ : Env}
theorem own_foot {i : Nat} {fx : Bool} {o : Own} (e : ER K G J H σ ρ) (hi : ρ[i]? = some (.own fx o)) : ∃ a r, σ[i]? = some (some (.ref a)) ∧ OwnAt K J H o (a :: r) ∧ ∀ b ∈ a :: r, J b = none := by
  obtain ⟨fs, hs, ap, q⟩ := e.ft
  obtain ⟨y, f, e1, e2, so⟩ := hs.get hi
  cases so with
  | own ho => exact ⟨_, _, e1, ho, fun b hb => (q _ (List.mem_of_getElem? e2) b hb).1⟩
theorem OwnAt.foot {o : Own} {a : Addr} {r r' : List Addr} (h : OwnAt K J H o (a :: r)) (h' : OwnAt K J H o (a :: r')) : r = r' := by
  cases o with
  | dct kvs =>
    obtain ⟨_, _, e, _⟩ := h
    obtain ⟨_, _, e', _⟩ := h'
    injection e with _ e1
    injection e' with _ e2
    rw [e1, e2]
  | dctT kvs =>
    obtain ⟨_, _, e, _⟩ := h
    obtain ⟨_, _, e', _⟩ := h'
    injection e with _ e1
    injection e' with _ e2
    rw [e1, e2]
  | obj c fs =>
    obtain ⟨_, _, _, _, e, _⟩ := h
    obtain ⟨_, _, _, _, e', _⟩ := h'
    injection e with _ e1
    injection e' with _ e2
    rw [e1, e2]
  | lst xs =>
    obtain ⟨_, _, e, _⟩ := h
    obtain ⟨_, _, e', _⟩ := h'
    injection e with _ e1
    injection e' with _ e2
    rw [e1, e2]
  | tape cs sd =>
    obtain ⟨a1, b1, e, _, q1, _⟩ := h
    obtain ⟨a2, b2, e', _, q2, _⟩ := h'
    injection e with x1 e1
    injection e' with x2 e2
    rw [e1, e2]
    subst x1 x2
    rw [q1] at q2
    injection q2 with q2
    injection q2 with q2
    injection q2 with q2
    injection q2 with q2
    rw [q2]
  | tapB b cs sd =>
    obtain ⟨a1, e, _⟩ := h
    obtain ⟨a2, e', _⟩ := h'
    injection e with x1 e1
    injection e' with x2 e2
    rw [e1, e2]
/-- behind a call that changed the object of slot i -/
theorem ER.callO {i : Nat} {fx : Bool} {o o' : Own} {a : Addr} {r r' : List Addr} (e : ER K G J H σ ρ) (hi : ρ[i]? = some (.own fx o)) (hs : σ[i]? = some (some (.ref a))) (ho : OwnAt K J H o (a :: r)) (g : GrowO J H J' H' (a :: r)) (ho' : OwnAt K J' H' o' (a :: r'))
    (hf : ∀ b ∈ a :: r', J' b = none ∧ (b ∈ a :: r ∨ H b = none)) : ER K G J' H' σ (ρ.set i (.own fx o')) := by
  obtain ⟨fs, h, ap, q⟩ := e.ft
  obtain ⟨x, f, e1, e2, so⟩ := h.get hi
  rw [hs] at e1
  cases e1
  cases so with
  | own ho1 =>
  rename_i r1
  have er := ho1.foot ho
  subst er
  have qf := q _ (List.mem_of_getElem? e2)
  have other : ∀ j f, j ≠ i → fs[j]? = some f → ∀ b ∈ f, b ∉ a :: r1 := fun j f hj ef b hb hm => hj (ap j i f _ b ef e2 hb hm)
  have key : ∀ (σ : List (Option V)) (ρ : List SV) (fs : List (List Addr)) (i : Nat), SlsOk K J H σ ρ fs → ρ[i]? = some (.own fx o) → σ[i]? = some (some (.ref a)) → (∀ j f, j ≠ i → fs[j]? = some f → ∀ b ∈ f, b ∉ a :: r1) →
      SlsOk K J' H' σ (ρ.set i (.own fx o')) (fs.set i (a :: r')) := by
    intro σ ρ fs i h
    induction h generalizing i with
    | nil => intro e; simp at e
    | @cons x s f xs ss fs h t ih =>
      intro e1 e2 e4
      cases i with
      | zero =>
        simp at e1 e2
        subst e1 e2
        refine .cons (.own ho') (t.keep g.j fun f2 hf2 b hb u hu => (g.old b u ?_ hu).1)
        obtain ⟨k, hk, hk2⟩ := List.getElem_of_mem hf2
        exact e4 (k + 1) f2 (by omega) (by simp [hk, hk2]) b hb
      | succ i =>
        refine .cons (h.keep g.j fun b hb u hu => (g.old b u (e4 0 f (by omega) rfl b hb) hu).1) (ih i (by simpa using e1) (by simpa using e2) fun j f2 hj hf2 => e4 (j + 1) f2 (by omega) (by simpa using hf2))
  refine ⟨g.jh, e.j0.trans g.j, fun b hb => ?_, e.pn, ⟨fs.set i (a :: r'), key σ ρ fs i h hi hs other, ap.set i fun j f2 hj ef b hb hm => ?_, fun f2 hf2 b hb => ?_⟩, fun j b hj => ?_⟩
  · obtain ⟨u, hu⟩ := e.pn b hb
    obtain ⟨k1, k2⟩ := e.keep b hb
    obtain ⟨g1, g2⟩ := g.old b u (fun z => (qf b z).2 hb) (k1.trans hu)
    exact ⟨g1.trans hu.symm, g2.trans k2⟩
  · rcases (hf b hb).2 with z | z
    · exact other j f2 hj ef b hm z
    · obtain ⟨u, hu⟩ := h.known f2 (List.mem_of_getElem? ef) b hm
      rw [z] at hu
      cases hu
  · obtain ⟨k, hk, hk2⟩ := List.getElem_of_mem hf2
    by_cases z : k = i
    · subst z
      rw [List.getElem_set_self] at hk2
      subst hk2
      refine ⟨(hf b hb).1, fun hP => ?_⟩
      rcases (hf b hb).2 with z | z
      · exact (qf b z).2 hP
      · obtain ⟨u, hu⟩ := e.pn b hP
        rw [(e.keep b hP).1, hu] at z
        cases z
    · rw [List.length_set] at hk
      rw [List.getElem_set_ne (Ne.symm z)] at hk2
      have hfk : fs[k]? = some f2 := by rw [List.getElem?_eq_getElem hk, hk2]
      obtain ⟨u, hu⟩ := h.known f2 (List.mem_of_getElem? hfk) b hb
      exact ⟨(g.old b u (other k f2 z hfk b hb) hu).2.trans (q f2 (List.mem_of_getElem? hfk) b hb).1, (q f2 (List.mem_of_getElem? hfk) b hb).2⟩
  · obtain ⟨f1, o1, f2⟩ := e.fx j b hj
    refine ⟨f1, ?_⟩
    by_cases hij : i = j
    · subst hij
      rw [hi] at f2
      cases f2
      exact ⟨o', by rw [List.getElem?_set_self (List.getElem?_eq_some_iff.mp hi).1]⟩
    · rw [List.getElem?_set_ne hij]
      exact ⟨o1, f2⟩
end
@[simp] def eCallO (i n : Nat) (m : Own → List D → OO) (fa : Env → Out (List VV)) (ρ : Env) : Out VV := match ρ[i]? with
  | some (.own _ _) => (fa ρ).bind fun xs ρ1 => match vals xs, ρ1[i]? with
    | some ds, some (.own fx o) => if ds.length = n then (match m o ds with
      | .ret d o' => .ok (.val d) (ρ1.set i (.own fx o'))
      | .exc e o' => .exc e (ρ1.set i (.own fx o'))
      | .bad => .bad) else .bad
    | _, _ => .bad
  | _ => .bad
section
variable {X : Cx} {Y : Yx} {a b c e : Expr} {pos : Pos}
theorem de_callO (i : Nat) {m : Own → List D → OO} {n k : Nat} {f : Addr} {fd : FuncData} {ps : List Str} {x y : Str} {es : List Expr} {fa : Env → Out (List VV)} {p py : Pos} (F : FnOk X.prog X.w X.K X.mg X.base (L2.CX X.prog X.w) k f fd ps (spO X.K Y.ct n m)) (hr : Room k X.A)
    (hm : X.mg x = some (.ref f)) (hk : PySem.W.keepIn X.K (.ref f) = true) (hb : Binds X.K fd ps []) (tk : Takes' X Y) (ha : DA X Y es fa) (hg : Gl X x := by rfl) (hN : X.N[i]? = some y := by rfl)
    (hv : Vis X.env.scope y := by first | exact Or.inl rfl | exact Or.inr (Or.inl rfl) | exact Or.inr (Or.inr rfl)) (hd : (y == ("__debug__" : Str)) = false := by decide) (hcd : (y == ("__classdict__" : Str)) = false := by decide) (hdb : (x == ("__debug__" : Str)) = false := by decide)
    (he : starEach (.Name y py :: es) X.env = (false, eval (.Name y py) X.env) :: starEach es X.env := by rfl) (hpl : (backTo pos (starEach es X.env)).any (·.1) = false := by rfl) : DE X Y (.Call (.Name x p) (.Name y py :: es) [] pos) (eCallO i n m fa) := by
  refine PE.imp (pe_callS F hr hg hm hk hb tk (pa_cons (pe_var (i := i) hN hv hd hcd) ha he) hdb he hpl) fun σ H Q ⟨G, J, ρ, er, h⟩ => ?_
  unfold eCallO at h
  split at h
  · rename_i fx0 o0 hi0
    obtain ⟨a0, r0, h1, _, _⟩ := own_foot er hi0
    refine ⟨_, h1, G, J, ρ, er, Post.bind h fun xs ρ1 vs J1 H1 s1 r1 e1 hp => ?_⟩
    split at hp
    · rename_i ds fx o hds hi
      split at hp
      · rename_i hl
        obtain ⟨a, r, k1, k2, k3⟩ := own_foot e1 hi
        rw [h1] at k1
        cases k1
        refine ⟨J1, a0, r, vs, o, ds, rfl, e1.ex, k2, k3, vals_ok r1 hds, hl, ?_⟩
        cases hm : m o ds with
        | ret d o' =>
          rw [hm] at hp
          exact fun v J' H' r' g ho' hf rv => hp v J' H' g.j rv (e1.callO hi h1 k2 g ho' hf)
        | exc ev o' =>
          rw [hm] at hp
          exact fun c dx J' H' r' g ho' hf hx => hp c dx J' H' g.j (hx.ct rfl) (e1.callO hi h1 k2 g ho' hf)
        | bad =>
          rw [hm] at hp
          exact hp.elim
      · exact hp.elim
    · exact hp.elim
  · exact h.elim
end
/-- a body, run from its arguments, the first an object of the caller's -/
def fnO (c : SC) (k : Nat) : Own → List D → OO := fun o ds => match c (.own true o :: (ds.map SV.d ++ List.replicate k .un)) with
  | .nx ρ => match (ρ[0]? : Option SV) with
    | some (SV.own true o') => OO.ret .none o'
    | _ => OO.bad
  | .rt d ρ => match (ρ[0]? : Option SV) with
    | some (SV.own true o') => OO.ret d o'
    | _ => OO.bad
  | .exc e ρ => match (ρ[0]? : Option SV) with
    | some (SV.own true o') => OO.exc e o'
    | _ => OO.bad
  | _ => OO.bad
theorem er_startO {K : Fg} {J H : Hp} {a : Addr} {r : List Addr} {o : Own} {vs : List V} {ds : List D} (k : Nat) (s : Same J H) (ho : OwnAt K J H o (a :: r)) (hn : ∀ b ∈ a :: r, J b = none) (rv : RpAll K J vs ds) :
    ER K ⟨fun b => (∃ u, H b = some u) ∧ b ∉ a :: r, H, J, some (0, a)⟩ J H (some (.ref a) :: (vs.map some ++ List.replicate k none)) (.own true o :: (ds.map SV.d ++ List.replicate k .un)) := by
  refine ⟨s, .refl J, fun b _ => ⟨rfl, rfl⟩, fun b h => h.1, ⟨_, .cons (.own ho) (sls_start k rv), fun i j f g b h1 h2 hb hb2 => ?_, fun f hf b hb => ?_⟩, fun i b h => ?_⟩
  · cases i with
    | zero =>
      cases j with
      | zero => rfl
      | succ j =>
        rw [List.eq_of_mem_replicate (List.mem_of_getElem? (show (List.replicate (ds.length + k) ([] : List Addr))[j]? = some g from h2))] at hb2
        cases hb2
    | succ i =>
      rw [List.eq_of_mem_replicate (List.mem_of_getElem? (show (List.replicate (ds.length + k) ([] : List Addr))[i]? = some f from h1))] at hb
      cases hb
  · rcases List.mem_cons.mp hf with rfl | hf
    · exact ⟨hn b hb, fun z => z.2 hb⟩
    · rw [List.eq_of_mem_replicate hf] at hb
      cases hb
  · cases h
    exact ⟨rfl, o, rfl⟩
theorem end_O {K : Fg} {J H J' H' : Hp} {a : Addr} {r : List Addr} {σ : L2.St} {ρ : Env} {o' : Own} (e : ER K ⟨fun b => (∃ u, H b = some u) ∧ b ∉ a :: r, H, J, some (0, a)⟩ J' H' σ ρ) (h0 : ρ[0]? = some (.own true o')) :
    ∃ r', GrowO J H J' H' (a :: r) ∧ OwnAt K J' H' o' (a :: r') ∧ ∀ b ∈ a :: r', J' b = none ∧ (b ∈ a :: r ∨ H b = none) := by
  obtain ⟨fs, h, ap, q⟩ := e.ft
  obtain ⟨x, f, e1, e2, so⟩ := h.get h0
  obtain ⟨f1, _⟩ := e.fx 0 a rfl
  rw [f1] at e1
  cases e1
  cases so with
  | own ho =>
    refine ⟨_, ⟨e.j0, e.ex, fun b u hb hu => ?_⟩, ho, fun b hb => ?_⟩
    · obtain ⟨k1, k2⟩ := e.keep b ⟨⟨u, hu⟩, hb⟩
      exact ⟨k1.trans hu, k2⟩
    · obtain ⟨q1, q2⟩ := q _ (List.mem_of_getElem? e2) b hb
      refine ⟨q1, ?_⟩
      by_cases z : b ∈ a :: r
      · exact .inl z
      · refine .inr ?_
        cases hb2 : H b with
        | none => rfl
        | some u => exact absurd ⟨⟨u, hb2⟩, z⟩ q2
section
variable {P : Program} {w : World} {K : Fg} {mg : Str → Option Value} {base : Heap}
theorem fn_o {x qual : Str} {st : Stmt} {f : Addr} {fd : FuncData} {N ps : List Str} {k j n : Nat} {c : SC} {ct : String → Option Value} (F : Fun K x qual st f fd) (S : FnScope N ps (defScope st)) (hn : ps.length = n + 1) (hj : N.length = n + 1 + j)
    (hb : ∀ (cdv : Value) (A : Around) (outer : List PySem.Env) (s : Shared) (H : Hp) (E : XK), Room k (A.deeper (PyProof.Rows.envOfC qual (defScope st) s.heap.objs.size f cdv)) →
      DSs (cxOf (L2.CX P w) P w K mg base N qual (defScope st) f cdv A outer s H E) ⟨ct, fun c dx _ H => E c dx H⟩ (defBody st) c) : FnOk P w K mg base (L2.CX P w) (k + 1) f fd ps (spO K ct n (fnO c j)) := by
  refine F.okX S (fun vs H Q E h => ?_) (fun cdv A outer s H vs Q E hr h => ?_)
  · obtain ⟨J, a, r, us, o, ds, rfl, _, _, _, rv, hl, _⟩ := h
    rw [List.length_cons, dps_len rv, hl, hn]
  · obtain ⟨J, a, r, us, o, ds, rfl, sJ, ho, hn0, rv, hl, hp⟩ := h
    refine ⟨_, hb cdv A outer s H E hr, ⟨fun b => (∃ u, H b = some u) ∧ b ∉ a :: r, H, J, some (0, a)⟩, J, .own true o :: (ds.map SV.d ++ List.replicate j .un), ?_, ?_⟩
    · have hst : L2.start N (.ref a :: us) = some (.ref a) :: (us.map some ++ List.replicate j none) := by
        unfold L2.start
        rw [hj, List.length_cons, dps_len rv, hl, List.map_cons, List.cons_append]
        congr 3
        omega
      rw [hst]
      exact er_startO j sJ ho hn0 rv
    · unfold fnO at hp
      cases hc : c (.own true o :: (ds.map SV.d ++ List.replicate j .un)) with
      | nx ρ =>
        rw [hc] at hp
        intro σ J' H' _ e
        dsimp only at hp
        split at hp
        · rename_i o' h0
          obtain ⟨r', g, h1, h2⟩ := end_O e h0
          exact hp _ J' H' r' g h1 h2 .non
        · exact hp.elim
      | rt d ρ =>
        rw [hc] at hp
        intro v σ J' H' _ rv' e
        dsimp only at hp
        split at hp
        · rename_i o' h0
          obtain ⟨r', g, h1, h2⟩ := end_O e h0
          exact hp _ J' H' r' g h1 h2 rv'
        · exact hp.elim
      | exc ev ρ =>
        rw [hc] at hp
        intro c dx σ J' H' _ hx e
        dsimp only at hp
        split at hp
        · rename_i o' h0
          obtain ⟨r', g, h1, h2⟩ := end_O e h0
          exact hp c dx J' H' r' g h1 h2 (hx.ct rfl)
        · exact hp.elim
      | bk ρ => rw [hc] at hp; exact hp.elim
      | ct ρ => rw [hc] at hp; exact hp.elim
      | bad => rw [hc] at hp; exact hp.elim
      | ro o ρ => rw [hc] at hp; exact hp.elim
end

/-! ### a function as the first argument -/
def spF (K : Fg) (ct : String → Option Value) (a : Addr) (n : Nat) (m : List D → FO) : Sp := fun vs H Q E => ∃ us, vs = .ref a :: us ∧ spP K ct n m us H Q E
def fnF (c : SC) (a : Addr) (k : Nat) : List D → FO := fun ds => match c (.rf a :: (ds.map SV.d ++ List.replicate k .un)) with
  | .nx _ => .ret .none
  | .rt d _ => .ret d
  | .exc e _ => .exc e
  | _ => .bad
@[simp] def eCallL (i : Nat) (a : Addr) (n : Nat) (m : List D → FO) (fa : Env → Out (List VV)) (ρ : Env) : Out VV := match ρ[i]? with
  | some (.rf a') => if a' = a then eCall n m fa ρ else .bad
  | _ => .bad
section
variable {X : Cx} {Y : Yx} {a b c e : Expr} {pos : Pos}
theorem call_fin {m : List D → FO} {n : Nat} {fa : Env → Out (List VV)} : ∀ σ H Q, tE X.K Y (eCall n m fa) σ H Q → tA X.K Y fa σ H (fun vs H1 => spP X.K Y.ct n m vs H1 Q (WE Y.W σ)) := fun σ H Q ⟨G, J, ρ, er, h⟩ => by
  refine ⟨G, J, ρ, er, ?_⟩
  unfold eCall at h
  refine Post.bind h fun xs ρ1 vs J1 H1 s1 r1 e1 h1 => ?_
  split at h1
  · rename_i ds hds
    split at h1
    · rename_i hl
      refine ⟨J1, ds, e1.ex, vals_ok r1 hds, hl, ?_⟩
      cases hm : m ds with
      | ret d =>
        rw [hm] at h1
        exact fun v J' H' gr r => h1.grow e1 gr r
      | exc ev =>
        rw [hm] at h1
        exact fun c dx J' H' gr r => h1 c dx J' H' gr.j (r.ct rfl) (e1.grow gr)
      | bad =>
        rw [hm] at h1
        exact h1.elim
      | own o =>
        rw [hm] at h1
        exact h1.elim
    · exact h1.elim
  · exact h1.elim
/-- g(h, e, ..), h a def of the text -/
theorem de_callF {m : List D → FO} {n k : Nat} {f h : Addr} {fd : FuncData} {ps : List Str} {x y : Str} {es : List Expr} {fa : Env → Out (List VV)} {p py : Pos} (F : FnOk X.prog X.w X.K X.mg X.base (L2.CX X.prog X.w) k f fd ps (spF X.K Y.ct h n m)) (hr : Room k X.A)
    (hm : X.mg x = some (.ref f)) (hk : PySem.W.keepIn X.K (.ref f) = true) (hb : Binds X.K fd ps []) (tk : Takes' X Y) (hmy : X.mg y = some (.ref h)) (ha : DA X Y es fa) (hg : Gl X x := by rfl) (hgy : Gl X y := by rfl) (hdb : (x == ("__debug__" : Str)) = false := by decide)
    (hdy : (y == ("__debug__" : Str)) = false := by decide) (he : starEach (.Name y py :: es) X.env = (false, eval (.Name y py) X.env) :: starEach es X.env := by rfl) (hpl : (backTo pos (starEach es X.env)).any (·.1) = false := by rfl) :
    DE X Y (.Call (.Name x p) (.Name y py :: es) [] pos) (eCall n m fa) :=
  PE.imp (pe_callS F hr hg hm hk hb tk (pa_cons (pe_glob (v := .ref h) hgy hmy rfl hdy) ha he) hdb he hpl) fun σ H Q h1 => by
    obtain ⟨G, J, ρ, er, h2⟩ := call_fin σ H Q h1
    refine ⟨G, J, ρ, er, ?_⟩
    cases hf : fa ρ with
    | ok xs ρ1 =>
      rw [hf] at h2
      exact fun v J' H' s r e => ⟨v, rfl, h2 v J' H' s r e⟩
    | exc ev ρ1 => rw [hf] at h2; exact h2
    | bad => rw [hf] at h2; exact h2
/-- a parameter that holds a def is called -/
theorem pe_callLS {CX : CXT} {k i : Nat} {f : Addr} {fd : FuncData} {ps : List Str} {sp : Sp} {E : L2.St → XK} {x : Str} {p : Pos} {es : List Expr} {t : TA} (F : FnOk X.prog X.w X.K X.mg X.base CX k f fd ps sp) (hr : Room k X.A) (hN : X.N[i]? = some x) (hv : Vis X.env.scope x)
    (hk : PySem.W.keepIn X.K (.ref f) = true) (hb : Binds X.K fd ps []) (hx : ∀ σ, PassesAt CX X σ (E σ)) (ha : PA X (e :: es) t) (hdb : (x == ("__debug__" : Str)) = false) (hcd : (x == ("__classdict__" : Str)) = false)
    (he : starEach (e :: es) X.env = (false, eval e X.env) :: starEach es X.env) (hpl : (backTo pos (starEach es X.env)).any (·.1) = false) : PE X (.Call (.Name x p) (e :: es) [] pos) (fun σ H Q => σ[i]? = some (some (.ref f)) ∧ t σ H fun vs H1 => sp vs H1 Q (E σ)) := by
  refine ⟨fun pins s σ H Q I ⟨hs, ht⟩ => wpAny_Call_Name_kw (thn ((pe_var (pos := p) hN hv hdb hcd).run pins s σ H (fun v H1 => v = .ref f ∧ H1 = H) I ⟨.ref f, hs, rfl, rfl⟩) fun u s1 ⟨v, H1, I1, r1, q1⟩ => ?_)⟩
  obtain ⟨rfl, rfl⟩ := q1
  cases r1
  exact PySem.W.callWith_K (h₀ := X.base) I.ok.mod.kin hk (thn (ha.run pos pins s1 σ _ _ I1 ht) fun us s2 ⟨vs, H2, I2, r, q⟩ => ⟨I2.kIn, run_fnS F hr hb (hx σ) I2 r q⟩) he hpl
theorem de_callL (i : Nat) {m : List D → FO} {n k : Nat} {f : Addr} {fd : FuncData} {ps : List Str} {x : Str} {es : List Expr} {fa : Env → Out (List VV)} {p : Pos} (F : FnOk X.prog X.w X.K X.mg X.base (L2.CX X.prog X.w) k f fd ps (spP X.K Y.ct n m)) (hr : Room k X.A)
    (hk : PySem.W.keepIn X.K (.ref f) = true) (hb : Binds X.K fd ps []) (tk : Takes' X Y) (ha : DA X Y (e :: es) fa) (hN : X.N[i]? = some x := by rfl) (hv : Vis X.env.scope x := by first | exact Or.inl rfl | exact Or.inr (Or.inl rfl) | exact Or.inr (Or.inr rfl))
    (hdb : (x == ("__debug__" : Str)) = false := by decide) (hcd : (x == ("__classdict__" : Str)) = false := by decide) (he : starEach (e :: es) X.env = (false, eval e X.env) :: starEach es X.env := by rfl) (hpl : (backTo pos (starEach es X.env)).any (·.1) = false := by rfl) :
    DE X Y (.Call (.Name x p) (e :: es) [] pos) (eCallL i f n m fa) := by
  refine PE.imp (pe_callLS F hr hN hv hk hb tk ha hdb hcd he hpl) fun σ H Q ⟨G, J, ρ, er, h⟩ => ?_
  unfold eCallL at h
  split at h
  · rename_i a' hi
    split at h
    · rename_i ea
      subst ea
      obtain ⟨fs, hs, _⟩ := er.ft
      obtain ⟨y, fo, e1, _, so⟩ := hs.get hi
      cases so
      exact ⟨e1, call_fin σ H Q ⟨G, J, ρ, er, h⟩⟩
    · exact h.elim
  · exact h.elim
end
section
variable {P : Program} {w : World} {K : Fg} {mg : Str → Option Value} {base : Heap}
theorem fn_f {x qual : Str} {st : Stmt} {f a : Addr} {fd : FuncData} {N ps : List Str} {k j n : Nat} {c : SC} {ct : String → Option Value} (F : Fun K x qual st f fd) (S : FnScope N ps (defScope st)) (hn : ps.length = n + 1) (hj : N.length = n + 1 + j)
    (hb : ∀ (cdv : Value) (A : Around) (outer : List PySem.Env) (s : Shared) (H : Hp) (E : XK), Room k (A.deeper (PyProof.Rows.envOfC qual (defScope st) s.heap.objs.size f cdv)) →
      DSs (cxOf (L2.CX P w) P w K mg base N qual (defScope st) f cdv A outer s H E) ⟨ct, fun c dx _ H => E c dx H⟩ (defBody st) c) : FnOk P w K mg base (L2.CX P w) (k + 1) f fd ps (spF K ct a n (fnF c a j)) := by
  refine F.okX S (fun vs H Q E h => ?_) (fun cdv A outer s H vs Q E hr h => ?_)
  · obtain ⟨us, rfl, J, ds, _, r, hl, _⟩ := h
    rw [List.length_cons, dps_len r, hl, hn]
  · obtain ⟨us, rfl, J, ds, sJ, r, hl, hp⟩ := h
    have er := er_start (H := H) j sJ r
    refine ⟨_, hb cdv A outer s H E hr, ⟨fun a => ∃ o, H a = some o, H, J, none⟩, J, .rf a :: (ds.map SV.d ++ List.replicate j .un), ?_, ?_⟩
    · have hst : L2.start N (.ref a :: us) = some (.ref a) :: (us.map some ++ List.replicate j none) := by
        unfold L2.start
        rw [hj, List.length_cons, dps_len r, hl, List.map_cons, List.cons_append]
        congr 3
        omega
      rw [hst]
      refine ⟨er.ex, er.j0, er.keep, er.pn, ⟨_, .cons (.rf a) (sls_start j r), fun i k f g b h1 h2 hb _ => ?_, fun f hf b hb => ?_⟩, fun i b h => nomatch h⟩
      · cases i with
        | zero => cases h1; cases hb
        | succ i =>
          rw [List.eq_of_mem_replicate (List.mem_of_getElem? (show (List.replicate (ds.length + j) ([] : List Addr))[i]? = some f from h1))] at hb
          cases hb
      · rcases List.mem_cons.mp hf with rfl | hf
        · cases hb
        · rw [List.eq_of_mem_replicate hf] at hb
          cases hb
    · unfold fnF at hp
      cases hc : c (.rf a :: (ds.map SV.d ++ List.replicate j .un)) with
      | nx ρ => rw [hc] at hp; exact fun σ J' H' _ e => hp _ J' H' (grow_end e) .non
      | rt d ρ => rw [hc] at hp; exact fun v σ J' H' _ r e => hp v J' H' (grow_end e) r
      | exc ev ρ => rw [hc] at hp; exact fun c dx σ J' H' _ x e => hp c dx J' H' (grow_end e) (x.ct rfl)
      | bk ρ => rw [hc] at hp; exact hp.elim
      | ct ρ => rw [hc] at hp; exact hp.elim
      | bad => rw [hc] at hp; exact hp.elim
      | ro o ρ => rw [hc] at hp; exact hp.elim
end

/-! ### raise and try -/
@[simp] def sRaise (x : String) (ρ : Env) : SO := .exc ⟨x, []⟩ ρ
/-- an own exception class without an __init__ -/
structure ExC (K : Fg) (mg : Str → Option Value) (x : Str) (C : Addr) : Prop where
  g : mg x = some (.ref C)
  q : PySem.W.excIn K C [.type "ValueError", .type "Exception", .type "BaseException", .type "object"] "ValueError.__new__" = true
  k : PySem.W.keepIn K (.ref C) = true
  s : PySem.W.subIn K (.ref C) (.type "BaseException") = some true
  t : PySem.W.typeIn K (.ref C) = some (.type "type")
section
variable {X : Cx} {Y : Yx} {a b c e : Expr} {pos : Pos}
theorem pmk_own0 {C : Addr} {x : Str} {p : Pos} (T : ExC X.K X.mg x C) (hg : Gl X x) (hdb : (x == ("__debug__" : Str)) = false) : PMk X (.Call (.Name x p) [] [] pos) (fun _ H Q => Q (.ref C) none H) := by
  intro pins s σ H Q I h
  refine wpAny_Call_Name_kw (ld_glob I hg T.g (PySem.W.callWith_K0 I.kIn T.k ?_) hdb)
  obtain ⟨bm, N, nm, qn, bs, hdct, sn, sub, ab, col, dd, k0, k1, k2, k3, k5, mN, hC, hN, hni, hT⟩ := exc_obj I.kIn T.q
  exact wpAny_call_exc_subT PySem.F.excBase_ValueError hT hC hN hni (fun h' e hm => mk_of I hm (raises_own T.s T.t) h (I.hok.gone hm.new)) (Nat.zero_le _)
theorem ds_raise0 {C : Addr} {x : String} {p rpos : Pos} (T : ExC X.K X.mg (x : Str) C) (hct : Y.ct x = some (.ref C)) (hc : X.calm = true) (tk : Takes X Y.W) (hg : Gl X (x : Str) := by rfl) (hdb : ((x : Str) == ("__debug__" : Str)) = false := by decide) :
    DS X Y (.Raise (some (.Call (.Name (x : Str) p) [] [] pos)) none rpos) (sRaise x) :=
  PS.imp (ps_raise hc tk (pmk_own0 T hg hdb)) fun D σ H ⟨G, J, ρ, er, h⟩ => h _ _ σ J H (.refl J) ⟨hct, .inl ⟨rfl, rfl⟩⟩ er
/-- the classes that the clauses of a text catch -/
structure SubT (K : Fg) (ct : String → Option Value) (sub : String → String → Bool) : Prop where
  ok : ∀ x y c d, ct x = some c → ct y = some d → PySem.W.exmOne K c d = some (sub x y)
@[simp] def noExc : SO → SO
  | .exc _ _ => .bad
  | o => o
@[simp] def sTry (sub : String → String → Bool) (x : String) (cb cs : SC) (ρ : Env) : SO := match cb ρ with
  | .exc e ρ1 => if sub e.cls x = true then noExc (cs ρ1) else .exc e ρ1
  | o => o
theorem spost_no {K : Fg} {G : Gd} {J : Hp} {o : SO} {D : Ends} {Y : Yx} (h : SPost K Y G J (noExc o) D) : SPost K Y.no G J o D := by
  cases o with
  | exc e ρ => exact h.elim
  | nx ρ => exact h
  | rt d ρ => exact h
  | ro o ρ => exact h
  | bk ρ => exact h
  | ct ρ => exact h
  | bad => exact h
theorem ds_try {x : String} {c : Value} {sub : String → String → Bool} {body suite : List Stmt} {b₀ : Stmt} {np pos' : Pos} {cb cs : SC} (T : SubT X.K Y.ct sub) (hct : Y.ct x = some c) (hm : X.mg (x : Str) = some c) (hs : X.stack = X.env :: X.outer) (hf : X.env.frame = some X.env.locals) (tk : Takes X Y.W)
    (hb : ∀ (W : WX) (pn : List (Addr × Obj)) (xe : Value → Shared → Prop), Takes (X.tr pn xe) W → PassesOwn (model X.prog X.w) X.A X.env xe → DSs (X.tr pn xe) ⟨Y.ct, W⟩ body cb)
    (hsu : ∀ (a : Addr) (oe : Obj) (pn : List (Addr × Obj)), DSs (X.suite a ((a, oe) :: pn)) Y.no (b₀ :: suite) cs) (hg : Gl X (x : Str) := by rfl) (hdb : ((x : Str) == ("__debug__" : Str)) = false := by decide) :
    DS X Y (.Try body [.ExceptHandler (some (.Name (x : Str) np)) none (b₀ :: suite) pos'] [] [] pos) (sTry sub x cb cs) := by
  refine PS.imp (ps_try_only (tb := fun W => tS X.K ⟨Y.ct, W⟩ cb) (ts := fun _ _ _ => tS X.K Y.no cs) hs hf ⟨hg, hdb, .inl hm⟩ tk hb (fun a oe cls d pn _ _ => hsu a oe pn)) fun D σ H ⟨G, J, ρ, er, h⟩ => ⟨G, J, ρ, er, ?_⟩
  unfold sTry at h
  cases hc : cb ρ with
  | nx ρ1 => rw [hc] at h; exact h
  | rt d ρ1 => rw [hc] at h; exact h
  | ro o ρ1 => rw [hc] at h; exact h
  | bk ρ1 => rw [hc] at h; exact h
  | ct ρ1 => rw [hc] at h; exact h
  | bad => rw [hc] at h; exact h
  | exc ev ρ1 =>
    rw [hc] at h
    intro c1 dx σ1 J1 H1 s1 hx e1
    have h : SPost X.K Y G J (if sub ev.cls x = true then noExc (cs ρ1) else .exc ev ρ1) D := h
    refine ⟨sub ev.cls x, T.ok _ _ _ _ hx.1 hct, fun hy a _ => ?_, fun hn => ?_⟩
    · rw [if_pos hy] at h
      exact ⟨G, J1, ρ1, e1, spost_no (SPost.mono s1 h)⟩
    · rw [if_neg (by rw [hn]; exact Bool.false_ne_true)] at h
      exact h c1 dx σ1 J1 H1 s1 (hx.ct rfl) e1
end
end DL

/-! enumerate over a tuple, a text -/
namespace PySem
open AutoSeq1 (wpAny_loadPart')
theorem dl_enumB {v : Value} {o : Obj} {H : Heap → Prop} (B : Begins v o H) :
    Meets (Builtin.«enumerate.__new__» ⟨[.type "enumerate", v], []⟩) (fun _ R s => H s.heap ∧
      R (.ok (.ret (.ref (s.heap.push o).objs.size))) { s with heap := (s.heap.push o).push { cls := .type "enumerate", data := .fields #[.none, .bool false, .ref s.heap.objs.size, rawInt 0, .none, .none] } }) :=
  .of_wp fun prog w A R s h => by
    obtain ⟨hp, g, d, tk, os⟩ := s; obtain ⟨h1, h⟩ := h
    have hsub := sub_enumerate
    have q1 : ∀ {A' : Around} {E : Value → Shared → Prop} {Q : Value → Shared → Prop}, Q (.ref hp.objs.size) ⟨hp.push o, g, d, tk, os⟩ → wpAny (model prog w) A' (pyIter v) Q E ⟨hp, g, d, tk, os⟩ :=
      fun q => B.iter prog w _ _ ⟨hp, g, d, tk, os⟩ _ h1 q
    wp_walk using q1
    refine wpAny_stack_any fun st => wpAny_pure ?_
    split
    · rename_i c _ _ _ _ _
      cases (c == Value.type "enumerate")
      · wp_walk using q1
        exact ⟨_, rfl, h⟩
      · wp_walk using q1
        exact ⟨_, rfl, h⟩
    · wp_walk using q1
      exact ⟨_, rfl, h⟩
theorem dl_enum1 {prog : Program} {w : World} {A : Around} {E : Value → Shared → Prop} {s : Shared} {v : Value} {o : Obj} {H : Heap → Prop} {Q : Value → Shared → Prop} (B : Begins v o H) (h1 : H s.heap)
    (h : ∀ h', IsEnum h' (s.heap.objs.size + 1) s.heap.objs.size 0 .none → h'.get? s.heap.objs.size = some o → h'.objs.size = s.heap.objs.size + 2 →
      (∀ b o, s.heap.get? b = some o → h'.get? b = some o) → Q (.ref (s.heap.objs.size + 1)) { s with heap := h' }) :
    wpAny (model prog w) A (call (.type "enumerate") [v]) Q E s := by
  refine callType_new F.called_enumerate (by decide) (F.typeCall_enumerate_1 _) (F.newCall_enumerate_1 _) (fun obj => F.args_object_init_2 obj _) F.entry_enumerate_new
    (dl_enumB B) ⟨h1, ?_⟩
  have hz : (s.heap.push o).objs.size = s.heap.objs.size + 1 := Heap.size_push ..
  show _ ∧ _
  rw [hz]
  have he : IsEnum ((s.heap.push o).push { cls := .type "enumerate", data := .fields #[.none, .bool false, .ref s.heap.objs.size, rawInt 0, .none, .none] }) (s.heap.objs.size + 1) s.heap.objs.size 0 .none := by
    have := Heap.get?_push_size (s.heap.push o) (o := { cls := .type "enumerate", data := .fields #[.none, .bool false, .ref s.heap.objs.size, rawInt 0, .none, .none] }) rfl
    rw [hz] at this; exact this
  refine ⟨⟨_, he, rfl⟩, h _ he (Heap.get?_push_of_some _ (Heap.get?_push_size _ B.free)) (by rw [Heap.size_push, hz]) fun b o x => Heap.get?_push_of_some _ (Heap.get?_push_of_some _ x)⟩
end PySem
namespace DL
open PySem PySem.Spec L2 PyProof.Rows

/-- enumerate over anything: what the source gives, by Draws -/
def Iteg (Gx : Hp → Prop) (P : Nat → Hp → V → Prop) (n : Nat) : It :=
  ⟨fun i H => i < n ∧ Gx H, fun i H v H' => ∃ T x, v = .ref T ∧ H T = none ∧ H' = upd H T (.tup [.int (i : Nat), x]) ∧ P i H x, fun i H => i = n ∧ Gx H⟩
theorem turn_enumG {P : Program} {w : World} {K : Fg} {elts : List Expr} {kk : Nat} {tpos : Pos} (e it : Addr) (n : Nat) (Gx : Hp → Prop) (PV : Nat → Hp → V → Prop) (st : Nat → Heap → Prop) (hne : e ≠ it)
    (hob : ∀ i h, st i h → ∃ o, h.get? it = some o ∧ ∀ v, o.data ≠ .cell v) (hkp : ∀ i h h', st i h → (∀ o, h.get? it = some o → h'.get? it = some o) → st i h')
    (hD : ∀ (X : Cx), X.prog = P → X.w = w → X.K = K → X.calm = true → ∀ (i : Nat) (pins : List (Addr × Obj)) (s : Shared) (σ : L2.St) (H : Hp), Inv X pins σ H s → Gx H → st i s.heap → (∃ old, IsEnum s.heap e it ((i : Nat) : Int) old) → (∀ b ∈ [e, it], FpOk X pins H b) → i ≤ n →
      ∃ (fp : List Addr) (PP : Nat → Value → Prop) (St : Nat → Heap → Prop), Draws P w X.A.in1 it fp n PP St ∧ St i s.heap ∧ e ∉ fp ∧ (∀ x, PP i x → ∃ v, RelV v x ∧ PV i H v) ∧ ∀ h', St (i + 1) h' → st (i + 1) h') :
    Turn P w K (.Tuple elts kk tpos) (Iteg Gx PV n) [e, it] e (fun i h => (∃ old, IsEnum h e it ((i : Nat) : Int) old) ∧ st i h) where
  mem := by simp
  obj := fun i h s b hb => by
    obtain ⟨⟨old, he⟩, hs⟩ := s
    have e' : b = e ∨ b = it := by simpa using hb
    rcases e' with z | z
    · rw [z]; exact ⟨_, he, fun v q => nomatch q⟩
    · rw [z]; exact hob _ _ hs
  keep := fun i h h' s k => let ⟨⟨old, he⟩, hi⟩ := s; ⟨⟨old, k e (by simp) _ he⟩, hkp _ _ _ hi fun o q => k it (by simp) o q⟩
  item := by
    intro X hP hw hK hc i pins s σ H E I hf s0 hg
    obtain ⟨⟨old, he⟩, hs⟩ := s0
    obtain ⟨hg, gx⟩ : i < n ∧ Gx H := hg
    obtain ⟨fp, PP, St, D, hst, hef, hrel, hst'⟩ := hD X hP hw hK hc i pins s σ H I gx hs ⟨old, he⟩ hf (Nat.le_of_lt hg)
    subst hP hw hK
    have hel : e < s.heap.objs.size := Heap.lt_size he
    have hil : it < s.heap.objs.size := by obtain ⟨_, q⟩ := D.live _ _ hst; exact Heap.lt_size q
    refine wpAny_pyNext_enum_itemD D he hst hg hne hef fun u h' tk hP ho hst2 hT hsz hk => ?_
    obtain ⟨x, ru, px⟩ := hrel u hP
    refine ⟨_, rfl, wpAny_letOwnedTupleGo_enum (s := { s with heap := h', toks := tk + 1 }) ho fun h'' he' sb => ?_⟩
    have hT2 : h''.get? s.heap.objs.size = some { cls := .type "tuple", data := .seq #[.int i tk, u] } := (sb.2 _ (Nat.ne_of_gt hel)).trans hT
    have new : ObjOk X.prog X.w (upd H s.heap.objs.size (.tup [.int (i : Nat), x])) h'' s.heap.objs.size (.tup [.int (i : Nat), x]) :=
      ⟨by show 2 ≤ sizeLine; decide, [.int i tk, u], .cons ⟨_, rfl⟩ (.cons ru .nil), ⟨_, hT2, rfl, _, rfl⟩⟩
    have I1 : Inv X pins σ (upd H s.heap.objs.size (.tup [.int (i : Nat), x])) { s with heap := h'', toks := tk + 1 } :=
      I.turnedNew (ch := [e, it]) (fun b ob hb q => (sb.2 b (fun z => hb (by simp [z]))).trans (hk b ob (fun z => hb (by simp [z])) (fun z => hb (by simp [z])) q)) hf (Nat.le_refl _) new
    refine ⟨.ref s.heap.objs.size, _, I1, rfl, ⟨_, x, rfl, I.hok.fresh (Nat.le_refl _), rfl, px⟩, ⟨⟨u, ?_⟩, hkp _ _ _ (hst' _ hst2) fun o q => (sb.2 it (Ne.symm hne)).trans q⟩, fun b hb => ?_⟩
    · have e1 : ((i + 1 : Nat) : Int) = (i : Int) + 1 := by omega
      rw [e1]; exact he'
    · have hb' : b < s.heap.objs.size := by
        have e' : b = e ∨ b = it := by simpa using hb
        rcases e' with z | z
        · rw [z]; exact hel
        · rw [z]; exact hil
      rw [upd_ne (Nat.ne_of_lt hb')]
      exact (hf b hb).1
  done := by
    intro X hP hw hK hc i pins s σ H E I hf s0 hg
    obtain ⟨⟨old, he⟩, hs⟩ := s0
    obtain ⟨hg, gx⟩ : i = n ∧ Gx H := hg
    subst hg
    obtain ⟨fp, PP, St, D, hst, hef, hrel, hst'⟩ := hD X hP hw hK hc i pins s σ H I gx hs ⟨old, he⟩ hf (Nat.le_refl _)
    subst hP hw hK
    obtain ⟨f0, f1, f2, f3, f4, f5⟩ := hf it (by simp)
    exact wpAny_pyNext_enum_endD D he hst fun h' eb => ⟨rfl, I.turned (t' := s.toks) (fun b o hb q => eb b o hb q) f0 f1 f3 f4 f5⟩
  self := fun A i s Q E st h => let ⟨⟨_, he⟩, _⟩ := st; wpAny_pyIter_enum he h
def pvT (K : Fg) (a : Addr) : Nat → Hp → V → Prop := fun i H x => ∀ xs, SqT K H a xs → xs[i]? = some x
def pvS (z : Str) : Nat → Hp → V → Prop := fun i _ x => ∃ c, z.cps[i]? = some c ∧ x = .str ⟨#[c]⟩
def iEnumTS (K : Fg) (ta : TA) : TI := fun σ H R => ta σ H fun vs H1 => (∃ a xs, vs = [.ref a] ∧ SqT K H1 a xs ∧ R (Iteg (fun H => SqT K H a xs) (pvT K a) xs.length) H1) ∨ ∃ z, vs = [.str z] ∧ R (Iteg (fun _ => True) (pvS z) z.cps.size) H1
theorem pi_enumTS {X : Cx} {e : Expr} {ta : TA} {p pos tpos : Pos} {elts : List Expr} {kk : Nat} (hg : Gl X "enumerate") (hm : X.mg "enumerate" = none) (ha : PA X [e] ta) (hs : starEach [e] X.env = [(false, eval e X.env)] := by rfl) :
    PI X (.Tuple elts kk tpos) (.Call (.Name "enumerate" p) [e] [] pos) (iEnumTS X.K ta) := by
  refine ⟨fun pins s σ H R I h => ?_⟩
  refine Call_ (ld_blt I hg hm boot_enumerate (PyProof.Rows.callWith_type1 (thn (ha.run pos pins s σ H _ I h) fun us s1 ⟨vs, H1, I1, r1, q1⟩ => ?_) hs rfl))
  have fp2 : ∀ b ∈ [s1.heap.objs.size + 1, s1.heap.objs.size], FpOk X pins H1 b := fun b hb => by
    have e' : b = s1.heap.objs.size + 1 ∨ b = s1.heap.objs.size := by simpa using hb
    have hle : s1.heap.objs.size ≤ b := by
      rcases e' with z | z
      · rw [z]; exact Nat.le_add_right _ _
      · rw [z]; exact Nat.le_refl _
    exact I1.fpOk hle (I1.hok.fresh hle)
  rcases q1 with ⟨a, xs, ex, hq, q⟩ | ⟨z, ex, q⟩
  · subst ex
    cases r1 with
    | cons r rr =>
      cases rr
      cases r
      obtain ⟨its, rv, p', hz⟩ := I1.tuple hq
      refine dl_enum1 (begins_tuple a its.toArray) (show s1.heap.IsTuple a its.toArray from p') fun h' he hit hsz hk => wpAny_pyIter_enum he ?_
      have I2 : Inv X pins σ H1 { s1 with heap := h' } := I1.kept (t' := s1.toks) hk
      refine ⟨s1.heap.objs.size + 1, [s1.heap.objs.size + 1, s1.heap.objs.size], _, _, H1, rfl, I2, turn_enumG (s1.heap.objs.size + 1) s1.heap.objs.size xs.length (fun H => SqT X.K H a xs) (pvT X.K a) (fun i h => h.IsTupleIter s1.heap.objs.size a i) (Nat.succ_ne_self _) ?_ ?_ ?_, ⟨⟨.none, he⟩, ?_⟩, fp2, q⟩
      · rintro i h ⟨o, ho, hc, hd⟩
        exact ⟨o, ho, fun v z => by rw [hd] at z; cases z⟩
      · rintro i h h' ⟨o, ho, r⟩ k
        exact ⟨o, k o ho, r⟩
      · intro Y hP hw hK hc i pins' s' σ' H' J gx hs' ⟨old, he'⟩ hf hi
        rw [← hK] at gx
        obtain ⟨its', rv', p2, hz'⟩ := J.tuple gx
        have hl := rv'.length
        have nit : a ≠ s1.heap.objs.size := fun z => by
          obtain ⟨o, ho, hc2, _⟩ := id p2
          obtain ⟨o', ho', hc', _⟩ := id hs'
          rw [z, ho'] at ho
          cases ho
          rw [hc'] at hc2
          simp at hc2
        have ne : s1.heap.objs.size + 1 ≠ a := fun z => by
          obtain ⟨o, ho, hc2, _⟩ := id p2
          have he2 := he'
          rw [z] at he2
          rw [show s'.heap.get? a = _ from he2] at ho
          cases ho
          simp at hc2
        rw [← hP, ← hw]
        have Dr := Draws.tuple (prog := Y.prog) (w := Y.w) (A := Y.A.in1) (J.ok.hd hc) s1.heap.objs.size a nit its'.toArray
        have el : its'.toArray.size = xs.length := by simp [hl]
        rw [el] at Dr
        refine ⟨_, _, _, Dr, ⟨hs', show s'.heap.IsTuple a its'.toArray from p2⟩, ?_, fun x hx => ?_, fun h'' st => st.1⟩
        · intro hm
          have e' : s1.heap.objs.size + 1 = s1.heap.objs.size ∨ s1.heap.objs.size + 1 = a := by simpa using hm
          rcases e' with z | z
          · exact Nat.succ_ne_self _ z
          · exact ne z
        · have hx : its'[i]? = some x := by simpa using hx
          have hlt : i < xs.length := by rw [hl]; exact (List.getElem?_eq_some_iff.mp hx).1
          obtain ⟨u, hu, ru⟩ := rv'.get (List.getElem?_eq_getElem hlt)
          rw [hx] at hu
          cases hu
          exact ⟨_, ru, fun ys hy => by
            rw [← hK] at hy
            rw [J.tuple_inj hy gx]
            exact List.getElem?_eq_getElem hlt⟩
      · exact ⟨_, hit, rfl, rfl⟩
  · subst ex
    cases r1 with
    | cons r rr =>
      cases rr
      obtain ⟨t, rfl⟩ := r
      refine dl_enum1 (begins_text z t) trivial fun h' he hit hsz hk => wpAny_pyIter_enum he ?_
      have I2 : Inv X pins σ H1 { s1 with heap := h' } := I1.kept (t' := s1.toks) hk
      refine ⟨s1.heap.objs.size + 1, [s1.heap.objs.size + 1, s1.heap.objs.size], _, _, H1, rfl, I2, turn_enumG (s1.heap.objs.size + 1) s1.heap.objs.size z.cps.size (fun _ => True) (pvS z) (fun i h => h.IsStrIter s1.heap.objs.size (strIterType z) z t i) (Nat.succ_ne_self _) ?_ ?_ ?_, ⟨⟨.none, he⟩, ?_⟩, fp2, q⟩
      · rintro i h ⟨o, ho, hc, hd⟩
        exact ⟨o, ho, fun v z => by rw [hd] at z; cases z⟩
      · rintro i h h' ⟨o, ho, r⟩ k
        exact ⟨o, k o ho, r⟩
      · intro Y hP hw hK hc i pins' s' σ' H' J gx hs' ⟨old, he'⟩ hf hi
        rw [← hP, ← hw]
        refine ⟨_, _, _, Draws.text (prog := Y.prog) (w := Y.w) (A := Y.A.in1) (J.ok.hd hc) s1.heap.objs.size z t, hs', ?_, fun x hx => ?_, fun h'' st => st⟩
        · intro hm
          exact Nat.succ_ne_self s1.heap.objs.size (List.mem_singleton.mp hm)
        · obtain ⟨c, u, h1, rfl⟩ := hx
          exact ⟨.str ⟨#[c]⟩, ⟨u, rfl⟩, c, h1, rfl⟩
      · exact ⟨_, (hit : h'.get? s1.heap.objs.size = some { cls := .type (strIterType z), data := .fields #[.str z t, .int 0 0] }), rfl, rfl⟩

def enumD (ds : List D) : List D := ds.zipIdx.map fun p => .tuple [.int (p.2 : Nat), p.1]
theorem enumD_len (ds : List D) : (enumD ds).length = ds.length := by simp [enumD]
theorem enumD_get {ds : List D} {i : Nat} {d : D} (h : ds[i]? = some d) : (enumD ds)[i]? = some (.tuple [.int (i : Nat), d]) := by
  unfold enumD
  rw [List.getElem?_map, List.getElem?_zipIdx, h]
  simp
theorem pair_new {K : Fg} {J H : Hp} {T : Addr} {x : V} {i : Int} {d : D} (s : Same J H) (hT : H T = none) (r : Rp K J x d) : Grow J H (upd J T (.tup [.int i, x])) (upd H T (.tup [.int i, x])) ∧ Rp K (upd J T (.tup [.int i, x])) (.ref T) (.tuple [.int i, d]) := by
  have gr := Grow.new (o := .tup [.int i, x]) s hT
  exact ⟨gr, .tup (.of upd_same) (.cons (.int i) (.cons (dp_mono gr.j _ _ r) .nil))⟩
theorem it_enumL {K : Fg} {J : Hp} {a : Addr} {vs : List V} {ds : List D} (h : SqL K J a vs) (r : RpAll K J vs ds) : ItOk K J (Ite K a) (enumD ds) := by
  refine ⟨fun i J1 H s1 s2 hi => ?_, fun i J1 H x H' s1 s2 hi y => ?_, fun J1 H s1 s2 => ⟨vs, same_l s2 (same_l s1 h), by rw [enumD_len, dps_len r]; exact Nat.le_refl _⟩⟩
  · rw [enumD_len, ← dps_len r] at hi
    exact ⟨vs, vs[i], same_l s2 (same_l s1 h), by simp [hi]⟩
  · obtain ⟨T, x', rfl, hT, rfl, y⟩ := y
    obtain ⟨d, h1, h2⟩ := dps_get' r (y vs (same_l s2 (same_l s1 h)))
    obtain ⟨g1, g2⟩ := pair_new (i := (i : Nat)) s2 hT (dp_mono s1 _ _ h2)
    exact ⟨_, _, g1, enumD_get h1, g2⟩
theorem it_enumT {K : Fg} {J : Hp} {a : Addr} {vs : List V} {ds : List D} (h : SqT K J a vs) (r : RpAll K J vs ds) : ItOk K J (Iteg (fun H => SqT K H a vs) (pvT K a) vs.length) (enumD ds) := by
  refine ⟨fun i J1 H s1 s2 hi => ?_, fun i J1 H x H' s1 s2 hi y => ?_, fun J1 H s1 s2 => ⟨by rw [enumD_len, dps_len r], same_t s2 (same_t s1 h)⟩⟩
  · rw [enumD_len, ← dps_len r] at hi
    exact ⟨hi, same_t s2 (same_t s1 h)⟩
  · obtain ⟨T, x', rfl, hT, rfl, y⟩ := y
    obtain ⟨d, h1, h2⟩ := dps_get' r (y vs (same_t s2 (same_t s1 h)))
    obtain ⟨g1, g2⟩ := pair_new (i := (i : Nat)) s2 hT (dp_mono s1 _ _ h2)
    exact ⟨_, _, g1, enumD_get h1, g2⟩
theorem it_enumS {K : Fg} {J : Hp} {z : Str} : ItOk K J (Iteg (fun _ => True) (pvS z) z.cps.size) (enumD (z.cps.toList.map fun c => .str ⟨#[c]⟩)) := by
  refine ⟨fun i J1 H s1 s2 hi => ?_, fun i J1 H x H' s1 s2 hi y => ?_, fun J1 H s1 s2 => ⟨by simp [enumD_len], trivial⟩⟩
  · exact ⟨by simpa [enumD_len] using hi, trivial⟩
  · obtain ⟨T, x', rfl, hT, rfl, c, h1, rfl⟩ := y
    obtain ⟨g1, g2⟩ := pair_new (K := K) (i := (i : Nat)) (d := .str ⟨#[c]⟩) s2 hT (.str _)
    refine ⟨_, _, g1, enumD_get ?_, g2⟩
    rw [List.getElem?_map, Array.getElem?_toList, h1]
    rfl
@[simp] def enumA : List VV → Option (List D)
  | [.val d] => match itemsOf d with
    | some ds => some (enumD ds)
    | none => none
  | _ => none
theorem enumA_some {xs : List VV} {ds : List D} (h : enumA xs = some ds) : ∃ d es, xs = [.val d] ∧ itemsOf d = some es ∧ ds = enumD es := by
  unfold enumA at h
  split at h
  · split at h
    · rename_i d es he
      cases h
      exact ⟨_, _, rfl, he, rfl⟩
    · cases h
  · cases h
@[simp] def eEnum (fa : Env → Out (List VV)) (ρ : Env) : Out (List D) := (fa ρ).bind fun xs ρ1 => match enumA xs with
  | some ds => .ok ds ρ1
  | none => .bad
section
variable {X : Cx} {Y : Yx} {a b c : Expr} {pos : Pos}
theorem di_enum {fa : Env → Out (List VV)} {p tpos : Pos} {elts : List Expr} {kk : Nat} (hm : X.mg "enumerate" = none) (ha : DA X Y [a] fa) (hg : Gl X "enumerate" := by rfl) (hs : starEach [a] X.env = [(false, eval a X.env)] := by rfl) :
    DI X Y (.Tuple elts kk tpos) (.Call (.Name "enumerate" p) [a] [] pos) (eEnum fa) := by
  refine PI.imp (DL.PI.or (pi_enum hg hm ha hs) (pi_enumTS hg hm ha hs)) fun σ H R ⟨G, J, ρ, er, hp⟩ => ?_
  unfold eEnum at hp
  cases hf : fa ρ with
  | exc e ρ1 =>
    rw [hf] at hp
    exact .inl ⟨G, J, ρ, er, by rw [hf]; exact hp⟩
  | bad =>
    rw [hf] at hp
    exact hp.elim
  | ok xs ρ1 =>
    rw [hf] at hp
    have hp : Post X.K Y G J σ (fun J' It ds => ItOk X.K J' It ds) (match enumA xs with
      | some ds => .ok ds ρ1
      | none => .bad) R := hp
    cases hx : enumA xs with
    | none =>
      rw [hx] at hp
      exact hp.elim
    | some ds =>
      rw [hx] at hp
      obtain ⟨d, es, rfl, he, rfl⟩ := enumA_some hx
      cases d with
      | list xs =>
        cases he
        refine .inl ⟨G, J, ρ, er, ?_⟩
        rw [hf]
        intro vs J' H' s r e
        obtain ⟨v, rfl, r0⟩ := rvs1 r
        have r2 : Rp X.K J' v (.list _) := r0
        cases r2 with
        | lst h1 h2 => exact ⟨_, _, rfl, same_l e.ex h1, hp _ J' H' s (it_enumL h1 h2) e⟩
      | tuple xs =>
        cases he
        refine .inr ⟨G, J, ρ, er, ?_⟩
        rw [hf]
        intro vs J' H' s r e
        obtain ⟨v, rfl, r0⟩ := rvs1 r
        have r2 : Rp X.K J' v (.tuple _) := r0
        cases r2 with
        | tup h1 h2 => exact .inl ⟨_, _, rfl, same_t e.ex h1, hp _ J' H' s (it_enumT h1 h2) e⟩
      | str z =>
        cases he
        refine .inr ⟨G, J, ρ, er, ?_⟩
        rw [hf]
        intro vs J' H' s r e
        obtain ⟨v, rfl, r0⟩ := rvs1 r
        have r2 : Rp X.K J' v (.str z) := r0
        cases r2
        exact .inr ⟨_, rfl, hp _ J' H' s it_enumS e⟩
      | _ => cases he

/-! ### zip -/
def zipD : List D → List D → List D
  | x :: xs, y :: ys => .tuple [x, y] :: zipD xs ys
  | _, _ => []
theorem zipD_get : ∀ {xs ys : List D} {i : Nat} {x y : D}, xs[i]? = some x → ys[i]? = some y → (zipD xs ys)[i]? = some (.tuple [x, y])
  | _ :: _, _ :: _, 0, _, _, h1, h2 => by
    simp at h1 h2
    subst h1 h2
    rfl
  | _ :: xs, _ :: ys, i + 1, x, y, h1, h2 => by
    have := zipD_get (xs := xs) (ys := ys) (i := i) (x := x) (y := y) (by simpa using h1) (by simpa using h2)
    simpa [zipD] using this
  | [], _, _, _, _, h1, _ => by simp at h1
  | _ :: _, [], _, _, _, _, h2 => by simp at h2
theorem zipD_len : ∀ (xs ys : List D), (zipD xs ys).length = min xs.length ys.length
  | x :: xs, y :: ys => by simp [zipD, zipD_len xs ys]
  | [], _ => by simp [zipD]
  | _ :: _, [] => by simp [zipD]
theorem pair_newD {K : Fg} {J H : Hp} {T : Addr} {x y : V} {d d2 : D} (s : Same J H) (hT : H T = none) (r : Rp K J x d) (r2 : Rp K J y d2) : Grow J H (upd J T (.tup [x, y])) (upd H T (.tup [x, y])) ∧ Rp K (upd J T (.tup [x, y])) (.ref T) (.tuple [d, d2]) := by
  have gr := Grow.new (o := .tup [x, y]) s hT
  exact ⟨gr, .tup (.of upd_same) (.cons (dp_mono gr.j _ _ r) (.cons (dp_mono gr.j _ _ r2) .nil))⟩
theorem it_zipL {K : Fg} {J : Hp} {a b : Addr} {vs ws : List V} {ds es : List D} (h : SqL K J a vs) (h' : SqL K J b ws) (r : RpAll K J vs ds) (r' : RpAll K J ws es) : ItOk K J (Itz K a b) (zipD ds es) := by
  refine ⟨fun i J1 H s1 s2 hi => ?_, fun i J1 H x H' s1 s2 hi y => ?_, fun J1 H s1 s2 => ⟨vs, ws, same_l s2 (same_l s1 h), same_l s2 (same_l s1 h'), by rw [zipD_len, dps_len r, dps_len r']; omega⟩⟩
  · rw [zipD_len, ← dps_len r, ← dps_len r'] at hi
    exact ⟨vs, ws, vs[i], ws[i], same_l s2 (same_l s1 h), same_l s2 (same_l s1 h'), by simp, by simp⟩
  · obtain ⟨T, x', y', rfl, hT, rfl, y1, y2⟩ := y
    obtain ⟨d, h1, h2⟩ := dps_get' r (y1 vs (same_l s2 (same_l s1 h)))
    obtain ⟨d2, k1, k2⟩ := dps_get' r' (y2 ws (same_l s2 (same_l s1 h')))
    obtain ⟨g1, g2⟩ := pair_newD s2 hT (dp_mono s1 _ _ h2) (dp_mono s1 _ _ k2)
    exact ⟨_, _, g1, zipD_get h1 k1, g2⟩
theorem it_zipT {K : Fg} {J : Hp} {a b : Addr} {vs ws : List V} {ds es : List D} (h : SqT K J a vs) (h' : SqT K J b ws) (r : RpAll K J vs ds) (r' : RpAll K J ws es) : ItOk K J (RZ.ItzT K a b) (zipD ds es) := by
  refine ⟨fun i J1 H s1 s2 hi => ?_, fun i J1 H x H' s1 s2 hi y => ?_, fun J1 H s1 s2 => ⟨vs, ws, same_t s2 (same_t s1 h), same_t s2 (same_t s1 h'), by rw [zipD_len, dps_len r, dps_len r']; omega⟩⟩
  · rw [zipD_len, ← dps_len r, ← dps_len r'] at hi
    exact ⟨vs, ws, vs[i], ws[i], same_t s2 (same_t s1 h), same_t s2 (same_t s1 h'), by simp, by simp⟩
  · obtain ⟨T, x', y', rfl, hT, rfl, y1, y2⟩ := y
    obtain ⟨d, h1, h2⟩ := dps_get' r (y1 vs (same_t s2 (same_t s1 h)))
    obtain ⟨d2, k1, k2⟩ := dps_get' r' (y2 ws (same_t s2 (same_t s1 h')))
    obtain ⟨g1, g2⟩ := pair_newD s2 hT (dp_mono s1 _ _ h2) (dp_mono s1 _ _ k2)
    exact ⟨_, _, g1, zipD_get h1 k1, g2⟩
@[simp] def eZip (fa : Env → Out (List VV)) (ρ : Env) : Out (List D) := (fa ρ).bind fun xs ρ1 => match xs with
  | [.val (.list xs), .val (.list ys)] => .ok (zipD xs ys) ρ1
  | [.val (.tuple xs), .val (.tuple ys)] => .ok (zipD xs ys) ρ1
  | _ => .bad
theorem di_zip {fa : Env → Out (List VV)} {p tpos : Pos} {elts : List Expr} {kk : Nat} (hm : X.mg "zip" = none) (ha : DA X Y [a, b] fa) (hg : Gl X "zip" := by rfl)
    (hs : starEach [a, b] X.env = (false, eval a X.env) :: starEach [b] X.env := by rfl) (hpl : (backTo pos (starEach [b] X.env)).any (·.1) = false := by rfl) :
    DI X Y (.Tuple elts kk tpos) (.Call (.Name "zip" p) [a, b] [] pos) (eZip fa) := by
  refine PI.imp (RZ.pi_zipA hg hm ha hs hpl) fun σ H R ⟨G, J, ρ, er, hp⟩ => ⟨G, J, ρ, er, Post.bind hp fun xs ρ1 vs J1 H1 s1 r1 e1 h1 => ?_⟩
  split at h1
  · obtain ⟨v, w, rfl, r, r'⟩ := rvs2 r1
    cases r with
    | lst q1 q2 =>
      cases r' with
      | lst q3 q4 => exact ⟨_, _, _, _, rfl, .inl ⟨same_l e1.ex q1, same_l e1.ex q3, h1 _ J1 H1 (.refl _) (it_zipL q1 q3 q2 q4) e1⟩⟩
  · obtain ⟨v, w, rfl, r, r'⟩ := rvs2 r1
    cases r with
    | tup q1 q2 =>
      cases r' with
      | tup q3 q4 => exact ⟨_, _, _, _, rfl, .inr ⟨same_t e1.ex q1, same_t e1.ex q3, h1 _ J1 H1 (.refl _) (it_zipT q1 q3 q2 q4) e1⟩⟩
  · exact h1.elim
end
end DL

/-! tuple[::-1] -/
namespace HT
open PySem PySem.Spec PyProof.Rows
theorem dl_adjust_rev (n : Nat) : Builtin.Slice.sliceAdjust none none (-1) (n : Int) = ((n : Int) - 1, -1) := by
  unfold Builtin.Slice.sliceAdjust
  simp
theorem dl_places_rev (n : Nat) : Builtin.Slice.slicePlaces ((n : Int) - 1) (-1) (-1) = n := by
  unfold Builtin.Slice.slicePlaces
  simp
  omega
theorem dl_fm {α β : Type} {f : α → Option β} {g : α → β} : ∀ (l : List α), (∀ m ∈ l, f m = some (g m)) → l.filterMap f = l.map g
  | [], _ => rfl
  | x :: l, h => by
    rw [List.filterMap_cons, h x List.mem_cons_self, List.map_cons, dl_fm l fun m hm => h m (List.mem_cons_of_mem _ hm)]
theorem dl_pick_rev (xs : Array Value) : ((List.range xs.size).filterMap fun (m : Nat) => xs[(((xs.size : Int) - 1) + (m : Int) * (-1)).toNat]?).toArray = xs.toList.reverse.toArray := by
  congr 1
  have e : (List.range xs.size).filterMap (fun (m : Nat) => xs[(((xs.size : Int) - 1) + (m : Int) * (-1)).toNat]?) = (List.range xs.size).map (fun m => xs.getD (xs.size - 1 - m) .none) := by
    apply dl_fm
    intro m hm
    have hm' := List.mem_range.mp hm
    have : ((((xs.size : Int) - 1) + (m : Int) * (-1)).toNat) = xs.size - 1 - m := by omega
    rw [this, Array.getElem?_eq_getElem (by omega)]
    simp [Array.getD, show xs.size - 1 - m < xs.size by omega]
  rw [e]
  apply List.ext_getElem
  · simp
  · intro i h1 h2
    have hi : i < xs.size := by simpa using h1
    simp [Array.getD, show xs.size - 1 - i < xs.size by omega]
theorem dl_getItem_rev {prog : Program} {w : World} {A : Around} {E : Value → Shared → Prop} {s : Shared} {t sl : Addr} {items : Array Value} {vl vu vs : Value} {Q : Value → Shared → Prop} (ht : IsTup s.heap t items) (hs : s.heap.IsSliceOf sl vl vu vs) (pl : IsPart vl none) (pu : IsPart vu none) (ps : IsPart vs (some (-1)))
    (h : Q (.ref s.heap.objs.size) { s with heap := s.heap.push { cls := .type "tuple", data := .seq items.toList.reverse.toArray } }) (hsz : items.size ≤ sizeLine) : wpAny (model prog w) A (getItem (.ref t) (.ref sl)) Q E s := by
  have htake : sizeOk (.seq items.toList.reverse.toArray) := by
    show items.toList.reverse.toArray.size ≤ sizeLine
    simpa using hsz
  obtain ⟨os, hos, hcs, hds⟩ := id hs
  have hTs : s.TypeIs (.ref sl) "slice" := ⟨os, hos, hcs⟩
  unfold getItem
  try with_reducible refine wpAny_holding ?_
  first | refine wpAny_bind (wpAny_pure ?_) | skip
  refine wpAny_bind (wpAny_sequenceKey ht.typeIs (by decide) ?_)
  refine wpAny_bind (wpAny_callSpecial?_slot (name := Str.ofString "__getitem__") ht.typeIs PyProof.Rows.slot_tuple_getitem
    (wpAny_call_entry PyProof.Rows.slot_tuple_getitem ht.typeIs entry_tuple_getitem ?_ (args_tuple_getitem _ _)))
  show wpAny _ _ (Builtin.Tuple.tupleItemsOf (.ref t) >>= _) _ _ s
  refine wpAny_bind (tupleItemsOf_ ht ?_)
  refine wpAny_bind (wpAny_typeOf hTs ?_)
  rw [if_pos (by decide)]
  have happ : ∀ {A : Around} {Q : Int × Int × Nat → Shared → Prop}, Q ((items.size : Int) - 1, -1, items.size) s → wpAny (model prog w) A (Builtin.Slice.sliceApplied (.ref sl) (pure (items.size : Int))) Q E s := fun {A Q} h => by
    unfold Builtin.Slice.sliceApplied Builtin.Slice.sliceFields
    refine wpAny_bind (wpAny_bind (wpAny_field hos hds (x := vl) rfl (wpAny_bind (wpAny_field hos hds (x := vu) rfl (wpAny_bind (wpAny_field hos hds (x := vs) rfl (wpAny_pure ?_)))))))
    refine wpAny_bind (slicePart_ ps ?_)
    show wpAny _ _ (if ((-1 : Int) == 0) = true then _ else _) _ _ s
    rw [if_neg (by decide)]
    refine wpAny_bind (slicePart_ pl (wpAny_bind (slicePart_ pu (wpAny_bind (wpAny_pure ?_)))))
    show wpAny _ _ (match Builtin.Slice.sliceAdjust none none (-1) (items.size : Int) with | (lo, hi) => pure (lo, (-1 : Int), Builtin.Slice.slicePlaces lo hi (-1))) _ _ s
    rw [dl_adjust_rev]
    show wpAny _ _ (pure ((items.size : Int) - 1, (-1 : Int), Builtin.Slice.slicePlaces ((items.size : Int) - 1) (-1) (-1))) _ _ s
    rw [dl_places_rev]
    exact wpAny_pure h
  refine wpAny_bind (happ ?_)
  have hno : ¬ ((((items.size : Int) - 1) == 0 && (-1 : Int) == 1 && items.size == items.size) = true) := by
    intro q
    rw [Bool.and_eq_true, Bool.and_eq_true] at q
    exact absurd (eq_of_beq q.1.2) (by decide)
  show wpAny _ _ (if (((items.size : Int) - 1) == 0 && (-1 : Int) == 1 && items.size == items.size) = true then _ else _) _ _ s
  rw [if_neg hno, dl_pick_rev]
  first
    | exact wpAny_bind (m := Builtin.Tuple.tupleExact _) (wpAny_newObj_type (wpAny_pure ⟨_, rfl, wpAny_pure h⟩) htake)
    | exact wpAny_bind (m := Builtin.Tuple.tupleExact _) (wpAny_newObj_type (wpAny_bind (wpAny_pure (wpAny_pure ⟨_, rfl, wpAny_pure h⟩))) htake)
    | exact wpAny_bind (wpAny_bind (m := Builtin.Tuple.tupleExact _) (wpAny_newObj_type (wpAny_pure (wpAny_pure ⟨_, rfl, wpAny_pure h⟩)) htake))
    | exact wpAny_bind (wpAny_bind (m := Builtin.Tuple.tupleExact _) (wpAny_newObj_type (wpAny_pure ⟨_, rfl, wpAny_pure h⟩) htake))
end HT
namespace DL
open PySem PySem.Spec L2 PyProof.Rows
def tRevT (K : Fg) (te : TE) : TE := fun σ H Q => te σ H fun x H1 => ∃ a xs, x = .ref a ∧ SqT K H1 a xs ∧ ∀ p, H1 p = none → Q (.ref p) (upd H1 p (.tup xs.reverse))
theorem pe_revT {X : Cx} {e : Expr} {te : TE} {k : Nat} {p1 p2 p3 pos : Pos} (he : PE X e te) : PE X (.Subscript e (.Slice none none (some (.UnaryOp .USub (.Constant (.int 1) k p1) p2)) p3) pos) (tRevT X.K te) := by
  refine ⟨fun pins s σ H Q I h => ?_⟩
  refine Subscript_ (thn (he.run pins s σ H _ I h) fun v s1 ⟨x, H1, I1, r1, q1⟩ => ?_)
  obtain ⟨a, xs, ex, hx, q⟩ := q1
  subst ex
  cases r1
  have hst : PO X (some (.UnaryOp .USub (.Constant (.int 1) k p1) p2)) (tPart (tUn (rU fun i => .int (-i)) (tC (.int 1)))) := po_some (pe_un un_neg pe_int)
  refine wpAny_Slice (thn (po_none.run pins s1 σ H1 (fun o H2 => o = none ∧ H2 = H1) I1 ⟨rfl, rfl⟩) fun vl s2 ⟨l, H2, I2, pl, el, e2⟩ => ?_)
  subst el e2
  refine thn (po_none.run pins s2 σ H2 (fun o H3 => o = none ∧ H3 = H2) I2 ⟨rfl, rfl⟩) fun vu s3 ⟨u, H3, I3, pu, eu, e3⟩ => ?_
  subst eu e3
  refine thn (hst.run pins s3 σ H3 (fun o H4 => o = some (-1) ∧ H4 = H3) I3 ⟨1, rfl, -1, rfl, rfl, rfl⟩) fun vs s4 ⟨o, H4, I4, ps, eo, e4⟩ => ?_
  subst eo e4
  have I5 : Inv X pins σ H4 { s4 with heap := s4.heap.push { cls := .type "slice", data := .fields #[vl, vu, vs] } } := I4.kept (t' := s4.toks) fun b ob q => Heap.get?_push_of_some _ q
  obtain ⟨its, r, ht, hz⟩ := I5.tuple hx
  have hlen := r.length
  show wpAny (model X.prog X.w) X.A (subscriptTail e (.Slice none none (some (.UnaryOp .USub (.Constant (.int 1) k p1) p2)) p3) (.ref a) (.ref s4.heap.objs.size)) (EP X pins σ Q) X.xe { s4 with heap := s4.heap.push { cls := .type "slice", data := .fields #[vl, vu, vs] } }
  refine tail_any (ops := [.ref a, .ref s4.heap.objs.size]) ht.typeIs (PyProof.Rows.slot_tuple_getitem.lookup) ?_ (by with_unfolding_all rfl)
  refine HT.dl_getItem_rev ht (Heap.IsSliceOf.new _ vl vu vs) pl pu ps ?_ (by rw [List.size_toArray]; omega)
  refine ⟨.ref _, _, I5.laid (t' := s4.toks) (o := .tup xs.reverse) (fun b ob q => Heap.get?_push_of_some _ q) (Nat.le_refl _) ?_, rfl, q _ (I5.hok.fresh (Nat.le_refl _))⟩
  exact ⟨by rw [List.length_reverse]; exact hz, _, r.reverse, PyProof.Rows.IsTup.new _ _⟩
theorem dps_reverse {K : Fg} {H : Hp} : ∀ {vs : List V} {ds : List D}, RpAll K H vs ds → RpAll K H vs.reverse ds.reverse
  | _, _, .nil => .nil
  | _, _, .cons r t => by
    rw [List.reverse_cons, List.reverse_cons]
    exact dps_append (dps_reverse t) (.cons r .nil)
@[simp] def dRev : D → Option D
  | .list xs => some (.list xs.reverse)
  | .tuple xs => some (.tuple xs.reverse)
  | _ => none
@[simp] def eRev (f : EC) (ρ : Env) : Out VV := (f ρ).bind fun x ρ1 => match deref ρ1 x with
  | some d => match dRev d with
    | some d' => .ok (.val d') ρ1
    | none => .bad
  | none => .bad
theorem PE.or {X : Cx} {e : Expr} {t t' : TE} (h : PE X e t) (h' : PE X e t') : PE X e (fun σ H Q => t σ H Q ∨ t' σ H Q) := ⟨fun pins s σ H Q I hw => by
  rcases hw with hw | hw
  · exact h.run pins s σ H Q I hw
  · exact h'.run pins s σ H Q I hw⟩
theorem de_rev {X : Cx} {Y : Yx} {e : Expr} {f : EC} {k : Nat} {p1 p2 p3 pos : Pos} (he : DE X Y e f) : DE X Y (.Subscript e (.Slice none none (some (.UnaryOp .USub (.Constant (.int 1) k p1) p2)) p3) pos) (eRev f) := by
  refine PE.imp (DL.PE.or (pe_revL he) (pe_revT he)) fun σ H Q ⟨G, J, ρ, er, h⟩ => ?_
  unfold eRev at h
  cases hf : f ρ with
  | exc e ρ1 =>
    rw [hf] at h
    exact .inl ⟨G, J, ρ, er, by rw [hf]; exact h⟩
  | bad =>
    rw [hf] at h
    exact h.elim
  | ok x ρ1 =>
    rw [hf] at h
    have h : Post X.K Y G J σ (RV X.K σ) (match deref ρ1 x with
      | some d => match dRev d with
        | some d' => Out.ok (.val d') ρ1
        | none => .bad
      | none => .bad) Q := h
    split at h
    · rename_i d hd
      cases d with
      | list xs =>
        refine .inl ⟨G, J, ρ, er, ?_⟩
        rw [hf]
        intro v J' H' s r e
        obtain ⟨a, vs, rfl, h1, r1⟩ := (deref_ok e r hd).list e.ex
        refine ⟨a, vs, rfl, h1, fun p hp => ?_⟩
        have gr := Grow.new (o := .lst vs.reverse) e.ex hp
        exact h _ _ _ (s.trans gr.j) (show Rp X.K _ _ (.list xs.reverse) from .lst (.of upd_same) (dps_mono gr.j _ _ (dps_reverse r1))) (e.grow gr)
      | tuple xs =>
        refine .inr ⟨G, J, ρ, er, ?_⟩
        rw [hf]
        intro v J' H' s r e
        obtain ⟨a, vs, rfl, h1, r1, _⟩ := (deref_ok e r hd).tup e.ex
        refine ⟨a, vs, rfl, h1, fun p hp => ?_⟩
        have gr := Grow.new (o := .tup vs.reverse) e.ex hp
        exact h _ _ _ (s.trans gr.j) (show Rp X.K _ _ (.tuple xs.reverse) from .tup (.of upd_same) (dps_mono gr.j _ _ (dps_reverse r1))) (e.grow gr)
      | _ => exact h.elim
    · exact h.elim
end DL

namespace DL
open PySem PySem.Spec L2 PyProof.Rows
section
variable {X : Cx} {Y : Yx} {a b c e : Expr} {pos : Pos}
/-- isinstance(a, (T, U)) -/
theorem de_isi2 {t u : String} {x y : Str} {f : EC} {p p2 p3 p4 : Pos} {k : Nat} (ha : DE X Y a f) (hm : X.mg "isinstance" = none) (hm2 : X.mg x = none) (hv2 : bootBuiltins x = some (.type t)) (hm3 : X.mg y = none) (hv3 : bootBuiltins y = some (.type u)) (hg : Gl X "isinstance" := by rfl) (hg2 : Gl X x := by rfl) (hg3 : Gl X y := by rfl)
    (hv : bootBuiltins "isinstance" = some (.builtin "isinstance") := by decide +kernel) (hn2 : x ≠ "__name__" := by decide) (hd2 : (x == ("__debug__" : Str)) = false := by decide) (hn3 : y ≠ "__name__" := by decide) (hd3 : (y == ("__debug__" : Str)) = false := by decide)
    (he : starEach [a, .Tuple [.Name x p2, .Name y p3] k p4] X.env = (false, eval a X.env) :: starEach [.Tuple [.Name x p2, .Name y p3] k p4] X.env := by rfl)
    (he2 : starEach [.Tuple [.Name x p2, .Name y p3] k p4] X.env = (false, eval (.Tuple [.Name x p2, .Name y p3] k p4) X.env) :: starEach [] X.env := by rfl) (hpl : (backTo pos (starEach [.Tuple [.Name x p2, .Name y p3] k p4] X.env)).any (·.1) = false := by rfl)
    (hx : starEach [.Name x p2, .Name y p3] X.env = (false, eval (.Name x p2) X.env) :: starEach [.Name y p3] X.env := by rfl) (hy : starEach [.Name y p3] X.env = (false, eval (.Name y p3) X.env) :: starEach [] X.env := by rfl) :
    DE X Y (.Call (.Name "isinstance" p) [a, .Tuple [.Name x p2, .Name y p3] k p4] [] pos) (eIsi [t, u] f) := by
  have h2 : PE X (.Name x p2) (tC (.ty t)) := pe_bltn hg2 hm2 hv2 rfl hn2 hd2
  have h3 : PE X (.Name y p3) (tC (.ty u)) := pe_bltn hg3 hm3 hv3 rfl hn3 hd3
  refine PE.imp (pe_callB call_isiT hg hm hv (pa_cons ha (pa_cons (pe_tup (pa_cons h2 (pa_cons h3 pa_nil hy) hx)) pa_nil he2) he) (by decide) (by decide) he hpl) fun σ H Q ⟨G, J, ρ, er, h⟩ => ⟨G, J, ρ, er, Post.bind h fun y ρ1 v J1 H1 s1 r1 e1 h1 => ?_⟩
  split at h1
  · rename_i d hd
    split at h1
    · rename_i bb hb
      have wv := deref_ok e1 r1 hd
      refine ⟨by show 2 ≤ sizeLine; decide, fun q hq => ?_⟩
      have gr := Grow.side (o := .tup [.ty t, .ty u]) e1.ex hq
      have wv' : Rp X.K (upd H1 q (.tup [.ty t, .ty u])) v d := dp_mono gr.h _ _ (wv.rp e1.ex)
      exact ⟨v, q, [.ty t, .ty u], _, [.type t, .type u], bb, rfl, upd_same, .cons (.ty t) (.cons (.ty u) .nil), wk_ty (J := upd H1 q (.tup [.ty t, .ty u])) (.refl _) (.inl wv') (any_nodict hb), kitAny_of (t := t) (ts := [t, u]) hb, h1 _ _ _ gr.j (.bl bb) (e1.grow gr)⟩
    · exact h1.elim
  · exact h1.elim
end

/-! ### name = f(..), f giving a new object of one's own -/
theorem ER.setF {K : Fg} {G : Gd} {J H J' H' : Hp} {σ : L2.St} {ρ : Env} {i : Nat} {a : Addr} {r : List Addr} {o : Own} (e : ER K G J H σ ρ) (g : Grow J H J' H') (ho : OwnAt K J' H' o (a :: r)) (hf : ∀ b ∈ a :: r, J' b = none ∧ H b = none) (hl : loose ρ i = true) :
    ER K G J' H' (σ.set i (some (.ref a))) (ρ.set i (.own false o)) := by
  have e1 := e.grow g
  obtain ⟨fs0, h0, ap0, q0⟩ := e.ft
  have fresh : ∀ f ∈ fs0, ∀ b ∈ a :: r, b ∉ f := fun f hf' b hb hm => by
    obtain ⟨u, hu⟩ := h0.known f hf' b hm
    rw [(hf b hb).2] at hu
    cases hu
  have h1 : SlsOk K J' H' σ ρ fs0 := h0.keep g.j fun f hf a ha w hw => (g.old a w hw).1
  refine ⟨g.jh, e1.j0, e1.keep, e.pn, ⟨fs0.set i (a :: r), SlsOk.set (.own ho) i h1, ap0.set i fun j f hj ef b hb => fresh f (List.mem_of_getElem? ef) b hb, fun f hf' b hb => ?_⟩, fun j b hj => ?_⟩
  · rcases mem_set_of hf' with rfl | hf'
    · refine ⟨(hf b hb).1, fun hP => ?_⟩
      obtain ⟨u, hu⟩ := e.pn _ hP
      rw [← (e.keep _ hP).1, (hf b hb).2] at hu
      cases hu
    · obtain ⟨u, hu⟩ := h0.known f hf' b hb
      exact ⟨(g.old b u hu).2.trans (q0 f hf' b hb).1, (q0 f hf' b hb).2⟩
  · have ne := e.fx_ne hl hj
    rw [List.getElem?_set_ne ne.symm, List.getElem?_set_ne ne.symm]
    exact e.fx j b hj
@[simp] def sCallN (i n : Nat) (m : List D → FO) (fa : Env → Out (List VV)) (ρ : Env) : SO := (fa ρ).then fun xs ρ1 => match vals xs with
  | some ds => if ds.length = n then (match m ds with
    | .own o => if loose ρ1 i = true then .nx (ρ1.set i (.own false o)) else .bad
    | .exc e => .exc e ρ1
    | _ => .bad) else .bad
  | none => .bad
section
variable {X : Cx} {Y : Yx} {a b c e : Expr} {pos : Pos}
theorem ds_callN (i : Nat) {y : Str} {py : Pos} {spos : Pos} {m : List D → FO} {n k : Nat} {f : Addr} {fd : FuncData} {ps : List Str} {x : Str} {es : List Expr} {fa : Env → Out (List VV)} {p : Pos} (F : FnOk X.prog X.w X.K X.mg X.base (L2.CX X.prog X.w) k f fd ps (spP X.K Y.ct n m)) (hr : Room k X.A) (hm : X.mg x = some (.ref f))
    (hk : PySem.W.keepIn X.K (.ref f) = true) (hb : Binds X.K fd ps []) (tk : Takes' X Y) (ha : DA X Y (e :: es) fa) (hN : X.N.Nodup) (hg : Gl X x := by rfl) (hdb : (x == ("__debug__" : Str)) = false := by decide)
    (he : starEach (e :: es) X.env = (false, eval e X.env) :: starEach es X.env := by rfl) (hpl : (backTo pos (starEach es X.env)).any (·.1) = false := by rfl)
    (hi : X.N[i]? = some y := by rfl) (hx : Loc X.env.scope y := by first | exact Or.inl rfl | exact Or.inr rfl)
    (hf : X.fn y = true ∨ X.env.scope.names.lookup y = some .local := by first | exact .inl rfl | exact .inr rfl | assumption) (hs : swapsWithSole [.Name y py] (.Call (.Name x p) (e :: es) [] pos) spos.line X.env = pure false := by rfl) (hw : swappedStores [.Name y py] (.Call (.Name x p) (e :: es) [] pos) X.env = pure none := by rfl)
    (h1 : (assignEach [.Name y py] X.env).map (·.2) = [assign (.Name y py) X.env] := by rfl) : DS X Y (.Assign [.Name y py] (.Call (.Name x p) (e :: es) [] pos) spos) (sCallN i n m fa) := by
  refine PS.imp (ps_asg (pe_callS F hr hg hm hk hb tk ha hdb he hpl) (pg_name hN hi hx hf) hs hw h1) fun D σ H ⟨G, J, ρ, er, h⟩ => ⟨G, J, ρ, er, Post.then h fun xs ρ1 vs J1 H1 s1 r1 e1 h1 => ?_⟩
  split at h1
  · rename_i ds hds
    split at h1
    · rename_i hl
      refine ⟨J1, ds, e1.ex, vals_ok r1 hds, hl, ?_⟩
      cases hm : m ds with
      | ret d =>
        rw [hm] at h1
        exact h1.elim
      | own o =>
        rw [hm] at h1
        intro a r J' H' gr ho hb
        dsimp only at h1
        split at h1
        · rename_i hlo
          exact h1 _ J' H' gr.j (e1.setF gr ho hb hlo)
        · exact h1.elim
      | exc ev =>
        rw [hm] at h1
        exact fun c dx J' H' gr r => h1 c dx _ J' H' gr.j (r.ct rfl) (e1.grow gr)
      | bad =>
        rw [hm] at h1
        exact h1.elim
    · exact h1.elim
  · exact h1.elim
end

/-! ### recursion -/
section
variable {P : Program} {w : World} {K : Fg} {mg : Str → Option Value} {base : Heap}
theorem fn_0 {f : Addr} {fd : FuncData} {ps : List Str} {n k : Nat} {ct : String → Option Value} (hn : ps.length = n) : FnOk P w K mg base (L2.CX P w) k f fd ps (spP K ct n fun _ => .bad) :=
  ⟨fun vs H Q E ⟨J, ds, _, r, hl, _⟩ => by rw [dps_len r, hl, hn], fun A outer s H args vs us Q E _ _ _ _ ⟨J, ds, _, r, hl, h⟩ => h.elim⟩
end
end DL

namespace DL
open PySem PySem.Spec L2 PyProof.Rows

/-! ### own exception classes whose __init__ lays its arguments into fields -/
def spI1 (K : Fg) (C : Addr) (f : Str) : Sp := fun vs H Q _ => ∃ a v, vs = [.ref a, v] ∧ H a = some (exo a C none) ∧ ∀ d, H d = none → d ≠ a → Q .non (upd (upd H d (exd d [(f, v)])) a (exo a C (some d)))
def spI2 (K : Fg) (C : Addr) (f g : Str) : Sp := fun vs H Q _ => ∃ a v u, vs = [.ref a, v, u] ∧ H a = some (exo a C none) ∧ ∀ d, H d = none → d ≠ a → Q .non (upd (upd (upd H d (exd d [(f, v)])) a (exo a C (some d))) d (exd d [(g, u), (f, v)]))
section
variable {P : Program} {w : World} {K : Fg} {mg : Str → Option Value} {base : Heap}
theorem fn_i1 {qual : Str} {st : Stmt} {F C : Addr} {fd : FuncData} {f x : Str} {p0 p1 p2 p3 : Pos} (T : OexC K C) (hf : PySem.W.findIn K (.ref C) f = some none) (FF : Fun K "__init__" qual st F fd) (S : FnScope ["self", x] ["self", x] (defScope st))
    (hb : defBody st = [.Assign [.Attribute (.Name "self" p0) f p1] (.Name x p2) p3]) (hx : (defScope st).names.lookup x = some .local) (hs : (defScope st).names.lookup ("self" : Str) = some .local)
    (hd : (x == ("__debug__" : Str)) = false := by decide) (hcd : (x == ("__classdict__" : Str)) = false := by decide) (hsw : ∀ env : PySem.Env, swapsWith (.Name x p2) (some (.Attribute (.Name "self" p0) f p1)) p3.line env = pure false := by intro _; rfl) :
    FnOk P w K mg base (L2.CX P w) 1 F fd ["self", x] (spI1 K C f) := by
  refine FF.okX S (fun vs H Q E ⟨a, v, e, _⟩ => by rw [e] <;> rfl) (fun cdv A outer s H vs Q E hr ⟨a, v, e, ha, h⟩ => ?_)
  subst e
  rw [hb]
  refine ⟨_, pss_one (ps_ost (pe_var (i := 0) rfl (Or.inl (by exact hs)) (by decide) (by decide)) (pe_var (i := 1) rfl (Or.inl (by exact hx)) hd hcd) (hsw _)), ?_⟩
  exact ⟨_, rfl, _, rfl, a, C, rfl, T, hf, .inl ⟨ha, fun d hd hne => h d hd hne⟩⟩
theorem fn_i2 {qual : Str} {st : Stmt} {F C : Addr} {fd : FuncData} {f g x y : Str} {p0 p1 p2 p3 q0 q1 q2 q3 : Pos} (T : OexC K C) (hf : PySem.W.findIn K (.ref C) f = some none) (hg : PySem.W.findIn K (.ref C) g = some none) (FF : Fun K "__init__" qual st F fd) (S : FnScope ["self", x, y] ["self", x, y] (defScope st))
    (hb : defBody st = [.Assign [.Attribute (.Name "self" p0) f p1] (.Name x p2) p3, .Assign [.Attribute (.Name "self" q0) g q1] (.Name y q2) q3]) (hx : (defScope st).names.lookup x = some .local) (hy : (defScope st).names.lookup y = some .local) (hs : (defScope st).names.lookup ("self" : Str) = some .local)
    (hd : (x == ("__debug__" : Str)) = false := by decide) (hcd : (x == ("__classdict__" : Str)) = false := by decide) (hd' : (y == ("__debug__" : Str)) = false := by decide) (hcd' : (y == ("__classdict__" : Str)) = false := by decide)
    (hsw : ∀ env : PySem.Env, swapsWith (.Name x p2) (some (.Attribute (.Name "self" p0) f p1)) p3.line env = pure false := by intro _; rfl) (hsw' : ∀ env : PySem.Env, swapsWith (.Name y q2) (some (.Attribute (.Name "self" q0) g q1)) q3.line env = pure false := by intro _; rfl) :
    FnOk P w K mg base (L2.CX P w) 1 F fd ["self", x, y] (spI2 K C f g) := by
  refine FF.okX S (fun vs H Q E ⟨a, v, u, e, _⟩ => by rw [e] <;> rfl) (fun cdv A outer s H vs Q E hr ⟨a, v, u, e, ha, h⟩ => ?_)
  subst e
  rw [hb]
  refine ⟨_, pss_cons (ps_ost (pe_var (i := 0) rfl (Or.inl (by exact hs)) (by decide) (by decide)) (pe_var (i := 1) rfl (Or.inl (by exact hx)) hd hcd) (hsw _))
    (pss_one (ps_ost (pe_var (i := 0) rfl (Or.inl (by exact hs)) (by decide) (by decide)) (pe_var (i := 2) rfl (Or.inl (by exact hy)) hd' hcd') (hsw' _))), ?_⟩
  exact ⟨_, rfl, _, rfl, a, C, rfl, T, hf, .inl ⟨ha, fun d hd hne => ⟨_, rfl, _, rfl, a, C, rfl, T, hg, .inr ⟨d, [(f, v)], upd_same, by rw [upd_ne hne, upd_same], (show 1 ≤ 900 by decide), h d hd hne⟩⟩⟩⟩
end
/-- what is known of such a class -/
structure ExI (K : Fg) (mg : Str → Option Value) (x : Str) (C fI : Addr) (fd : FuncData) (ps : List Str) : Prop where
  o : OexC K C
  g : mg x = some (.ref C)
  i : PySem.W.findIn K (.ref C) "__init__" = some (some (.ref fI))
  t : PySem.W.typeIn K (.ref fI) = some (.type "function")
  b : Binds K fd ps []
@[simp] def sRaiseI (x : String) (fs : List Str) (fa : Env → Out (List VV)) (ρ : Env) : SO := (fa ρ).then fun xs ρ1 => match vals xs with
  | some ds => if ds.length = fs.length then .exc ⟨x, (fs.zip ds).reverse⟩ ρ1 else .bad
  | none => .bad
section
variable {X : Cx} {Y : Yx} {a b c e : Expr} {pos : Pos} {es : List Expr}
theorem rps_1 {K : Fg} {J : Hp} {vs : List V} {ds : List D} (r : RpAll K J vs ds) (h : ds.length = 1) : ∃ v d, vs = [v] ∧ ds = [d] ∧ Rp K J v d := by
  cases r with
  | nil => cases h
  | cons r1 t =>
    cases t with
    | nil => exact ⟨_, _, rfl, rfl, r1⟩
    | cons _ _ => simp at h
theorem rps_2 {K : Fg} {J : Hp} {vs : List V} {ds : List D} (r : RpAll K J vs ds) (h : ds.length = 2) : ∃ v u d e, vs = [v, u] ∧ ds = [d, e] ∧ Rp K J v d ∧ Rp K J u e := by
  cases r with
  | nil => cases h
  | cons r1 t =>
    obtain ⟨u, e, rfl, rfl, r2⟩ := rps_1 t (by simpa using h)
    exact ⟨_, _, _, _, rfl, rfl, r1, r2⟩
theorem ds_raise1 {C fI : Addr} {x : String} {f : Str} {p rpos : Pos} {fd : FuncData} {ps : List Str} {k : Nat} {fa : Env → Out (List VV)} (T : ExI X.K X.mg (x : Str) C fI fd ps) (F : FnOk X.prog X.w X.K X.mg X.base (L2.CX X.prog X.w) k fI fd ps (spI1 X.K C f)) (hr : Room (k + 1) X.A) (hct : Y.ct x = some (.ref C)) (hc : X.calm = true) (tk : Takes X Y.W) (ha : DA X Y (e :: es) fa)
    (hg : Gl X (x : Str) := by rfl) (hdb : ((x : Str) == ("__debug__" : Str)) = false := by decide) (he : starEach (e :: es) X.env = (false, eval e X.env) :: starEach es X.env := by rfl) (hpl : (backTo pos (starEach es X.env)).any (·.1) = false := by rfl) :
    DS X Y (.Raise (some (.Call (.Name (x : Str) p) (e :: es) [] pos)) none rpos) (sRaiseI x [f] fa) := by
  refine PS.imp (ps_raise hc tk (pmk_oex T.o T.i T.t F hr T.b .nil passL hg T.g ha hdb he hpl)) fun D σ H ⟨G, J, ρ, er, h⟩ => ⟨G, J, ρ, er, Post.then h fun xs ρ1 vs J1 H1 s1 r1 e1 h1 => ?_⟩
  split at h1
  · rename_i ds hds
    split at h1
    · rename_i hl
      obtain ⟨v, d, rfl, rfl, rv⟩ := rps_1 (vals_ok r1 hds) hl
      refine ⟨(show 1 ≤ 1000 by decide), fun q hq => ⟨q, v, rfl, upd_same, fun dd hdd hne => ⟨rfl, dd, [(f, v)], upd_same, ?_, ?_, ?_⟩⟩⟩
      · rw [upd_ne hne, upd_same]
      · rw [upd_ne hne] at hdd
        exact hdd
      · have hd1 : H1 dd = none := by
          rw [upd_ne hne] at hdd
          exact hdd
        have eH : upd (del (upd (upd (upd H1 q (exo q C none)) dd (exd dd [(f, v)])) q (exo q C (some dd))) q) dd (.xd [(f, v)]) = upd H1 dd (.xd [(f, v)]) := by
          funext b
          by_cases h1 : b = dd
          · subst h1
            rw [upd_same, upd_same]
          · rw [upd_ne h1, upd_ne h1]
            by_cases h2 : b = q
            · subst h2
              rw [del_same, hq]
            · rw [del_ne h2, upd_ne h2, upd_ne h1, upd_ne h2]
        rw [eH]
        have gr := Grow.side (o := .xd [(f, v)]) e1.ex hd1
        exact h1 _ _ σ J1 _ (.refl _) ⟨hct, .inr ⟨dd, _, rfl, same_free e1.ex hd1, upd_same, rfl, rv, trivial⟩⟩ (e1.grow gr)
    · exact h1.elim
  · exact h1.elim
theorem ds_raise2 {C fI : Addr} {x : String} {f g : Str} {p rpos : Pos} {fd : FuncData} {ps : List Str} {k : Nat} {fa : Env → Out (List VV)} (T : ExI X.K X.mg (x : Str) C fI fd ps) (F : FnOk X.prog X.w X.K X.mg X.base (L2.CX X.prog X.w) k fI fd ps (spI2 X.K C f g)) (hr : Room (k + 1) X.A) (hct : Y.ct x = some (.ref C)) (hc : X.calm = true) (tk : Takes X Y.W) (ha : DA X Y (e :: es) fa)
    (hg : Gl X (x : Str) := by rfl) (hdb : ((x : Str) == ("__debug__" : Str)) = false := by decide) (he : starEach (e :: es) X.env = (false, eval e X.env) :: starEach es X.env := by rfl) (hpl : (backTo pos (starEach es X.env)).any (·.1) = false := by rfl) :
    DS X Y (.Raise (some (.Call (.Name (x : Str) p) (e :: es) [] pos)) none rpos) (sRaiseI x [f, g] fa) := by
  refine PS.imp (ps_raise hc tk (pmk_oex T.o T.i T.t F hr T.b .nil passL hg T.g ha hdb he hpl)) fun D σ H ⟨G, J, ρ, er, h⟩ => ⟨G, J, ρ, er, Post.then h fun xs ρ1 vs J1 H1 s1 r1 e1 h1 => ?_⟩
  split at h1
  · rename_i ds hds
    split at h1
    · rename_i hl
      obtain ⟨v, u, d, d2, rfl, rfl, rv, ru⟩ := rps_2 (vals_ok r1 hds) hl
      refine ⟨(show 2 ≤ 1000 by decide), fun q hq => ⟨q, v, u, rfl, upd_same, fun dd hdd hne => ⟨rfl, dd, [(g, u), (f, v)], ?_, upd_same, ?_, ?_⟩⟩⟩
      · rw [upd_ne (Ne.symm hne), upd_same]
      · rw [upd_ne hne] at hdd
        exact hdd
      · have hd1 : H1 dd = none := by
          rw [upd_ne hne] at hdd
          exact hdd
        have eH : upd (del (upd (upd (upd (upd H1 q (exo q C none)) dd (exd dd [(f, v)])) q (exo q C (some dd))) dd (exd dd [(g, u), (f, v)])) q) dd (.xd [(g, u), (f, v)]) = upd H1 dd (.xd [(g, u), (f, v)]) := by
          funext b
          by_cases h1 : b = dd
          · subst h1
            rw [upd_same, upd_same]
          · rw [upd_ne h1, upd_ne h1]
            by_cases h2 : b = q
            · subst h2
              rw [del_same, hq]
            · rw [del_ne h2, upd_ne h1, upd_ne h2, upd_ne h1, upd_ne h2]
        show Y.W _ _ _ (upd (del _ q) dd (.xd [(g, u), (f, v)]))
        rw [eH]
        have gr := Grow.side (o := .xd [(g, u), (f, v)]) e1.ex hd1
        exact h1 _ _ σ J1 _ (.refl _) ⟨hct, .inr ⟨dd, _, rfl, same_free e1.ex hd1, upd_same, rfl, ru, rfl, rv, trivial⟩⟩ (e1.grow gr)
    · exact h1.elim
  · exact h1.elim
end
end DL

namespace L2
open PySem PySem.Spec PyProof.Rows
/-- several clauses, some with a name -/
abbrev MixC := Value × Option Nat × (Addr → Value → Option Addr → TS)
def wMix (K : PySem.W.Frag) (Wout : WX) (D : Ends) : List MixC → WX
  | [] => Wout
  | (c, none, ts) :: r => fun cls d σ H => ∃ b, PySem.W.exmOne K cls c = some b ∧ (b = true → ∀ a, H a = none → ts a cls d D σ H) ∧ (b = false → wMix K Wout D r cls d σ H)
  | (c, some i, ts) :: r => fun cls d σ H => ∃ b, PySem.W.exmOne K cls c = some b ∧
      (b = true → ∀ a, H a = none → ts a cls d { nx := fun σ' H' => D.nx (σ'.set i none) H', rt := D.rt, bk := fun σ' H' => D.bk (σ'.set i none) H', ct := fun σ' H' => D.ct (σ'.set i none) H' } (σ.set i (some (.ref a))) H) ∧
      (b = false → wMix K Wout D r cls d σ H)
inductive HdsMix (X : Cx) : List ExceptHandler → List MixC → Prop
  | nil : HdsMix X [] []
  | cons {x : Str} {c : Value} {ts : Addr → Value → Option Addr → TS} {b₀ : Stmt} {suite : List Stmt} {np pos' : Pos} {hds : List ExceptHandler} {l : List MixC} (hc : Names X x c)
      (hsu : ∀ (a : Addr) (oe : Obj) (cls : Value) (d : Option Addr) (pn : List (Addr × Obj)), Zc cls d oe → (∃ vs, oe.data = .fields vs) → PSs (X.suite a ((a, oe) :: pn)) (b₀ :: suite) (ts a cls d)) (r : HdsMix X hds l) :
      HdsMix X (.ExceptHandler (some (.Name x np)) none (b₀ :: suite) pos' :: hds) ((c, none, ts) :: l)
  | named {x n : Str} {i : Nat} {c : Value} {ts : Addr → Value → Option Addr → TS} {b₀ : Stmt} {suite : List Stmt} {np pos' : Pos} {hds : List ExceptHandler} {l : List MixC} (hi : X.N[i]? = some n) (hln : X.env.kindOf n = some .local) (hc : Names X x c)
      (hsu : ∀ (a : Addr) (oe : Obj) (cls : Value) (d : Option Addr) (pn : List (Addr × Obj)), Zc cls d oe → (∃ vs, oe.data = .fields vs) → PSs (X.suite a ((a, oe) :: pn)) (b₀ :: suite) (ts a cls d)) (r : HdsMix X hds l) :
      HdsMix X (.ExceptHandler (some (.Name x np)) (some n) (b₀ :: suite) pos' :: hds) ((c, some i, ts) :: l)
section
variable {X : Cx} {body : List Stmt} {h₀ : ExceptHandler} {hds : List ExceptHandler} {l : List MixC} {pos : Pos} {tb : WX → TS} {Wout : WX}
theorem ps_try_mix (hs : X.stack = X.env :: X.outer) (hf : X.env.frame = some X.env.locals) (hN : X.N.Nodup) (tk : Takes X Wout)
    (hb : ∀ (W : WX) (pn : List (Addr × Obj)) (xe : Value → Shared → Prop), Takes (X.tr pn xe) W → PassesOwn (model X.prog X.w) X.A X.env xe → PSs (X.tr pn xe) body (tb W))
    (hh : HdsMix X (h₀ :: hds) l) : PS X (.Try body (h₀ :: hds) [] [] pos) (fun D σ H => tb (wMix X.K Wout D l) D σ H) := by
  refine ⟨fun pins s σ H D I h => ?_⟩
  have ok := I.ok
  have hfr : X.A.frames = some (X.env :: X.outer) := by rw [ok.frames, hs]
  refine wpAny_Try_except ?_
  refine wpAny_mono ((hb (wMix X.K Wout D l) (X.pn ++ pins) (fun e s₁ => wpAny (model X.prog X.w) X.A (noteFrame e X.env) (fun _ s₂ => wpAny (model X.prog X.w) X.A (setFlight e none) (fun _ s₃ =>
    wpAny (model X.prog X.w) X.A (handleBy e X.env (h₀ :: hds)) (SP X pins D) X.xe s₃) X.xe s₂) X.xe s₁) (fun u s' xx => ?_) PassesOwn.looking).run [] s σ H D (I.toTry _) h) (fun f s1 hsp => ?_) (fun e s1 he => he)
  · -- the catch
    obtain ⟨a, B, sI, pins', σ', H', cls, d, rfl, J', nb, up, sky, na, os, ag, w⟩ := xx
    have J : Inv X pins σ' H' sI := J'.ofTry ok
    have sky' : Sky B (X.env :: X.outer) a (Zc cls d) X.env.locals s'.heap := by rw [← hs]; exact sky
    show wpAny (model X.prog X.w) X.A (noteFrame (.ref a) X.env) _ _ _
    refine Sky.land Zc.steady hfr hf sky' fun h3 fl3 up3 => ?_
    have J3 : Inv X pins σ' H' { s' with heap := h3 } := J.landed nb fl3.1 (up.trans up3) os ag
    obtain ⟨oe3, vs3, he3, hz3, hd3⟩ := fl3.there
    have notFr : ∀ {h : Heap} {o : Obj} {vs : Array Value}, h.FunFrames B (X.env :: X.outer) → h.get? a = some o → o.data = .fields vs → a ∉ frs (X.env :: X.outer) := fun {h o vs} ff e dd hm => by
      obtain ⟨_, o', e', hnf⟩ := ff.mem hm
      rw [e] at e'; cases e'
      exact hnf _ dd
    have nfr := notFr fl3.2.2.1 he3 hd3
    have nL : a ≠ X.env.locals := fun z => nfr (List.mem_filterMap.mpr ⟨X.env, List.mem_cons_self, by rw [hf, z]⟩)
    have nF : a ∉ X.fs := fun hm => by
      obtain ⟨e, he, q⟩ := List.mem_filterMap.mp hm
      exact nfr (List.mem_filterMap.mpr ⟨e, List.mem_cons_of_mem _ he, q⟩)
    have S3 := J3.suite he3 hd3 na nL nF
    have LT : PySem.W.Looks (model X.prog X.w) h3 (typeOf (.ref a)) cls := fun A Q E s k q => wpAny_typeOf_ref (k _ _ he3) (by rw [hz3.1]; exact q)
    have testOf : ∀ {x : Str} {c : Value} {np : Pos} {Q : Value → Shared → Prop} {E : Value → Shared → Prop}, Names X x c → Q c { s' with heap := h3 } → wpAny (model X.prog X.w) (X.A.mark (some (.ref a))) (eval (.Name x np) X.env) Q E { s' with heap := h3 } := fun {x c np Q E} hc q => by
      obtain ⟨hg, hdbg, hm | ⟨hm, hv, hnn⟩⟩ := hc
      · exact ld_glob (X := X.suite a ((a, oe3) :: (X.pn ++ pins))) S3 hg hm q hdbg
      · exact ld_blt (X := X.suite a ((a, oe3) :: (X.pn ++ pins))) S3 hg hm hv q hnn hdbg
    have go : ∀ {hds' : List ExceptHandler} {l' : List MixC}, HdsMix X hds' l' → wMix X.K Wout D l' cls d σ' H' →
        wpAny (model X.prog X.w) X.A (handleBy (.ref a) X.env hds') (SP X pins D) X.xe { s' with heap := h3 } := by
      intro hds' l' hk
      induction hk with
      | nil =>
        intro w
        refine wpAny_handleBy_nil ?_
        obtain ⟨k1, k2, k3, oe, vs, T, oT, ts', he, hz, hd, h1, hr⟩ := id fl3
        unfold PySem.passOn
        refine wpAny_bind (wpAny_field he hd h1 ?_)
        rw [if_neg (show ¬ ((Value.ref T == Value.none) = true) from by simp)]
        have fin : wpAny (model X.prog X.w) X.A (setFlight (.ref a) X.env.frame) (fun _ s4 => wpAny (model X.prog X.w) X.A (throw (.ref a) : Sem Flow) (SP X pins D) X.xe s4) X.xe { s' with heap := h3 } := by
          rw [hf]
          refine HandSPX.setFlight_upZ fl3 fun h4 hh4 up4 => wpAny_throw (tk _ _ ?_)
          exact ⟨a, B, sI, pins, σ', H', cls, d, rfl, J, nb, (up.trans up3).trans up4, .inr (.inr (by rw [hs]; exact hh4)), na, os, ag, w⟩
        first
          | exact wpAny_bind (wpAny_pure (wpAny_bind fin))
          | exact wpAny_bind fin
      | @cons x c ts b₀ suite np pos' hds2 l2 hc hsu r ih =>
        intro w
        obtain ⟨b, hb1, hyes, hno⟩ := w
        refine wpAny_handleBy_cons (codeAny_handlers_test ?_) (by intro q; cases q)
        have LM := PySem.W.exm_one (M := model X.prog X.w) (J3.kIn) LT hb1
        refine testOf hc (LM.here ?_)
        cases b with
        | true =>
          refine codeAny_handlers_suite ?_
          refine HandSPX.lands_againZ fl3 fun h4 fl4 up4 => ?_
          have J4 : Inv X pins σ' H' { s' with heap := h4 } := J.landed nb fl4.1 ((up.trans up3).trans up4) os ag
          obtain ⟨oe4, vs4, he4, hz4, hd4⟩ := fl4.there
          have S4 := J4.suite he4 hd4 na nL nF
          refine wpAny_mono ((hsu a oe4 cls d (X.pn ++ pins) hz4 ⟨_, hd4⟩).run [] _ _ H' _ S4 (hyes rfl a na)) (fun f s6 hsp => ?_) (fun _ _ z => False.elim z)
          cases f with
          | next =>
            obtain ⟨σ6, H6, S6, q6⟩ := hsp
            exact ⟨_, _, S6.unsuite ok, q6⟩
          | brk =>
            obtain ⟨σ6, H6, S6, q6⟩ := hsp
            exact ⟨_, _, S6.unsuite ok, q6⟩
          | cont =>
            obtain ⟨σ6, H6, S6, q6⟩ := hsp
            exact ⟨_, _, S6.unsuite ok, q6⟩
          | ret u =>
            obtain ⟨v6, σ6, H6, S6, r6, q6⟩ := hsp
            exact ⟨_, _, _, S6.unsuite ok, r6, q6⟩
        | false =>
          show wpAny _ X.A (handleBy (.ref a) X.env hds2) _ _ _
          exact ih (hno rfl)
      | @named x n i c ts b₀ suite np pos' hds2 l2 hi hln hc hsu r ih =>
        intro w
        have hloc : Loc X.env.scope n := .inl hln
        obtain ⟨b, hb1, hyes, hno⟩ := w
        refine wpAny_handleBy_cons (codeAny_handlers_test ?_) (by intro q; cases q)
        have LM := PySem.W.exm_one (M := model X.prog X.w) (J3.kIn) LT hb1
        refine testOf hc (LM.here ?_)
        cases b with
        | true =>
          refine codeAny_handlers_suite_as ?_
          refine HandSPX.lands_againZ fl3 fun h4 fl4 up4 => ?_
          have J4 : Inv X pins σ' H' { s' with heap := h4 } := J.landed nb fl4.1 ((up.trans up3).trans up4) os ag
          obtain ⟨oe4, vs4, he4, hz4, hd4⟩ := fl4.there
          have S4 := J4.suite he4 hd4 na nL nF
          refine store_ok (X := X.suite a ((a, oe4) :: (X.pn ++ pins))) (v := .ref a) S4 hN hi hloc rfl (fun s5 S5 => ?_) (.inr hln)
          refine wpAny_mono ((hsu a oe4 cls d (X.pn ++ pins) hz4 ⟨_, hd4⟩).run [] s5 _ H' _ S5 (hyes rfl a na)) (fun f s6 hsp => ?_) (fun _ _ z => False.elim z)
          have end_ : ∀ {σ6 : St} {H6 : Hp} {Q : Shared → Prop}, Inv (X.suite a ((a, oe4) :: (X.pn ++ pins))) [] σ6 H6 s6 → (∀ s7, Inv X pins (σ6.set i none) H6 s7 → Q s7) →
              wpAny (model X.prog X.w) X.A (do bindName X.env n .none; unbindBehindTheSuite X.env n pos') (fun _ s7 => Q s7) X.xe s6 := fun {σ6 H6 Q} S6 hq => gone_ok (S6.unsuite ok) hN hi hln hq
          cases f with
          | next =>
            obtain ⟨σ6, H6, S6, q6⟩ := hsp
            exact end_ S6 fun s7 J7 => ⟨_, _, J7, q6⟩
          | brk =>
            obtain ⟨σ6, H6, S6, q6⟩ := hsp
            exact end_ S6 fun s7 J7 => ⟨_, _, J7, q6⟩
          | cont =>
            obtain ⟨σ6, H6, S6, q6⟩ := hsp
            exact end_ S6 fun s7 J7 => ⟨_, _, J7, q6⟩
          | ret u =>
            obtain ⟨v6, σ6, H6, S6, r6, q6⟩ := hsp
            exact end_ S6 fun s7 J7 => ⟨_, _, _, J7, r6, q6⟩
        | false =>
          show wpAny _ X.A (handleBy (.ref a) X.env hds2) _ _ _
          exact ih (hno rfl)
    exact go hh w
  · cases f with
    | next =>
      obtain ⟨σ', H', J', q⟩ := hsp
      exact wpAny_execs_nil ⟨σ', H', J'.ofTry ok, q⟩
    | brk =>
      obtain ⟨σ', H', J', q⟩ := hsp
      exact ⟨σ', H', J'.ofTry ok, q⟩
    | cont =>
      obtain ⟨σ', H', J', q⟩ := hsp
      exact ⟨σ', H', J'.ofTry ok, q⟩
    | ret u =>
      obtain ⟨v, σ', H', J', r, q⟩ := hsp
      exact ⟨v, σ', H', J'.ofTry ok, r, q⟩
end
end L2
namespace DL
open PySem PySem.Spec L2 PyProof.Rows

/-! ### what a named clause returns -/
def FldAt (K : Fg) (J H : Hp) (d : Option Addr) (ev : EV) : Prop := ev.fs = [] ∨ ∃ dd vs, d = some dd ∧ J dd = none ∧ H dd = some (.xd vs) ∧ FsOk K J vs ev.fs
theorem FsOk.mono {K : Fg} {J J' : Hp} (s : Same J J') : ∀ {vs : List (Str × V)} {fs : List (Str × D)}, FsOk K J vs fs → FsOk K J' vs fs
  | [], [], _ => trivial
  | (_, _) :: _, (_, _) :: _, h => ⟨h.1, dp_mono s _ _ h.2.1, FsOk.mono s h.2.2⟩
  | [], _ :: _, h => h.elim
  | _ :: _, [], h => h.elim
theorem FsOk.get {K : Fg} {J : Hp} {f : Str} : ∀ {vs : List (Str × V)} {fs : List (Str × D)} {x : D}, FsOk K J vs fs → fs.lookup f = some x → ∃ v, vs.lookup f = some v ∧ Rp K J v x
  | [], [], _, _, h => by cases h
  | (g, v) :: vs, (g', y) :: fs, x, h, e => by
    obtain ⟨e1, r, t⟩ := h
    subst e1
    have lp : ((g, y) :: fs).lookup f = if f = g then some y else fs.lookup f := by
      by_cases h : f = g
      · subst h
        simp [List.lookup]
      · have e : (f == g) = false := by simpa using h
        rw [if_neg h]
        simp [List.lookup, e]
    rw [lp] at e
    rw [lookup_put]
    by_cases hg : f = g
    · rw [if_pos hg] at e ⊢
      cases e
      exact ⟨v, rfl, r⟩
    · rw [if_neg hg] at e ⊢
      exact t.get e
  | [], _ :: _, _, h, _ => h.elim
  | _ :: _, [], _, h, _ => h.elim
theorem FldAt.grow {K : Fg} {J H J' H' : Hp} {d : Option Addr} {ev : EV} (h : FldAt K J H d ev) (g : Grow J H J' H') : FldAt K J' H' d ev := by
  rcases h with h | ⟨dd, vs, e, j, a, o⟩
  · exact .inl h
  · exact .inr ⟨dd, vs, e, (g.old dd _ a).2.trans j, (g.old dd _ a).1, o.mono g.j⟩
def tX (K : Fg) (ct : String → Option Value) (i : Nat) (a : Addr) (cls : Value) (d : Option Addr) (ev : EV) (r : Option D) : TE := fun σ H Q => ∃ J, Same J H ∧ σ[i]? = some (some (.ref a)) ∧ ct ev.cls = some cls ∧ FldAt K J H d ev ∧ (match r with
  | some x => ∀ v J' H', Grow J H J' H' → Rp K J' v x → Q v H'
  | none => False)
abbrev DX (X : Cx) (Y : Yx) (i : Nat) (e : Expr) (g : EV → Option D) : Prop := ∀ (a : Addr) (oe : Obj) (cls : Value) (d : Option Addr) (pn : List (Addr × Obj)), Zc cls d oe → (∃ vs, oe.data = .fields vs) → ∀ ev, PE (X.suite a ((a, oe) :: pn)) e (tX X.K Y.ct i a cls d ev (g ev))
section
variable {X : Cx} {Y : Yx} {e e1 e2 : Expr} {pos : Pos} {i : Nat}
theorem dx_str {x : Str} {j} : DX X Y i (.Constant (.str x) j pos) (fun _ => some (.str x)) := fun a oe cls d pn hz hf ev => PE.imp pe_str fun σ H Q ⟨J, s, _, _, _, h⟩ => h _ J H (.refl s) (.str x)
theorem dx_int {x : Int} {j} : DX X Y i (.Constant (.int x) j pos) (fun _ => some (.int x)) := fun a oe cls d pn hz hf ev => PE.imp pe_int fun σ H Q ⟨J, s, _, _, _, h⟩ => h _ J H (.refl s) (.int x)
theorem dx_non {j} : DX X Y i (.Constant .none j pos) (fun _ => some .none) := fun a oe cls d pn hz hf ev => PE.imp pe_non fun σ H Q ⟨J, s, _, _, _, h⟩ => h _ J H (.refl s) .non
@[simp] def xFld (x : String) (f : Str) : EV → Option D := fun ev => if ev.cls = x then ev.fs.lookup f else none
theorem dx_fld {x : String} {C : Addr} {n f : Str} {p : Pos} (T : XfC X.K C) (hct : Y.ct x = some (.ref C)) (hno : PySem.W.findIn X.K (.ref C) f = some none) (hN : X.N[i]? = some n := by rfl) (hv : Vis X.env.scope n := by first | exact Or.inl rfl | exact Or.inr (Or.inl rfl) | exact Or.inr (Or.inr rfl))
    (hd : (n == ("__debug__" : Str)) = false := by decide) (hcd : (n == ("__classdict__" : Str)) = false := by decide) (hb : attributeBase (.Name n p) f X.env (eval (.Name n p) X.env) = eval (.Name n p) X.env := by rfl) : DX X Y i (.Attribute (.Name n p) f pos) (xFld x f) := by
  intro a oe cls d pn hz hf ev
  refine PE.imp (pe_xf (X := X) T hno hz hf (pe_var (X := X.suite a ((a, oe) :: pn)) (i := i) hN hv hd hcd) hb) fun σ H Q ⟨J, s, h1, h2, h3, h⟩ => ?_
  unfold xFld at h
  by_cases hx : ev.cls = x
  · rw [if_pos hx] at h
    cases hl : ev.fs.lookup f with
    | none =>
      rw [hl] at h
      exact h.elim
    | some y =>
      rw [hl] at h
      rw [hx, hct] at h2
      rcases h3 with h3 | ⟨dd, vs, ed, jd, hd, o⟩
      · rw [h3] at hl
        cases hl
      · obtain ⟨v, lv, rv⟩ := o.get hl
        exact ⟨_, h1, rfl, (Option.some.inj h2).symm, dd, vs, v, ed, hd, lv, h v J H (.refl s) rv⟩
  · rw [if_neg hx] at h
    exact h.elim
@[simp] def xBin (g : D → D → Option D) (g1 g2 : EV → Option D) : EV → Option D := fun ev => match g1 ev, g2 ev with
  | some x, some y => g x y
  | _, _ => none
theorem dx_two {g1 g2 : EV → Option D} {a : Addr} {cls : Value} {d : Option Addr} {ev : EV} {t1 t2 : TE} {σ : L2.St} {H : Hp} {Q : V → V → Hp → Prop} {r : D → D → Option D} (h : ∃ J, Same J H ∧ σ[i]? = some (some (.ref a)) ∧ Y.ct ev.cls = some cls ∧ FldAt X.K J H d ev ∧ ∃ x y z, g1 ev = some x ∧ g2 ev = some y ∧ r x y = some z ∧
      ∀ u v J' H', Grow J H J' H' → Rp X.K J' u x → Rp X.K J' v y → Q u v H') :
    tX X.K Y.ct i a cls d ev (g1 ev) σ H fun u H1 => tX X.K Y.ct i a cls d ev (g2 ev) σ H1 fun v H2 => Q u v H2 := by
  obtain ⟨J, s, h1, h2, h3, x, y, z, e1, e2, e3, k⟩ := h
  rw [e1, e2]
  exact ⟨J, s, h1, h2, h3, fun u J1 H1 gr ru => ⟨J1, gr.jh, h1, h2, h3.grow gr, fun v J2 H2 gr2 rv => k u v J2 H2 (gr.trans gr2) (dp_mono gr2.j _ _ ru) rv⟩⟩
theorem xbin_some {g : D → D → Option D} {g1 g2 : EV → Option D} {ev : EV} {d : D} (h : xBin g g1 g2 ev = some d) : ∃ x y, g1 ev = some x ∧ g2 ev = some y ∧ g x y = some d := by
  unfold xBin at h
  cases h1 : g1 ev with
  | none => rw [h1] at h; cases h
  | some x =>
    cases h2 : g2 ev with
    | none => rw [h1, h2] at h; cases h
    | some y => rw [h1, h2] at h; exact ⟨x, y, rfl, rfl, h⟩
theorem tx_some {K : Fg} {ct : String → Option Value} {a : Addr} {cls : Value} {d : Option Addr} {ev : EV} {r : Option D} {σ : L2.St} {H : Hp} {Q : VK} (h : tX K ct i a cls d ev r σ H Q) : ∃ z, r = some z := by
  obtain ⟨J, s, h1, h2, h3, h⟩ := h
  cases r with
  | none => exact h.elim
  | some z => exact ⟨z, rfl⟩
theorem dx_op {op : Operator} {g : D → D → Option D} {g1 g2 : EV → Option D} (ho : ∀ (a : Addr) (pn : List (Addr × Obj)), OpD (X.suite a pn) (binaryOp op) g) (h1 : DX X Y i e1 g1) (h2 : DX X Y i e2 g2) : DX X Y i (.BinOp e1 op e2 pos) (xBin g g1 g2) := by
  intro a oe cls d pn hz hf ev
  refine PE.imp (pe_op (ho a _) (h1 a oe cls d pn hz hf ev) (h2 a oe cls d pn hz hf ev)) fun σ H Q h => ?_
  obtain ⟨z, hz2⟩ := tx_some h
  obtain ⟨x, y, q1, q2, q3⟩ := xbin_some hz2
  obtain ⟨J, s, k1, k2, k3, h⟩ := h
  rw [hz2] at h
  exact dx_two (Y := Y) (t1 := fun _ _ _ => True) (t2 := fun _ _ _ => True) (r := g) ⟨J, s, k1, k2, k3, x, y, z, q1, q2, q3, fun u v J' H' gr ru rv => ⟨J', x, y, z, gr.jh, .inl ru, .inl rv, q3, fun w J2 H2 gr2 rw => h w J2 H2 (gr.trans gr2) rw⟩⟩
theorem dx_cmp {op : CmpOp} {g : D → D → Option D} {g1 g2 : EV → Option D} (ho : ∀ (a : Addr) (pn : List (Addr × Obj)), OpD (X.suite a pn) (compareOp op) g) (h1 : DX X Y i e1 g1) (h2 : DX X Y i e2 g2) (hm : behindInMarks op e2 = false := by first | exact nomark _ | rfl) : DX X Y i (.Compare e1 [op] [e2] pos) (xBin g g1 g2) := by
  intro a oe cls d pn hz hf ev
  refine PE.imp (pe_cmpR (ho a _) (h1 a oe cls d pn hz hf ev) (h2 a oe cls d pn hz hf ev) hm) fun σ H Q h => ?_
  obtain ⟨z, hz2⟩ := tx_some h
  obtain ⟨x, y, q1, q2, q3⟩ := xbin_some hz2
  obtain ⟨J, s, k1, k2, k3, h⟩ := h
  rw [hz2] at h
  exact dx_two (Y := Y) (t1 := fun _ _ _ => True) (t2 := fun _ _ _ => True) (r := g) ⟨J, s, k1, k2, k3, x, y, z, q1, q2, q3, fun u v J' H' gr ru rv => ⟨J', x, y, z, gr.jh, .inl ru, .inl rv, q3, fun w J2 H2 gr2 rw => h w J2 H2 (gr.trans gr2) rw⟩⟩
@[simp] def dPair : D → D → Option D := fun x y => some (.tuple [x, y])
theorem dx_tup2 {g1 g2 : EV → Option D} {k : Nat} (h1 : DX X Y i e1 g1) (h2 : DX X Y i e2 g2) (hs1 : starEach [e1, e2] X.env = (false, eval e1 X.env) :: starEach [e2] X.env := by rfl) (hs2 : starEach [e2] X.env = (false, eval e2 X.env) :: starEach [] X.env := by rfl) : DX X Y i (.Tuple [e1, e2] k pos) (xBin dPair g1 g2) := by
  intro a oe cls d pn hz hf ev
  refine PE.imp (pe_tup (X := X.suite a ((a, oe) :: pn)) (pa_cons (h1 a oe cls d pn hz hf ev) (pa_cons (h2 a oe cls d pn hz hf ev) pa_nil hs2) hs1)) fun σ H Q h => ?_
  obtain ⟨z, hz2⟩ := tx_some h
  obtain ⟨x, y, q1, q2, q3⟩ := xbin_some hz2
  cases q3
  obtain ⟨J, s, k1, k2, k3, h⟩ := h
  rw [hz2] at h
  refine dx_two (Y := Y) (t1 := fun _ _ _ => True) (t2 := fun _ _ _ => True) (r := dPair) ⟨J, s, k1, k2, k3, x, y, _, q1, q2, rfl, fun u v J' H' gr ru rv => ⟨(show 2 ≤ sizeLine by decide), fun p hp => ?_⟩⟩
  have gr2 := Grow.new (o := .tup [u, v]) gr.jh hp
  exact h _ _ _ (gr.trans gr2) (.tup (.of upd_same) (.cons (dp_mono gr2.j _ _ ru) (.cons (dp_mono gr2.j _ _ rv) .nil)))
@[simp] def xCall (g : List D → Option D) (g1 : EV → Option D) : EV → Option D := fun ev => match g1 ev with
  | some x => g [x]
  | none => none
theorem dx_callTy {x : Str} {T : String} {p : Pos} {g : List D → Option D} {g1 : EV → Option D} (hc : ∀ (a : Addr) (pn : List (Addr × Obj)), CallD (X.suite a pn) (.type T) g) (hm : X.mg x = none) (hv : bootBuiltins x = some (.type T)) (h1 : DX X Y i e g1) (hg : Gl X x := by rfl) (hn : x ≠ "__name__" := by decide)
    (hdb : (x == ("__debug__" : Str)) = false := by decide) (he : starEach [e] X.env = (false, eval e X.env) :: starEach [] X.env := by rfl) (hpl : (backTo pos (starEach [] X.env)).any (·.1) = false := by rfl) : DX X Y i (.Call (.Name x p) [e] [] pos) (xCall g g1) := by
  intro a oe cls d pn hz hf ev
  refine PE.imp (pe_callTy (X := X.suite a ((a, oe) :: pn)) (hc a _) hg hm hv (pa_cons (h1 a oe cls d pn hz hf ev) pa_nil he) hn hdb he hpl) fun σ H Q h => ?_
  obtain ⟨z, hz2⟩ := tx_some h
  obtain ⟨J, s, k1, k2, k3, h⟩ := h
  rw [hz2] at h
  unfold xCall at hz2
  cases hg1 : g1 ev with
  | none => rw [hg1] at hz2; cases hz2
  | some y =>
    rw [hg1] at hz2
    exact ⟨J, s, k1, k2, k3, fun v J' H' gr rv => ⟨J', [y], z, gr.jh, ⟨.inl rv, trivial⟩, hz2, fun w J2 H2 gr2 rw => h w J2 H2 (gr.trans gr2) rw⟩⟩
end

/-! ### try with several clauses -/
inductive Cl where
  | plain (x : String) (cs : SC)
  | named (x : String) (i : Nat) (g : EV → Option D)
@[simp] def tryC (sub : String → String → Bool) (ev : EV) (ρ : Env) : List Cl → SO
  | [] => .exc ev ρ
  | .plain x cs :: r => if sub ev.cls x = true then noExc (cs ρ) else tryC sub ev ρ r
  | .named x i g :: r => if sub ev.cls x = true then (if i < ρ.length then (match g ev with
    | some d => .rt d ρ
    | none => .bad) else .bad) else tryC sub ev ρ r
@[simp] def sTryM (sub : String → String → Bool) (cb : SC) (cls : List Cl) (ρ : Env) : SO := match cb ρ with
  | .exc e ρ1 => tryC sub e ρ1 cls
  | o => o
def DHs (X : Cx) (Y : Yx) (sub : String → String → Bool) (hds : List ExceptHandler) (cls : List Cl) : Prop := ∃ l, HdsMix X hds l ∧ ∀ (D : Ends) (G : Gd) (J H : Hp) (σ : L2.St) (ρ : Env) (ev : EV) (c : Value) (dx : Option Addr), ER X.K G J H σ ρ → ExcAt Y X.K J H ev c dx →
  SPost X.K Y G J (tryC sub ev ρ cls) D → wMix X.K Y.W D l c dx σ H
section
variable {X : Cx} {Y : Yx} {e : Expr} {pos : Pos} {sub : String → String → Bool} {hds : List ExceptHandler} {cls : List Cl}
theorem dh_nil : DHs X Y sub [] [] := ⟨[], .nil, fun D G J H σ ρ ev c dx er hx h => h c dx σ J H (.refl J) hx er⟩
theorem dh_cons {x : String} {c : Value} {suite : List Stmt} {b₀ : Stmt} {np pos' : Pos} {cs : SC} (T : SubT X.K Y.ct sub) (hct : Y.ct x = some c) (hm : X.mg (x : Str) = some c) (hsu : ∀ (a : Addr) (oe : Obj) (pn : List (Addr × Obj)), DSs (X.suite a ((a, oe) :: pn)) Y.no (b₀ :: suite) cs) (hr : DHs X Y sub hds cls)
    (hg : Gl X (x : Str) := by rfl) (hdb : ((x : Str) == ("__debug__" : Str)) = false := by decide) : DHs X Y sub (.ExceptHandler (some (.Name (x : Str) np)) none (b₀ :: suite) pos' :: hds) (.plain x cs :: cls) := by
  obtain ⟨l, hl, hw⟩ := hr
  refine ⟨(c, none, fun _ _ _ => tS X.K Y.no cs) :: l, .cons ⟨hg, hdb, .inl hm⟩ (fun a oe cls d pn _ _ => hsu a oe pn) hl, fun D G J H σ ρ ev c1 dx er hx h => ?_⟩
  have h : SPost X.K Y G J (if sub ev.cls x = true then noExc (cs ρ) else tryC sub ev ρ cls) D := h
  refine ⟨sub ev.cls x, T.ok _ _ _ _ hx.1 hct, fun hy a _ => ?_, fun hn => ?_⟩
  · rw [if_pos hy] at h
    exact ⟨G, J, ρ, er, spost_no h⟩
  · rw [if_neg (by rw [hn]; exact Bool.false_ne_true)] at h
    exact hw D G J H σ ρ ev c1 dx er hx h
theorem dh_named (i : Nat) {x : String} {n : Str} {c : Value} {np pos' rpos : Pos} {g : EV → Option D} (T : SubT X.K Y.ct sub) (hct : Y.ct x = some c) (hm : X.mg (x : Str) = some c) (he : DX X Y i e g) (hr : DHs X Y sub hds cls) (hi : X.N[i]? = some n := by rfl) (hln : X.env.kindOf n = some .local := by rfl)
    (hg : Gl X (x : Str) := by rfl) (hdb : ((x : Str) == ("__debug__" : Str)) = false := by decide) : DHs X Y sub (.ExceptHandler (some (.Name (x : Str) np)) (some n) [.Return (some e) rpos] pos' :: hds) (.named x i g :: cls) := by
  obtain ⟨l, hl, hw⟩ := hr
  refine ⟨(c, some i, fun a c' d => fun D σ H => ∃ ev, tX X.K Y.ct i a c' d ev (g ev) σ H D.rt) :: l, .named hi hln ⟨hg, hdb, .inl hm⟩ (fun a oe c' d pn hz hf => ?_) hl, fun D G J H σ ρ ev c1 dx er hx h => ?_⟩
  · refine ⟨fun pins s σ H D I ⟨ev, h⟩ => ?_⟩
    exact (pss_one (ps_ret (he a oe c' d pn hz hf ev))).run pins s σ H D I h
  · have h : SPost X.K Y G J (if sub ev.cls x = true then (if i < ρ.length then (match g ev with
      | some d => .rt d ρ
      | none => .bad) else .bad) else tryC sub ev ρ cls) D := h
    refine ⟨sub ev.cls x, T.ok _ _ _ _ hx.1 hct, fun hy a _ => ?_, fun hn => ?_⟩
    · rw [if_pos hy] at h
      by_cases hlen : i < ρ.length
      case neg =>
        rw [if_neg hlen] at h
        exact h.elim
      rw [if_pos hlen] at h
      cases hge : g ev with
      | none =>
        rw [hge] at h
        exact h.elim
      | some d =>
        rw [hge] at h
        refine ⟨ev, J, er.ex, List.getElem?_set_self (by rw [er.len]; exact hlen), hx.1, ?_, ?_⟩
        · rcases hx.2 with ⟨q, _⟩ | ⟨dd, vs, q1, q2, q3, q4⟩
          · exact .inl q
          · exact .inr ⟨dd, vs, q1, q2, q3, q4⟩
        · rw [hge]
          exact fun v J' H' gr rv => h v σ J' H' gr.j rv (er.grow gr)
    · rw [if_neg (by rw [hn]; exact Bool.false_ne_true)] at h
      exact hw D G J H σ ρ ev c1 dx er hx h
theorem ds_tryM {body : List Stmt} {h₀ : ExceptHandler} {cb : SC} (hs : X.stack = X.env :: X.outer) (hf : X.env.frame = some X.env.locals) (hN : X.N.Nodup) (tk : Takes X Y.W)
    (hb : ∀ (W : WX) (pn : List (Addr × Obj)) (xe : Value → Shared → Prop), Takes (X.tr pn xe) W → PassesOwn (model X.prog X.w) X.A X.env xe → DSs (X.tr pn xe) ⟨Y.ct, W⟩ body cb)
    (hh : DHs X Y sub (h₀ :: hds) cls) : DS X Y (.Try body (h₀ :: hds) [] [] pos) (sTryM sub cb cls) := by
  obtain ⟨l, hl, hw⟩ := hh
  refine PS.imp (ps_try_mix (tb := fun W => tS X.K ⟨Y.ct, W⟩ cb) hs hf hN tk hb hl) fun D σ H ⟨G, J, ρ, er, h⟩ => ⟨G, J, ρ, er, ?_⟩
  unfold sTryM at h
  cases hc : cb ρ with
  | nx ρ1 => rw [hc] at h; exact h
  | rt d ρ1 => rw [hc] at h; exact h
  | ro o ρ1 => rw [hc] at h; exact h
  | bk ρ1 => rw [hc] at h; exact h
  | ct ρ1 => rw [hc] at h; exact h
  | bad => rw [hc] at h; exact h
  | exc ev ρ1 =>
    rw [hc] at h
    intro c1 dx σ1 J1 H1 s1 hx e1
    exact hw D G J1 H1 σ1 ρ1 ev c1 dx e1 (hx.ct rfl) (SPost.mono s1 h)
end
end DL

namespace DL
open PySem PySem.Spec L2 PyProof.Rows
/-! ### the tape: [[ints], int] -/
/-- return [[ints], int], a tape -/
@[simp] def sRetTape (fn : Env → Out (List D)) (fe : EC) (ρ : Env) : SO := match fn ρ with
  | .ok xs ρ1 => match intsD xs with
    | some ns => match fe ρ1 with
      | .ok (.val (.int sd)) ρ2 => .ro (.tape ns sd) ρ2
      | _ => .bad
    | none => .bad
  | _ => .bad
theorem rps_ints {K : Fg} {J : Hp} : ∀ {vs : List V} {xs : List D} {ns : List Int}, RpAll K J vs xs → intsD xs = some ns → vs = ns.map V.int
  | [], [], ns, r, h => by
    cases h
    rfl
  | v :: vs, .int i :: xs, ns, r, h => by
    unfold intsD at h
    split at h
    · rename_i l hl
      cases h
      cases r with
      | cons r1 r2 =>
        cases r1
        rw [rps_ints r2 hl]
        rfl
    · cases h
  | v :: vs, .none :: xs, ns, r, h => by cases h
  | v :: vs, .bool _ :: xs, ns, r, h => by cases h
  | v :: vs, .str _ :: xs, ns, r, h => by cases h
  | v :: vs, .list _ :: xs, ns, r, h => by cases h
  | v :: vs, .tuple _ :: xs, ns, r, h => by cases h
  | v :: vs, .dict _ :: xs, ns, r, h => by cases h
  | [], _ :: _, _, r, _ => by cases r
  | _ :: _, [], _, r, _ => by cases r
section
variable {X : Cx} {Y : Yx} {a b c e : Expr} {pos : Pos}
theorem ds_retTape {fn : Env → Out (List D)} {fe : EC} {lpos : Pos} (ha : DN X Y a fn) (hb : DE X Y b fe) (hs1 : starEach [a, b] X.env = (false, eval a X.env) :: starEach [b] X.env := by rfl) (hs2 : starEach [b] X.env = (false, eval b X.env) :: starEach [] X.env := by rfl) :
    DS X Y (.Return (some (.List [a, b] lpos)) pos) (sRetTape fn fe) := by
  refine PS.imp (ps_ret (pe_lst (pa_cons ha (pa_cons hb pa_nil hs2) hs1))) fun D σ H ⟨G, J, ρ, er, h⟩ => ⟨G, J, ρ, er, ?_⟩
  unfold sRetTape at h
  cases hf : fn ρ with
  | exc ev ρ1 => rw [hf] at h; exact h.elim
  | bad => rw [hf] at h; exact h.elim
  | ok xs ρ1 =>
    rw [hf] at h
    dsimp only at h
    split at h
    · rename_i ns hns
      split at h
      · rename_i sd ρ2 hfe
        intro p vs J1 H1 s1 hp r1 e1
        have hj1 : J1 p = none := same_free e1.ex hp
        obtain ⟨_, hgp⟩ := e1.np hp
        have hj0 : G.J0 p = none := same_free e1.j0 hj1
        refine ⟨_, J1, ρ1, e1.guard (o := .lst vs) hp, ?_⟩
        rw [hfe]
        intro v J2 H2 s2 rv e2
        have rv : Rp X.K J2 v (.int sd) := rv
        cases rv
        refine ⟨(show 2 ≤ sizeLine by decide), fun q hq => ?_⟩
        obtain ⟨a1, a2⟩ := e2.gAt
        have a2 : J2 p = none := a2.trans hj0
        have hpq : q ≠ p := fun z => by
          rw [z, a1] at hq
          cases hq
        have e3 := e2.off hj0 hgp
        have hcp : cutOff H2 p p = none := if_pos rfl
        have g1 := Grow.side (o := .lst vs) e3.ex hcp
        rw [cutOff_upd a1] at g1
        have e4 := e3.grow g1
        have g2 := Grow.side (o := .lst [.ref p, .int sd]) e4.ex hq
        have e5 := e4.grow g2
        refine h q [p] σ J2 _ (s1.trans s2) ⟨q, p, rfl, hpq, upd_same, ?_⟩ (fun b hb => ?_) e5
        · rw [upd_ne (Ne.symm hpq), a1, rps_ints r1 hns]
        · rcases (by simpa using hb : b = q ∨ b = p) with rfl | rfl
          · exact e4.np hq
          · exact ⟨a2, hgp⟩
      · exact h.elim
    · exact h.elim

/-! ### the tape's own rules: slot i holds the tape, slot j its cells -/
@[simp] def isTp (ρ : Env) (i : Nat) : Option (Bool × Addr × List Int × Int) := match ρ[i]? with
  | some (.own fx (.tapB b cs sd)) => some (fx, b, cs, sd)
  | _ => none
theorem isTp_some {ρ : Env} {i : Nat} {fx : Bool} {b : Addr} {cs : List Int} {sd : Int} (h : isTp ρ i = some (fx, b, cs, sd)) : ρ[i]? = some (.own fx (.tapB b cs sd)) := by
  unfold isTp at h
  split at h
  · rename_i h1
    cases h
    exact h1
  · cases h
@[simp] def isCe (ρ : Env) (i j : Nat) : Option (Bool × Addr × List Int × Int) := match isTp ρ i, ρ[j]? with
  | some (fx, b, cs, sd), some (.rf b') => if b' = b then some (fx, b, cs, sd) else none
  | _, _ => none
theorem isCe_some {ρ : Env} {i j : Nat} {fx : Bool} {b : Addr} {cs : List Int} {sd : Int} (h : isCe ρ i j = some (fx, b, cs, sd)) : ρ[i]? = some (.own fx (.tapB b cs sd)) ∧ ρ[j]? = some (.rf b) := by
  unfold isCe at h
  split at h
  · rename_i h1 h2
    split at h
    · rename_i e
      subst e
      cases h
      exact ⟨isTp_some h1, h2⟩
    · cases h
  · cases h
theorem rf_at {K : Fg} {G : Gd} {J H : Hp} {σ : L2.St} {ρ : Env} {j : Nat} {b : Addr} (er : ER K G J H σ ρ) (hj : ρ[j]? = some (.rf b)) : σ[j]? = some (some (.ref b)) := by
  obtain ⟨fs, hs, _⟩ := er.ft
  obtain ⟨y, fo, e1, _, so⟩ := hs.get hj
  cases so
  exact e1
theorem tp_at {K : Fg} {G : Gd} {J H : Hp} {σ : L2.St} {ρ : Env} {i : Nat} {fx : Bool} {b : Addr} {cs : List Int} {sd : Int} (er : ER K G J H σ ρ) (hi : ρ[i]? = some (.own fx (.tapB b cs sd))) :
    ∃ a, σ[i]? = some (some (.ref a)) ∧ a ≠ b ∧ H a = some (.lst [.ref b, .int sd]) ∧ H b = some (.lst (cs.map V.int)) ∧ J a = none ∧ J b = none ∧ OwnAt K J H (.tapB b cs sd) [a, b] := by
  obtain ⟨a, r, e1, ho, hn⟩ := own_foot er hi
  obtain ⟨a', ef, n, h1, h2⟩ := id ho
  injection ef with x1 x2
  subst x1 x2
  exact ⟨a, e1, n, h1, h2, hn a (by simp), hn b (by simp), ho⟩
theorem tp_cells {K : Fg} {G : Gd} {J H : Hp} {σ : L2.St} {ρ : Env} {i : Nat} {fx : Bool} {b : Addr} {cs : List Int} {sd : Int} (cs' : List Int) (er : ER K G J H σ ρ) (hi : ρ[i]? = some (.own fx (.tapB b cs sd))) :
    ER K G J (upd H b (.lst (cs'.map V.int))) σ (ρ.set i (.own fx (.tapB b cs' sd))) := by
  obtain ⟨a, e1, n, h1, h2, ja, jb, ho⟩ := tp_at er hi
  refine er.callO (r' := [b]) hi e1 ho ⟨.refl _, fun x o hx => ?_, fun x o hx ho => ⟨?_, rfl⟩⟩ ⟨a, rfl, n, by rw [upd_ne n]; exact h1, upd_same⟩ fun x hx => ⟨?_, .inl hx⟩
  · have : x ≠ b := fun z => by
      rw [z, jb] at hx
      cases hx
    rw [upd_ne this]
    exact er.ex _ _ hx
  · have : x ≠ b := fun z => hx (by rw [z]; simp)
    rw [upd_ne this]
    exact ho
  · rcases (by simpa using hx : x = a ∨ x = b) with rfl | rfl
    · exact ja
    · exact jb
theorem tp_seed {K : Fg} {G : Gd} {J H : Hp} {σ : L2.St} {ρ : Env} {i : Nat} {fx : Bool} {a b : Addr} {cs : List Int} {sd : Int} (sd' : Int) (er : ER K G J H σ ρ) (hi : ρ[i]? = some (.own fx (.tapB b cs sd))) (hs : σ[i]? = some (some (.ref a))) :
    ER K G J (upd H a (.lst [.ref b, .int sd'])) σ (ρ.set i (.own fx (.tapB b cs sd'))) := by
  obtain ⟨a', e1, n, h1, h2, ja, jb, ho⟩ := tp_at er hi
  rw [hs] at e1
  cases e1
  refine er.callO (r' := [b]) hi hs ho ⟨.refl _, fun x o hx => ?_, fun x o hx ho => ⟨?_, rfl⟩⟩ ⟨a, rfl, n, upd_same, by rw [upd_ne (Ne.symm n)]; exact h2⟩ fun x hx => ⟨?_, .inl hx⟩
  · have : x ≠ a := fun z => by
      rw [z, ja] at hx
      cases hx
    rw [upd_ne this]
    exact er.ex _ _ hx
  · have : x ≠ a := fun z => hx (by rw [z]; simp)
    rw [upd_ne this]
    exact ho
  · rcases (by simpa using hx : x = a ∨ x = b) with rfl | rfl
    · exact ja
    · exact jb
/-- cells = tape[0] -/
@[simp] def sTpC (i j : Nat) (ρ : Env) : SO := match isTp ρ i with
  | some (_, b, _, _) => if loose ρ j = true ∧ j ≠ i then .nx (ρ.set j (.rf b)) else .bad
  | none => .bad
theorem atI_0 {x : V} {xs : List V} : atI (x :: xs) 0 = some x := by simp [atI, ixN]
theorem atI_1 {x y : V} {xs : List V} : atI (x :: y :: xs) 1 = some y := by
  simp [atI, ixN]
  rw [if_pos (by omega)]
  rfl
theorem ER.setRf {K : Fg} {G : Gd} {J H : Hp} {σ : L2.St} {ρ : Env} {j : Nat} {b : Addr} (e : ER K G J H σ ρ) (hl : loose ρ j = true) : ER K G J H (σ.set j (some (.ref b))) (ρ.set j (.rf b)) := by
  obtain ⟨fs, h, ap, q⟩ := e.ft
  refine ⟨e.ex, e.j0, e.keep, e.pn, ⟨fs.set j [], SlsOk.set (.rf b) j h, ap.nilSet j, fun f hf a ha => ?_⟩, fun k a hk => ?_⟩
  · rcases mem_set_of hf with rfl | hf
    · cases ha
    · exact q f hf a ha
  · have ne := e.fx_ne hl hk
    rw [List.getElem?_set_ne ne.symm, List.getElem?_set_ne ne.symm]
    exact e.fx k a hk
theorem ds_tpC (i j : Nat) {x y : Str} {p0 p1 p2 spos : Pos} {k : Nat} (hN : X.N.Nodup) (hi : X.N[i]? = some x := by rfl) (hj : X.N[j]? = some y := by rfl) (hv : Vis X.env.scope x := by first | exact Or.inl rfl | exact Or.inr (Or.inl rfl) | exact Or.inr (Or.inr rfl))
    (hd : (x == ("__debug__" : Str)) = false := by decide) (hcd : (x == ("__classdict__" : Str)) = false := by decide) (hx : Loc X.env.scope y := by first | exact Or.inl rfl | exact Or.inr rfl)
    (hf : X.fn y = true ∨ X.env.scope.names.lookup y = some .local := by first | exact .inl rfl | exact .inr rfl | assumption)
    (hs : swapsWithSole [.Name y p0] (.Subscript (.Name x p1) (.Constant (.int 0) k p2) pos) spos.line X.env = pure false := by rfl) (hw : swappedStores [.Name y p0] (.Subscript (.Name x p1) (.Constant (.int 0) k p2) pos) X.env = pure none := by rfl)
    (h1 : (assignEach [.Name y p0] X.env).map (·.2) = [assign (.Name y p0) X.env] := by rfl) (hpx : PlainIx (.Constant (.int 0) k p2) := by exact fun _ _ => rfl) :
    DS X Y (.Assign [.Name y p0] (.Subscript (.Name x p1) (.Constant (.int 0) k p2) pos) spos) (sTpC i j) := by
  refine PS.imp (ps_asg (pe_ix ix_seq (pe_var (i := i) hi hv hd hcd) pe_int hpx) (pg_name hN hj hx hf) hs hw h1) fun D σ H ⟨G, J, ρ, er, h⟩ => ?_
  unfold sTpC at h
  split at h
  · rename_i fx b cs sd ht
    split at h
    · rename_i hl
      obtain ⟨a, e1, n, k1, k2, ja, jb, ho⟩ := tp_at er (isTp_some ht)
      exact ⟨_, e1, .inl ⟨a, [.ref b, .int sd], 0, .ref b, rfl, rfl, .of k1, atI_0, h _ J H (.refl _) (er.setRf hl.1)⟩⟩
    · exact h.elim
  · exact h.elim
/-- len(cells) -/
@[simp] def eTpLen (i j : Nat) (ρ : Env) : Out VV := match isCe ρ i j with
  | some (_, _, cs, _) => .ok (.val (.int (cs.length : Nat))) ρ
  | none => .bad
theorem de_tpLen (i j : Nat) {y : Str} {p p2 : Pos} (hm : X.mg "len" = none) (hj : X.N[j]? = some y := by rfl) (hv : Vis X.env.scope y := by first | exact Or.inl rfl | exact Or.inr (Or.inl rfl) | exact Or.inr (Or.inr rfl))
    (hd : (y == ("__debug__" : Str)) = false := by decide) (hcd : (y == ("__classdict__" : Str)) = false := by decide) (hg : Gl X "len" := by rfl)
    (he : starEach [.Name y p2] X.env = (false, eval (.Name y p2) X.env) :: starEach [] X.env := by rfl) (hpl : (backTo pos (starEach [] X.env)).any (·.1) = false := by rfl) : DE X Y (.Call (.Name "len" p) [.Name y p2] [] pos) (eTpLen i j) := by
  refine PE.imp (pe_callB call_len hg hm PySem.boot_len (pa_cons (pe_var (i := j) hj hv hd hcd) pa_nil he) (by decide) (by decide) he hpl) fun σ H Q ⟨G, J, ρ, er, h⟩ => ?_
  unfold eTpLen at h
  split at h
  · rename_i fx b cs sd ht
    obtain ⟨hi, hj2⟩ := isCe_some ht
    obtain ⟨a, e1, n, k1, k2, ja, jb, ho⟩ := tp_at er hi
    exact ⟨_, rf_at er hj2, _, (cs.map V.int).length, rfl, .inl ⟨_, .of k2, rfl⟩, by rw [List.length_map]; exact h _ J H (.refl _) (show RV X.K σ J (.int (cs.length : Nat)) (.val (.int (cs.length : Nat))) from Rp.int _) er⟩
  · exact h.elim
/-- cells[0] -/
@[simp] def eTpAt (i j : Nat) (ρ : Env) : Out VV := match isCe ρ i j with
  | some (_, _, c :: _, _) => .ok (.val (.int c)) ρ
  | _ => .bad
theorem de_tpAt (i j : Nat) {y : Str} {p2 p3 : Pos} {k : Nat} (hj : X.N[j]? = some y := by rfl) (hv : Vis X.env.scope y := by first | exact Or.inl rfl | exact Or.inr (Or.inl rfl) | exact Or.inr (Or.inr rfl))
    (hd : (y == ("__debug__" : Str)) = false := by decide) (hcd : (y == ("__classdict__" : Str)) = false := by decide) (hpx : PlainIx (.Constant (.int 0) k p3) := by exact fun _ _ => rfl) : DE X Y (.Subscript (.Name y p2) (.Constant (.int 0) k p3) pos) (eTpAt i j) := by
  refine PE.imp (pe_ix ix_seq (pe_var (i := j) hj hv hd hcd) pe_int hpx) fun σ H Q ⟨G, J, ρ, er, h⟩ => ?_
  unfold eTpAt at h
  split at h
  · rename_i fx b c cs sd ht
    obtain ⟨hi, hj2⟩ := isCe_some ht
    obtain ⟨a, e1, n, k1, k2, ja, jb, ho⟩ := tp_at er hi
    exact ⟨_, rf_at er hj2, .inl ⟨b, _, 0, .int c, rfl, rfl, .of k2, atI_0, h _ J H (.refl _) (show RV X.K σ J (.int c) (.val (.int c)) from Rp.int c) er⟩⟩
  · exact h.elim
/-- tape[1] -/
@[simp] def eTpSeed (i : Nat) (ρ : Env) : Out VV := match isTp ρ i with
  | some (_, _, _, sd) => .ok (.val (.int sd)) ρ
  | none => .bad
theorem de_tpSeed (i : Nat) {y : Str} {p2 p3 : Pos} {k : Nat} (hj : X.N[i]? = some y := by rfl) (hv : Vis X.env.scope y := by first | exact Or.inl rfl | exact Or.inr (Or.inl rfl) | exact Or.inr (Or.inr rfl))
    (hd : (y == ("__debug__" : Str)) = false := by decide) (hcd : (y == ("__classdict__" : Str)) = false := by decide) (hpx : PlainIx (.Constant (.int 1) k p3) := by exact fun _ _ => rfl) : DE X Y (.Subscript (.Name y p2) (.Constant (.int 1) k p3) pos) (eTpSeed i) := by
  refine PE.imp (pe_ix ix_seq (pe_var (i := i) hj hv hd hcd) pe_int hpx) fun σ H Q ⟨G, J, ρ, er, h⟩ => ?_
  unfold eTpSeed at h
  split at h
  · rename_i fx b cs sd ht
    obtain ⟨a, e1, n, k1, k2, ja, jb, ho⟩ := tp_at er (isTp_some ht)
    exact ⟨_, e1, .inl ⟨a, _, 1, .int sd, rfl, rfl, .of k1, atI_1, h _ J H (.refl _) (show RV X.K σ J (.int sd) (.val (.int sd)) from Rp.int sd) er⟩⟩
  · exact h.elim
/-- cells.pop(0) -/
@[simp] def sTpPop (i j : Nat) (ρ : Env) : SO := match isCe ρ i j with
  | some (fx, b, _ :: cs, sd) => .nx (ρ.set i (.own fx (.tapB b cs sd)))
  | _ => .bad
theorem ds_tpPop (i j : Nat) {x : Str} {p p2 apos cpos : Pos} {k : Nat} (hN : X.N[j]? = some x := by rfl) (hv : Vis X.env.scope x := by first | exact Or.inl rfl | exact Or.inr (Or.inl rfl) | exact Or.inr (Or.inr rfl)) (hd : (x == ("__debug__" : Str)) = false := by decide)
    (hcd : (x == ("__classdict__" : Str)) = false := by decide) (hbase : attributeBase (.Name x p) "pop" X.env (eval (.Name x p) X.env) = eval (.Name x p) X.env := by rfl)
    (hfew : ((backTo cpos (starEach [.Constant (.int 0) k p2] X.env)).all (fun x => !x.1) && (backToKw cpos (keywordEach [] X.env)).all (fun x => x.1.isSome)
      && decide (([.Constant (.int 0) k p2] : List Expr).length + ([] : List Keyword).length + (if ([] : List Keyword).isEmpty then 0 else 1) < 30)) = true := by rfl)
    (hline : (apos.endLine == cpos.line) = true := by rfl) (hs : starEach [.Constant (.int 0) k p2] X.env = (false, eval (.Constant (.int 0) k p2) X.env) :: starEach [] X.env := by rfl) (hplain : (backTo cpos (starEach [] X.env)).any (·.1) = false := by rfl)
    (hsw : swapsWith (.Call (.Attribute (.Name x p) "pop" apos) [.Constant (.int 0) k p2] [] cpos) none pos.line X.env = pure false := by rfl) :
    DS X Y (.Expr (.Call (.Attribute (.Name x p) "pop" apos) [.Constant (.int 0) k p2] [] cpos) pos) (sTpPop i j) := by
  refine PS.imp (ps_expr (pe_bm PySem.F.plainAttrs_list PySem.F.slot_list_pop PySem.F.type_list_pop mt_popAt (pe_var (i := j) hN hv hd hcd) (pa_cons pe_int pa_nil hs) hbase hfew hline hs hplain) hsw) fun D σ H ⟨G, J, ρ, er, h⟩ => ?_
  unfold sTpPop at h
  split at h
  · rename_i fx b c cs sd ht
    obtain ⟨hi, hj2⟩ := isCe_some ht
    obtain ⟨a, e1, n, k1, k2, ja, jb, ho⟩ := tp_at er hi
    refine ⟨_, rf_at er hj2, .inl ⟨rfl, _, .inl (.inl k2)⟩, b, (c :: cs).map V.int, 0, 0, .int c, rfl, rfl, k2, by decide, by decide, ?_, rfl, ?_⟩
    · simp [seqIndex?]
    · exact h _ _ _ (.refl _) (tp_cells cs er hi)
  · exact h.elim
/-- cells[0] = e -/
@[simp] def sTpSet (i j : Nat) (f : EC) (ρ : Env) : SO := (f ρ).then fun y ρ1 => match y with
  | .val (.int v) => match isCe ρ1 i j with
    | some (fx, b, _ :: cs, sd) => .nx (ρ1.set i (.own fx (.tapB b (v :: cs) sd)))
    | _ => .bad
  | _ => .bad
theorem ds_tpSet (i j : Nat) {x : Str} {f : EC} {p p2 tpos : Pos} {k : Nat} (hv : DE X Y e f) (hN : X.N[j]? = some x := by rfl) (hvis : Vis X.env.scope x := by first | exact Or.inl rfl | exact Or.inr (Or.inl rfl) | exact Or.inr (Or.inr rfl)) (hd : (x == ("__debug__" : Str)) = false := by decide)
    (hcd : (x == ("__classdict__" : Str)) = false := by decide)
    (ha : ∀ v, assign (.Subscript (.Name x p) (.Constant (.int 0) k p2) tpos) X.env v = (do
      let ov ← holding [v] (eval (.Name x p) X.env)
      let iv ← holding [v, ov] (eval (.Constant (.int 0) k p2) X.env)
      standAt tpos
      holding [v, ov, iv] (setItem ov iv v)
      release [v, ov, iv] []) := by intro _; rfl) (hs : swapsWithSole [.Subscript (.Name x p) (.Constant (.int 0) k p2) tpos] e pos.line X.env = pure false := by rfl) (hw : swappedStores [.Subscript (.Name x p) (.Constant (.int 0) k p2) tpos] e X.env = pure none := by rfl)
    (h1 : (assignEach [.Subscript (.Name x p) (.Constant (.int 0) k p2) tpos] X.env).map (·.2) = [assign (.Subscript (.Name x p) (.Constant (.int 0) k p2) tpos) X.env] := by rfl) : DS X Y (.Assign [.Subscript (.Name x p) (.Constant (.int 0) k p2) tpos] e pos) (sTpSet i j f) := by
  refine PS.imp (ps_asg hv (pg_sub (pe_var (i := j) hN hvis hd hcd) pe_int set_list ha) hs hw h1) fun D σ H ⟨G, J, ρ, er, h⟩ => ⟨G, J, ρ, er, Post.then h fun y ρ1 v J1 H1 s1 r1 e1 hp => ?_⟩
  split at hp
  · rename_i n
    split at hp
    · rename_i fx b c cs sd ht
      obtain ⟨hi, hj2⟩ := isCe_some ht
      obtain ⟨a, q1, n, k1, k2, ja, jb, ho⟩ := tp_at e1 hi
      have r1 : Rp X.K J1 v (.int _) := r1
      cases r1
      exact ⟨_, rf_at e1 hj2, b, (c :: cs).map V.int, 0, 0, rfl, rfl, k2, by simp [ixN], hp _ _ _ (.refl _) (tp_cells (_ :: cs) e1 hi)⟩
    · exact hp.elim
  · exact hp.elim
/-- tape[1] = e -/
@[simp] def sTpSeed (i : Nat) (f : EC) (ρ : Env) : SO := (f ρ).then fun y ρ1 => match y with
  | .val (.int v) => match isTp ρ1 i with
    | some (fx, b, cs, _) => .nx (ρ1.set i (.own fx (.tapB b cs v)))
    | _ => .bad
  | _ => .bad
theorem ds_tpSeed (i : Nat) {x : Str} {f : EC} {p p2 tpos : Pos} {k : Nat} (hv : DE X Y e f) (hN : X.N[i]? = some x := by rfl) (hvis : Vis X.env.scope x := by first | exact Or.inl rfl | exact Or.inr (Or.inl rfl) | exact Or.inr (Or.inr rfl)) (hd : (x == ("__debug__" : Str)) = false := by decide)
    (hcd : (x == ("__classdict__" : Str)) = false := by decide)
    (ha : ∀ v, assign (.Subscript (.Name x p) (.Constant (.int 1) k p2) tpos) X.env v = (do
      let ov ← holding [v] (eval (.Name x p) X.env)
      let iv ← holding [v, ov] (eval (.Constant (.int 1) k p2) X.env)
      standAt tpos
      holding [v, ov, iv] (setItem ov iv v)
      release [v, ov, iv] []) := by intro _; rfl) (hs : swapsWithSole [.Subscript (.Name x p) (.Constant (.int 1) k p2) tpos] e pos.line X.env = pure false := by rfl) (hw : swappedStores [.Subscript (.Name x p) (.Constant (.int 1) k p2) tpos] e X.env = pure none := by rfl)
    (h1 : (assignEach [.Subscript (.Name x p) (.Constant (.int 1) k p2) tpos] X.env).map (·.2) = [assign (.Subscript (.Name x p) (.Constant (.int 1) k p2) tpos) X.env] := by rfl) : DS X Y (.Assign [.Subscript (.Name x p) (.Constant (.int 1) k p2) tpos] e pos) (sTpSeed i f) := by
  refine PS.imp (ps_asg hv (pg_sub (pe_var (i := i) hN hvis hd hcd) pe_int set_list ha) hs hw h1) fun D σ H ⟨G, J, ρ, er, h⟩ => ⟨G, J, ρ, er, Post.then h fun y ρ1 v J1 H1 s1 r1 e1 hp => ?_⟩
  split at hp
  · rename_i m
    split at hp
    · rename_i fx b cs sd ht
      obtain ⟨a, q1, n, k1, k2, ja, jb, ho⟩ := tp_at e1 (isTp_some ht)
      have r1 : Rp X.K J1 v (.int _) := r1
      cases r1
      exact ⟨_, q1, a, [.ref b, .int sd], 1, 1, rfl, rfl, k1, by simp [ixN], hp _ _ _ (.refl _) (tp_seed _ e1 (isTp_some ht) q1)⟩
    · exact hp.elim
  · exact hp.elim
end
end DL

namespace DL
open PySem PySem.Spec L2 PyProof.Rows
@[simp] theorem loose_def (ρ : Env) (i : Nat) : loose ρ i = (match ρ[i]? with
  | some (.own true _) => false
  | some _ => true
  | none => false) := rfl
theorem eqv_int (a b : Int) : PyData.eqv (.int a) (.int b) = decide (a = b) := by
  rw [show PyData.eqv (.int a) (.int b) = (a == b) from by simp [PyData.eqv]]
  exact Bool.eq_iff_iff.mpr (by simp)
theorem eqv_str (a b : Str) : PyData.eqv (.str a) (.str b) = decide (a = b) := by
  rw [show PyData.eqv (.str a) (.str b) = (a == b) from by simp [PyData.eqv]]
  exact Bool.eq_iff_iff.mpr (by simp)
theorem sh_int (a : Int) : SeqAt.shaped (.int a) = true := by simp [SeqAt.shaped, PyData.canLay0, PyData.depth]
theorem sh_bool (a : Bool) : SeqAt.shaped (.bool a) = true := by simp [SeqAt.shaped, PyData.canLay0, PyData.depth]
theorem sh_none : SeqAt.shaped .none = true := by simp [SeqAt.shaped, PyData.canLay0, PyData.depth]
@[simp] theorem dEq_int (a b : Int) : dEq (.int a) (.int b) = some (.bool (decide (a = b))) := by simp [dEq, sh_int, eqv_int]
@[simp] theorem dNe_int (a b : Int) : dNe (.int a) (.int b) = some (.bool (!decide (a = b))) := by simp [dNe, sh_int, eqv_int]
@[simp] theorem dMul_int (a b : Int) : dMul (.int a) (.int b) = if mulOk a b = true then some (.int (a * b)) else none := rfl
section
variable {P : Program} {w : World} {K : Fg} {mg : Str → Option Value} {base : Heap}
/-- a def whose first argument is a tape -/
theorem fn_d {x qual : Str} {st : Stmt} {f : Addr} {fd : FuncData} {N ps : List Str} {k j n : Nat} {c : SC} {m : Own → List D → OO} {ct : String → Option Value} (F : Fun K x qual st f fd) (S : FnScope N ps (defScope st)) (hn : ps.length = n + 1) (hj : N.length = n + 1 + j)
    (hm : ∀ b cs sd ds d o', m (.tape cs sd) ds = .ret d o' → ∃ cs' sd' ρ, o' = .tape cs' sd' ∧ c (.own true (.tapB b cs sd) :: (ds.map SV.d ++ List.replicate j .un)) = .rt d ρ ∧ ρ[0]? = some (.own true (.tapB b cs' sd')))
    (hm2 : ∀ o ds, (∃ d o', m o ds = .ret d o') ∨ m o ds = .bad) (hm3 : ∀ o ds d o', m o ds = .ret d o' → ∃ cs sd, o = .tape cs sd)
    (hb : ∀ (cdv : Value) (A : Around) (outer : List PySem.Env) (s : Shared) (H : Hp) (E : XK), Room k (A.deeper (PyProof.Rows.envOfC qual (defScope st) s.heap.objs.size f cdv)) →
      DSs (cxOf (L2.CX P w) P w K mg base N qual (defScope st) f cdv A outer s H E) ⟨ct, fun c dx _ H => E c dx H⟩ (defBody st) c) : FnOk P w K mg base (L2.CX P w) (k + 1) f fd ps (spO K ct n m) := by
  refine F.okX S (fun vs H Q E h => ?_) (fun cdv A outer s H vs Q E hr h => ?_)
  · obtain ⟨J, a, r, us, o, ds, rfl, _, _, _, rv, hl, _⟩ := h
    rw [List.length_cons, dps_len rv, hl, hn]
  · obtain ⟨J, a, r, us, o, ds, rfl, sJ, ho, hn0, rv, hl, hp⟩ := h
    rcases hm2 o ds with ⟨d, o', hmo⟩ | hmo
    case inr =>
      rw [hmo] at hp
      exact hp.elim
    obtain ⟨cs, sd, rfl⟩ := hm3 _ _ _ _ hmo
    obtain ⟨a', b, ef, n1, h1, h2⟩ := id ho
    injection ef with x1 x2
    subst x1 x2
    have ho2 : OwnAt K J H (.tapB b cs sd) [a, b] := ⟨a, rfl, n1, h1, h2⟩
    obtain ⟨cs', sd', ρ, rfl, hc, h0⟩ := hm b cs sd ds d o' hmo
    refine ⟨_, hb cdv A outer s H E hr, ⟨fun x => (∃ u, H x = some u) ∧ x ∉ [a, b], H, J, some (0, a)⟩, J, .own true (.tapB b cs sd) :: (ds.map SV.d ++ List.replicate j .un), ?_, ?_⟩
    · have hst : L2.start N (.ref a :: us) = some (.ref a) :: (us.map some ++ List.replicate j none) := by
        unfold L2.start
        rw [hj, List.length_cons, dps_len rv, hl, List.map_cons, List.cons_append]
        congr 3
        omega
      rw [hst]
      exact er_startO j sJ ho2 hn0 rv
    · rw [hc]
      rw [hmo] at hp
      intro v σ J' H' _ rv' e
      obtain ⟨r', g, q1, q2⟩ := end_O e h0
      obtain ⟨a2, ef2, n2, k1, k2⟩ := q1
      injection ef2 with y1 y2
      subst y1 y2
      exact hp v J' H' [b] g ⟨a, b, rfl, n2, k1, k2⟩ q2 rv'
end
/-! ### the law's own draw -/
def dropZ : List Int → List Int
  | [] => []
  | n :: r => if n = 0 then dropZ r else n :: r
def drawT (cs : List Int) (sd many : Int) : Int × List Int × Int := match dropZ cs with
  | [] => ((sd * 48271 + 12345) % 2147483647 / 64 % many, [], (sd * 48271 + 12345) % 2147483647)
  | n :: r => (n % many, n / many :: r, sd)
def drawM : Own → List D → OO := fun o ds => match o, ds with
  | .tape cs sd, [.int many] => if 0 < many ∧ fitZ 1073741824 many = true then .ret (.int (drawT cs sd many).1) (.tape (drawT cs sd many).2.1 (drawT cs sd many).2.2) else .bad
  | _, _ => .bad
def tpFuel : Env → Nat := fun ρ => match isTp ρ 0 with
  | some (_, _, cs, _) => cs.length + 1
  | none => 0
def c_draw : SC :=
  sSeq (sTpC 0 2) (sSeq (sWhile tpFuel (eAnd (eTest (eBin dGt (eTpLen 0 2) (eC (.int 0)))) (eTest (eBin dEq (eTpAt 0 2) (eC (.int 0))))) (sTpPop 0 2))
  (sSeq (sIf (eTest (eBin dGt (eTpLen 0 2) (eC (.int 0)))) (sSeq (sAsg (eTpAt 0 2) (setN 3)) (sSeq (sTpSet 0 2 (eBin dFdiv (eVar 3) (eVar 1))) (sRet (eBin dMod (eCallB dInt (aCons (eVar 3) aNil)) (eVar 1))))) sNx)
  (sSeq (sTpSeed 0 (eBin dMod (eCallB dInt (aCons (eBin dAdd (eBin dMul (eTpSeed 0) (eC (.int 48271))) (eC (.int 12345))) aNil)) (eC (.int 2147483647))))
  (sRet (eBin dMod (eCallB dInt (aCons (eBin dFdiv (eTpSeed 0) (eC (.int 64))) aNil)) (eVar 1))))))
theorem draw_while (b : Addr) (many : Int) (cs : List Int) (sd : Int) : whileRun (eAnd (eTest (eBin dGt (eTpLen 0 2) (eC (.int 0)))) (eTest (eBin dEq (eTpAt 0 2) (eC (.int 0))))) (sTpPop 0 2) (cs.length + 1) [.own true (.tapB b cs sd), .d (.int many), .rf b, .un] =
    .nx [.own true (.tapB b (dropZ cs) sd), .d (.int many), .rf b, .un] := by
  induction cs with
  | nil =>
    unfold whileRun
    simp [dropZ]
  | cons n r ih =>
    rw [List.length_cons]
    unfold whileRun
    by_cases hn : n = 0
    · have hp : (0 : Int) < (r.length : Int) + 1 := by omega
      simp [hn, hp]
      rw [ih]
      simp [dropZ]
    · have hp : (0 : Int) < (r.length : Int) + 1 := by omega
      simp [hn, hp, dropZ]
theorem draw_ok : ∀ b cs sd ds d o', drawM (.tape cs sd) ds = .ret d o' → ∃ cs' sd' ρ, o' = .tape cs' sd' ∧ c_draw (.own true (.tapB b cs sd) :: (ds.map SV.d ++ List.replicate 2 .un)) = .rt d ρ ∧ ρ[0]? = some (.own true (.tapB b cs' sd')) := by
  intro b cs sd ds d o' h
  unfold drawM at h
  split at h
  · rename_i cs sd many heq
    cases heq
    split at h
    · rename_i hm
      obtain ⟨h1, h2⟩ := hm
      have hw := draw_while b many cs sd
      have key : ∃ ρ, c_draw [.own true (.tapB b cs sd), .d (.int many), .un, .un] = .rt (.int (drawT cs sd many).1) ρ ∧ ρ[0]? = some (.own true (.tapB b (drawT cs sd many).2.1 (drawT cs sd many).2.2)) := by
        unfold c_draw
        simp only [sSeq, sTpC, isTp, List.getElem?_cons_zero, loose_def, List.getElem?_cons_succ, List.set_cons_succ, List.set_cons_zero, sWhile, tpFuel]
        simp only [true_and, ne_eq, show (¬ (2 : Nat) = 0) = True from by simp, not_false_eq_true, and_self, if_true, List.getElem?_cons_zero]
        rw [hw]
        unfold drawT
        cases hd : dropZ cs with
        | nil =>
          simp [mulOk, fitZ, h1]
        | cons n r =>
          have hp : (0 : Int) < (r.length : Int) + 1 := by omega
          simp [hp, h1, h2]
      obtain ⟨ρ, k1, k2⟩ := key
      cases h
      exact ⟨_, _, ρ, rfl, k1, k2⟩
    · cases h
  · cases h
end DL

namespace DL
open PySem PySem.Spec L2 PyProof.Rows
theorem bt_len : bootBuiltins "len" = some (.builtin "len") := by decide +kernel
theorem bt_all : bootBuiltins "all" = some (.builtin "all") := by decide +kernel
theorem bt_any : bootBuiltins "any" = some (.builtin "any") := by decide +kernel
theorem bt_sum : bootBuiltins "sum" = some (.builtin "sum") := by decide +kernel
theorem bt_max : bootBuiltins "max" = some (.builtin "max") := by decide +kernel
theorem bt_min : bootBuiltins "min" = some (.builtin "min") := by decide +kernel
theorem bt_abs : bootBuiltins "abs" = some (.builtin "abs") := by decide +kernel
theorem bt_repr : bootBuiltins "repr" = some (.builtin "repr") := by decide +kernel
theorem bt_sorted : bootBuiltins "sorted" = some (.builtin "sorted") := by decide +kernel
theorem bt_isinstance : bootBuiltins "isinstance" = some (.builtin "isinstance") := by decide +kernel
theorem bt_int : bootBuiltins "int" = some (.type "int") := by decide +kernel
theorem bt_str : bootBuiltins "str" = some (.type "str") := by decide +kernel
theorem bt_list : bootBuiltins "list" = some (.type "list") := by decide +kernel
theorem bt_tuple : bootBuiltins "tuple" = some (.type "tuple") := by decide +kernel
theorem bt_dict : bootBuiltins "dict" = some (.type "dict") := by decide +kernel
theorem bt_set : bootBuiltins "set" = some (.type "set") := by decide +kernel
theorem bt_range : bootBuiltins "range" = some (.type "range") := by decide +kernel
theorem bt_enumerate : bootBuiltins "enumerate" = some (.type "enumerate") := by decide +kernel
theorem bt_zip : bootBuiltins "zip" = some (.type "zip") := by decide +kernel
theorem bt_bool : bootBuiltins "bool" = some (.type "bool") := by decide +kernel
theorem draw_ok2 : ∀ o ds, (∃ d o', drawM o ds = .ret d o') ∨ drawM o ds = .bad := by
  intro o ds
  unfold drawM
  split
  · split
    · exact .inl ⟨_, _, rfl⟩
    · exact .inr rfl
  · exact .inr rfl
theorem draw_ok3 : ∀ o ds d o', drawM o ds = .ret d o' → ∃ cs sd, o = .tape cs sd := by
  intro o ds d o' h
  unfold drawM at h
  split at h
  · exact ⟨_, _, rfl⟩
  · cases h
@[simp] def eNeg (f : EC) (ρ : Env) : Out VV := (f ρ).bind fun x ρ1 => match x with
  | .val (.int i) => .ok (.val (.int (-i))) ρ1
  | _ => .bad
section
variable {X : Cx} {Y : Yx} {a b c e : Expr} {pos : Pos}
theorem de_neg {f : EC} (h : DE X Y a f) : DE X Y (.UnaryOp .USub a pos) (eNeg f) := by
  refine PE.imp (pe_un un_neg h) fun σ H Q ⟨G, J, ρ, er, h⟩ => ⟨G, J, ρ, er, Post.bind h fun x ρ1 v J1 H1 s1 r1 e1 h1 => ?_⟩
  split at h1
  · have r1 : Rp X.K J1 v (.int _) := r1
    cases r1
    exact ⟨_, rfl, h1 _ J1 H1 (.refl _) (show RV X.K σ J1 (.int _) (.val (.int _)) from Rp.int _) e1⟩
  · exact h1.elim
end
@[simp] def sPar (i j : Nat) (fa : Env → Out (List VV)) (ρ : Env) : SO := (fa ρ).then fun xs ρ1 => match vals xs with
  | some [d, d'] => if loose ρ1 i = true ∧ loose (ρ1.set i (.d d)) j = true then .nx ((ρ1.set i (.d d)).set j (.d d')) else .bad
  | _ => .bad
@[simp] def sPar3 (i j l : Nat) (fa : Env → Out (List VV)) (ρ : Env) : SO := (fa ρ).then fun xs ρ1 => match vals xs with
  | some [d, d', d''] => if loose ρ1 i = true ∧ loose (ρ1.set i (.d d)) j = true ∧ loose ((ρ1.set i (.d d)).set j (.d d')) l = true then .nx (((ρ1.set i (.d d)).set j (.d d')).set l (.d d'')) else .bad
  | _ => .bad
theorem rvs3 {K : Fg} {σ : L2.St} {J : Hp} {vs : List V} {ds : List D} (r : RpAll K J vs ds) (h : ds.length = 3) : ∃ u v w d e f, vs = [u, v, w] ∧ ds = [d, e, f] ∧ Rp K J u d ∧ Rp K J v e ∧ Rp K J w f := by
  cases r with
  | nil => cases h
  | cons r1 t =>
    obtain ⟨u, v, e, f, rfl, rfl, r2, r3⟩ := rps_2 t (by simpa using h)
    exact ⟨_, _, _, _, _, _, rfl, rfl, r1, r2, r3⟩
section
variable {X : Cx} {Y : Yx} {a b c e : Expr} {pos : Pos}
theorem ds_par (i j : Nat) {x y : Str} {fa : Env → Out (List VV)} {px py pt : Pos} {kt k2 : Nat} {pt2 : Pos} (hc : X.calm = true) (hN : X.N.Nodup) (ha : DA X Y [a, b] fa) (hi : X.N[i]? = some x := by rfl) (hj : X.N[j]? = some y := by rfl) (hij : i ≠ j := by decide)
    (hx : X.env.scope.names.lookup x = some .local := by rfl) (hy : X.env.scope.names.lookup y = some .local := by rfl)
    (hw : swappedStores [.Tuple [.Name x px, .Name y py] kt pt] (.Tuple [a, b] k2 pt2) X.env = pure (some [x, y]) := by kernel_rfl)
    (hs : swapsWithSole [.Tuple [.Name x px, .Name y py] kt pt] (.Tuple [a, b] k2 pt2) pos.line X.env = pure false := by rfl) :
    DS X Y (.Assign [.Tuple [.Name x px, .Name y py] kt pt] (.Tuple [a, b] k2 pt2) pos) (sPar i j fa) := by
  refine PS.imp (ps_par hc hN hi hj hij hx hy ha hw hs) fun D σ H ⟨G, J, ρ, er, h⟩ => ⟨G, J, ρ, er, Post.then h fun xs ρ1 vs J1 H1 s1 r1 e1 h1 => ?_⟩
  split at h1
  · rename_i d d' hds
    split at h1
    · rename_i hl
      obtain ⟨v, u, d1, d2, rfl, ed, rv, ru⟩ := rps_2 (vals_ok r1 hds) rfl
      injection ed with x1 x2
      injection x2 with x2 _
      subst x1 x2
      exact ⟨v, u, rfl, h1 _ J1 H1 (.refl _) ((e1.setD rv hl.1).setD ru hl.2)⟩
    · exact h1.elim
  · exact h1.elim
theorem ds_par3 (i j l : Nat) {x y z : Str} {fa : Env → Out (List VV)} {px py pz pt : Pos} {kt k2 : Nat} {pt2 : Pos} (hc : X.calm = true) (hN : X.N.Nodup) (ha : DA X Y [a, b, c] fa) (hi : X.N[i]? = some x := by rfl) (hj : X.N[j]? = some y := by rfl) (hl : X.N[l]? = some z := by rfl) (hij : i ≠ j := by decide) (hil : i ≠ l := by decide) (hjl : j ≠ l := by decide)
    (hx : X.env.scope.names.lookup x = some .local := by rfl) (hy : X.env.scope.names.lookup y = some .local := by rfl) (hz : X.env.scope.names.lookup z = some .local := by rfl)
    (hw : swappedStores [.Tuple [.Name x px, .Name y py, .Name z pz] kt pt] (.Tuple [a, b, c] k2 pt2) X.env = pure (some [x, y, z]) := by kernel_rfl)
    (hs : swapsWithSole [.Tuple [.Name x px, .Name y py, .Name z pz] kt pt] (.Tuple [a, b, c] k2 pt2) pos.line X.env = pure false := by rfl) :
    DS X Y (.Assign [.Tuple [.Name x px, .Name y py, .Name z pz] kt pt] (.Tuple [a, b, c] k2 pt2) pos) (sPar3 i j l fa) := by
  refine PS.imp (ps_par3 hc hN hi hj hl hij hil hjl hx hy hz ha hw hs) fun D σ H ⟨G, J, ρ, er, h⟩ => ⟨G, J, ρ, er, Post.then h fun xs ρ1 vs J1 H1 s1 r1 e1 h1 => ?_⟩
  split at h1
  · rename_i d d' d'' hds
    split at h1
    · rename_i hl
      obtain ⟨u, v, w, d1, d2, d3, rfl, ed, ru, rv, rw⟩ := rvs3 (σ := σ) (vals_ok r1 hds) rfl
      injection ed with x1 x2
      injection x2 with x2 x3
      injection x3 with x3 _
      subst x1 x2 x3
      exact ⟨u, v, w, rfl, h1 _ J1 H1 (.refl _) (((e1.setD ru hl.1).setD rv hl.2.1).setD rw hl.2.2)⟩
    · exact h1.elim
  · exact h1.elim
end
/-- what is asked of a law's function -/
def spTrue (K : Fg) (m : List D → FO) : Sp := fun vs H Q E => ∃ J ds, Same J H ∧ RpAll K J vs ds ∧ ds.length = 1 ∧ m ds = .ret (.bool true) ∧ ∀ H', Q (.bl true) H'
theorem spTrue_imp {K : Fg} {m : List D → FO} {ct : String → Option Value} : ∀ vs H Q E, spTrue K m vs H Q E → spP K ct 1 m vs H Q E := fun vs H Q E ⟨J, ds, s, r, l, hm, q⟩ => ⟨J, ds, s, r, l, by
  rw [hm]
  intro v J' H' _ rv
  cases rv
  exact q H'⟩
theorem spTrue_go {K : Fg} {m : List D → FO} {H : Hp} {a : Addr} {ns : List Int} (hm : m [.list (ns.map .int)] = .ret (.bool true)) (hS : SqL K H a (ns.map V.int)) : spTrue K m [.ref a] H (fun v _ => v = .bl true) fun _ _ _ => False :=
  ⟨H, [.list (ns.map .int)], .refl H, .cons (.lst hS (dps_ints ns)) .nil, rfl, hm, fun _ => rfl⟩
end DL
namespace DL
open PySem PySem.Spec L2 PyProof.Rows
theorem hu64 {k : Nat} {A : Around} (r : Room k A) : A.units + 64 < cLine := by have := r.un; omega
theorem hu65 {k : Nat} {A : Around} (r : Room k A) : A.units + 65 < cLine := by have := r.un; omega
end DL

namespace DL
open PySem PySem.Spec L2 PyProof.Rows
theorem exm2 {K : Fg} {C S : Addr} {b : Bool} (h1 : PySem.W.subIn K (.ref S) (.type "BaseException") = some true) (h2 : PySem.W.isClsIn K S = true) (h3 : PySem.W.typeIn K (.ref S) = some (.type "type")) (h4 : PySem.W.subIn K (.ref C) (.ref S) = some b) : PySem.W.exmOne K (.ref C) (.ref S) = some b := by
  unfold PySem.W.exmOne PySem.W.kitCls
  have h2' : (PySem.W.clsIn K S).isSome = true := h2
  rw [h1, if_pos (by decide)]
  show (if ((PySem.W.clsIn K S).isSome && PySem.W.typeIn K (.ref S) == some (.type "type")) = true then _ else _) = _
  rw [h3, h2', if_pos (by decide)]
  exact h4
theorem gl_int {K : Fg} {mg : Str → Option Value} {x : Str} {i : Int} {t : Tok} (h : mg x = some (.int i t)) : GlD K mg x (.int i) := ⟨.int i, _, h, ⟨t, rfl⟩, fun J => .int i⟩
theorem gl_str {K : Fg} {mg : Str → Option Value} {x : Str} {i : Str} {t : Tok} (h : mg x = some (.str i t)) : GlD K mg x (.str i) := ⟨.str i, _, h, ⟨t, rfl⟩, fun J => .str i⟩
theorem gl_non {K : Fg} {mg : Str → Option Value} {x : Str} (h : mg x = some .none) : GlD K mg x .none := ⟨.non, _, h, rfl, fun J => .non⟩
theorem gl_tup {K : Fg} {mg : Str → Option Value} {x : Str} {a : Addr} {ds : List D} {vs : List V} {oc : Option Addr} {its : Array Value} {n : Nat} {sl : Array (Option Value)} (h : mg x = some (.ref a)) (l : K.lookup a = some ⟨.type "tuple", oc, .seq its n, sl⟩) (hz : its.size ≤ sizeLine)
    (r : Vals vs its.toList) (q : ∀ J, RpAll K J vs ds) : GlD K mg x (.tuple ds) := ⟨.ref a, _, h, rfl, fun J => .tup (.inr ⟨_, its, n, l, rfl, rfl, hz, r⟩) (q J)⟩
theorem walkT {l : PySem.W.OpenLaw} {n k : Nat} {q : Program} {loose : List Str} {XP : (Str → Option Value) → Heap → Prop} {YP : World → Heap → Prop} {d : DefRec} {K : Params → PySem.W.Frag} {m : List D → FO} (hn : l.most = some n) (hn2 : n ≤ sizeLine) (hdf : d.params.defaults = []) (hr : Room k callerA)
    (hm : ∀ ns : List Int, ns.length ≤ n → m [.list (ns.map .int)] = .ret (.bool true))
    (hY : ∀ (w : World) (h : Heap), YP w h → (K w.params).In h)
    (F : ∀ (w : World) (mg : Str → Option Value) (fa : Addr) (h : Heap), (K w.params).In h → h.Ns mainGlobals mg → mg d.name = some (.ref fa) →
      ∃ fd : FuncData, (∀ (s : Shared) (u : Value), BindsTo s fd ⟨[u], []⟩ [("script", u)]) ∧ ∀ base : Heap, (K w.params).In base → base.Ns mainGlobals mg → FnOk l.prog w (K w.params) mg base (L2.CX l.prog w) k fa fd ["script"] (spTrue (K w.params) m)) :
    PySem.W.WalkO q loose XP YP l.row.toRowW d [] (fun f vs => PySem.call f vs) :=
  L2.walk_of (n := n) (k := k) (x := "script") (CX := fun w => L2.CX l.prog w) (sp := fun w => spTrue (K w.params) m) hn hn2 hdf hr hY F (fun _ _ a ns hl _ hS => spTrue_go (hm ns hl) hS) fun _ _ _ _ _ ⟨_, _, _, _, _, _, _, _, _, _, _, _, z⟩ => z
end DL

namespace DL
open PySem PySem.Spec L2 PyProof.Rows
@[simp] theorem ty_str_none  : anyTy ["str"] .none = some false := by
  show (match kitB "NoneType" "str" with | some true => some true | some false => some false | none => none) = some false
  rw [show kitB "NoneType" "str" = some false from by decide +kernel]
@[simp] theorem ty_str_bool (b : Bool) : anyTy ["str"] (.bool b) = some false := by
  show (match kitB "bool" "str" with | some true => some true | some false => some false | none => none) = some false
  rw [show kitB "bool" "str" = some false from by decide +kernel]
@[simp] theorem ty_str_int (i : Int) : anyTy ["str"] (.int i) = some false := by
  show (match kitB "int" "str" with | some true => some true | some false => some false | none => none) = some false
  rw [show kitB "int" "str" = some false from by decide +kernel]
@[simp] theorem ty_str_str (z : Str) : anyTy ["str"] (.str z) = some true := by
  show (match kitB "str" "str" with | some true => some true | some false => some false | none => none) = some true
  rw [show kitB "str" "str" = some true from by decide +kernel]
@[simp] theorem ty_str_list (xs : List D) : anyTy ["str"] (.list xs) = some false := by
  show (match kitB "list" "str" with | some true => some true | some false => some false | none => none) = some false
  rw [show kitB "list" "str" = some false from by decide +kernel]
@[simp] theorem ty_str_tuple (xs : List D) : anyTy ["str"] (.tuple xs) = some false := by
  show (match kitB "tuple" "str" with | some true => some true | some false => some false | none => none) = some false
  rw [show kitB "tuple" "str" = some false from by decide +kernel]
@[simp] theorem ty_int_none  : anyTy ["int"] .none = some false := by
  show (match kitB "NoneType" "int" with | some true => some true | some false => some false | none => none) = some false
  rw [show kitB "NoneType" "int" = some false from by decide +kernel]
@[simp] theorem ty_int_bool (b : Bool) : anyTy ["int"] (.bool b) = some true := by
  show (match kitB "bool" "int" with | some true => some true | some false => some false | none => none) = some true
  rw [show kitB "bool" "int" = some true from by decide +kernel]
@[simp] theorem ty_int_int (i : Int) : anyTy ["int"] (.int i) = some true := by
  show (match kitB "int" "int" with | some true => some true | some false => some false | none => none) = some true
  rw [show kitB "int" "int" = some true from by decide +kernel]
@[simp] theorem ty_int_str (z : Str) : anyTy ["int"] (.str z) = some false := by
  show (match kitB "str" "int" with | some true => some true | some false => some false | none => none) = some false
  rw [show kitB "str" "int" = some false from by decide +kernel]
@[simp] theorem ty_int_list (xs : List D) : anyTy ["int"] (.list xs) = some false := by
  show (match kitB "list" "int" with | some true => some true | some false => some false | none => none) = some false
  rw [show kitB "list" "int" = some false from by decide +kernel]
@[simp] theorem ty_int_tuple (xs : List D) : anyTy ["int"] (.tuple xs) = some false := by
  show (match kitB "tuple" "int" with | some true => some true | some false => some false | none => none) = some false
  rw [show kitB "tuple" "int" = some false from by decide +kernel]
@[simp] theorem ty_bool_none  : anyTy ["bool"] .none = some false := by
  show (match kitB "NoneType" "bool" with | some true => some true | some false => some false | none => none) = some false
  rw [show kitB "NoneType" "bool" = some false from by decide +kernel]
@[simp] theorem ty_bool_bool (b : Bool) : anyTy ["bool"] (.bool b) = some true := by
  show (match kitB "bool" "bool" with | some true => some true | some false => some false | none => none) = some true
  rw [show kitB "bool" "bool" = some true from by decide +kernel]
@[simp] theorem ty_bool_int (i : Int) : anyTy ["bool"] (.int i) = some false := by
  show (match kitB "int" "bool" with | some true => some true | some false => some false | none => none) = some false
  rw [show kitB "int" "bool" = some false from by decide +kernel]
@[simp] theorem ty_bool_str (z : Str) : anyTy ["bool"] (.str z) = some false := by
  show (match kitB "str" "bool" with | some true => some true | some false => some false | none => none) = some false
  rw [show kitB "str" "bool" = some false from by decide +kernel]
@[simp] theorem ty_bool_list (xs : List D) : anyTy ["bool"] (.list xs) = some false := by
  show (match kitB "list" "bool" with | some true => some true | some false => some false | none => none) = some false
  rw [show kitB "list" "bool" = some false from by decide +kernel]
@[simp] theorem ty_bool_tuple (xs : List D) : anyTy ["bool"] (.tuple xs) = some false := by
  show (match kitB "tuple" "bool" with | some true => some true | some false => some false | none => none) = some false
  rw [show kitB "tuple" "bool" = some false from by decide +kernel]
@[simp] theorem ty_tuple_none  : anyTy ["tuple"] .none = some false := by
  show (match kitB "NoneType" "tuple" with | some true => some true | some false => some false | none => none) = some false
  rw [show kitB "NoneType" "tuple" = some false from by decide +kernel]
@[simp] theorem ty_tuple_bool (b : Bool) : anyTy ["tuple"] (.bool b) = some false := by
  show (match kitB "bool" "tuple" with | some true => some true | some false => some false | none => none) = some false
  rw [show kitB "bool" "tuple" = some false from by decide +kernel]
@[simp] theorem ty_tuple_int (i : Int) : anyTy ["tuple"] (.int i) = some false := by
  show (match kitB "int" "tuple" with | some true => some true | some false => some false | none => none) = some false
  rw [show kitB "int" "tuple" = some false from by decide +kernel]
@[simp] theorem ty_tuple_str (z : Str) : anyTy ["tuple"] (.str z) = some false := by
  show (match kitB "str" "tuple" with | some true => some true | some false => some false | none => none) = some false
  rw [show kitB "str" "tuple" = some false from by decide +kernel]
@[simp] theorem ty_tuple_list (xs : List D) : anyTy ["tuple"] (.list xs) = some false := by
  show (match kitB "list" "tuple" with | some true => some true | some false => some false | none => none) = some false
  rw [show kitB "list" "tuple" = some false from by decide +kernel]
@[simp] theorem ty_tuple_tuple (xs : List D) : anyTy ["tuple"] (.tuple xs) = some true := by
  show (match kitB "tuple" "tuple" with | some true => some true | some false => some false | none => none) = some true
  rw [show kitB "tuple" "tuple" = some true from by decide +kernel]
@[simp] theorem ty_list_none  : anyTy ["list"] .none = some false := by
  show (match kitB "NoneType" "list" with | some true => some true | some false => some false | none => none) = some false
  rw [show kitB "NoneType" "list" = some false from by decide +kernel]
@[simp] theorem ty_list_bool (b : Bool) : anyTy ["list"] (.bool b) = some false := by
  show (match kitB "bool" "list" with | some true => some true | some false => some false | none => none) = some false
  rw [show kitB "bool" "list" = some false from by decide +kernel]
@[simp] theorem ty_list_int (i : Int) : anyTy ["list"] (.int i) = some false := by
  show (match kitB "int" "list" with | some true => some true | some false => some false | none => none) = some false
  rw [show kitB "int" "list" = some false from by decide +kernel]
@[simp] theorem ty_list_str (z : Str) : anyTy ["list"] (.str z) = some false := by
  show (match kitB "str" "list" with | some true => some true | some false => some false | none => none) = some false
  rw [show kitB "str" "list" = some false from by decide +kernel]
@[simp] theorem ty_list_list (xs : List D) : anyTy ["list"] (.list xs) = some true := by
  show (match kitB "list" "list" with | some true => some true | some false => some false | none => none) = some true
  rw [show kitB "list" "list" = some true from by decide +kernel]
@[simp] theorem ty_list_tuple (xs : List D) : anyTy ["list"] (.tuple xs) = some false := by
  show (match kitB "tuple" "list" with | some true => some true | some false => some false | none => none) = some false
  rw [show kitB "tuple" "list" = some false from by decide +kernel]
@[simp] theorem ty_tl_none  : anyTy ["tuple", "list"] .none = some false := by
  show (match kitB "NoneType" "tuple" with | some true => some true | some false => (match kitB "NoneType" "list" with | some true => some true | some false => some false | none => none) | none => none) = some false
  rw [show kitB "NoneType" "tuple" = some false from by decide +kernel, show kitB "NoneType" "list" = some false from by decide +kernel]
@[simp] theorem ty_tl_bool (b : Bool) : anyTy ["tuple", "list"] (.bool b) = some false := by
  show (match kitB "bool" "tuple" with | some true => some true | some false => (match kitB "bool" "list" with | some true => some true | some false => some false | none => none) | none => none) = some false
  rw [show kitB "bool" "tuple" = some false from by decide +kernel, show kitB "bool" "list" = some false from by decide +kernel]
@[simp] theorem ty_tl_int (i : Int) : anyTy ["tuple", "list"] (.int i) = some false := by
  show (match kitB "int" "tuple" with | some true => some true | some false => (match kitB "int" "list" with | some true => some true | some false => some false | none => none) | none => none) = some false
  rw [show kitB "int" "tuple" = some false from by decide +kernel, show kitB "int" "list" = some false from by decide +kernel]
@[simp] theorem ty_tl_str (z : Str) : anyTy ["tuple", "list"] (.str z) = some false := by
  show (match kitB "str" "tuple" with | some true => some true | some false => (match kitB "str" "list" with | some true => some true | some false => some false | none => none) | none => none) = some false
  rw [show kitB "str" "tuple" = some false from by decide +kernel, show kitB "str" "list" = some false from by decide +kernel]
@[simp] theorem ty_tl_list (xs : List D) : anyTy ["tuple", "list"] (.list xs) = some true := by
  show (match kitB "list" "tuple" with | some true => some true | some false => (match kitB "list" "list" with | some true => some true | some false => some false | none => none) | none => none) = some true
  rw [show kitB "list" "tuple" = some false from by decide +kernel, show kitB "list" "list" = some true from by decide +kernel]
@[simp] theorem ty_tl_tuple (xs : List D) : anyTy ["tuple", "list"] (.tuple xs) = some true := by
  show (match kitB "tuple" "tuple" with | some true => some true | some false => (match kitB "tuple" "list" with | some true => some true | some false => some false | none => none) | none => none) = some true
  rw [show kitB "tuple" "tuple" = some true from by decide +kernel, show kitB "tuple" "list" = some false from by decide +kernel]

/-! ### texts as rows of signs -/
def sL (l : List Nat) : Str := ⟨l.toArray⟩
@[simp] theorem sL_length (l : List Nat) : (sL l).length = l.length := by simp [sL, Str.length]
@[simp] theorem sL_cps (l : List Nat) : (sL l).cps.toList = l := by simp [sL]
@[simp] theorem sL_inj (a b : List Nat) : sL a = sL b ↔ a = b := by simp [sL]
@[simp] theorem sL_append (a b : List Nat) : sL a ++ sL b = sL (a ++ b) := by
  show (⟨a.toArray ++ b.toArray⟩ : Str) = ⟨(a ++ b).toArray⟩
  simp
theorem sL_eq (z : Str) : sL z.cps.toList = z := by simp [sL]
@[simp] theorem sL_one (c : Nat) : (⟨#[c]⟩ : Str) = sL [c] := rfl
theorem empty_sL : ("" : Str) = sL [] := by decide +kernel
def cutL (l : List Nat) (lo hi : Option Int) : List Nat := (l.drop (HT.sIx l.length 0 lo)).take (HT.sIx l.length l.length hi - HT.sIx l.length 0 lo)
@[simp] theorem cutS_sL (l : List Nat) (lo hi : Option Int) : cutS (sL l) lo hi = sL (cutL l lo hi) := by
  unfold cutS cutL
  rw [sL_length, sL_cps]
  rfl
theorem cutL_le (l : List Nat) (lo hi : Option Int) : (cutL l lo hi).length ≤ l.length := by
  unfold cutL
  rw [List.length_take, List.length_drop]
  omega

inductive All2 {α β : Type} (R : α → β → Prop) : List α → List β → Prop
  | nil : All2 R [] []
  | cons {a : α} {b : β} {as : List α} {bs : List β} : R a b → All2 R as bs → All2 R (a :: as) (b :: bs)
/-! ### comprehensions -/
@[simp] theorem lcRun_nil (vs : List Nat) (set : D → Env → Option Env) (t : TC) (fe : EC) (ρ : Env) (acc : List D) : lcRun vs set t fe [] ρ acc = .ok acc ρ := rfl
/-- each step gives its element, and leaves things as they are -/
theorem lc_map {vs : List Nat} {set : D → Env → Option Env} {fe : EC} {ρ0 : Env} {g : D → D} : ∀ (ds acc : List D), (∀ d ∈ ds, ∃ ρd ρd', set d ρ0 = some ρd ∧ fe ρd = .ok (.val (g d)) ρd' ∧ allPlain ρd' vs = true ∧ wipeE ρd' vs = ρ0) → acc.length + ds.length ≤ sizeLine →
    lcRun vs set tYesD fe ds ρ0 acc = .ok (acc ++ ds.map g) ρ0
  | [], acc, _, _ => by simp
  | d :: ds, acc, h, hz => by
    obtain ⟨ρd, ρd', h1, h2, h3, h4⟩ := h d List.mem_cons_self
    rw [List.length_cons] at hz
    unfold lcRun
    rw [h1]
    simp only [tYesD, h2]
    rw [if_pos ⟨by omega, h3⟩, h4, lc_map ds (acc ++ [g d]) (fun x hx => h x (List.mem_cons_of_mem _ hx)) (by rw [List.length_append, List.length_singleton]; omega)]
    simp
/-- the same with a state that goes from element to element -/
theorem lc_state {S : Type} {vs : List Nat} {set : D → Env → Option Env} {t : TC} {fe : EC} {En : S → Env} {Pv : D → D → Prop} : ∀ (ds acc : List D) (st : S),
    (∀ d ∈ ds, ∀ st, ∃ ρd ρt ρd' bb st', set d (En st) = some ρd ∧ t ρd = .ok bb ρt ∧ (bb = true → ∃ v, fe ρt = .ok (.val v) ρd' ∧ Pv d v) ∧ (bb = false → ρd' = ρt) ∧ allPlain ρd' vs = true ∧ wipeE ρd' vs = En st') → acc.length + ds.length ≤ sizeLine →
    ∃ outs st', lcRun vs set t fe ds (En st) acc = .ok (acc ++ outs) (En st') ∧ ∃ sub : List D, sub.Sublist ds ∧ outs.length = sub.length ∧ All2 Pv sub outs
  | [], acc, st, _, _ => ⟨[], st, by simp, [], by simp, rfl, .nil⟩
  | d :: ds, acc, st, h, hz => by
    obtain ⟨ρd, ρt, ρd', bb, st', h1, h2, h3, h4, h5, h6⟩ := h d List.mem_cons_self st
    rw [List.length_cons] at hz
    cases bb with
    | true =>
      obtain ⟨v, hv, pv⟩ := h3 rfl
      obtain ⟨outs, st2, e, sub, q1, q2, q3⟩ := lc_state ds (acc ++ [v]) st' (fun x hx => h x (List.mem_cons_of_mem _ hx)) (by rw [List.length_append, List.length_singleton]; omega)
      refine ⟨v :: outs, st2, ?_, d :: sub, q1.cons₂ d, by simp [q2], .cons pv q3⟩
      unfold lcRun
      rw [h1]
      simp only [h2, hv]
      rw [if_pos ⟨by omega, h5⟩, h6, e]
      simp
    | false =>
      have e4 := h4 rfl
      subst e4
      obtain ⟨outs, st2, e, sub, q1, q2, q3⟩ := lc_state ds acc st' (fun x hx => h x (List.mem_cons_of_mem _ hx)) (by omega)
      refine ⟨outs, st2, ?_, sub, q1.cons d, q2, q3⟩
      unfold lcRun
      rw [h1]
      simp only [h2]
      rw [if_pos h5, h6, e]
/-- with no test all are taken -/
theorem lc_stateAll {S : Type} {vs : List Nat} {set : D → Env → Option Env} {fe : EC} {En : S → Env} {Pv : D → D → Prop} : ∀ (ds acc : List D) (st : S),
    (∀ d ∈ ds, ∀ st, ∃ ρd ρd' v st', set d (En st) = some ρd ∧ fe ρd = .ok (.val v) ρd' ∧ Pv d v ∧ allPlain ρd' vs = true ∧ wipeE ρd' vs = En st') → acc.length + ds.length ≤ sizeLine →
    ∃ outs st', lcRun vs set tYesD fe ds (En st) acc = .ok (acc ++ outs) (En st') ∧ All2 Pv ds outs
  | [], acc, st, _, _ => ⟨[], st, by simp, .nil⟩
  | d :: ds, acc, st, h, hz => by
    obtain ⟨ρd, ρd', v, st', h1, hv, pv, h5, h6⟩ := h d List.mem_cons_self st
    rw [List.length_cons] at hz
    obtain ⟨outs, st2, e, q3⟩ := lc_stateAll ds (acc ++ [v]) st' (fun x hx => h x (List.mem_cons_of_mem _ hx)) (by rw [List.length_append, List.length_singleton]; omega)
    refine ⟨v :: outs, st2, ?_, .cons pv q3⟩
    unfold lcRun
    rw [h1]
    simp only [tYesD, hv]
    rw [if_pos ⟨by omega, h5⟩, h6, e]
    simp
theorem sh_str (a : Str) : SeqAt.shaped (.str a) = PyData.strOk a := by simp [SeqAt.shaped, PyData.canLay0, PyData.depth]
theorem dEq_str {a b : Str} (ha : PyData.strOk a = true) (hb : PyData.strOk b = true) : dEq (.str a) (.str b) = some (.bool (decide (a = b))) := by simp [dEq, sh_str, ha, hb, eqv_str]
theorem dNe_str {a b : Str} (ha : PyData.strOk a = true) (hb : PyData.strOk b = true) : dNe (.str a) (.str b) = some (.bool (!decide (a = b))) := by simp [dNe, sh_str, ha, hb, eqv_str]
@[simp] theorem dEq_bool (a b : Bool) : dEq (.bool a) (.bool b) = some (.bool (a == b)) := by simp [dEq, sh_bool, PyData.eqv]
@[simp] theorem dNe_bool (a b : Bool) : dNe (.bool a) (.bool b) = some (.bool (!(a == b))) := by simp [dNe, sh_bool, PyData.eqv]
theorem strOk_sL {l : List Nat} (h : ∀ c ∈ l, c < 128) : PyData.strOk (sL l) = true := by
  unfold PyData.strOk sL
  rw [Array.all_eq_true]
  intro i hi
  have hi' : i < l.length := by simpa using hi
  have := h l[i] (List.getElem_mem _)
  simp
  omega
theorem le_line {n : Nat} (h : n ≤ 10000) : n ≤ sizeLine := Nat.le_trans h (by decide)
theorem lt_line {n : Nat} (h : n ≤ 10000) : n < sizeLine := Nat.lt_of_le_of_lt h (by decide)
abbrev chars (l : List Nat) : List D := l.map fun c => .str (sL [c])
theorem boolsD_true {α : Type} (l : List α) : boolsD (l.map fun _ => PyData.bool true) = some (l.map fun _ => true) := by
  induction l with
  | nil => rfl
  | cons a l ih => simp [boolsD, ih]
theorem dAll_true {α : Type} (l : List α) : dAll [.list (l.map fun _ => PyData.bool true)] = some (.bool true) := by
  simp [dAll, boolsD_true]
theorem dAll_map {α : Type} (l : List α) (p : α → Bool) : dAll [.list (l.map fun x => PyData.bool (p x))] = some (.bool (l.all p)) := by
  have h : boolsD (l.map fun x => PyData.bool (p x)) = some (l.map p) := by
    induction l with
    | nil => rfl
    | cons a l ih => simp [boolsD, ih]
  simp [dAll, h]
theorem foldl_cps (ls : List (List Nat)) : ∀ acc : List Nat, ((ls.map sL).foldl (fun a p => a ++ (sL []).cps ++ p.cps) acc.toArray) = (acc ++ ls.flatten).toArray := by
  induction ls with
  | nil => intro acc; simp
  | cons x ls ih =>
    intro acc
    rw [List.map_cons, List.foldl_cons]
    have : acc.toArray ++ (sL []).cps ++ (sL x).cps = (acc ++ x).toArray := by simp [sL]
    rw [this, ih]
    simp
theorem join_sL (ls : List (List Nat)) : Txt.join (sL []) (ls.map sL) = sL ls.flatten := by
  show Builtin.Str.glued (sL []) (ls.map sL) = _
  unfold Builtin.Str.glued
  cases ls with
  | nil => rfl
  | cons x ls =>
    have := foldl_cps ls x
    show (⟨((ls.map sL).foldl (fun a p => a ++ (sL []).cps ++ p.cps) (sL x).cps)⟩ : Str) = _
    rw [show (sL x).cps = x.toArray from rfl, this]
    rfl
theorem strsD_sL (ls : List (List Nat)) : strsD (ls.map fun l => PyData.str (sL l)) = some (ls.map sL) := by
  have := strs_map (ls.map sL)
  rw [List.map_map] at this
  exact this
theorem dJoin_sL (ls : List (List Nat)) (h : ls.flatten.length ≤ 10000) : dJoin (.str (sL [])) [.list (ls.map fun l => .str (sL l))] = some (.str (sL ls.flatten)) := by
  have e : ((ls.map sL).map (·.length)).sum = ls.flatten.length := by
    induction ls with
    | nil => rfl
    | cons x ls ih =>
      have : ls.flatten.length ≤ 10000 := by
        rw [List.flatten_cons, List.length_append] at h
        omega
      simp only [List.map_cons, List.sum_cons, sL_length, List.flatten_cons, List.length_append]
      rw [ih this]
  show (match strsD (ls.map fun l => PyData.str (sL l)) with
    | some ys => if (List.map (fun x : Str => x.length) ys).sum + ys.length * (sL []).length ≤ 16777216 then some (PyData.str (Txt.join (sL []) ys)) else none
    | none => none) = _
  rw [strsD_sL]
  have hz : (List.map (fun x : Str => x.length) (ls.map sL)).sum + (ls.map sL).length * (sL []).length ≤ 16777216 := by
    rw [e, sL_length, List.length_nil, Nat.mul_zero]
    omega
  show (if (List.map (fun x : Str => x.length) (ls.map sL)).sum + (ls.map sL).length * (sL []).length ≤ 16777216 then some (PyData.str (Txt.join (sL []) (ls.map sL))) else none) = _
  rw [if_pos hz, join_sL]
theorem dJoinT_sL (ls : List (List Nat)) (h : ls.flatten.length ≤ 10000) : dJoin (.str (sL [])) [.tuple (ls.map fun l => .str (sL l))] = some (.str (sL ls.flatten)) := dJoin_sL ls h
theorem fitZ_small {b : Nat} {n : Int} (hb : 1000000 ≤ b) (h : n.natAbs ≤ 100000) : fitZ b n = true := fitZ_of (by omega)
theorem eRng1_ok {fa : Env → Out (List VV)} {ρ ρ1 : Env} {n : Int} (h : fa ρ = .ok [.val (.int n)] ρ1) (h0 : n.natAbs ≤ 100000) : eRng1 fa ρ = .ok (rng 0 n.toNat) ρ1 := by
  unfold eRng1
  rw [h]
  show (if fitZ (2 ^ 62) n = true then Out.ok (rng 0 n.toNat) ρ1 else .bad) = _
  rw [if_pos (fitZ_small (by decide) h0)]
theorem eRng2_ok {fa : Env → Out (List VV)} {ρ ρ1 : Env} {m n : Int} (h : fa ρ = .ok [.val (.int m), .val (.int n)] ρ1) (h0 : m.natAbs ≤ 100000) (h1 : n.natAbs ≤ 100000) : eRng2 fa ρ = .ok (rng m (n - m).toNat) ρ1 := by
  unfold eRng2
  rw [h]
  show (if fitZ (2 ^ 62) m = true ∧ fitZ (2 ^ 62) n = true then Out.ok (rng m (n - m).toNat) ρ1 else .bad) = _
  rw [if_pos ⟨fitZ_small (by decide) h0, fitZ_small (by decide) h1⟩]
theorem atI_nat {α : Type} (xs : List α) (i : Nat) (h : i < xs.length) : atI xs (i : Int) = some xs[i] := by
  unfold atI ixN
  rw [if_pos (by omega), if_pos (by omega)]
  simp [h]
theorem cutD_take (xs : List DL.D) (k : Nat) : DL.cutD xs none (some (k : Int)) = xs.take k := by
  unfold DL.cutD
  rw [HT.sIx_nat]
  simp [HT.sIx]
theorem drawT_range (cs : List Int) (sd many : Int) (h : 0 < many) : 0 ≤ (drawT cs sd many).1 ∧ (drawT cs sd many).1 < many := by
  unfold drawT
  split
  · exact ⟨Int.emod_nonneg _ (by omega), Int.emod_lt_of_pos _ h⟩
  · exact ⟨Int.emod_nonneg _ (by omega), Int.emod_lt_of_pos _ h⟩
theorem draw_go (cs : List Int) (sd many : Int) (h : 0 < many) (h2 : many < 1073741824) : ∃ i cs' sd', drawM (.tape cs sd) [.int many] = .ret (.int i) (.tape cs' sd') ∧ 0 ≤ i ∧ i < many := by
  obtain ⟨h3, h4⟩ := drawT_range cs sd many h
  exact ⟨_, _, _, by show (if 0 < many ∧ fitZ 1073741824 many = true then _ else _) = _; rw [if_pos ⟨h, fitZ_of (by omega)⟩], h3, h4⟩
end DL

namespace DL
open PySem PySem.Spec L2 PyProof.Rows
section
variable {X : Cx} {Y : Yx} {a b c e : Expr} {pos : Pos}
/-- an expression that is never come to -/
@[simp] def eBad (ρ : Env) : Out VV := .bad
theorem de_bad : DE X Y e eBad := ⟨fun pins s σ H Q I ⟨G, J, ρ, er, h⟩ => h.elim⟩
def dIAdd : D → D → Option D
  | .int i, .int j => some (.int (i + j))
  | .str a, .str b => if a.length + b.length ≤ sizeLine then some (.str (a ++ b)) else none
  | _, _ => none
@[simp] theorem dIAdd_i (i j : Int) : dIAdd (.int i) (.int j) = some (.int (i + j)) := rfl
@[simp] theorem dIAdd_s (a b : Str) : dIAdd (.str a) (.str b) = if a.length + b.length ≤ sizeLine then some (.str (a ++ b)) else none := rfl
theorem odi_add : OpD X (inplaceOp .Add) dIAdd := by
  refine opd_of (iop_add.or iop_add_str) fun x y H Q ⟨J, dx, dy, d, s, wx, wy, e, q⟩ => ?_
  unfold dIAdd at e
  split at e
  · cases e
    cases wx.int
    cases wy.int
    exact .inl ⟨_, _, rfl, rfl, q _ J H (.refl s) (.int _)⟩
  · split at e
    · rename_i hl
      cases e
      cases wx.str
      cases wy.str
      exact .inr ⟨_, _, rfl, rfl, hl, q _ J H (.refl s) (.str _)⟩
    · cases e
  · cases e
def dPow : D → D → Option D
  | .int i, .int j => if 0 ≤ j ∧ Nat.ble j.toNat 18 = true ∧ fitZ 18446744073709551616 i = true then some (.int (i ^ j.toNat)) else none
  | _, _ => none
theorem od_pow : OpD X (binaryOp .Pow) dPow := by
  refine opd_of op_pow fun x y H Q ⟨J, dx, dy, d, s, wx, wy, e, q⟩ => ?_
  unfold dPow at e
  split at e
  · split at e
    · rename_i hm
      cases e
      cases wx.int
      cases wy.int
      obtain ⟨h1, h2, h3⟩ := hm
      have h2 := Nat.le_of_ble_eq_true h2
      have h3 := fitZ_ok h3
      exact ⟨_, _, rfl, rfl, ⟨h1, by omega, by omega⟩, q _ J H (.refl s) (.int _)⟩
    · cases e
  · cases e
@[simp] def eCall0 (m : List D → FO) (ρ : Env) : Out VV := match m [] with
  | .ret d => .ok (.val d) ρ
  | _ => .bad
theorem de_call0 {m : List D → FO} {k : Nat} {f : Addr} {fd : FuncData} {ps : List Str} {x : Str} {p : Pos} (F : FnOk X.prog X.w X.K X.mg X.base (L2.CX X.prog X.w) k f fd ps (spP X.K Y.ct 0 m)) (hr : Room k X.A) (hm : X.mg x = some (.ref f))
    (hk : PySem.W.keepIn X.K (.ref f) = true) (hb : Binds X.K fd ps []) (hg : Gl X x := by rfl) (hdb : (x == ("__debug__" : Str)) = false := by decide) : DE X Y (.Call (.Name x p) [] [] pos) (eCall0 m) := by
  refine PE.imp (pe_call0 F hr hg hm hk hb (dvs := []) .nil passL hdb) fun σ H Q ⟨G, J, ρ, er, h⟩ => ?_
  unfold eCall0 at h
  refine ⟨J, [], er.ex, .nil, rfl, ?_⟩
  cases hmm : m [] with
  | ret d =>
    rw [hmm] at h
    exact fun v J' H' gr r => h.grow er gr r
  | own o => rw [hmm] at h; exact h.elim
  | exc ev => rw [hmm] at h; exact h.elim
  | bad => rw [hmm] at h; exact h.elim
end
end DL

namespace DL
open PySem PySem.Spec L2 PyProof.Rows

/-! ### slots that are forgotten -/
@[simp] def keepS : SV → SV
  | .own true o => .own true o
  | _ => .un
@[simp] def blankE (ρ : Env) : Env := ρ.map keepS
@[simp] def allLoose (ρ : Env) (is : List Nat) : Bool := is.all (loose ρ)
section
variable {K : Fg} {G : Gd} {J H : Hp} {σ : L2.St} {ρ : Env}
theorem loose_setU {i j : Nat} (h : loose ρ i = true) : loose (ρ.set j .un) i = true := by
  unfold loose at h ⊢
  by_cases hij : j = i
  · subst hij
    split at h
    · cases h
    · rename_i h1
      rw [List.getElem?_set_self (List.getElem?_eq_some_iff.mp h1).1]
    · cases h
  · rw [List.getElem?_set_ne hij]
    exact h
theorem loose_wipe {i : Nat} (h : loose ρ i = true) : ∀ is, loose (wipeE ρ is) i = true
  | [] => h
  | j :: is => loose_setU (loose_wipe h is)
theorem ER.wipeS (e : ER K G J H σ ρ) : ∀ {is : List Nat}, allLoose ρ is = true → ER K G J H σ (wipeE ρ is)
  | [], _ => e
  | i :: is, h => by
    have h : (loose ρ i && allLoose ρ is) = true := h
    rw [Bool.and_eq_true] at h
    exact (e.wipeS (is := is) h.2).dropS (loose_wipe h.1 is)
theorem sls_blank {xs : List (Option V)} {ss : List SV} {fs : List (List Addr)} (h : SlsOk K J H xs ss fs) : ∃ fs' : List (List Addr), SlsOk K J H xs (ss.map keepS) fs' ∧ ∀ (i : Nat) (f' : List Addr), fs'[i]? = some f' → f' = [] ∨ fs[i]? = some f' := by
  induction h with
  | nil => exact ⟨[], .nil, by simp⟩
  | @cons x s f xs ss fs h t ih =>
    obtain ⟨fs', t', q⟩ := ih
    by_cases hk : ∃ o, s = .own true o
    · obtain ⟨o, rfl⟩ := hk
      refine ⟨f :: fs', .cons h t', fun i f' e => ?_⟩
      cases i with
      | zero => exact .inr (by simpa using e)
      | succ i => simpa using q i f' (by simpa using e)
    · have e : keepS s = .un := by
        cases s with
        | own fx o =>
          cases fx with
          | true => exact (hk ⟨o, rfl⟩).elim
          | false => rfl
        | _ => rfl
      refine ⟨[] :: fs', by rw [List.map_cons, e]; exact .cons (.un _) t', fun i f' e => ?_⟩
      cases i with
      | zero => exact .inl (by simpa using e.symm)
      | succ i => simpa using q i f' (by simpa using e)
theorem ER.blank (e : ER K G J H σ ρ) : ER K G J H σ (blankE ρ) := by
  obtain ⟨fs, h, ap, q⟩ := e.ft
  obtain ⟨fs', h', q'⟩ := sls_blank h
  refine ⟨e.ex, e.j0, e.keep, e.pn, ⟨fs', h', fun i j f g a ei ej hf hg => ?_, fun f hf a ha => ?_⟩, fun i a hi => ?_⟩
  · rcases q' i f ei with rfl | e1
    · cases hf
    · rcases q' j g ej with rfl | e2
      · cases hg
      · exact ap i j f g a e1 e2 hf hg
  · obtain ⟨i, hi⟩ := List.getElem?_of_mem hf
    rcases q' i f hi with rfl | e1
    · cases ha
    · exact q f (List.mem_of_getElem? e1) a ha
  · obtain ⟨h1, o, h2⟩ := e.fx i a hi
    refine ⟨h1, o, ?_⟩
    unfold blankE
    rw [List.getElem?_map, h2]
    rfl
end
/-- behind a statement: the slots of is are forgotten; where the def is left, all (b: also where an error leaves) -/
@[simp] def fgS (b : Bool) (is : List Nat) : SO → SO
  | .nx ρ => if allLoose ρ is = true then .nx (wipeE ρ is) else .bad
  | .ct ρ => if allLoose ρ is = true then .ct (wipeE ρ is) else .bad
  | .bk ρ => if allLoose ρ is = true then .bk (wipeE ρ is) else .bad
  | .rt d ρ => .rt d (blankE ρ)
  | .ro o ρ => .ro o (blankE ρ)
  | .exc e ρ => if b = true then .exc e (blankE ρ) else .exc e ρ
  | .bad => .bad
@[simp] def sFg (b : Bool) (is : List Nat) (c : SC) (ρ : Env) : SO := fgS b is (c ρ)
@[simp] def sPre (is : List Nat) (c : SC) (ρ : Env) : SO := if allLoose ρ is = true then c (wipeE ρ is) else .bad
theorem fg_imp {K : Fg} {Y : Yx} {b : Bool} {is : List Nat} {c : SC} : ∀ D σ H, tS K Y (sFg b is c) D σ H → tS K Y c D σ H := fun D σ H ⟨G, J, ρ, er, h⟩ => by
  refine ⟨G, J, ρ, er, ?_⟩
  unfold sFg at h
  cases hc : c ρ with
  | nx ρ1 =>
    rw [hc] at h
    have h : SPost K Y G J (if allLoose ρ1 is = true then .nx (wipeE ρ1 is) else .bad) D := h
    split at h
    · rename_i hl
      exact fun σ' J' H' s e => h σ' J' H' s (e.wipeS hl)
    · exact h.elim
  | ct ρ1 =>
    rw [hc] at h
    have h : SPost K Y G J (if allLoose ρ1 is = true then .ct (wipeE ρ1 is) else .bad) D := h
    split at h
    · rename_i hl
      exact fun σ' J' H' s e => h σ' J' H' s (e.wipeS hl)
    · exact h.elim
  | bk ρ1 =>
    rw [hc] at h
    have h : SPost K Y G J (if allLoose ρ1 is = true then .bk (wipeE ρ1 is) else .bad) D := h
    split at h
    · rename_i hl
      exact fun σ' J' H' s e => h σ' J' H' s (e.wipeS hl)
    · exact h.elim
  | rt d ρ1 =>
    rw [hc] at h
    exact fun v σ' J' H' s r e => h v σ' J' H' s r e.blank
  | ro o ρ1 =>
    rw [hc] at h
    exact fun a r σ' J' H' s oa na e => h a r σ' J' H' s oa na e.blank
  | exc ev ρ1 =>
    rw [hc] at h
    have h : SPost K Y G J (if b = true then .exc ev (blankE ρ1) else .exc ev ρ1) D := h
    split at h
    · exact fun c dx σ' J' H' s x e => h c dx σ' J' H' s x e.blank
    · exact h
  | bad =>
    rw [hc] at h
    exact h.elim
theorem pre_imp {K : Fg} {Y : Yx} {is : List Nat} {c : SC} : ∀ D σ H, tS K Y (sPre is c) D σ H → tS K Y c D σ H := fun D σ H ⟨G, J, ρ, er, h⟩ => by
  unfold sPre at h
  split at h
  · rename_i hl
    exact ⟨G, J, _, er.wipeS hl, h⟩
  · exact h.elim
section
variable {X : Cx} {Y : Yx} {st : Stmt} {sts : List Stmt} {c : SC}
theorem ds_fg (b : Bool) (is : List Nat) (h : DS X Y st c) : DS X Y st (sFg b is c) := PS.imp h fg_imp
theorem dss_fg (b : Bool) (is : List Nat) (h : DSs X Y sts c) : DSs X Y sts (sFg b is c) := PSs.imp h fg_imp
theorem ds_pre (is : List Nat) (h : DS X Y st c) : DS X Y st (sPre is c) := PS.imp h pre_imp
end
/-- turns enough for any while -/
def fuelN : Nat := 1000000000000

@[simp] theorem sz_0 : 0 ≤ sizeLine := by decide
@[simp] theorem sz_1 : 1 ≤ sizeLine := by decide
@[simp] theorem sz_2 : 2 ≤ sizeLine := by decide
@[simp] theorem sz_3 : 3 ≤ sizeLine := by decide
@[simp] theorem sz_4 : 4 ≤ sizeLine := by decide
@[simp] theorem sz_5 : 5 ≤ sizeLine := by decide
@[simp] theorem sz_6 : 6 ≤ sizeLine := by decide
@[simp] theorem sz_7 : 7 ≤ sizeLine := by decide
@[simp] theorem sz_8 : 8 ≤ sizeLine := by decide
@[simp] theorem sz_9 : 9 ≤ sizeLine := by decide
@[simp] theorem sz_10 : 10 ≤ sizeLine := by decide
@[simp] theorem sz_11 : 11 ≤ sizeLine := by decide
@[simp] theorem sz_12 : 12 ≤ sizeLine := by decide
@[simp] theorem sz_13 : 13 ≤ sizeLine := by decide
@[simp] theorem sz_14 : 14 ≤ sizeLine := by decide
@[simp] theorem sz_15 : 15 ≤ sizeLine := by decide
@[simp] theorem sz_16 : 16 ≤ sizeLine := by decide
@[simp] theorem sz_17 : 17 ≤ sizeLine := by decide
@[simp] theorem sz_18 : 18 ≤ sizeLine := by decide
@[simp] theorem sz_19 : 19 ≤ sizeLine := by decide
@[simp] theorem sz_20 : 20 ≤ sizeLine := by decide
@[simp] theorem sz_21 : 21 ≤ sizeLine := by decide
@[simp] theorem sz_22 : 22 ≤ sizeLine := by decide
@[simp] theorem sz_23 : 23 ≤ sizeLine := by decide
@[simp] theorem sz_24 : 24 ≤ sizeLine := by decide
@[simp] theorem sz_25 : 25 ≤ sizeLine := by decide
@[simp] theorem sz_26 : 26 ≤ sizeLine := by decide
@[simp] theorem sz_27 : 27 ≤ sizeLine := by decide
@[simp] theorem sz_28 : 28 ≤ sizeLine := by decide
@[simp] theorem sz_29 : 29 ≤ sizeLine := by decide
@[simp] theorem sz_30 : 30 ≤ sizeLine := by decide
@[simp] theorem sz_31 : 31 ≤ sizeLine := by decide
@[simp] theorem sz_32 : 32 ≤ sizeLine := by decide
@[simp] theorem sz_33 : 33 ≤ sizeLine := by decide
@[simp] theorem sz_34 : 34 ≤ sizeLine := by decide
@[simp] theorem sz_35 : 35 ≤ sizeLine := by decide
@[simp] theorem sz_36 : 36 ≤ sizeLine := by decide
@[simp] theorem sz_37 : 37 ≤ sizeLine := by decide
@[simp] theorem sz_38 : 38 ≤ sizeLine := by decide
@[simp] theorem sz_39 : 39 ≤ sizeLine := by decide
@[simp] theorem sz_40 : 40 ≤ sizeLine := by decide
@[simp] theorem sy_0 : 0 < sizeLine := by decide
@[simp] theorem sy_1 : 1 < sizeLine := by decide
@[simp] theorem sy_2 : 2 < sizeLine := by decide
@[simp] theorem sy_3 : 3 < sizeLine := by decide
@[simp] theorem sy_4 : 4 < sizeLine := by decide
@[simp] theorem sy_5 : 5 < sizeLine := by decide
@[simp] theorem sy_6 : 6 < sizeLine := by decide
@[simp] theorem sy_7 : 7 < sizeLine := by decide
@[simp] theorem sy_8 : 8 < sizeLine := by decide
@[simp] theorem sy_9 : 9 < sizeLine := by decide
@[simp] theorem sy_10 : 10 < sizeLine := by decide
@[simp] theorem sy_11 : 11 < sizeLine := by decide
@[simp] theorem sy_12 : 12 < sizeLine := by decide
@[simp] theorem sy_13 : 13 < sizeLine := by decide
@[simp] theorem sy_14 : 14 < sizeLine := by decide
@[simp] theorem sy_15 : 15 < sizeLine := by decide
@[simp] theorem sy_16 : 16 < sizeLine := by decide
@[simp] theorem sy_17 : 17 < sizeLine := by decide
@[simp] theorem sy_18 : 18 < sizeLine := by decide
@[simp] theorem sy_19 : 19 < sizeLine := by decide
@[simp] theorem sy_20 : 20 < sizeLine := by decide
@[simp] theorem sy_21 : 21 < sizeLine := by decide
@[simp] theorem sy_22 : 22 < sizeLine := by decide
@[simp] theorem sy_23 : 23 < sizeLine := by decide
@[simp] theorem sy_24 : 24 < sizeLine := by decide
@[simp] theorem sy_25 : 25 < sizeLine := by decide
@[simp] theorem sy_26 : 26 < sizeLine := by decide
@[simp] theorem sy_27 : 27 < sizeLine := by decide
@[simp] theorem sy_28 : 28 < sizeLine := by decide
@[simp] theorem sy_29 : 29 < sizeLine := by decide
@[simp] theorem sy_30 : 30 < sizeLine := by decide
@[simp] theorem sy_31 : 31 < sizeLine := by decide
@[simp] theorem sy_32 : 32 < sizeLine := by decide
@[simp] theorem sy_33 : 33 < sizeLine := by decide
@[simp] theorem sy_34 : 34 < sizeLine := by decide
@[simp] theorem sy_35 : 35 < sizeLine := by decide
@[simp] theorem sy_36 : 36 < sizeLine := by decide
@[simp] theorem sy_37 : 37 < sizeLine := by decide
@[simp] theorem sy_38 : 38 < sizeLine := by decide
@[simp] theorem sy_39 : 39 < sizeLine := by decide
@[simp] theorem sy_40 : 40 < sizeLine := by decide
/-! ### texts as rows of signs below 128 -/
abbrev Ch := Fin 128
abbrev Tx := List Ch
def tx (l : Tx) : Str := ⟨(l.map (·.val)).toArray⟩
theorem tx_sL (l : Tx) : tx l = sL (l.map (·.val)) := rfl
@[simp] theorem tx_length (l : Tx) : (tx l).length = l.length := by simp [tx, Str.length]
@[simp] theorem tx_cps (l : Tx) : (tx l).cps.toList = l.map (·.val) := by simp [tx]
theorem vals_inj : ∀ {a b : Tx}, a.map (·.val) = b.map (·.val) → a = b
  | [], [], _ => rfl
  | [], _ :: _, h => by simp at h
  | _ :: _, [], h => by simp at h
  | x :: a, y :: b, h => by
    rw [List.map_cons, List.map_cons] at h
    injection h with h1 h2
    rw [Fin.ext h1, vals_inj h2]
@[simp] theorem tx_inj (a b : Tx) : tx a = tx b ↔ a = b := ⟨fun h => vals_inj (by rw [← tx_cps, h, tx_cps]), fun h => by rw [h]⟩
@[simp] theorem tx_append (a b : Tx) : tx a ++ tx b = tx (a ++ b) := by
  rw [tx_sL, tx_sL, tx_sL, sL_append, List.map_append]
@[simp] theorem tx_one (c : Ch) : (⟨#[c.val]⟩ : Str) = tx [c] := rfl
@[simp] theorem tx_sL_one (c : Ch) : sL [c.val] = tx [c] := rfl
theorem tx_nil : tx [] = Str.empty := rfl
@[simp] theorem tx_ok (l : Tx) : PyData.strOk (tx l) = true := by
  rw [tx_sL]
  refine strOk_sL fun c hc => ?_
  obtain ⟨x, _, rfl⟩ := List.mem_map.mp hc
  exact x.isLt
/-- a cut, of any row -/
def cutG {α : Type} (l : List α) (lo hi : Option Int) : List α := (l.drop (HT.sIx l.length 0 lo)).take (HT.sIx l.length l.length hi - HT.sIx l.length 0 lo)
@[simp] theorem cutD_G (l : List D) (lo hi : Option Int) : cutD l lo hi = cutG l lo hi := rfl
@[simp] theorem cutL_G (l : List Nat) (lo hi : Option Int) : cutL l lo hi = cutG l lo hi := rfl
theorem cutG_map {α β : Type} (f : α → β) (l : List α) (lo hi : Option Int) : cutG (l.map f) lo hi = (cutG l lo hi).map f := by
  unfold cutG
  rw [List.length_map, List.map_take, List.map_drop]
@[simp] theorem cutS_tx (l : Tx) (lo hi : Option Int) : cutS (tx l) lo hi = tx (cutG l lo hi) := by
  rw [tx_sL, cutS_sL, cutL_G, cutG_map]
  rfl
theorem cutG_le {α : Type} (l : List α) (lo hi : Option Int) : (cutG l lo hi).length ≤ l.length := by
  unfold cutG
  rw [List.length_take, List.length_drop]
  omega
@[simp] theorem cutG_all {α : Type} (l : List α) : cutG l none none = l := by
  simp [cutG, HT.sIx]
theorem cutG_to {α : Type} (l : List α) (k : Nat) : cutG l none (some (k : Int)) = l.take k := by
  unfold cutG
  rw [HT.sIx_nat, HT.sIx_none, List.drop_zero, Nat.sub_zero, ← List.take_take, List.take_length]
theorem cutG_from {α : Type} (l : List α) (k : Nat) : cutG l (some (k : Int)) none = l.drop k := by
  unfold cutG
  rw [HT.sIx_nat, HT.sIx_none]
  by_cases h : k ≤ l.length
  · rw [Nat.min_eq_left h]
    exact List.take_of_length_le (by rw [List.length_drop]; omega)
  · rw [Nat.min_eq_right (by omega), List.drop_of_length_le (Nat.le_refl _), List.drop_of_length_le (by omega)]
    simp
theorem cutG_mid {α : Type} (l : List α) (a b : Nat) : cutG l (some (a : Int)) (some (b : Int)) = (l.drop a).take (b - a) := by
  unfold cutG
  rw [HT.sIx_nat, HT.sIx_nat]
  by_cases h : a ≤ l.length
  · rw [Nat.min_eq_left h]
    by_cases hb : b ≤ l.length
    · rw [Nat.min_eq_left hb]
    · rw [Nat.min_eq_right (show l.length ≤ b by omega), List.take_of_length_le (by rw [List.length_drop]; omega), List.take_of_length_le (by rw [List.length_drop]; omega)]
  · rw [Nat.min_eq_right (show l.length ≤ a by omega), List.drop_of_length_le (Nat.le_refl _), List.drop_of_length_le (show l.length ≤ a by omega)]
    simp
theorem cutG_last {α : Type} (l : List α) (h : 1 ≤ l.length) : cutG l (some (-1)) none = l.drop (l.length - 1) := by
  have e : HT.sIx l.length 0 (some (-1)) = l.length - 1 := by
    show (if (-1 : Int) < 0 then ((-1 : Int) + (l.length : Int)).toNat else min (-1 : Int).toNat l.length) = _
    rw [if_pos (by decide)]
    omega
  unfold cutG
  rw [e, HT.sIx_none]
  exact List.take_of_length_le (by rw [List.length_drop]; omega)
theorem cutG_butlast {α : Type} (l : List α) : cutG l none (some (-1)) = l.dropLast := by
  have e : HT.sIx l.length l.length (some (-1)) = l.length - 1 := by
    show (if (-1 : Int) < 0 then ((-1 : Int) + (l.length : Int)).toNat else min (-1 : Int).toNat l.length) = _
    rw [if_pos (by decide)]
    omega
  unfold cutG
  rw [e, HT.sIx_none, List.dropLast_eq_take]
  rfl
/-- a text's signs as data -/
abbrev chrs (l : Tx) : List D := l.map fun c => .str (tx [c])
@[simp] theorem items_tx (l : Tx) : (l.map (·.val)).map (fun c => PyData.str (sL [c])) = chrs l := by
  rw [List.map_map]
  rfl
@[simp] theorem items_txc (l : Tx) : l.map ((fun c => PyData.str (sL [c])) ∘ fun (x : Ch) => x.val) = chrs l := rfl
@[simp] theorem itemsOf_tx (l : Tx) : itemsOf (.str (tx l)) = some (chrs l) := by
  show some ((tx l).cps.toList.map fun c => PyData.str ⟨#[c]⟩) = _
  rw [tx_cps, List.map_map]
  rfl
@[simp] theorem atI_map {α β : Type} (f : α → β) (l : List α) (i : Int) : atI (l.map f) i = (atI l i).map f := by
  unfold atI
  rw [List.length_map]
  cases ixN l.length i with
  | none => rfl
  | some k => simp
theorem dIx_tx (l : Tx) (i : Int) (h : l.length ≤ 10000) : dIx (.str (tx l)) (.int i) = (atI l i).map fun c => .str (tx [c]) := by
  have hz : (tx l).length ≤ sizeLine := by rw [tx_length]; exact le_line h
  show (if (tx l).length ≤ sizeLine then _ else _) = _
  rw [if_pos hz, tx_cps, atI_map]
  cases atI l i <;> rfl
theorem strIn_one (c : Ch) (l : Tx) : strIn (tx [c]) (tx l) = decide (c ∈ l) := by
  have h : strIn (tx [c]) (tx l) = decide (c.val ∈ (tx l).cps.toList) := PySem.StrLaws.found_one (tx l) c.val
  rw [h, tx_cps]
  refine decide_eq_decide.mpr ⟨fun h => ?_, fun h => List.mem_map_of_mem h⟩
  obtain ⟨x, hx, e⟩ := List.mem_map.mp h
  rw [← Fin.ext e]
  exact hx
@[simp] theorem dIn_one (c : Ch) (l : Tx) : dIn (.str (tx [c])) (.str (tx l)) = some (.bool (decide (c ∈ l))) := by
  show some (PyData.bool (strIn (tx [c]) (tx l))) = _
  rw [strIn_one]
@[simp] theorem dNotIn_one (c : Ch) (l : Tx) : dNotIn (.str (tx [c])) (.str (tx l)) = some (.bool (!decide (c ∈ l))) := by
  show some (PyData.bool (!strIn (tx [c]) (tx l))) = _
  rw [strIn_one]
theorem eqv_tx (a b : Tx) : PyData.eqv (.str (tx a)) (.str (tx b)) = decide (a = b) := by
  rw [eqv_str]
  exact decide_eq_decide.mpr (tx_inj a b)
@[simp] theorem dEq_tx (a b : Tx) : dEq (.str (tx a)) (.str (tx b)) = some (.bool (decide (a = b))) := by
  rw [dEq_str (tx_ok a) (tx_ok b)]
  exact congrArg (fun z => some (PyData.bool z)) (decide_eq_decide.mpr (tx_inj a b))
@[simp] theorem dNe_tx (a b : Tx) : dNe (.str (tx a)) (.str (tx b)) = some (.bool (!decide (a = b))) := by
  rw [dNe_str (tx_ok a) (tx_ok b)]
  exact congrArg (fun z => some (PyData.bool (!z))) (decide_eq_decide.mpr (tx_inj a b))
theorem vals_lt : ∀ (a b : Tx), a.map (·.val) < b.map (·.val) ↔ a < b
  | [], [] => by simp
  | [], _ :: _ => by simp
  | _ :: _, [] => by simp
  | x :: a, y :: b => by
    rw [List.map_cons, List.map_cons, List.cons_lt_cons_iff, List.cons_lt_cons_iff, vals_lt a b]
    exact or_congr Iff.rfl (and_congr Fin.ext_iff.symm Iff.rfl)
theorem dLt_tx (a b : Tx) : dLt (.str (tx a)) (.str (tx b)) = some (.bool (decide (a < b))) := by
  show some (PyData.bool (decide ((tx a).cps.toList < (tx b).cps.toList))) = _
  rw [tx_cps, tx_cps]
  exact congrArg (fun z => some (PyData.bool z)) (decide_eq_decide.mpr (vals_lt a b))
theorem strsD_tx (ls : List Tx) : strsD (ls.map fun l => PyData.str (tx l)) = some (ls.map tx) := by
  have := strs_map (ls.map tx)
  rw [List.map_map] at this
  exact this
theorem flat_vals : ∀ ls : List Tx, (ls.map (List.map (·.val))).flatten = ls.flatten.map (·.val)
  | [] => rfl
  | l :: ls => by rw [List.map_cons, List.flatten_cons, flat_vals ls, List.flatten_cons, List.map_append]
theorem dJoin_tx (ls : List Tx) (h : ls.flatten.length ≤ 10000) : dJoin (.str (tx [])) [.list (ls.map fun l => .str (tx l))] = some (.str (tx ls.flatten)) := by
  have := dJoin_sL (ls.map (List.map (·.val))) (by rw [flat_vals, List.length_map]; exact h)
  rw [List.map_map, flat_vals] at this
  exact this
theorem dJoinT_tx (ls : List Tx) (h : ls.flatten.length ≤ 10000) : dJoin (.str (tx [])) [.tuple (ls.map fun l => .str (tx l))] = some (.str (tx ls.flatten)) := dJoin_tx ls h
theorem dJoin_chrs (l : Tx) (h : l.length ≤ 10000) : dJoin (.str (tx [])) [.list (chrs l)] = some (.str (tx l)) := by
  have e : (l.map fun c => [c]).flatten = l := by
    induction l with
    | nil => rfl
    | cons c l ih => rw [List.map_cons, List.flatten_cons, ih (by simp at h; omega)]; rfl
  have := dJoin_tx (l.map fun c => [c]) (by rw [e]; exact h)
  rw [e, List.map_map] at this
  exact this
/-- a text that is written -/
theorem de_strT {X : Cx} {Y : Yx} {l : Tx} {z : Str} {j} {pos : Pos} (h : z = tx l) : DE X Y (.Constant (.str z) j pos) (eC (.str (tx l))) := by
  subst h
  exact de_str
theorem dx_strT {X : Cx} {Y : Yx} {i : Nat} {l : Tx} {z : Str} {j} {pos : Pos} (h : z = tx l) : DX X Y i (.Constant (.str z) j pos) (fun _ => some (.str (tx l))) := by
  subst h
  exact dx_str
theorem gl_eq {K : Fg} {mg : Str → Option Value} {x : Str} {d d' : D} (g : GlD K mg x d) (h : d = d') : GlD K mg x d' := h ▸ g
end DL

namespace DL
open PySem PySem.Spec L2 PyProof.Rows

/-! ### kinds of plain data -/
structure Co (α : Type) where
  d : α → D
  n : Nat
  lay : ∀ a, PyData.canLay0 (d a) = true
  le : ∀ a, PyData.depth (d a) ≤ n
  inj : ∀ a b, PyData.eqv (d a) (d b) = true ↔ a = b
section
variable {α β γ δ ε : Type}
theorem layAll_map (c : Co α) : ∀ l : List α, PyData.canLayAll0 (l.map c.d) = true
  | [] => by simp [PyData.canLayAll0]
  | a :: l => by simp [PyData.canLayAll0, c.lay a, layAll_map c l]
theorem depAll_map (c : Co α) : ∀ l : List α, PyData.depthAll (l.map c.d) ≤ c.n
  | [] => by simp [PyData.depthAll]
  | a :: l => by
    have h1 := c.le a
    have h2 := depAll_map c l
    simp [PyData.depthAll]
    omega
theorem eqvAll_map (c : Co α) : ∀ l m : List α, PyData.eqvAll (l.map c.d) (m.map c.d) = true ↔ l = m
  | [], [] => by simp [PyData.eqvAll]
  | [], _ :: _ => by simp [PyData.eqvAll]
  | _ :: _, [] => by simp [PyData.eqvAll]
  | a :: l, b :: m => by simp [PyData.eqvAll, c.inj a b, eqvAll_map c l m]
def coInt : Co Int := ⟨.int, 0, fun _ => by simp [PyData.canLay0], fun _ => by simp [PyData.depth], fun _ _ => by simp [PyData.eqv]⟩
def coBool : Co Bool := ⟨.bool, 0, fun _ => by simp [PyData.canLay0], fun _ => by simp [PyData.depth], fun _ _ => by simp [PyData.eqv]⟩
def coTx : Co Tx := ⟨fun l => .str (tx l), 0, fun _ => by simp [PyData.canLay0], fun _ => by simp [PyData.depth], fun a b => by simp [eqv_tx]⟩
def coTup (c : Co α) : Co (List α) := ⟨fun l => .tuple (l.map c.d), c.n + 1, fun l => by simp [PyData.canLay0, layAll_map c l], fun l => by have := depAll_map c l; simp [PyData.depth]; omega, fun a b => by simp [PyData.eqv, eqvAll_map c a b]⟩
def coLst (c : Co α) : Co (List α) := ⟨fun l => .list (l.map c.d), c.n + 1, fun l => by simp [PyData.canLay0, layAll_map c l], fun l => by have := depAll_map c l; simp [PyData.depth]; omega, fun a b => by simp [PyData.eqv, eqvAll_map c a b]⟩
def co2 (c : Co α) (e : Co β) : Co (α × β) := ⟨fun p => .tuple [c.d p.1, e.d p.2], max c.n e.n + 1, fun p => by simp [PyData.canLay0, PyData.canLayAll0, c.lay, e.lay],
  fun p => by have := c.le p.1; have := e.le p.2; simp [PyData.depth, PyData.depthAll]; omega, fun p q => by simp [PyData.eqv, PyData.eqvAll, c.inj, e.inj, Prod.ext_iff]⟩
def co3 (c : Co α) (e : Co β) (f : Co γ) : Co (α × β × γ) := ⟨fun p => .tuple [c.d p.1, e.d p.2.1, f.d p.2.2], max c.n (max e.n f.n) + 1, fun p => by simp [PyData.canLay0, PyData.canLayAll0, c.lay, e.lay, f.lay],
  fun p => by have := c.le p.1; have := e.le p.2.1; have := f.le p.2.2; simp [PyData.depth, PyData.depthAll]; omega, fun p q => by simp [PyData.eqv, PyData.eqvAll, c.inj, e.inj, f.inj, Prod.ext_iff]⟩
def co4 (c : Co α) (e : Co β) (f : Co γ) (g : Co δ) : Co (α × β × γ × δ) := ⟨fun p => .tuple [c.d p.1, e.d p.2.1, f.d p.2.2.1, g.d p.2.2.2], max (max c.n g.n) (max e.n f.n) + 1, fun p => by simp [PyData.canLay0, PyData.canLayAll0, c.lay, e.lay, f.lay, g.lay],
  fun p => by have := c.le p.1; have := e.le p.2.1; have := f.le p.2.2.1; have := g.le p.2.2.2; simp [PyData.depth, PyData.depthAll]; omega, fun p q => by simp [PyData.eqv, PyData.eqvAll, c.inj, e.inj, f.inj, g.inj, Prod.ext_iff]⟩
/-- a kind by way of another -/
def Co.via (c : Co β) (f : α → β) (h : ∀ a b, f a = f b → a = b) : Co α := ⟨fun a => c.d (f a), c.n, fun a => c.lay _, fun a => c.le _, fun a b => (c.inj _ _).trans ⟨h a b, fun e => e ▸ rfl⟩⟩
theorem Co.sh (c : Co α) (h : c.n ≤ 64) (a : α) : SeqAt.shaped (c.d a) = true := by
  have := c.le a
  simp [SeqAt.shaped, c.lay a]
  omega
theorem Co.eqv (c : Co α) (a b : α) {_ : Decidable (a = b)} : PyData.eqv (c.d a) (c.d b) = decide (a = b) := by
  rw [Bool.eq_iff_iff, c.inj, decide_eq_true_iff]
theorem Co.eq (c : Co α) (a b : α) {_ : Decidable (a = b)} (h : c.n ≤ 64 := by decide) : dEq (c.d a) (c.d b) = some (.bool (decide (a = b))) := by
  unfold dEq
  rw [if_pos ⟨c.sh h a, c.sh h b⟩, c.eqv]
theorem Co.ne (c : Co α) (a b : α) {_ : Decidable (a = b)} (h : c.n ≤ 64 := by decide) : dNe (c.d a) (c.d b) = some (.bool (!decide (a = b))) := by
  unfold dNe
  rw [if_pos ⟨c.sh h a, c.sh h b⟩, c.eqv]
theorem Co.any (c : Co α) (l : List α) (a : α) {_ : Decidable (a ∈ l)} : ((l.map c.d).any fun z => PyData.eqv z (c.d a)) = decide (a ∈ l) := by
  rw [Bool.eq_iff_iff, List.any_eq_true, decide_eq_true_iff]
  constructor
  · rintro ⟨z, hz, e⟩
    obtain ⟨b, hb, rfl⟩ := List.mem_map.mp hz
    rw [← (c.inj b a).mp e]
    exact hb
  · exact fun h => ⟨c.d a, List.mem_map_of_mem h, (c.inj a a).mpr rfl⟩
theorem dIn_tup (x : D) (ys : List D) : dIn x (.tuple ys) = if SeqAt.shaped x = true ∧ SeqAt.shaped (.tuple ys) = true then some (.bool (ys.any fun z => PyData.eqv z x)) else none := by cases x <;> rfl
theorem dIn_lst (x : D) (ys : List D) : dIn x (.list ys) = if SeqAt.shaped x = true ∧ SeqAt.shaped (.list ys) = true then some (.bool (ys.any fun z => PyData.eqv z x)) else none := by cases x <;> rfl
theorem dNotIn_tup (x : D) (ys : List D) : dNotIn x (.tuple ys) = if SeqAt.shaped x = true ∧ SeqAt.shaped (.tuple ys) = true then some (.bool (!ys.any fun z => PyData.eqv z x)) else none := by cases x <;> rfl
theorem dNotIn_lst (x : D) (ys : List D) : dNotIn x (.list ys) = if SeqAt.shaped x = true ∧ SeqAt.shaped (.list ys) = true then some (.bool (!ys.any fun z => PyData.eqv z x)) else none := by cases x <;> rfl
theorem Co.inT (c : Co α) (a : α) (l : List α) {_ : Decidable (a ∈ l)} (h : c.n ≤ 63 := by decide) : dIn (c.d a) (.tuple (l.map c.d)) = some (.bool (decide (a ∈ l))) := by
  rw [dIn_tup, if_pos ⟨c.sh (by omega) a, (coTup c).sh (by show c.n + 1 ≤ 64; omega) l⟩, c.any]
theorem Co.inL (c : Co α) (a : α) (l : List α) {_ : Decidable (a ∈ l)} (h : c.n ≤ 63 := by decide) : dIn (c.d a) (.list (l.map c.d)) = some (.bool (decide (a ∈ l))) := by
  rw [dIn_lst, if_pos ⟨c.sh (by omega) a, (coLst c).sh (by show c.n + 1 ≤ 64; omega) l⟩, c.any]
theorem Co.notT (c : Co α) (a : α) (l : List α) {_ : Decidable (a ∈ l)} (h : c.n ≤ 63 := by decide) : dNotIn (c.d a) (.tuple (l.map c.d)) = some (.bool (!decide (a ∈ l))) := by
  rw [dNotIn_tup, if_pos ⟨c.sh (by omega) a, (coTup c).sh (by show c.n + 1 ≤ 64; omega) l⟩, c.any]
theorem Co.notL (c : Co α) (a : α) (l : List α) {_ : Decidable (a ∈ l)} (h : c.n ≤ 63 := by decide) : dNotIn (c.d a) (.list (l.map c.d)) = some (.bool (!decide (a ∈ l))) := by
  rw [dNotIn_lst, if_pos ⟨c.sh (by omega) a, (coLst c).sh (by show c.n + 1 ≤ 64; omega) l⟩, c.any]
end

/-! ### for -/
section
variable {α S : Type} {set : D → Env → Option Env} {body : SC}
/-- a state is carried on, one step an item -/
theorem for_fold (en : α → D) (E : S → Env) (f : S → α → S) (I : List α → S → Prop) (all : List α) : ∀ (post pre : List α) (s : S), all = pre ++ post → I pre s →
    (∀ (pre : List α) (x : α) (s : S), x ∈ all → pre.length < all.length → I pre s → ∃ ρ1, set (en x) (E s) = some ρ1 ∧ (body ρ1 = .nx (E (f s x)) ∨ body ρ1 = .ct (E (f s x))) ∧ I (pre ++ [x]) (f s x)) →
    forRun set body (post.map en) (E s) = .nx (E (post.foldl f s)) ∧ I all (post.foldl f s)
  | [], pre, s, ha, h0, _ => ⟨rfl, by rw [ha]; simpa using h0⟩
  | x :: post, pre, s, ha, h0, hs => by
    obtain ⟨ρ1, e1, e2, h1⟩ := hs pre x s (by rw [ha]; simp) (by rw [ha]; simp) h0
    have ih := for_fold en E f I all post (pre ++ [x]) (f s x) (by rw [ha]; simp) h1 hs
    rw [List.map_cons, List.foldl_cons]
    refine ⟨?_, ih.2⟩
    unfold forRun
    rw [e1]
    rcases e2 with e2 | e2 <;> simp only [e2] <;> exact ih.1
/-- the same, with no more known than what the state says -/
theorem for_go (en : α → D) (E : S → Env) (f : S → α → S) (xs : List α) (s : S) (h : ∀ x ∈ xs, ∀ s, ∃ ρ1, set (en x) (E s) = some ρ1 ∧ (body ρ1 = .nx (E (f s x)) ∨ body ρ1 = .ct (E (f s x)))) :
    forRun set body (xs.map en) (E s) = .nx (E (xs.foldl f s)) :=
  (for_fold en E f (fun _ _ => True) xs xs [] s rfl trivial fun _ x s hx _ _ => by
    obtain ⟨ρ1, h1, h2⟩ := h x hx s
    exact ⟨ρ1, h1, h2, trivial⟩).1
/-- an invariant that holds of the states, whatever they are -/
theorem for_inv (en : α → D) (E : S → Env) (I : List α → S → Prop) (all : List α) : ∀ (post pre : List α) (s : S), all = pre ++ post → I pre s →
    (∀ pre x post s, all = pre ++ x :: post → I pre s → ∃ ρ1 s', set (en x) (E s) = some ρ1 ∧ (body ρ1 = .nx (E s') ∨ body ρ1 = .ct (E s')) ∧ I (pre ++ [x]) s') →
    ∃ s', forRun set body (post.map en) (E s) = .nx (E s') ∧ I all s'
  | [], pre, s, ha, h0, _ => ⟨s, rfl, by rw [ha]; simpa using h0⟩
  | x :: post, pre, s, ha, h0, hs => by
    obtain ⟨ρ1, s1, e1, e2, h1⟩ := hs pre x post s ha h0
    obtain ⟨s', e, h'⟩ := for_inv en E I all post (pre ++ [x]) s1 (by simp [ha]) h1 hs
    refine ⟨s', ?_, h'⟩
    rw [List.map_cons]
    unfold forRun
    rw [e1]
    rcases e2 with e2 | e2 <;> simp only [e2] <;> exact e
/-- the first item for which the def is left -/
theorem for_first (en : α → D) (E : Env) (p : α → Option D) (B : Env) : ∀ (xs : List α), (∀ x ∈ xs, ∃ ρ1, set (en x) E = some ρ1 ∧ body ρ1 = match p x with | none => .nx E | some d => .rt d B) →
    forRun set body (xs.map en) E = match xs.findSome? p with | none => .nx E | some d => .rt d B
  | [], _ => rfl
  | x :: xs, h => by
    obtain ⟨ρ1, e1, e2⟩ := h x (by simp)
    rw [List.map_cons]
    unfold forRun
    rw [e1]
    simp only [e2]
    rw [List.findSome?_cons]
    cases hp : p x with
    | none =>
      simp only
      exact for_first en E p B xs fun y hy => h y (List.mem_cons_of_mem _ hy)
    | some d => rfl
/-- no item for which the def is left, nothing is carried on -/
theorem for_pass (en : α → D) (E : Env) : ∀ (xs : List α), (∀ x ∈ xs, ∃ ρ1, set (en x) E = some ρ1 ∧ body ρ1 = .nx E) → forRun set body (xs.map en) E = .nx E
  | [], _ => rfl
  | x :: xs, h => by
    obtain ⟨ρ1, e1, e2⟩ := h x (by simp)
    rw [List.map_cons]
    unfold forRun
    rw [e1]
    simp only [e2]
    exact for_pass en E xs fun y hy => h y (List.mem_cons_of_mem _ hy)
end

/-! ### while -/
theorem while_go {S : Type} {t : TC} {body : SC} (E : S → Env) (I : S → Prop) (m : S → Nat) (F : S → Prop) (h : ∀ s, I s → (t (E s) = .ok false (E s) ∧ F s) ∨ (t (E s) = .ok true (E s) ∧ ∃ s', (body (E s) = .nx (E s') ∨ body (E s) = .ct (E s')) ∧ I s' ∧ m s' < m s)) : ∀ (n : Nat) (s : S), I s → m s < n → ∃ s', whileRun t body n (E s) = .nx (E s') ∧ I s' ∧ F s'
  | 0, s, _, hn => absurd hn (Nat.not_lt_zero _)
  | n + 1, s, hi, hn => by
    unfold whileRun
    rcases h s hi with ⟨e, hf⟩ | ⟨e, s1, e1, h1, hm⟩
    · refine ⟨s, ?_, hi, hf⟩
      rw [e]
      simp
    · obtain ⟨s', e2, h2⟩ := while_go E I m F h n s1 h1 (by omega)
      refine ⟨s', ?_, h2⟩
      rw [e]
      rcases e1 with e1 | e1 <;> simp only [e1, Out.then, if_true] <;> exact e2

/-! ### comprehensions -/
theorem lc_filter {α : Type} {vs : List Nat} {set : D → Env → Option Env} {t : TC} {fe : EC} {ρ0 : Env} (en : α → D) (p : α → Bool) (g : α → D) : ∀ (xs : List α) (acc : List D),
    (∀ x ∈ xs, ∃ ρd, set (en x) ρ0 = some ρd ∧ t ρd = .ok (p x) ρd ∧ (p x = true → fe ρd = .ok (.val (g x)) ρd) ∧ allPlain ρd vs = true ∧ wipeE ρd vs = ρ0) → acc.length + xs.length ≤ 10000 →
    lcRun vs set t fe (xs.map en) ρ0 acc = .ok (acc ++ (xs.filter p).map g) ρ0
  | [], acc, _, _ => by simp [lcRun]
  | x :: xs, acc, h, hl => by
    obtain ⟨ρd, e1, e2, e3, e4, e5⟩ := h x (by simp)
    have hl : acc.length + (xs.length + 1) ≤ 10000 := hl
    have hz : acc.length < sizeLine := lt_line (by omega)
    rw [List.map_cons]
    unfold lcRun
    rw [e1]
    simp only [e2]
    cases hp : p x with
    | true =>
      simp only [e3 hp]
      rw [if_pos ⟨hz, e4⟩, e5, lc_filter en p g xs _ (fun y hy => h y (List.mem_cons_of_mem _ hy)) (by simp; omega)]
      simp [hp]
    | false =>
      simp only
      rw [if_pos e4, e5, lc_filter en p g xs _ (fun y hy => h y (List.mem_cons_of_mem _ hy)) (by omega)]
      simp [hp]
/-- a whole comprehension, nothing but its own names changed -/
theorem nlc_filter {α : Type} {vs : List Nat} {fi : Env → Out (List D)} {set : D → Env → Option Env} {t : TC} {fe : EC} {ρ ρ1 ρ0 : Env} (xs : List α) (en : α → D) (p : α → Bool) (g : α → D)
    (hi : fi ρ = .ok (xs.map en) ρ1) (hp : allPlain ρ1 vs = true) (hw : wipeE ρ1 vs = ρ0) (hb : backE ρ1 ρ0 vs = ρ1) (hl : xs.length ≤ 10000)
    (h : ∀ x ∈ xs, ∃ ρd, set (en x) ρ0 = some ρd ∧ t ρd = .ok (p x) ρd ∧ (p x = true → fe ρd = .ok (.val (g x)) ρd) ∧ allPlain ρd vs = true ∧ wipeE ρd vs = ρ0) :
    nLc vs fi set t fe ρ = .ok ((xs.filter p).map g) ρ1 := by
  unfold nLc
  rw [hi]
  simp only [Out.bind]
  rw [if_pos hp, hw, lc_filter en p g xs [] h (by simpa using hl)]
  have e0 : allPlain ρ0 vs = true := by
    rw [← hw]
    exact List.all_eq_true.mpr fun i hi => plain_wipe (List.all_eq_true.mp hp i hi) vs
  simp [hb, e0]
theorem nlc_map {α : Type} {vs : List Nat} {fi : Env → Out (List D)} {set : D → Env → Option Env} {fe : EC} {ρ ρ1 ρ0 : Env} (xs : List α) (en : α → D) (g : α → D)
    (hi : fi ρ = .ok (xs.map en) ρ1) (hp : allPlain ρ1 vs = true) (hw : wipeE ρ1 vs = ρ0) (hb : backE ρ1 ρ0 vs = ρ1) (hl : xs.length ≤ 10000)
    (h : ∀ x ∈ xs, ∃ ρd, set (en x) ρ0 = some ρd ∧ fe ρd = .ok (.val (g x)) ρd ∧ allPlain ρd vs = true ∧ wipeE ρd vs = ρ0) :
    nLc vs fi set tYesD fe ρ = .ok (xs.map g) ρ1 := by
  have := nlc_filter (t := tYesD) xs en (fun _ => true) g hi hp hw hb hl fun x hx => by
    obtain ⟨ρd, h1, h2, h3, h4⟩ := h x hx
    exact ⟨ρd, h1, rfl, fun _ => h2, h3, h4⟩
  rw [this, List.filter_eq_self.mpr fun _ _ => rfl]
/-- .. with a state that goes from element to element -/
theorem lc_run {α S : Type} {vs : List Nat} {set : D → Env → Option Env} {t : TC} {fe : EC} (en : α → D) (E : S → Env) (I : S → Prop) (R : α → D → Prop) : ∀ (xs : List α) (acc : List D) (s : S), I s →
    (∀ x ∈ xs, ∀ s, I s → ∃ ρd ρ2 s', set (en x) (E s) = some ρd ∧ I s' ∧ ((t ρd = .ok false ρ2 ∧ allPlain ρ2 vs = true ∧ wipeE ρ2 vs = E s') ∨ ∃ ρ3 v, t ρd = .ok true ρ2 ∧ fe ρ2 = .ok (.val v) ρ3 ∧ R x v ∧ allPlain ρ3 vs = true ∧ wipeE ρ3 vs = E s')) → acc.length + xs.length ≤ 10000 →
    ∃ (ys : List α) (outs : List D) (s' : S), lcRun vs set t fe (xs.map en) (E s) acc = .ok (acc ++ outs) (E s') ∧ I s' ∧ List.Sublist ys xs ∧ All2 R ys outs
  | [], acc, s, hI, _, _ => ⟨[], [], s, by simp [lcRun], hI, .slnil, .nil⟩
  | x :: xs, acc, s, hI, h, hl => by
    have hl : acc.length + (xs.length + 1) ≤ 10000 := hl
    have hz : acc.length < sizeLine := lt_line (by omega)
    obtain ⟨ρd, ρ2, s1, e1, h1, h2⟩ := h x (by simp) s hI
    rw [List.map_cons]
    unfold lcRun
    rw [e1]
    rcases h2 with ⟨e2, e3, e4⟩ | ⟨ρ3, v, e2, e3, hr, e4, e5⟩
    · obtain ⟨ys, outs, s', e, hI', sub, ha⟩ := lc_run en E I R xs acc s1 h1 (fun y hy => h y (List.mem_cons_of_mem _ hy)) (by omega)
      refine ⟨ys, outs, s', ?_, hI', .cons _ sub, ha⟩
      simp only [e2]
      rw [if_pos e3, e4, e]
    · obtain ⟨ys, outs, s', e, hI', sub, ha⟩ := lc_run en E I R xs (acc ++ [v]) s1 h1 (fun y hy => h y (List.mem_cons_of_mem _ hy)) (by simp; omega)
      refine ⟨x :: ys, v :: outs, s', ?_, hI', .cons₂ _ sub, .cons hr ha⟩
      simp only [e2, e3]
      rw [if_pos ⟨hz, e4⟩, e5, e]
      simp
/-- .. where each item gives an element -/
theorem lc_runA {α S : Type} {vs : List Nat} {set : D → Env → Option Env} {fe : EC} (en : α → D) (E : S → Env) (I : S → Prop) (R : α → D → Prop) : ∀ (xs : List α) (acc : List D) (s : S), I s →
    (∀ x ∈ xs, ∀ s, I s → ∃ ρd ρ3 v s', set (en x) (E s) = some ρd ∧ fe ρd = .ok (.val v) ρ3 ∧ I s' ∧ R x v ∧ allPlain ρ3 vs = true ∧ wipeE ρ3 vs = E s') → acc.length + xs.length ≤ 10000 →
    ∃ (outs : List D) (s' : S), lcRun vs set tYesD fe (xs.map en) (E s) acc = .ok (acc ++ outs) (E s') ∧ I s' ∧ All2 R xs outs
  | [], acc, s, hI, _, _ => ⟨[], s, by simp [lcRun], hI, .nil⟩
  | x :: xs, acc, s, hI, h, hl => by
    have hl : acc.length + (xs.length + 1) ≤ 10000 := hl
    have hz : acc.length < sizeLine := lt_line (by omega)
    obtain ⟨ρd, ρ3, v, s1, e1, e2, h1, hr, e4, e5⟩ := h x (by simp) s hI
    obtain ⟨outs, s', e, hI', ha⟩ := lc_runA en E I R xs (acc ++ [v]) s1 h1 (fun y hy => h y (List.mem_cons_of_mem _ hy)) (by simp; omega)
    refine ⟨v :: outs, s', ?_, hI', .cons hr ha⟩
    rw [List.map_cons]
    unfold lcRun
    rw [e1]
    simp only [tYesD, e2]
    rw [if_pos ⟨hz, e4⟩, e5, e]
    simp
theorem nlc_run {α S : Type} {vs : List Nat} {fi : Env → Out (List D)} {set : D → Env → Option Env} {t : TC} {fe : EC} {ρ ρ1 : Env} (xs : List α) (en : α → D) (E : S → Env) (I : S → Prop) (R : α → D → Prop) (s : S) (B : S → Env)
    (hi : fi ρ = .ok (xs.map en) ρ1) (hp : allPlain ρ1 vs = true) (hw : wipeE ρ1 vs = E s) (hI : I s) (hb : ∀ s, I s → allPlain (E s) vs = true ∧ backE ρ1 (E s) vs = B s) (hl : xs.length ≤ 10000)
    (h : ∀ x ∈ xs, ∀ s, I s → ∃ ρd ρ2 s', set (en x) (E s) = some ρd ∧ I s' ∧ ((t ρd = .ok false ρ2 ∧ allPlain ρ2 vs = true ∧ wipeE ρ2 vs = E s') ∨ ∃ ρ3 v, t ρd = .ok true ρ2 ∧ fe ρ2 = .ok (.val v) ρ3 ∧ R x v ∧ allPlain ρ3 vs = true ∧ wipeE ρ3 vs = E s')) :
    ∃ (ys : List α) (outs : List D) (s' : S), nLc vs fi set t fe ρ = .ok outs (B s') ∧ I s' ∧ List.Sublist ys xs ∧ All2 R ys outs := by
  obtain ⟨ys, outs, s', e, hI', sub, ha⟩ := lc_run en E I R xs [] s hI h (by simpa using hl)
  refine ⟨ys, outs, s', ?_, hI', sub, ha⟩
  unfold nLc
  rw [hi]
  simp only [Out.bind]
  rw [if_pos hp, hw, e]
  obtain ⟨h1, h2⟩ := hb s' hI'
  simp [h1, h2]
theorem nlc_runA {α S : Type} {vs : List Nat} {fi : Env → Out (List D)} {set : D → Env → Option Env} {fe : EC} {ρ ρ1 : Env} (xs : List α) (en : α → D) (E : S → Env) (I : S → Prop) (R : α → D → Prop) (s : S) (B : S → Env)
    (hi : fi ρ = .ok (xs.map en) ρ1) (hp : allPlain ρ1 vs = true) (hw : wipeE ρ1 vs = E s) (hI : I s) (hb : ∀ s, I s → allPlain (E s) vs = true ∧ backE ρ1 (E s) vs = B s) (hl : xs.length ≤ 10000)
    (h : ∀ x ∈ xs, ∀ s, I s → ∃ ρd ρ3 v s', set (en x) (E s) = some ρd ∧ fe ρd = .ok (.val v) ρ3 ∧ I s' ∧ R x v ∧ allPlain ρ3 vs = true ∧ wipeE ρ3 vs = E s') :
    ∃ (outs : List D) (s' : S), nLc vs fi set tYesD fe ρ = .ok outs (B s') ∧ I s' ∧ All2 R xs outs := by
  obtain ⟨outs, s', e, hI', ha⟩ := lc_runA en E I R xs [] s hI h (by simpa using hl)
  refine ⟨outs, s', ?_, hI', ha⟩
  unfold nLc
  rw [hi]
  simp only [Out.bind]
  rw [if_pos hp, hw, e]
  obtain ⟨h1, h2⟩ := hb s' hI'
  simp [h1, h2]
/-- elements of one kind -/
theorem all2_dec {α β : Type} {R : α → D → Prop} (en : β → D) {P : α → β → Prop} (h : ∀ x v, R x v → ∃ b, v = en b ∧ P x b) : ∀ {xs : List α} {outs : List D}, All2 R xs outs → ∃ bs : List β, outs = bs.map en ∧ All2 P xs bs
  | _, _, .nil => ⟨[], rfl, .nil⟩
  | _, _, .cons r t => by
    obtain ⟨b, rfl, hb⟩ := h _ _ r
    obtain ⟨bs, rfl, hbs⟩ := all2_dec en h t
    exact ⟨b :: bs, rfl, .cons hb hbs⟩
theorem All2.len {α β : Type} {R : α → β → Prop} : ∀ {xs : List α} {ys : List β}, All2 R xs ys → ys.length = xs.length
  | _, _, .nil => rfl
  | _, _, .cons _ t => congrArg (· + 1) t.len
theorem All2.right {α β : Type} {R : α → β → Prop} {P : β → Prop} (h : ∀ a b, R a b → P b) : ∀ {xs : List α} {ys : List β}, All2 R xs ys → ∀ y ∈ ys, P y
  | _, _, .nil, _, hy => by cases hy
  | _, _, .cons r t, y, hy => by
    rcases List.mem_cons.mp hy with rfl | hy
    · exact h _ _ r
    · exact t.right h y hy
end DL

namespace DL
open PySem PySem.Spec L2 PyProof.Rows
/-! ### walked things as rows of one kind -/
section
variable {α β : Type}
theorem enumD_map (f : α → D) (l : List α) : enumD (l.map f) = l.zipIdx.map fun p => .tuple [.int (p.2 : Nat), f p.1] := by
  unfold enumD
  rw [List.zipIdx_map, List.map_map]
  rfl
theorem zipD_map (f : α → D) (g : β → D) : ∀ (l : List α) (m : List β), zipD (l.map f) (m.map g) = (l.zip m).map fun p => .tuple [f p.1, g p.2]
  | [], _ => by simp [zipD]
  | _ :: _, [] => by simp [zipD]
  | x :: l, y :: m => by simp [zipD, zipD_map f g l m]
theorem rng_map (n : Nat) : rng 0 n = (List.range n).map fun (i : Nat) => .int (i : Int) := by
  unfold rng
  simp
theorem rng_idx (l : List α) : rng 0 l.length = l.zipIdx.map fun p => .int ((p.2 : Nat) : Int) := by
  rw [rng_map]
  have : List.range l.length = l.zipIdx.map (·.2) := by
    rw [List.zipIdx_map_snd]
    simp [List.range_eq_range']
  rw [this, List.map_map]
  rfl
theorem idx_get {l : List α} {p : α × Nat} (h : p ∈ l.zipIdx) : l[p.2]? = some p.1 ∧ p.2 < l.length := by
  have := List.mem_zipIdx_iff_getElem?.mp h
  exact ⟨this, (List.getElem?_eq_some_iff.mp this).1⟩
theorem atI_some {l : List α} {k : Nat} {x : α} (h : l[k]? = some x) : atI l (k : Int) = some x := by
  obtain ⟨hk, e⟩ := List.getElem?_eq_some_iff.mp h
  rw [atI_nat l k hk, e]
theorem range_ok {ρ ρ1 : Env} {fa : Env → Out (List VV)} {n : Nat} (h : fa ρ = .ok [.val (.int (n : Nat))] ρ1) (hn : n ≤ 100000) : eRng1 fa ρ = .ok (rng 0 n) ρ1 := by
  have := eRng1_ok (n := (n : Nat)) h (by omega)
  rwa [Int.toNat_natCast] at this
theorem rng_from (a b : Nat) : rng (a : Int) (((b : Nat) : Int) - a).toNat = ((List.range (b - a)).map (a + ·)).map fun (i : Nat) => .int (i : Int) := by
  unfold rng
  rw [List.map_map, show (((b : Nat) : Int) - a).toNat = b - a by omega]
  exact List.map_congr_left fun i _ => by simp
theorem dRepr_bool (b : Bool) : dRepr [.bool b] = some (.str (tx (if b then [84, 114, 117, 101] else [70, 97, 108, 115, 101]))) := by
  cases b <;> kernel_rfl
theorem dAll_bools (l : List α) (p : α → Bool) : dAll [.list (l.map fun x => PyData.bool (p x))] = some (.bool (l.all p)) := dAll_map l p
end
/-! ### a text split at one sign -/
open TL
def headC (acc : Tx) : List Tx → List Tx
  | p :: ps => (acc ++ p) :: ps
  | [] => []
def splitC (c : Ch) : Tx → List Tx
  | [] => [[]]
  | x :: l => if x = c then [] :: splitC c l else headC [x] (splitC c l)
theorem splitC_ne (c : Ch) : ∀ l, splitC c l ≠ []
  | [] => by simp [splitC]
  | x :: l => by
    unfold splitC
    split
    · simp
    · cases h : splitC c l with
      | nil => exact absurd h (splitC_ne c l)
      | cons p ps => simp [headC]
theorem headC_nil : ∀ ps, headC [] ps = ps
  | [] => rfl
  | _ :: _ => rfl
theorem headC_app (a b : Tx) : ∀ ps, headC a (headC b ps) = headC (a ++ b) ps
  | [] => rfl
  | p :: ps => by simp [headC]
theorem spl_C (c : Ch) : ∀ (l acc : Tx), spl [c.val] 0 (acc.map (·.val)) (l.map (·.val)) = (headC acc (splitC c l)).map (List.map (·.val))
  | [], acc => by
    show spl [c.val] 0 (acc.map (·.val)) [] = _
    rw [spl_nil]
    simp [splitC, headC]
  | x :: l, acc => by
    rw [List.map_cons]
    unfold splitC
    by_cases h : x = c
    · subst h
      have hp : pre [x.val] (x.val :: l.map (·.val)) = true := by simp [pre]
      have ih := spl_C x l []
      rw [spl_hit hp, if_pos rfl]
      show acc.map (·.val) :: spl [x.val] 0 [] (l.map (·.val)) = _
      rw [List.map_nil] at ih
      rw [ih, headC_nil]
      simp [headC]
    · have hp : pre [c.val] (x.val :: l.map (·.val)) = false := by
        have : ¬ x.val = c.val := fun e => h (Fin.ext e)
        simp [pre, this]
      have ih := spl_C c l (acc ++ [x])
      rw [List.map_append] at ih
      rw [spl_miss hp, if_neg h, headC_app]
      exact ih
theorem split_tx (l : Tx) (c : Ch) : Txt.split (tx l) (tx [c]) = (splitC c l).map tx := by
  have e : tl (tx [c]) = [c.val] := tx_cps [c]
  refine map_tl_inj ?_
  rw [split_spl _ _ (by rw [e]; simp) (kind_ok ?_), e]
  · have := spl_C c l []
    rw [headC_nil] at this
    have el : tl (tx l) = l.map (·.val) := tx_cps l
    rw [el]
    refine this.trans ?_
    rw [List.map_map]
    exact List.map_congr_left fun p _ => (tx_cps p).symm
  · rw [← Array.all_toList, tx_cps, List.map_cons, List.map_nil, List.all_cons, List.all_nil, Bool.and_true, decide_eq_true_iff]
    have := c.isLt
    omega
theorem le_trans_line {n : Nat} (h : n ≤ 100000) : n ≤ sizeLine := Nat.le_trans h (by decide)
theorem dSplit_tx (l : Tx) (c : Ch) (h : l.length ≤ 10000) : dSplit (.str (tx l)) [.str (tx [c])] = some (.list ((splitC c l).map fun p => .str (tx p))) := by
  have h1 : ((tx [c]).length == 0) = false := by simp
  have h2 : (tx l).length + 2 ≤ sizeLine := by
    rw [tx_length]
    exact le_trans_line (by omega)
  show (if ((tx [c]).length == 0) = false ∧ (tx l).length + 2 ≤ sizeLine then some (PyData.list ((Txt.split (tx l) (tx [c])).map PyData.str)) else none) = _
  rw [if_pos ⟨h1, h2⟩, split_tx, List.map_map]
  rfl
theorem splitC_flat (c : Ch) : ∀ l, (splitC c l).flatten.length ≤ l.length ∧ (splitC c l).length ≤ l.length + 1
  | [] => by simp [splitC]
  | x :: l => by
    have ih := splitC_flat c l
    unfold splitC
    split
    · simp only [List.flatten_cons, List.nil_append, List.length_cons]
      omega
    · cases h : splitC c l with
      | nil => exact absurd h (splitC_ne c l)
      | cons p ps =>
        rw [h] at ih
        simp only [headC, List.flatten_cons, List.length_append, List.length_cons, List.length_nil] at ih ⊢
        omega
theorem all2_map {α β : Type} {f : α → β} : ∀ {xs : List α} {ys : List β}, All2 (fun x y => y = f x) xs ys → ys = xs.map f
  | _, _, .nil => rfl
  | _, _, .cons r t => by rw [r, all2_map t]; rfl
theorem sub_filter {α : Type} [DecidableEq α] : ∀ {ys xs : List α}, List.Sublist ys xs → xs.Nodup → ys = xs.filter fun x => decide (x ∈ ys)
  | _, _, .slnil, _ => rfl
  | ys, a :: xs, .cons _ t, h => by
    have h1 := (List.nodup_cons.mp h).1
    have h2 : a ∉ ys := fun z => h1 (t.subset z)
    rw [List.filter_cons_of_neg (by simpa using h2)]
    exact sub_filter t (List.nodup_cons.mp h).2
  | a :: ys, _ :: xs, .cons₂ _ t, h => by
    obtain ⟨h1, h2⟩ := List.nodup_cons.mp h
    rw [List.filter_cons_of_pos (by simp)]
    congr 1
    refine (sub_filter t h2).trans (List.filter_congr fun x hx => ?_)
    have : x ≠ a := fun z => h1 (z ▸ hx)
    simp [this]
end DL

namespace DL
open PySem PySem.Spec L2 PyProof.Rows

/-! ### objects of one's own classes -/
structure ClsF (K : Fg) (c : Str) (C : Addr) : Prop where
  g : IsCls K c C
  cl : Cls K C
theorem IsCls.uniq {K : Fg} {c : Str} {C C' : Addr} (h : IsCls K c C) (h' : IsCls K c C') : C = C' := by
  unfold IsCls at h h'
  rw [h] at h'
  injection h' with h'
  injection h' with h'
  injection h'
section
variable {κ : Type} [BEq κ] {K : Fg} {J : Hp}
theorem KvAll.look {k : κ} : ∀ {vs : List (κ × V)} {ds : List (κ × D)}, KvAll K J vs ds → (vs.lookup k = none ∧ ds.lookup k = none) ∨ ∃ v d, vs.lookup k = some v ∧ ds.lookup k = some d ∧ Rp K J v d
  | _, _, .nil => .inl ⟨rfl, rfl⟩
  | (k', v) :: _, (_, d) :: _, .cons r t => by
    rw [List.lookup_cons, List.lookup_cons]
    cases h : k == k' with
    | true => exact .inr ⟨v, d, rfl, rfl, r⟩
    | false => exact t.look
theorem KvAll.len {vs : List (κ × V)} {ds : List (κ × D)} (h : KvAll K J vs ds) : vs.length = ds.length := by
  induction h with
  | nil => rfl
  | cons _ _ ih => exact congrArg (· + 1) ih
end
def putD (f : Str) (v : D) : List (Str × D) → List (Str × D)
  | [] => [(f, v)]
  | (g, x) :: r => if g = f then (g, v) :: r else (g, x) :: putD f v r
theorem KvAll.putF {K : Fg} {J : Hp} {f : Str} {v : V} {d : D} (r : Rp K J v d) : ∀ {vs : List (Str × V)} {ds : List (Str × D)}, KvAll K J vs ds → KvAll K J (putF f v vs) (putD f d ds)
  | _, _, .nil => .cons r .nil
  | (k, _) :: _, _, .cons q t => by
    unfold L2.putF putD
    by_cases h : k = f
    · rw [if_pos h, if_pos h]
      exact .cons r t
    · rw [if_neg h, if_neg h]
      exact .cons q (t.putF r)
section
variable {K : Fg} {G : Gd} {J H J' H' : Hp} {σ : L2.St} {ρ : Env}
theorem obj_at {i : Nat} {fx : Bool} {c : Str} {C : Addr} {fs : List (Str × D)} (e : ER K G J H σ ρ) (T : IsCls K c C) (hi : ρ[i]? = some (.own fx (.obj c fs))) :
    ∃ a dx vs, σ[i]? = some (some (.ref a)) ∧ H a = some (.ins C dx vs) ∧ KvAll K J vs fs ∧ J a = none := by
  obtain ⟨a, r, h1, ⟨a', C', dx, vs, ef, hc, h2, h3⟩, h4⟩ := own_foot e hi
  injection ef with ea er
  subst ea
  cases T.uniq hc
  exact ⟨a, dx, vs, h1, h2, h3, h4 a (by simp)⟩
/-- the one object of a slot becomes another -/
theorem ER.mutA {i : Nat} {fx : Bool} {o o' : Own} {a : Addr} {u : HO} (e : ER K G J H σ ρ) (hi : ρ[i]? = some (.own fx o)) (hs : σ[i]? = some (some (.ref a))) (ho : OwnAt K J H o [a]) (hJ : J a = none) (ho' : OwnAt K J (upd H a u) o' [a]) :
    ER K G J (upd H a u) σ (ρ.set i (.own fx o')) := by
  refine e.callO hi hs ho ⟨.refl J, fun b v hv => ?_, fun b v hb hv => ?_⟩ ho' fun b hb => ?_
  · have ne : b ≠ a := ne_of_none hv hJ
    rw [upd_ne ne]
    exact e.ex _ _ hv
  · have ne : b ≠ a := fun z => hb (by simp [z])
    rw [upd_ne ne]
    exact ⟨hv, rfl⟩
  · have : b = a := by simpa using hb
    subst this
    exact ⟨hJ, .inl (by simp)⟩
end
/-- x.f -/
@[simp] def eFld (i : Nat) (f : Str) (ρ : Env) : Out VV := match ρ[i]? with
  | some (.own _ (.obj _ fs)) => match fs.lookup f with
    | some d => .ok (.val d) ρ
    | none => .bad
  | _ => .bad
/-- what x in slot i is -/
@[simp] def isObj (c : Str) (ρ : Env) (i : Nat) : Bool := match ρ[i]? with
  | some (.own _ (.obj c' _)) => decide (c' = c)
  | _ => false
@[simp] def eFldC (c : Str) (i : Nat) (f : Str) (ρ : Env) : Out VV := match ρ[i]? with
  | some (.own _ (.obj c' fs)) => if c' = c then (match fs.lookup f with
    | some d => .ok (.val d) ρ
    | none => .bad) else .bad
  | _ => .bad
/-- x.f = e -/
@[simp] def sFldC (c : Str) (i : Nat) (f : Str) (fe : EC) (ρ : Env) : SO := (fe ρ).then fun y ρ1 => match keepV ρ1 y with
  | some (d, ρ2) => match ρ2[i]? with
    | some (.own fx (.obj c' fs)) => if c' = c ∧ fs.length < 1000 then .nx (ρ2.set i (.own fx (.obj c' (putD f d fs)))) else .bad
    | _ => .bad
  | none => .bad
/-- x.f op= e -/
@[simp] def sFldAugC (c : Str) (i : Nat) (f : Str) (g : D → D → Option D) (fe : EC) (ρ : Env) : SO := match ρ[i]? with
  | some (.own _ (.obj c' fs)) => if c' = c then (match fs.lookup f with
    | some dx => (fe ρ).then fun y ρ1 => match deref ρ1 y with
      | some dy => match g dx dy with
        | some d => match ρ1[i]? with
          | some (.own fx (.obj c2 fs2)) => if c2 = c ∧ fs2.length < 1000 then .nx (ρ1.set i (.own fx (.obj c2 (putD f d fs2)))) else .bad
          | _ => .bad
        | none => .bad
      | none => .bad
    | none => .bad) else .bad
  | _ => .bad
section
variable {X : Cx} {Y : Yx} {a b c e : Expr} {pos : Pos}
theorem de_fld (i : Nat) {cn x f : Str} {C : Addr} {p : Pos} (T : ClsF X.K cn C) (N : NoAttr X.K C f) (hN : X.N[i]? = some x := by rfl) (hv : Vis X.env.scope x := by first | exact Or.inl rfl | exact Or.inr (Or.inl rfl) | exact Or.inr (Or.inr rfl))
    (hb : attributeBase (.Name x p) f X.env (eval (.Name x p) X.env) = eval (.Name x p) X.env := by rfl) (hd : (x == ("__debug__" : Str)) = false := by decide) (hcd : (x == ("__classdict__" : Str)) = false := by decide) :
    DE X Y (.Attribute (.Name x p) f pos) (eFldC cn i f) := PE.imp (pe_fld (pe_var (i := i) hN hv hd hcd) hb) fun σ H Q ⟨G, J, ρ, er, h⟩ => by
  unfold eFldC at h
  split at h
  · rename_i fx c' fs hi
    split at h
    · rename_i hc
      subst hc
      obtain ⟨a, dx, vs, h1, h2, h3, h4⟩ := obj_at er T.g hi
      rcases h3.look (k := f) with ⟨_, l2⟩ | ⟨v, d, l1, l2, r⟩
      · rw [l2] at h
        exact h.elim
      · rw [l2] at h
        exact ⟨_, h1, a, C, dx, vs, v, rfl, h2, T.cl, N, l1, Post.now h r er⟩
    · exact h.elim
  · exact h.elim
theorem ds_fld (i : Nat) {cn x f : Str} {C : Addr} {p p2 : Pos} {fe : EC} (T : ClsF X.K cn C) (N : NoAttr X.K C f) (he : DE X Y e fe) (hN : X.N[i]? = some x := by rfl) (hv : Vis X.env.scope x := by first | exact Or.inl rfl | exact Or.inr (Or.inl rfl) | exact Or.inr (Or.inr rfl))
    (hs : swapsWith e (some (.Attribute (.Name x p) f p2)) pos.line X.env = pure false := by rfl) (hd : (x == ("__debug__" : Str)) = false := by decide) (hcd : (x == ("__classdict__" : Str)) = false := by decide) :
    DS X Y (.Assign [.Attribute (.Name x p) f p2] e pos) (sFldC cn i f fe) := PS.imp (ps_fld (pe_var (i := i) hN hv hd hcd) he hs) fun D σ H ⟨G, J, ρ, er, h⟩ => ⟨G, J, ρ, er, Post.then h fun y ρ1 v J1 H1 s1 r1 e1 hp => by
  split at hp
  · rename_i d ρ2 hk
    obtain ⟨J2, s2, r2, e2⟩ := keep_ok e1 r1 hk
    split at hp
    · rename_i fx c' fs hi
      split at hp
      · rename_i hc
        obtain ⟨hc, hl⟩ := hc
        subst hc
        obtain ⟨a, dx, vs, h1, h2, h3, h4⟩ := obj_at e2 T.g hi
        exact ⟨_, h1, a, C, dx, vs, rfl, h2, T.cl, N, by rw [h3.len]; exact hl, hp _ J2 _ s2 (e2.mutA hi h1 ⟨a, C, dx, vs, rfl, T.g, h2, h3⟩ h4 ⟨a, C, dx, _, rfl, T.g, upd_same, h3.putF r2⟩)⟩
      · exact hp.elim
    · exact hp.elim
  · exact hp.elim⟩
theorem ds_fldAug (i : Nat) {cn x f : Str} {C : Addr} {op : Operator} {p p2 : Pos} {g : D → D → Option D} {fe : EC} (T : ClsF X.K cn C) (N : NoAttr X.K C f) (he : DE X Y e fe) (ho : OpD X (inplaceOp op) g) (hN : X.N[i]? = some x := by rfl)
    (hv : Vis X.env.scope x := by first | exact Or.inl rfl | exact Or.inr (Or.inl rfl) | exact Or.inr (Or.inr rfl)) (hd : (x == ("__debug__" : Str)) = false := by decide) (hcd : (x == ("__classdict__" : Str)) = false := by decide) :
    DS X Y (.AugAssign (.Attribute (.Name x p) f p2) op e pos) (sFldAugC cn i f g fe) := by
  have hop : InOp X op (rD X.K g) := fun pins s σ H x y u v Q I rx ry h => ho pins s σ H x y u v Q I rx ry h
  refine PS.imp (ps_fldaug (pe_var (i := i) hN hv hd hcd) he hop) fun D σ H ⟨G, J, ρ, er, h⟩ => ?_
  unfold sFldAugC at h
  split at h
  · rename_i fx c' fs hi
    split at h
    · rename_i hc
      subst hc
      obtain ⟨a, dx, vs, h1, h2, h3, h4⟩ := obj_at er T.g hi
      rcases h3.look (k := f) with ⟨_, l2⟩ | ⟨v, d, l1, l2, r⟩
      · rw [l2] at h
        exact h.elim
      · rw [l2] at h
        refine ⟨_, h1, a, C, dx, vs, v, rfl, h2, T.cl, N, l1, G, J, ρ, er, Post.then h fun y ρ1 w J1 H1 s1 r1 e1 hp => ?_⟩
        split at hp
        · rename_i dy hy
          split at hp
          · rename_i d3 hg
            split at hp
            · rename_i fx2 c2 fs2 hi2
              split at hp
              · rename_i hc2
                obtain ⟨hc2, hl⟩ := hc2
                subst hc2
                refine ⟨J1, d, dy, d3, e1.ex, .inl (dp_mono s1 _ _ r), deref_ok e1 r1 hy, hg, fun z J' H' gr rz => ?_⟩
                have e3 := e1.grow gr
                obtain ⟨a2, dx2, vs2, k1, k2, k3, k4⟩ := obj_at e3 T.g hi2
                rw [h1] at k1
                cases k1
                exact ⟨dx2, vs2, k2, by rw [k3.len]; exact hl, hp _ J' _ gr.j (e3.mutA hi2 h1 ⟨a, C, dx2, vs2, rfl, T.g, k2, k3⟩ k4 ⟨a, C, dx2, _, rfl, T.g, upd_same, k3.putF rz⟩)⟩
              · exact hp.elim
            · exact hp.elim
          · exact hp.elim
        · exact hp.elim
    · exact h.elim
  · exact h.elim
end
/-! ### methods -/
def tMethO (C : Addr) (m : Str) (sp : Sp) (E : L2.St → XK) (ta : TE) (t : TA) : TE := fun σ H Q => ta σ H fun x H1 => ∃ a dx fs, x = .ref a ∧ H1 a = some (.ins C dx fs) ∧ fs.lookup m = none ∧ t σ H1 fun vs H2 => sp (x :: vs) H2 Q (E σ)
@[simp] def eMethO (c m : Str) (i n : Nat) (f : Own → List D → OO) (fa : Env → Out (List VV)) (ρ : Env) : Out VV := match ρ[i]? with
  | some (.own _ (.obj c' fs)) => if c' = c ∧ fs.lookup m = none then eCallO i n f fa ρ else .bad
  | _ => .bad
section
variable {X : Cx} {Y : Yx} {a b c e : Expr} {pos : Pos}
abbrev MethT (X : Cx) (o : Expr) (m : Str) (apos pos : Pos) (es : List Expr) (pl : Sem Bool) : Prop := eval (.Call (.Attribute o m apos) es [] pos) X.env =
  (eval o X.env >>= fun ov => standAt apos.atName >>= fun _ => holding [ov] (getMethod ov m pl) >>= fun r => callWith pos r.1 r.2 (backTo pos (starEach es X.env)) (backToKw pos (keywordEach [] X.env)))
theorem pe_methO {CX : CXT} {k : Nat} {C f : Addr} {fd : FuncData} {ps : List Str} {sp : Sp} {E : L2.St → XK} {o : Expr} {es : List Expr} {m : Str} {apos : Pos} {ta : TE} {t : TA} {pl : Sem Bool} (ho : PE X o ta) (cl : Cls X.K C) (hm : Meth X.K C m f)
    (F : FnOk X.prog X.w X.K X.mg X.base CX k f fd ps sp) (hr : Room k X.A) (hb : Binds X.K fd ps []) (hx : ∀ σ, PassesAt CX X σ (E σ)) (ha : PA X (e :: es) t) (hst : starEach (e :: es) X.env = (false, eval e X.env) :: starEach es X.env)
    (hpl : (backTo pos (starEach es X.env)).any (·.1) = false) (ht : MethT X o m apos pos (e :: es) pl) : PE X (.Call (.Attribute o m apos) (e :: es) [] pos) (tMethO C m sp E ta t) := ⟨fun pins s σ H Q I h => by
  refine PySem.W.methodCall_KW (pl := pl) (thn (ho.run pins s σ H _ I h) fun u s1 ⟨x, H1, I1, rx, a, dx, fs, ex, ea, l, q⟩ => ?_) ht
  subst ex
  cases rx
  refine getmeth_ok I1 ea cl hm l (PySem.W.callWith_K (first := [.ref a]) (h₀ := X.base) I1.ok.mod.kin hm.kp ?_ hst hpl)
  exact thn (ha.run pos pins s1 σ H1 _ I1 q) fun us s2 ⟨vs, H2, I2, r, q2⟩ => ⟨I2.kIn, run_fnS (us := .ref a :: us) (vs := .ref a :: vs) F hr hb (hx σ) I2 (.cons rfl r) q2⟩⟩
theorem pe_methO0 {CX : CXT} {k : Nat} {C f : Addr} {fd : FuncData} {ps : List Str} {sp : Sp} {E : L2.St → XK} {o : Expr} {m : Str} {apos : Pos} {ta : TE} {pl : Sem Bool} (ho : PE X o ta) (cl : Cls X.K C) (hm : Meth X.K C m f)
    (F : FnOk X.prog X.w X.K X.mg X.base CX k f fd ps sp) (hr : Room k X.A) (hb : Binds X.K fd ps []) (hx : ∀ σ, PassesAt CX X σ (E σ)) (ht : MethT X o m apos pos [] pl) : PE X (.Call (.Attribute o m apos) [] [] pos) (tMethO C m sp E ta tNil) := ⟨fun pins s σ H Q I h => by
  refine PySem.W.methodCall_KW (pl := pl) (thn (ho.run pins s σ H _ I h) fun u s1 ⟨x, H1, I1, rx, a, dx, fs, ex, ea, l, q⟩ => ?_) ht
  subst ex
  cases rx
  exact getmeth_ok I1 ea cl hm l (PySem.W.callWith_K0 (first := [.ref a]) I1.kIn hm.kp (run_fnS (us := [.ref a]) (vs := [.ref a]) F hr hb (hx σ) I1 (.cons rfl .nil) q))⟩
theorem methO_imp {i n : Nat} {C : Addr} {cn m : Str} {x : Str} {mm : Own → List D → OO} {fa : Env → Out (List VV)} {t : TA} {p : Pos} {ta : TE} (T : ClsF X.K cn C) (hta : ∀ σ H v Q, σ[i]? = some (some v) → Q v H → ta σ H Q) (hfa : ∀ σ H Q, tA X.K Y fa σ H Q → t σ H Q) :
    ∀ σ H Q, tE X.K Y (eMethO cn m i n mm fa) σ H Q → tMethO C m (spO X.K Y.ct n mm) (WE Y.W) ta t σ H Q := fun σ H Q ⟨G, J, ρ, er, h⟩ => by
  unfold eMethO at h
  split at h
  · rename_i fx0 c' fs0 hi0
    split at h
    · rename_i hc
      obtain ⟨hc, hl0⟩ := hc
      subst hc
      obtain ⟨a0, dx, vs0, h1, h2, h3, h4⟩ := obj_at er T.g hi0
      unfold eCallO at h
      rw [hi0] at h
      dsimp only at h
      have hn : vs0.lookup m = none := by
        rcases h3.look (k := m) with ⟨l1, _⟩ | ⟨_, _, _, l2, _⟩
        · exact l1
        · rw [hl0] at l2
          cases l2
      refine hta _ _ _ _ h1 ⟨a0, dx, vs0, rfl, h2, hn, hfa _ _ _ ⟨G, J, ρ, er, Post.bind h fun xs ρ1 vs J1 H1 s1 r1 e1 hp => ?_⟩⟩
      split at hp
      · rename_i ds fx o hds hi
        split at hp
        · rename_i hl
          obtain ⟨a, r, k1, k2, k3⟩ := own_foot e1 hi
          rw [h1] at k1
          cases k1
          refine ⟨J1, a0, r, vs, o, ds, rfl, e1.ex, k2, k3, vals_ok r1 hds, hl, ?_⟩
          cases hm : mm o ds with
          | ret d o' =>
            rw [hm] at hp
            exact fun v J' H' r' g ho' hf rv => hp v J' H' g.j rv (e1.callO hi h1 k2 g ho' hf)
          | exc ev o' =>
            rw [hm] at hp
            exact fun c dx J' H' r' g ho' hf hx => hp c dx J' H' g.j (hx.ct rfl) (e1.callO hi h1 k2 g ho' hf)
          | bad =>
            rw [hm] at hp
            exact hp.elim
        · exact hp.elim
      · exact hp.elim
    · exact h.elim
  · exact h.elim
theorem de_methO (i : Nat) {mm : Own → List D → OO} {n k : Nat} {C f : Addr} {fd : FuncData} {ps : List Str} {cn x m : Str} {es : List Expr} {fa : Env → Out (List VV)} {p apos : Pos} {pl : Sem Bool} (T : ClsF X.K cn C) (hm : Meth X.K C m f)
    (F : FnOk X.prog X.w X.K X.mg X.base (L2.CX X.prog X.w) k f fd ps (spO X.K Y.ct n mm)) (hr : Room k X.A) (hb : Binds X.K fd ps []) (tk : Takes' X Y) (ha : DA X Y (e :: es) fa) (hN : X.N[i]? = some x := by rfl)
    (hv : Vis X.env.scope x := by first | exact Or.inl rfl | exact Or.inr (Or.inl rfl) | exact Or.inr (Or.inr rfl)) (hd : (x == ("__debug__" : Str)) = false := by decide) (hcd : (x == ("__classdict__" : Str)) = false := by decide)
    (hst : starEach (e :: es) X.env = (false, eval e X.env) :: starEach es X.env := by rfl) (hpl : (backTo pos (starEach es X.env)).any (·.1) = false := by rfl) (ht : MethT X (.Name x p) m apos pos (e :: es) pl := by rfl) :
    DE X Y (.Call (.Attribute (.Name x p) m apos) (e :: es) [] pos) (eMethO cn m i n mm fa) :=
  PE.imp (pe_methO (pe_var (i := i) hN hv hd hcd) T.cl hm F hr hb tk ha hst hpl ht) (methO_imp (x := x) (p := p) T (fun _ _ v _ h q => ⟨v, h, q⟩) fun _ _ _ h => h)
theorem de_methO0 (i : Nat) {mm : Own → List D → OO} {k : Nat} {C f : Addr} {fd : FuncData} {ps : List Str} {cn x m : Str} {p apos : Pos} {pl : Sem Bool} (T : ClsF X.K cn C) (hm : Meth X.K C m f)
    (F : FnOk X.prog X.w X.K X.mg X.base (L2.CX X.prog X.w) k f fd ps (spO X.K Y.ct 0 mm)) (hr : Room k X.A) (hb : Binds X.K fd ps []) (tk : Takes' X Y) (hN : X.N[i]? = some x := by rfl)
    (hv : Vis X.env.scope x := by first | exact Or.inl rfl | exact Or.inr (Or.inl rfl) | exact Or.inr (Or.inr rfl)) (hd : (x == ("__debug__" : Str)) = false := by decide) (hcd : (x == ("__classdict__" : Str)) = false := by decide)
    (ht : MethT X (.Name x p) m apos pos [] pl := by rfl) : DE X Y (.Call (.Attribute (.Name x p) m apos) [] [] pos) (eMethO cn m i 0 mm aNil) :=
  PE.imp (pe_methO0 (pe_var (i := i) hN hv hd hcd) T.cl hm F hr hb tk ht) (methO_imp (x := x) (p := p) T (fun _ _ v _ h q => ⟨v, h, q⟩) fun σ H Q ⟨G, J, ρ, er, h⟩ => Post.now h (v := []) trivial er)
/-! ### name = C(..) -/
@[simp] def sMake (c : Str) (i n : Nat) (mm : Own → List D → OO) (fa : Env → Out (List VV)) (ρ : Env) : SO := (fa ρ).then fun xs ρ1 => match vals xs with
  | some ds => if ds.length = n then (match mm (.obj c []) ds with
    | .ret .none o => if loose ρ1 i = true then .nx (ρ1.set i (.own false o)) else .bad
    | _ => .bad) else .bad
  | none => .bad
theorem ds_make (i : Nat) {mm : Own → List D → OO} {n k : Nat} {C f : Addr} {fd : FuncData} {ps : List Str} {cn y : Str} {es : List Expr} {fa : Env → Out (List VV)} {p py spos : Pos} (T : ClsF X.K cn C) (M : Mk X.K C f)
    (F : FnOk X.prog X.w X.K X.mg X.base (L2.CX X.prog X.w) k f fd ps (spO X.K Y.ct n mm)) (hr : Room (k + 1) X.A) (hm : X.mg cn = some (.ref C)) (hb : Binds X.K fd ps []) (tk : Passes (L2.CX X.prog X.w) X (fun _ _ _ => False)) (ha : DA X Y (e :: es) fa) (hN : X.N.Nodup)
    (hg : Gl X cn := by rfl) (hdb : (cn == ("__debug__" : Str)) = false := by decide) (he : starEach (e :: es) X.env = (false, eval e X.env) :: starEach es X.env := by rfl) (hpl : (backTo pos (starEach es X.env)).any (·.1) = false := by rfl)
    (hi : X.N[i]? = some y := by rfl) (hx : Loc X.env.scope y := by first | exact Or.inl rfl | exact Or.inr rfl)
    (hf : X.fn y = true ∨ X.env.scope.names.lookup y = some .local := by first | exact .inl rfl | exact .inr rfl | assumption) (hs : swapsWithSole [.Name y py] (.Call (.Name cn p) (e :: es) [] pos) spos.line X.env = pure false := by rfl)
    (hw : swappedStores [.Name y py] (.Call (.Name cn p) (e :: es) [] pos) X.env = pure none := by rfl)
    (h1 : (assignEach [.Name y py] X.env).map (·.2) = [assign (.Name y py) X.env] := by rfl) : DS X Y (.Assign [.Name y py] (.Call (.Name cn p) (e :: es) [] pos) spos) (sMake cn i n mm fa) := by
  refine PS.imp (ps_asg (pe_make M F hr hg hm hb .nil tk ha hdb he hpl) (pg_name hN hi hx hf) hs hw h1) fun D σ H ⟨G, J, ρ, er, h⟩ => ⟨G, J, ρ, er, Post.then h fun xs ρ1 vs J1 H1 s1 r1 e1 h1 => ?_⟩
  split at h1
  · rename_i ds hds
    split at h1
    · rename_i hl
      intro x dx nx ndx nex
      have hu : Same H1 (upd (upd H1 dx (.own x)) x (.ins C dx [])) := (same_new ndx).trans (same_new (by rw [upd_ne nex.symm]; exact nx))
      have Jx : J1 x = none := same_free e1.ex nx
      rw [List.append_nil]
      refine ⟨J1, x, [], vs, .obj cn [], ds, rfl, e1.ex.trans hu, ⟨x, C, dx, [], rfl, T.g, upd_same, .nil⟩, fun b hb => ?_, vals_ok r1 hds, hl, ?_⟩
      · have : b = x := by simpa using hb
        rw [this]
        exact Jx
      · cases hm : mm (.obj cn []) ds with
        | ret d o =>
          rw [hm] at h1
          intro v J' H' r' g ho' hf' rv
          cases d <;> first | exact h1.elim | skip
          cases rv
          dsimp only at h1
          split at h1
          · rename_i hlo
            refine ⟨rfl, h1 _ J' H' g.j (e1.setF ⟨g.j, g.jh, fun b u hb => ?_⟩ ho' (fun b hb => ⟨(hf' b hb).1, ?_⟩) hlo)⟩
            · have ne : b ∉ [x] := fun z => by
                have : b = x := by simpa using z
                rw [this, nx] at hb
                cases hb
              obtain ⟨k1, k2⟩ := g.old b u ne (hu b u hb)
              exact ⟨k1, k2⟩
            · rcases (hf' b hb).2 with z | z
              · have : b = x := by simpa using z
                rw [this]
                exact nx
              · cases hb2 : H1 b with
                | none => rfl
                | some u =>
                  rw [hu b u hb2] at z
                  cases z
          · exact h1.elim
        | exc ev o =>
          rw [hm] at h1
          exact h1.elim
        | bad =>
          rw [hm] at h1
          exact h1.elim
    · exact h1.elim
  · exact h1.elim
end
end DL

namespace DL
open PySem PySem.Spec L2 PyProof.Rows
/-! ### a tuple, some times -/
def dMulA : D → D → Option D
  | .tuple xs, .int k => if xs.isEmpty = false ∧ 2 ≤ k ∧ Nat.ble k.natAbs 1000 = true ∧ Nat.ble xs.length 1000 = true then some (.tuple (List.replicate k.toNat xs).flatten) else none
  | x, y => dMul x y
@[simp] theorem dMulA_int (a b : Int) : dMulA (.int a) (.int b) = if mulOk a b = true then some (.int (a * b)) else none := rfl
@[simp] theorem dMulA_str (a : Str) (b : Int) : dMulA (.str a) (.int b) = dMul (.str a) (.int b) := rfl
section
variable {X : Cx}
theorem rp_tupS {K : Fg} {J H : Hp} {v : V} {xs : List D} (s : Same J H) (h : Wk K J H v (.tuple xs)) : ∃ a vs, v = .ref a ∧ SqT K H a vs ∧ RpAll K J vs xs := by
  obtain ⟨a, vs, h1, h2, h3, _⟩ := h.tup s
  exact ⟨a, vs, h1, h2, h3⟩
theorem od_mulA : OpD X (binaryOp .Mult) dMulA := by
  intro pins s σ H x y v u Q I rx ry h
  obtain ⟨J, dx, dy, d, sj, wx, wy, e, q⟩ := h
  by_cases ht : ∃ xs k, dx = .tuple xs ∧ dy = .int k
  · obtain ⟨xs, k, rfl, rfl⟩ := ht
    unfold dMulA at e
    dsimp only at e
    split at e
    · rename_i hc
      obtain ⟨h0, h1, h2, h3⟩ := hc
      cases e
      obtain ⟨a, vs, rfl, hs, hr⟩ := rp_tupS sj wx
      cases wy.int
      have h2 := Nat.le_of_ble_eq_true h2
      have h3 := Nat.le_of_ble_eq_true h3
      have hl := dps_len hr
      refine op_repT pins s σ H _ _ v u Q I rx ry ⟨a, k, vs, rfl, rfl, hs, fun z => ?_, h1, by omega, by omega, fun p hp => ?_⟩
      · subst z
        cases hr
        cases h0
      · refine q _ _ _ (Grow.new sj hp) (.tup (.of upd_same) ?_)
        exact dps_mono (same_new (same_free sj hp)) _ _ (dps_rep hr k.toNat)
    · cases e
  · refine od_mul pins s σ H x y v u Q I rx ry ⟨J, dx, dy, d, sj, wx, wy, ?_, q⟩
    rw [← e]
    cases dx <;> first | rfl | skip
    cases dy <;> first | rfl | skip
    exact (ht ⟨_, _, rfl, rfl⟩).elim
end
/-! ### g(f(..)), f giving a new object that g alone sees -/
@[simp] def eCallOT (n1 : Nat) (m1 : List D → FO) (m : Own → List D → OO) (fa : Env → Out (List VV)) (ρ : Env) : Out VV := (fa ρ).bind fun xs ρ1 => match vals xs with
  | some ds => if ds.length = n1 then (match m1 ds with
    | .own o => match m o [] with
      | .ret d _ => .ok (.val d) ρ1
      | .exc e _ => .exc e ρ1
      | .bad => .bad
    | .exc e => .exc e ρ1
    | _ => .bad) else .bad
  | none => .bad
theorem grow_fresh {J H J' H' J2 H2 : Hp} {ft : List Addr} (g : Grow J H J' H') (g2 : GrowO J' H' J2 H2 ft) (hf : ∀ b ∈ ft, H b = none) : Grow J H J2 H2 := by
  refine ⟨g.j.trans g2.j, g2.jh, fun b u hb => ?_⟩
  obtain ⟨h1, h2⟩ := g.old b u hb
  obtain ⟨h3, h4⟩ := g2.old b u (fun z => by rw [hf b z] at hb; cases hb) h1
  exact ⟨h3, h4.trans h2⟩
section
variable {X : Cx} {Y : Yx} {e : Expr} {pos : Pos}
theorem de_callOT {m1 : List D → FO} {m : Own → List D → OO} {n1 k1 k : Nat} {f1 f : Addr} {fd1 fd : FuncData} {ps1 ps : List Str} {x1 x : Str} {es : List Expr} {fa : Env → Out (List VV)} {p p1 pos1 : Pos}
    (F1 : FnOk X.prog X.w X.K X.mg X.base (L2.CX X.prog X.w) k1 f1 fd1 ps1 (spP X.K Y.ct n1 m1)) (hr1 : Room k1 X.A) (hm1 : X.mg x1 = some (.ref f1)) (hk1 : PySem.W.keepIn X.K (.ref f1) = true) (hb1 : Binds X.K fd1 ps1 [])
    (F : FnOk X.prog X.w X.K X.mg X.base (L2.CX X.prog X.w) k f fd ps (spO X.K Y.ct 0 m)) (hr : Room k X.A) (hm : X.mg x = some (.ref f)) (hk : PySem.W.keepIn X.K (.ref f) = true) (hb : Binds X.K fd ps []) (tk : Takes' X Y) (ha : DA X Y (e :: es) fa)
    (hg1 : Gl X x1 := by rfl) (hg : Gl X x := by rfl) (hdb1 : (x1 == ("__debug__" : Str)) = false := by decide) (hdb : (x == ("__debug__" : Str)) = false := by decide)
    (he1 : starEach (e :: es) X.env = (false, eval e X.env) :: starEach es X.env := by rfl) (hpl1 : (backTo pos1 (starEach es X.env)).any (·.1) = false := by rfl)
    (he : starEach [.Call (.Name x1 p1) (e :: es) [] pos1] X.env = (false, eval (.Call (.Name x1 p1) (e :: es) [] pos1) X.env) :: starEach [] X.env := by rfl) (hpl : (backTo pos (starEach [] X.env)).any (·.1) = false := by rfl) :
    DE X Y (.Call (.Name x p) [.Call (.Name x1 p1) (e :: es) [] pos1] [] pos) (eCallOT n1 m1 m fa) := by
  refine PE.imp (pe_callS F hr hg hm hk hb tk (pa_cons (pe_callS F1 hr1 hg1 hm1 hk1 hb1 tk ha hdb1 he1 hpl1) pa_nil he) hdb he hpl) fun σ H Q ⟨G, J, ρ, er, h⟩ => ?_
  unfold eCallOT at h
  refine ⟨G, J, ρ, er, Post.bind h fun xs ρ1 vs J1 H1 s1 r1 e1 hp => ?_⟩
  split at hp
  · rename_i ds hds
    split at hp
    · rename_i hl
      refine ⟨J1, ds, e1.ex, vals_ok r1 hds, hl, ?_⟩
      cases hm1 : m1 ds with
      | own o =>
        rw [hm1] at hp
        intro a r J' H' gr ho hf
        refine ⟨J', a, r, [], o, [], rfl, gr.jh, ho, fun b hb => (hf b hb).1, .nil, rfl, ?_⟩
        dsimp only at hp
        cases hmo : m o [] with
        | ret d o' =>
          rw [hmo] at hp
          exact fun v J2 H2 r' g _ _ rv => hp v J2 H2 (gr.j.trans g.j) rv (e1.grow (grow_fresh gr g fun b hb => (hf b hb).2))
        | exc ev o' =>
          rw [hmo] at hp
          exact fun c dx J2 H2 r' g _ _ hx => hp c dx J2 H2 (gr.j.trans g.j) (hx.ct rfl) (e1.grow (grow_fresh gr g fun b hb => (hf b hb).2))
        | bad =>
          rw [hmo] at hp
          exact hp.elim
      | ret d =>
        rw [hm1] at hp
        exact hp.elim
      | exc ev =>
        rw [hm1] at hp
        exact fun c dx J' H' gr r => hp c dx J' H' gr.j (r.ct rfl) (e1.grow gr)
      | bad =>
        rw [hm1] at hp
        exact hp.elim
    · exact hp.elim
  · exact hp.elim
end
end DL

namespace DL
open PySem PySem.Spec L2 PyProof.Rows
/-! ### names as texts -/
theorem ofString_inj {a b : String} (h : Str.ofString a = Str.ofString b) : a = b := by
  have h2 : a.toList.map Char.toNat = b.toList.map Char.toNat := by rw [← TL.tl_ofString, ← TL.tl_ofString, h]
  have inj : ∀ {l m : List Char}, l.map Char.toNat = m.map Char.toNat → l = m := by
    intro l
    induction l with
    | nil => intro m h; cases m <;> simp at h; rfl
    | cons c l ih =>
      intro m h
      cases m with
      | nil => simp at h
      | cons d m =>
        rw [List.map_cons, List.map_cons] at h
        injection h with h1 h2
        rw [ih h2]
        congr 1
        exact Char.ext (UInt32.toNat_inj.mp h1)
  exact String.ext (inj h2)
@[simp] theorem ofString_eq (a b : String) : (Str.ofString a = Str.ofString b) = (a = b) := propext ⟨ofString_inj, fun h => by rw [h]⟩
@[simp] theorem ofString_beq (a b : String) : (Str.ofString a == Str.ofString b) = decide (a = b) := by
  rw [Bool.eq_iff_iff, beq_iff_eq, decide_eq_true_iff, ofString_eq]
/-! ### defs as values -/
@[reducible] def fnV (x : Str) : D := .dict [(.str x, .none)]
inductive FTab (X : Cx) (Y : Yx) (n : Nat) : List (Str × (List D → FO)) → Prop
  | nil : FTab X Y n []
  | cons {x : Str} {m : List D → FO} {tbl : List (Str × (List D → FO))} {k : Nat} {f : Addr} {fd : FuncData} {ps : List Str} (F : FnOk X.prog X.w X.K X.mg X.base (L2.CX X.prog X.w) k f fd ps (spP X.K Y.ct n m)) (hr : Room k X.A) (hk : PySem.W.keepIn X.K (.ref f) = true)
    (hb : Binds X.K fd ps []) (g : IsCls X.K x f) : FTab X Y n tbl → FTab X Y n ((x, m) :: tbl)
@[simp] def eCallV (i n : Nat) (tbl : List (Str × (List D → FO))) (fa : Env → Out (List VV)) (ρ : Env) : Out VV := match ρ[i]? with
  | some (.d (.dict [(.str x, .none)])) => match tbl.lookup x with
    | some m => eCall n m fa ρ
    | none => .bad
  | _ => .bad
section
variable {X : Cx} {Y : Yx} {e : Expr} {pos : Pos}
theorem FTab.get {n : Nat} {x : Str} {m : List D → FO} {tbl : List (Str × (List D → FO))} (T : FTab X Y n tbl) (h : tbl.lookup x = some m) :
    ∃ k f fd ps, FnOk X.prog X.w X.K X.mg X.base (L2.CX X.prog X.w) k f fd ps (spP X.K Y.ct n m) ∧ Room k X.A ∧ PySem.W.keepIn X.K (.ref f) = true ∧ Binds X.K fd ps [] ∧ IsCls X.K x f := by
  induction T with
  | nil => cases h
  | @cons y m' tbl k f fd ps F hr hk hb g T ih =>
    rw [List.lookup_cons] at h
    cases hxy : x == y with
    | true =>
      rw [hxy] at h
      cases h
      have e := eq_of_beq hxy
      subst e
      exact ⟨k, f, fd, ps, F, hr, hk, hb, g⟩
    | false =>
      rw [hxy] at h
      exact ih h
theorem de_fnV {x : Str} {a : Addr} {p : Pos} (hm : X.mg x = some (.ref a)) (g : IsCls X.K x a) (hg : Gl X x := by rfl) (hd : (x == ("__debug__" : Str)) = false := by decide) : DE X Y (.Name x p) (eC (fnV x)) :=
  PE.imp (pe_glob (v := .ref a) hg hm rfl hd) fun σ H Q ⟨G, J, ρ, er, h⟩ => Post.now h (.fn g) er
theorem de_callV (i : Nat) {n : Nat} {tbl : List (Str × (List D → FO))} {x : Str} {es : List Expr} {fa : Env → Out (List VV)} {p : Pos} (T : FTab X Y n tbl) (tk : Takes' X Y) (ha : DA X Y (e :: es) fa) (hN : X.N[i]? = some x := by rfl)
    (hv : Vis X.env.scope x := by first | exact Or.inl rfl | exact Or.inr (Or.inl rfl) | exact Or.inr (Or.inr rfl))
    (hdb : (x == ("__debug__" : Str)) = false := by decide) (hcd : (x == ("__classdict__" : Str)) = false := by decide) (he : starEach (e :: es) X.env = (false, eval e X.env) :: starEach es X.env := by rfl) (hpl : (backTo pos (starEach es X.env)).any (·.1) = false := by rfl) :
    DE X Y (.Call (.Name x p) (e :: es) [] pos) (eCallV i n tbl fa) := ⟨fun pins s σ H Q I ⟨G, J, ρ, er, h⟩ => by
  unfold eCallV at h
  split at h
  · rename_i y hi
    split at h
    · rename_i m hm
      obtain ⟨k, f, fd, ps, F, hr, hk, hb, g⟩ := T.get hm
      obtain ⟨fs, hs, _⟩ := er.ft
      obtain ⟨z, fo, e1, _, so⟩ := hs.get hi
      cases so with
      | d hd =>
        cases hd with
        | fn g' =>
          cases g.uniq g'
          exact (pe_callLS (i := i) F hr hN hv hk hb tk ha hdb hcd he hpl).run pins s σ H Q I ⟨e1, call_fin σ H Q ⟨G, J, ρ, er, h⟩⟩
    · exact h.elim
  · exact h.elim⟩
end
end DL

namespace DL
open PySem PySem.Spec L2 PyProof.Rows
theorem atI_zero {α : Type} (x : α) (l : List α) : atI (x :: l) 0 = some x := by
  simp [atI, ixN]
@[simp] theorem atI_c0 {α : Type} (a : α) (l : List α) : atI (a :: l) 0 = some a := by simp [atI, ixN]
@[simp] theorem atI_c1 {α : Type} (a b : α) (l : List α) : atI (a :: b :: l) 1 = some b := by
  have h : (1 : Int) < (l.length : Int) + 1 + 1 := by omega
  simp [atI, ixN, h]
@[simp] theorem atI_c2 {α : Type} (a b c : α) (l : List α) : atI (a :: b :: c :: l) 2 = some c := by
  have h : (2 : Int) < (l.length : Int) + 1 + 1 + 1 := by omega
  simp [atI, ixN, h]
@[simp] theorem atI_c3 {α : Type} (a b c d : α) (l : List α) : atI (a :: b :: c :: d :: l) 3 = some d := by
  have h : (3 : Int) < (l.length : Int) + 1 + 1 + 1 + 1 := by omega
  simp [atI, ixN, h]
@[simp] theorem atI_c4 {α : Type} (a b c d e : α) (l : List α) : atI (a :: b :: c :: d :: e :: l) 4 = some e := by
  have h : (4 : Int) < (l.length : Int) + 1 + 1 + 1 + 1 + 1 := by omega
  simp [atI, ixN, h]
@[simp] theorem atI_c5 {α : Type} (a b c d e f : α) (l : List α) : atI (a :: b :: c :: d :: e :: f :: l) 5 = some f := by
  have h : (5 : Int) < (l.length : Int) + 1 + 1 + 1 + 1 + 1 + 1 := by omega
  simp [atI, ixN, h]
/-! ### shapes -/
def ShN (n : Nat) (d : D) : Prop := PyData.canLay0 d = true ∧ PyData.depth d ≤ n
section
variable {α : Type}
theorem ShN.sh {n : Nat} {d : D} (h : ShN n d) (hn : n ≤ 64 := by decide) : SeqAt.shaped d = true := by
  have := h.2
  simp [SeqAt.shaped, h.1]
  omega
theorem ShN.le {n m : Nat} {d : D} (h : ShN n d) (hn : n ≤ m) : ShN m d := ⟨h.1, Nat.le_trans h.2 hn⟩
theorem shN_all (n : Nat) (f : α → D) : ∀ l : List α, (∀ a ∈ l, ShN n (f a)) → PyData.canLayAll0 (l.map f) = true ∧ PyData.depthAll (l.map f) ≤ n
  | [], _ => by simp [PyData.canLayAll0, PyData.depthAll]
  | a :: l, h => by
    obtain ⟨h1, h2⟩ := h a (by simp)
    obtain ⟨h3, h4⟩ := shN_all n f l fun b hb => h b (List.mem_cons_of_mem _ hb)
    simp [PyData.canLayAll0, PyData.depthAll, h1, h3]
    omega
theorem shN_list {n : Nat} (f : α → D) (l : List α) (h : ∀ a ∈ l, ShN n (f a)) : ShN (n + 1) (.list (l.map f)) := by
  obtain ⟨h1, h2⟩ := shN_all n f l h
  exact ⟨by simp [PyData.canLay0, h1], by simp [PyData.depth]; omega⟩
theorem shN_tup {n : Nat} (f : α → D) (l : List α) (h : ∀ a ∈ l, ShN n (f a)) : ShN (n + 1) (.tuple (l.map f)) := by
  obtain ⟨h1, h2⟩ := shN_all n f l h
  exact ⟨by simp [PyData.canLay0, h1], by simp [PyData.depth]; omega⟩
theorem Co.shN (c : Co α) (a : α) : ShN c.n (c.d a) := ⟨c.lay a, c.le a⟩
theorem shN_nilL : ShN 1 (.list []) := ⟨by simp [PyData.canLay0, PyData.canLayAll0], by simp [PyData.depth, PyData.depthAll]⟩
theorem dNe_nilL {n : Nat} {xs : List D} (h : ShN n (.list xs)) (hn : n ≤ 64 := by decide) : dNe (.list xs) (.list []) = some (.bool (!xs.isEmpty)) := by
  unfold dNe
  rw [if_pos ⟨h.sh hn, shN_nilL.sh⟩]
  cases xs <;> simp [PyData.eqv, PyData.eqvAll]
theorem dEq_nilL {n : Nat} {xs : List D} (h : ShN n (.list xs)) (hn : n ≤ 64 := by decide) : dEq (.list xs) (.list []) = some (.bool xs.isEmpty) := by
  unfold dEq
  rw [if_pos ⟨h.sh hn, shN_nilL.sh⟩]
  cases xs <;> simp [PyData.eqv, PyData.eqvAll]
theorem filter_empty (p : α → Bool) (l : List α) : (l.filter p).isEmpty = l.all fun x => !p x := by
  induction l with
  | nil => rfl
  | cons a l ih => cases h : p a <;> simp [h, ih]
theorem map_isEmpty {β : Type} (f : α → β) (l : List α) : (l.map f).isEmpty = l.isEmpty := by cases l <;> rfl
theorem foldl_filter {β : Type} (b : α → Bool) (g : α → β) : ∀ (l : List α) (s : List β), l.foldl (fun s p => if b p = true then s ++ [g p] else s) s = s ++ (l.filter b).map g
  | [], s => by simp
  | a :: l, s => by
    rw [List.foldl_cons, foldl_filter b g l]
    cases h : b a <;> simp [h]
theorem dSum_ints (l : List Int) : dSum [.list (l.map .int)] = some (.int l.sum) := by
  show (match intsD (l.map PyData.int) with
    | some l => some (PyData.int l.sum)
    | none => none) = _
  rw [ints_map]
end
end DL

namespace DL
open PySem PySem.Spec L2 PyProof.Rows
/-! ### the order of data -/
mutual
def ltB : D → D → Bool
  | .int a, .int b => decide (a < b)
  | .str a, .str b => decide (a.cps.toList < b.cps.toList)
  | .tuple xs, .tuple ys => ltL xs ys
  | _, _ => false
def ltL : List D → List D → Bool
  | [], [] => false
  | [], _ :: _ => true
  | _ :: _, [] => false
  | x :: xs, y :: ys => if PyData.eqv x y = true then ltL xs ys else ltB x y
end
mutual
def cmpOk : D → D → Bool
  | .int _, .int _ => true
  | .str _, .str _ => true
  | .tuple xs, .tuple ys => cmpL xs ys
  | _, _ => false
def cmpL : List D → List D → Bool
  | [], _ => true
  | _ :: _, [] => true
  | x :: xs, y :: ys => cmpOk x y && cmpL xs ys
end
mutual
/-- made of ints, texts and tuples alone -/
def ordd : D → Bool
  | .int _ => true
  | .str x => PyData.strOk x
  | .tuple xs => orddL xs
  | _ => false
def orddL : List D → Bool
  | [] => true
  | x :: xs => ordd x && orddL xs
end
theorem natL_irr : ∀ l : List Nat, ¬ l < l
  | [] => by simp
  | a :: l => by
    rw [List.cons_lt_cons_iff]
    rintro (h | ⟨_, h⟩)
    · omega
    · exact natL_irr l h
theorem natL_tr : ∀ {a b c : List Nat}, a < b → b < c → a < c
  | [], _, [], _, h => by simp at h
  | [], _, _ :: _, _, _ => by simp
  | _ :: _, [], _, h, _ => by simp at h
  | _ :: _, _ :: _, [], _, h => by simp at h
  | x :: a, y :: b, z :: c, h1, h2 => by
    rw [List.cons_lt_cons_iff] at h1 h2 ⊢
    rcases h1 with h1 | ⟨e1, h1⟩ <;> rcases h2 with h2 | ⟨e2, h2⟩
    · exact .inl (by omega)
    · exact .inl (by omega)
    · exact .inl (by omega)
    · exact .inr ⟨by omega, natL_tr h1 h2⟩
theorem natL_tri : ∀ {a b : List Nat}, a < b ∨ a = b ∨ b < a
  | [], [] => .inr (.inl rfl)
  | [], _ :: _ => .inl (by simp)
  | _ :: _, [] => .inr (.inr (by simp))
  | x :: a, y :: b => by
    rw [List.cons_lt_cons_iff, List.cons_lt_cons_iff]
    rcases Nat.lt_trichotomy x y with h | h | h
    · exact .inl (.inl h)
    · rcases natL_tri (a := a) (b := b) with k | k | k
      · exact .inl (.inr ⟨h, k⟩)
      · exact .inr (.inl (by rw [h, k]))
      · exact .inr (.inr (.inr ⟨h.symm, k⟩))
    · exact .inr (.inr (.inl h))
theorem str_ext {a b : Str} (h : a.cps.toList = b.cps.toList) : a = b := by
  cases a
  cases b
  simp only at h
  rw [Array.toList_inj.mp h]
/-! equal data of such kinds is the same -/
mutual
theorem eqv_ordd : ∀ (x y : D), ordd x = true → ordd y = true → (PyData.eqv x y = true ↔ x = y)
  | .int a, .int b, _, _ => by simp [PyData.eqv]
  | .str a, .str b, _, _ => by simp [PyData.eqv]
  | .tuple xs, .tuple ys, h1, h2 => by
    unfold ordd at h1 h2
    have ih := eqvAll_ordd xs ys h1 h2
    simp only [PyData.eqv, ih, PyData.tuple.injEq]
  | .int _, .str _, _, _ => by simp [PyData.eqv]
  | .int _, .tuple _, _, _ => by simp [PyData.eqv]
  | .str _, .int _, _, _ => by simp [PyData.eqv]
  | .str _, .tuple _, _, _ => by simp [PyData.eqv]
  | .tuple _, .int _, _, _ => by simp [PyData.eqv]
  | .tuple _, .str _, _, _ => by simp [PyData.eqv]
  | .none, _, h, _ => by simp [ordd] at h
  | .bool _, _, h, _ => by simp [ordd] at h
  | .list _, _, h, _ => by simp [ordd] at h
  | .dict _, _, h, _ => by simp [ordd] at h
  | _, .none, _, h => by simp [ordd] at h
  | _, .bool _, _, h => by simp [ordd] at h
  | _, .list _, _, h => by simp [ordd] at h
  | _, .dict _, _, h => by simp [ordd] at h
theorem eqvAll_ordd : ∀ (xs ys : List D), orddL xs = true → orddL ys = true → (PyData.eqvAll xs ys = true ↔ xs = ys)
  | [], [], _, _ => by simp [PyData.eqvAll]
  | [], _ :: _, _, _ => by simp [PyData.eqvAll]
  | _ :: _, [], _, _ => by simp [PyData.eqvAll]
  | x :: xs, y :: ys, h1, h2 => by
    unfold orddL at h1 h2
    rw [Bool.and_eq_true] at h1 h2
    have e1 := eqv_ordd x y h1.1 h2.1
    have e2 := eqvAll_ordd xs ys h1.2 h2.2
    simp only [PyData.eqvAll, Bool.and_eq_true, e1, e2, List.cons.injEq]
end
mutual
theorem ltB_irr : ∀ (x : D), ordd x = true → ltB x x = false
  | .int a, _ => by simp [ltB]
  | .str a, _ => by simp [ltB, natL_irr]
  | .tuple xs, h => by
    unfold ordd at h
    unfold ltB
    exact ltL_irr xs h
  | .none, h => by simp [ordd] at h
  | .bool _, h => by simp [ordd] at h
  | .list _, h => by simp [ordd] at h
  | .dict _, h => by simp [ordd] at h
theorem ltL_irr : ∀ (xs : List D), orddL xs = true → ltL xs xs = false
  | [], _ => by simp [ltL]
  | x :: xs, h => by
    unfold orddL at h
    rw [Bool.and_eq_true] at h
    unfold ltL
    rw [if_pos ((eqv_ordd x x h.1 h.1).mpr rfl)]
    exact ltL_irr xs h.2
end
mutual
theorem ltB_tr : ∀ (x y z : D), ordd x = true → ordd y = true → ordd z = true → ltB x y = true → ltB y z = true → ltB x z = true
  | .int a, .int b, .int c, _, _, _, h1, h2 => by
    simp [ltB] at h1 h2 ⊢
    omega
  | .str a, .str b, .str c, _, _, _, h1, h2 => by
    simp [ltB] at h1 h2 ⊢
    exact natL_tr h1 h2
  | .tuple xs, .tuple ys, .tuple zs, k1, k2, k3, h1, h2 => by
    unfold ordd at k1 k2 k3
    unfold ltB at h1 h2 ⊢
    exact ltL_tr xs ys zs k1 k2 k3 h1 h2
  | .int a, .int b, .str c, _, _, _, _, h2 => by simp [ltB] at h2
  | .int a, .int b, .tuple c, _, _, _, _, h2 => by simp [ltB] at h2
  | .int a, .str b, _, _, _, _, h1, _ => by simp [ltB] at h1
  | .int a, .tuple b, _, _, _, _, h1, _ => by simp [ltB] at h1
  | .str a, .int b, _, _, _, _, h1, _ => by simp [ltB] at h1
  | .str a, .tuple b, _, _, _, _, h1, _ => by simp [ltB] at h1
  | .str a, .str b, .int c, _, _, _, _, h2 => by simp [ltB] at h2
  | .str a, .str b, .tuple c, _, _, _, _, h2 => by simp [ltB] at h2
  | .tuple a, .int b, _, _, _, _, h1, _ => by simp [ltB] at h1
  | .tuple a, .str b, _, _, _, _, h1, _ => by simp [ltB] at h1
  | .tuple a, .tuple b, .int c, _, _, _, _, h2 => by simp [ltB] at h2
  | .tuple a, .tuple b, .str c, _, _, _, _, h2 => by simp [ltB] at h2
  | .none, _, _, h, _, _, _, _ => by simp [ordd] at h
  | .bool _, _, _, h, _, _, _, _ => by simp [ordd] at h
  | .list _, _, _, h, _, _, _, _ => by simp [ordd] at h
  | .dict _, _, _, h, _, _, _, _ => by simp [ordd] at h
  | _, .none, _, _, h, _, _, _ => by simp [ordd] at h
  | _, .bool _, _, _, h, _, _, _ => by simp [ordd] at h
  | _, .list _, _, _, h, _, _, _ => by simp [ordd] at h
  | _, .dict _, _, _, h, _, _, _ => by simp [ordd] at h
  | _, _, .none, _, _, h, _, _ => by simp [ordd] at h
  | _, _, .bool _, _, _, h, _, _ => by simp [ordd] at h
  | _, _, .list _, _, _, h, _, _ => by simp [ordd] at h
  | _, _, .dict _, _, _, h, _, _ => by simp [ordd] at h
theorem ltL_tr : ∀ (xs ys zs : List D), orddL xs = true → orddL ys = true → orddL zs = true → ltL xs ys = true → ltL ys zs = true → ltL xs zs = true
  | [], [], _, _, _, _, h1, _ => by simp [ltL] at h1
  | [], _ :: _, [], _, _, _, _, h2 => by simp [ltL] at h2
  | [], _ :: _, _ :: _, _, _, _, _, _ => by simp [ltL]
  | _ :: _, [], _, _, _, _, h1, _ => by simp [ltL] at h1
  | _ :: _, _ :: _, [], _, _, _, _, h2 => by simp [ltL] at h2
  | x :: xs, y :: ys, z :: zs, k1, k2, k3, h1, h2 => by
    unfold orddL at k1 k2 k3
    rw [Bool.and_eq_true] at k1 k2 k3
    have e1 := eqv_ordd x y k1.1 k2.1
    have e2 := eqv_ordd y z k2.1 k3.1
    have e3 := eqv_ordd x z k1.1 k3.1
    unfold ltL at h1 h2 ⊢
    by_cases c1 : PyData.eqv x y = true
    · have c1' := e1.mp c1
      subst c1'
      rw [if_pos c1] at h1
      by_cases c2 : PyData.eqv x z = true
      · rw [if_pos c2] at h2 ⊢
        exact ltL_tr xs ys zs k1.2 k2.2 k3.2 h1 h2
      · rw [if_neg c2] at h2 ⊢
        exact h2
    · rw [if_neg c1] at h1
      by_cases c2 : PyData.eqv y z = true
      · have c2' := e2.mp c2
        subst c2'
        rw [if_neg c1]
        exact h1
      · rw [if_neg c2] at h2
        have c3 := ltB_tr x y z k1.1 k2.1 k3.1 h1 h2
        by_cases c4 : PyData.eqv x z = true
        · have c4' := e3.mp c4
          subst c4'
          rw [ltB_irr x k1.1] at c3
          cases c3
        · rw [if_neg c4]
          exact c3
end
mutual
theorem ltB_tri : ∀ (x y : D), cmpOk x y = true → ordd x = true → ordd y = true → ltB x y = true ∨ x = y ∨ ltB y x = true
  | .int a, .int b, _, _, _ => by
    simp [ltB]
    omega
  | .str a, .str b, _, _, _ => by
    simp only [ltB, decide_eq_true_iff]
    rcases natL_tri (a := a.cps.toList) (b := b.cps.toList) with h | h | h
    · exact .inl h
    · exact .inr (.inl (by rw [str_ext h]))
    · exact .inr (.inr h)
  | .tuple xs, .tuple ys, c, k1, k2 => by
    unfold ordd at k1 k2
    unfold cmpOk at c
    unfold ltB
    rcases ltL_tri xs ys c k1 k2 with h | h | h
    · exact .inl h
    · exact .inr (.inl (by rw [h]))
    · exact .inr (.inr h)
  | .int _, .str _, c, _, _ => by simp [cmpOk] at c
  | .int _, .tuple _, c, _, _ => by simp [cmpOk] at c
  | .str _, .int _, c, _, _ => by simp [cmpOk] at c
  | .str _, .tuple _, c, _, _ => by simp [cmpOk] at c
  | .tuple _, .int _, c, _, _ => by simp [cmpOk] at c
  | .tuple _, .str _, c, _, _ => by simp [cmpOk] at c
  | .none, _, _, h, _ => by simp [ordd] at h
  | .bool _, _, _, h, _ => by simp [ordd] at h
  | .list _, _, _, h, _ => by simp [ordd] at h
  | .dict _, _, _, h, _ => by simp [ordd] at h
  | _, .none, _, _, h => by simp [ordd] at h
  | _, .bool _, _, _, h => by simp [ordd] at h
  | _, .list _, _, _, h => by simp [ordd] at h
  | _, .dict _, _, _, h => by simp [ordd] at h
theorem ltL_tri : ∀ (xs ys : List D), cmpL xs ys = true → orddL xs = true → orddL ys = true → ltL xs ys = true ∨ xs = ys ∨ ltL ys xs = true
  | [], [], _, _, _ => .inr (.inl rfl)
  | [], _ :: _, _, _, _ => .inl (by simp [ltL])
  | _ :: _, [], _, _, _ => .inr (.inr (by simp [ltL]))
  | x :: xs, y :: ys, c, k1, k2 => by
    unfold cmpL at c
    unfold orddL at k1 k2
    rw [Bool.and_eq_true] at c k1 k2
    have e1 := eqv_ordd x y k1.1 k2.1
    have e2 := eqv_ordd y x k2.1 k1.1
    unfold ltL
    by_cases q : x = y
    · subst q
      rw [if_pos (e1.mpr rfl), if_pos (e1.mpr rfl)]
      rcases ltL_tri xs ys c.2 k1.2 k2.2 with h | h | h
      · exact .inl h
      · exact .inr (.inl (by rw [h]))
      · exact .inr (.inr h)
    · rw [if_neg fun z => q (e1.mp z), if_neg fun z => q (e2.mp z).symm]
      rcases ltB_tri x y c.1 k1.1 k2.1 with h | h | h
      · exact .inl h
      · exact absurd h q
      · exact .inr (.inr h)
end
/-! ### sorting -/
def insB (x : D) : List D → List D
  | [] => [x]
  | y :: l => if ltB y x = true then y :: insB x l else x :: y :: l
def srtB (l : List D) : List D := l.foldr insB []
/-- any two may be compared -/
def pairsOk (l : List D) : Bool := l.all fun x => ordd x && l.all fun y => cmpOk x y
abbrev SrtB (l : List D) : Prop := l.Pairwise fun x y => ltB y x = false
theorem insB_perm (x : D) : ∀ l, (insB x l).Perm (x :: l)
  | [] => List.Perm.refl _
  | y :: l => by
    unfold insB
    split
    · exact ((insB_perm x l).cons y).trans (List.Perm.swap x y l)
    · exact List.Perm.refl _
theorem srtB_perm : ∀ l, (srtB l).Perm l
  | [] => List.Perm.refl _
  | x :: l => (insB_perm x _).trans ((srtB_perm l).cons x)
section
variable {S : D → Prop} (h1 : ∀ x, S x → ordd x = true) (h2 : ∀ x y, S x → S y → cmpOk x y = true)
include h1 h2
theorem ltB_asym {x y : D} (hx : S x) (hy : S y) (h : ltB x y = true) : ltB y x = false := by
  cases e : ltB y x with
  | false => rfl
  | true =>
    have := ltB_tr x y x (h1 x hx) (h1 y hy) (h1 x hx) h e
    rw [ltB_irr x (h1 x hx)] at this
    cases this
theorem ltB_ntr {x y z : D} (hx : S x) (hy : S y) (hz : S z) (a : ltB y x = false) (b : ltB z y = false) : ltB z x = false := by
  cases e : ltB z x with
  | false => rfl
  | true =>
    exfalso
    rcases ltB_tri y z (h2 y z hy hz) (h1 y hy) (h1 z hz) with h | h | h
    · have := ltB_tr y z x (h1 y hy) (h1 z hz) (h1 x hx) h e
      rw [a] at this
      cases this
    · subst h
      rw [a] at e
      cases e
    · rw [b] at h
      cases h
theorem insB_srt {x : D} (hx : S x) : ∀ {l : List D}, (∀ y ∈ l, S y) → SrtB l → SrtB (insB x l)
  | [], _, _ => List.pairwise_singleton _ _
  | y :: l, hl, hs => by
    have hy := hl y (by simp)
    have hl' := fun z (hz : z ∈ l) => hl z (List.mem_cons_of_mem _ hz)
    have hs' := List.pairwise_cons.mp hs
    unfold insB
    split
    · rename_i c
      refine List.pairwise_cons.mpr ⟨fun z hz => ?_, insB_srt hx hl' hs'.2⟩
      rcases List.mem_cons.mp ((insB_perm x l).mem_iff.mp hz) with rfl | hz
      · exact ltB_asym h1 h2 hy hx c
      · exact hs'.1 z hz
    · rename_i c
      have c : ltB y x = false := by simpa using c
      refine List.pairwise_cons.mpr ⟨fun z hz => ?_, hs⟩
      rcases List.mem_cons.mp hz with rfl | hz
      · exact c
      · exact ltB_ntr h1 h2 hx hy (hl' z hz) c (hs'.1 z hz)
theorem srtB_srt : ∀ {l : List D}, (∀ y ∈ l, S y) → SrtB (srtB l)
  | [], _ => List.Pairwise.nil
  | x :: l, hl => insB_srt h1 h2 (hl x (by simp)) (fun y hy => hl y (List.mem_cons_of_mem _ ((srtB_perm l).mem_iff.mp hy))) (srtB_srt fun y hy => hl y (List.mem_cons_of_mem _ hy))
theorem srt_unique : ∀ {l m : List D}, (∀ y ∈ l, S y) → l.Perm m → SrtB l → SrtB m → l = m
  | [], m, _, p, _, _ => (List.nil_perm.mp p).symm
  | x :: l, [], _, p, _, _ => absurd p.length_eq (by simp)
  | x :: l, y :: m, hl, p, sl, sm => by
    have hx := hl x (by simp)
    have hy := hl y (p.mem_iff.mpr (by simp))
    have sl' := List.pairwise_cons.mp sl
    have sm' := List.pairwise_cons.mp sm
    have e : x = y := by
      have a1 : x = y ∨ ltB y x = false := by
        rcases List.mem_cons.mp (p.mem_iff.mpr (List.mem_cons_self (a := y) (l := m))) with h | h
        · exact .inl h.symm
        · exact .inr (sl'.1 y h)
      have a2 : y = x ∨ ltB x y = false := by
        rcases List.mem_cons.mp (p.mem_iff.mp (List.mem_cons_self (a := x) (l := l))) with h | h
        · exact .inl h.symm
        · exact .inr (sm'.1 x h)
      rcases a1 with a1 | a1
      · exact a1
      · rcases a2 with a2 | a2
        · exact a2.symm
        · rcases ltB_tri x y (h2 x y hx hy) (h1 x hx) (h1 y hy) with h | h | h
          · rw [a2] at h
            cases h
          · exact h
          · rw [a1] at h
            cases h
    subst e
    rw [srt_unique (fun z hz => hl z (List.mem_cons_of_mem _ hz)) (List.Perm.cons_inv p) sl'.2 sm'.2]
end
end DL

namespace DL
open PySem PySem.Spec L2 PyProof.Rows
/-! ### such data in the heap -/
mutual
theorem ordd_lay : ∀ d : D, ordd d = true → d.canLay0 = true
  | .int _, _ => by simp [PyData.canLay0]
  | .str _, h => by
    unfold ordd at h
    simp [PyData.canLay0, h]
  | .tuple xs, h => by
    unfold ordd at h
    have := orddL_lay xs h
    simp [PyData.canLay0, this]
  | .none, h => by simp [ordd] at h
  | .bool _, h => by simp [ordd] at h
  | .list _, h => by simp [ordd] at h
  | .dict _, h => by simp [ordd] at h
theorem orddL_lay : ∀ ds : List D, orddL ds = true → PyData.canLayAll0 ds = true
  | [], _ => by simp [PyData.canLayAll0]
  | x :: xs, h => by
    unfold orddL at h
    rw [Bool.and_eq_true] at h
    simp [PyData.canLayAll0, ordd_lay x h.1, orddL_lay xs h.2]
end
section
variable {h h' : Heap} (k : ∀ b o, h.get? b = some o → o.cls = .type "tuple" → h'.get? b = some o)
include k
mutual
theorem reads_keep : ∀ (d : D) (v : Value) (as : List Addr), ordd d = true → Reads h v d as → Reads h' v d as
  | .int _, _, _, _, r => by
    cases r
    exact .int _ _
  | .str _, _, _, _, r => by
    cases r
    exact .str _ _
  | .tuple xs, _, _, o, r => by
    unfold ordd at o
    cases r with
    | tuple e c dd ra => exact .tuple (k _ _ e c) c dd (readsAll_keep xs _ _ o ra)
  | .none, _, _, h, _ => by simp [ordd] at h
  | .bool _, _, _, h, _ => by simp [ordd] at h
  | .list _, _, _, h, _ => by simp [ordd] at h
  | .dict _, _, _, h, _ => by simp [ordd] at h
theorem readsAll_keep : ∀ (ds : List D) (vs : List Value) (as : List Addr), orddL ds = true → ReadsAll h vs ds as → ReadsAll h' vs ds as
  | [], _, _, _, r => by
    cases r
    exact .nil
  | x :: xs, _, _, o, r => by
    unfold orddL at o
    rw [Bool.and_eq_true] at o
    cases r with
    | cons r1 r2 => exact .cons (reads_keep x _ _ o.1 r1) (readsAll_keep xs _ _ o.2 r2)
end
end
def eAt (xs ys : List D) (j : Nat) : Bool := PyData.eqv (xs.getD j .none) (ys.getD j .none)
def rAt (xs ys : List D) (j : Nat) : Bool := ltB (xs.getD j .none) (ys.getD j .none)
theorem lexAt_sh (e r : Nat → Bool) (z : Bool) : ∀ (k i : Nat), Ob.lexAt e r z (i + 1) k = Ob.lexAt (fun j => e (j + 1)) (fun j => r (j + 1)) z i k
  | 0, i => rfl
  | k + 1, i => by
    rw [Ob.lexAt_succ, Ob.lexAt_succ, lexAt_sh e r z k (i + 1)]
theorem lexAt_ltL : ∀ xs ys : List D, Ob.lexAt (eAt xs ys) (rAt xs ys) (decide (xs.length < ys.length)) 0 (min xs.length ys.length) = ltL xs ys
  | [], [] => rfl
  | [], _ :: _ => by simp [ltL, Ob.lexAt]
  | _ :: _, [] => by simp [ltL, Ob.lexAt]
  | x :: xs, y :: ys => by
    have ih := lexAt_ltL xs ys
    rw [show min (x :: xs).length (y :: ys).length = min xs.length ys.length + 1 by simp only [List.length_cons]; omega, Ob.lexAt_succ, lexAt_sh]
    have e1 : (fun j => eAt (x :: xs) (y :: ys) (j + 1)) = eAt xs ys := rfl
    have e2 : (fun j => rAt (x :: xs) (y :: ys) (j + 1)) = rAt xs ys := rfl
    have e3 : decide ((x :: xs).length < (y :: ys).length) = decide (xs.length < ys.length) := by simp
    rw [e1, e2, e3, ih]
    rfl
theorem min_le_L {a b c d : Nat} (h1 : a ≤ c) (h2 : b ≤ d) : min a b ≤ min c d := by omega
theorem dep_cons (x : D) (xs : List D) : x.depth ≤ PyData.depthAll (x :: xs) ∧ PyData.depthAll xs ≤ PyData.depthAll (x :: xs) := by
  simp only [PyData.depthAll]
  omega
theorem readsAll_len {h : Heap} : ∀ {vs : List Value} {ds : List D} {as : List Addr}, ReadsAll h vs ds as → vs.length = ds.length
  | _, _, _, .nil => rfl
  | _, _, _, .cons _ r => by simp [readsAll_len r]
mutual
theorem rc_lt : ∀ (d e : D) (A : Around) (s : Shared) (v u : Value) (as bs : List Addr), ordd d = true → ordd e = true → cmpOk d e = true → A.units + min d.depth e.depth < cLine → Reads s.heap v d as → Reads s.heap u e bs → Ob.RcOp .Lt A s v u (ltB d e)
  | .int a, .int b, A, s, _, _, _, _, _, _, _, _, r1, r2 => by
    cases r1
    cases r2
    unfold ltB
    exact Ob.RcOp.lt_int _ _ _ _
  | .str a, .str b, A, s, _, _, _, _, _, _, _, _, r1, r2 => by
    cases r1
    cases r2
    unfold ltB
    exact fun _ _ _ _ h => PyProof.Rows.lt_str h
  | .tuple xs, .tuple ys, A, s, _, _, _, _, k1, k2, c, hu, r1, r2 => by
    unfold ordd at k1 k2
    unfold cmpOk at c
    have hu' : A.in1.units + min (PyData.depthAll xs) (PyData.depthAll ys) < cLine := by
      simp only [PyData.depth] at hu
      show A.units + 1 + _ < _
      omega
    cases r1 with
    | tuple e1 c1 d1 ra1 =>
      cases r2 with
      | tuple e2 c2 d2 ra2 =>
        have l1 := readsAll_len ra1
        have l2 := readsAll_len ra2
        rw [Array.length_toList] at l1 l2
        have key := rc_ltL xs ys A.in1 s _ _ _ _ k1 k2 c hu' ra1 ra2
        have R := Ob.RcOp.tuples_lt (A := A) (s := s) (e := eAt xs ys) (r := rAt xs ys) ⟨_, e1, c1, _, d1⟩ ⟨_, e2, c2, _, d2⟩ (by omega)
          (fun j h1 h2 => by
            have := (key j (by simpa using h1) (by simpa using h2)).1
            simpa using this)
          (fun j h1 h2 _ => by
            have := (key j (by simpa using h1) (by simpa using h2)).2
            simpa using this)
        rw [l1, l2, lexAt_ltL] at R
        unfold ltB
        exact R
  | .int _, .str _, _, _, _, _, _, _, _, _, c, _, _, _ => by simp [cmpOk] at c
  | .int _, .tuple _, _, _, _, _, _, _, _, _, c, _, _, _ => by simp [cmpOk] at c
  | .str _, .int _, _, _, _, _, _, _, _, _, c, _, _, _ => by simp [cmpOk] at c
  | .str _, .tuple _, _, _, _, _, _, _, _, _, c, _, _, _ => by simp [cmpOk] at c
  | .tuple _, .int _, _, _, _, _, _, _, _, _, c, _, _, _ => by simp [cmpOk] at c
  | .tuple _, .str _, _, _, _, _, _, _, _, _, c, _, _, _ => by simp [cmpOk] at c
  | .none, _, _, _, _, _, _, _, h, _, _, _, _, _ => by simp [ordd] at h
  | .bool _, _, _, _, _, _, _, _, h, _, _, _, _, _ => by simp [ordd] at h
  | .list _, _, _, _, _, _, _, _, h, _, _, _, _, _ => by simp [ordd] at h
  | .dict _, _, _, _, _, _, _, _, h, _, _, _, _, _ => by simp [ordd] at h
  | _, .none, _, _, _, _, _, _, _, h, _, _, _, _ => by simp [ordd] at h
  | _, .bool _, _, _, _, _, _, _, _, h, _, _, _, _ => by simp [ordd] at h
  | _, .list _, _, _, _, _, _, _, _, h, _, _, _, _ => by simp [ordd] at h
  | _, .dict _, _, _, _, _, _, _, _, h, _, _, _, _ => by simp [ordd] at h
theorem rc_ltL : ∀ (xs ys : List D) (A : Around) (s : Shared) (vs us : List Value) (as bs : List Addr), orddL xs = true → orddL ys = true → cmpL xs ys = true → A.units + min (PyData.depthAll xs) (PyData.depthAll ys) < cLine → ReadsAll s.heap vs xs as → ReadsAll s.heap us ys bs →
    ∀ (j : Nat) (h1 : j < vs.length) (h2 : j < us.length), SeqAt.EqAt A s vs[j] us[j] (eAt xs ys j) ∧ Ob.RcOp .Lt A s vs[j] us[j] (rAt xs ys j)
  | [], _, _, _, _, _, _, _, _, _, _, _, r1, _, j, h1, _ => by
    cases r1
    exact absurd h1 (Nat.not_lt_zero j)
  | _ :: _, [], _, _, _, _, _, _, _, _, _, _, _, r2, j, _, h2 => by
    cases r2
    exact absurd h2 (Nat.not_lt_zero j)
  | x :: xs, y :: ys, A, s, _, _, _, _, k1, k2, c, hu, r1, r2, j, h1, h2 => by
    unfold orddL at k1 k2
    unfold cmpL at c
    rw [Bool.and_eq_true] at k1 k2 c
    have a1 := dep_cons x xs
    have a2 := dep_cons y ys
    cases r1 with
    | cons p1 q1 =>
      cases r2 with
      | cons p2 q2 =>
        cases j with
        | zero => exact ⟨SeqAt.eqAt_reads x y A s _ _ _ _ p1 p2 (ordd_lay x k1.1) (ordd_lay y k2.1) (by omega), rc_lt x y A s _ _ _ _ k1.1 k2.1 c.1 (by omega) p1 p2⟩
        | succ j => exact rc_ltL xs ys A s _ _ _ _ k1.2 k2.2 c.2 (by omega) q1 q2 j (Nat.lt_of_succ_lt_succ h1) (Nat.lt_of_succ_lt_succ h2)
end
/-! ### the sort's own comparisons -/
section
variable {prog : Program} {w : World} {A : Around} {s : Shared}
def flatD : D → Bool
  | .int _ => true
  | .str _ => true
  | _ => false
theorem one_lt {c : Bool} {d e : D} {v u : Value} {as bs : List Addr} {Q : Bool → Shared → Prop} {E : Value → Shared → Prop} (k1 : ordd d = true) (k2 : ordd e = true) (hc : cmpOk d e = true) (hu : A.units + min d.depth e.depth < cLine) (r1 : Reads s.heap v d as) (r2 : Reads s.heap u e bs)
    (hf : c = true → flatD d = true) (q : Q (ltB d e) s) : wpAny (model prog w) A (oneLt' c v u) Q E s := by
  cases c with
  | false =>
    refine PySem.W.kat_one _ _ ?_
    show wpAny (model prog w) A (richCompare .Lt v u) _ _ s
    exact rc_lt d e A s v u as bs k1 k2 hc hu r1 r2 prog w _ _ q
  | true =>
    have hf := hf rfl
    cases d with
    | int a =>
      cases e <;> first | (simp [cmpOk] at hc; done) | skip
      cases r1
      cases r2
      exact oneLt_int (by simpa [ltB] using q)
    | str a =>
      cases e <;> first | (simp [cmpOk] at hc; done) | skip
      cases r1
      cases r2
      exact oneLt_str (by simpa [ltB] using q)
    | _ => cases hf
theorem lex_D {b : Bool} {Q : Bool → Shared → Prop} : ∀ (xs ys : List D) (vs us : List Value) (as bs : List Addr) (i : Nat), orddL xs = true → orddL ys = true → cmpL xs ys = true → A.units + min (PyData.depthAll xs) (PyData.depthAll ys) < cLine → ReadsAll s.heap vs xs as → ReadsAll s.heap us ys bs →
    (i = 0 → b = true → ∀ x r, xs = x :: r → flatD x = true) → Q (ltL xs ys) s → PySem.W.KatLex prog w A b (decide (xs.length < ys.length)) Q (vs.zip us) i s
  | [], [], _, _, _, _, i, _, _, _, _, r1, r2, _, q => by
    cases r1
    cases r2
    exact PySem.W.kat_nil (by simpa [ltL] using q)
  | [], _ :: _, _, _, _, _, i, _, _, _, _, r1, r2, _, q => by
    cases r1
    exact PySem.W.kat_nil (by simpa [ltL] using q)
  | _ :: _, [], _, _, _, _, i, _, _, _, _, r1, r2, _, q => by
    cases r2
    rw [List.zip_nil_right]
    exact PySem.W.kat_nil (by simpa [ltL] using q)
  | x :: xs, y :: ys, _, _, _, _, i, k1, k2, c, hu, r1, r2, hf, q => by
    unfold orddL at k1 k2
    unfold cmpL at c
    rw [Bool.and_eq_true] at k1 k2 c
    have a1 := dep_cons x xs
    have a2 := dep_cons y ys
    cases r1 with
    | cons p1 q1 =>
      cases r2 with
      | cons p2 q2 =>
        rw [List.zip_cons_cons]
        refine PySem.W.kat_cons (SeqAt.eqAt_reads x y A s _ _ _ _ p1 p2 (ordd_lay x k1.1) (ordd_lay y k2.1) (by omega) prog w _ _ ?_)
        unfold ltL at q
        refine PySem.W.kat_go (fun e1 => ?_) (fun e1 => ?_)
        · rw [if_pos e1] at q
          have e3 : decide ((x :: xs).length < (y :: ys).length) = decide (xs.length < ys.length) := by simp
          rw [e3]
          exact PySem.W.kat_yes (lex_D xs ys _ _ _ _ (i + 1) k1.2 k2.2 c.2 (by omega) q1 q2 (fun z => absurd z (Nat.succ_ne_zero i)) q)
        · rw [if_neg (by rw [e1]; decide)] at q
          refine PySem.W.kat_no (one_lt k1.1 k2.1 c.1 (by omega) p1 p2 (fun hb => ?_) q)
          rw [Bool.and_eq_true] at hb
          exact hf (by simpa using hb.2) hb.1 x xs rfl
theorem key_D {b : Bool} {xs ys : List D} {v u : Value} {as bs : List Addr} {Q : Bool → Shared → Prop} {E : Value → Shared → Prop} (k1 : orddL xs = true) (k2 : orddL ys = true) (c : cmpL xs ys = true) (hu : A.units + min (PyData.depthAll xs) (PyData.depthAll ys) < cLine)
    (r1 : Reads s.heap v (.tuple xs) as) (r2 : Reads s.heap u (.tuple ys) bs) (hf : b = true → ∀ x r, xs = x :: r → flatD x = true) (q : Q (ltL xs ys) s) : wpAny (model prog w) A (keyLt' (tuples' b) v u) Q E s := by
  cases r1 with
  | tuple e1 c1 d1 ra1 =>
    cases r2 with
    | tuple e2 c2 d2 ra2 =>
      refine PySem.W.kat_lt e1 d1 e2 d2 ?_
      have l1 := readsAll_len ra1
      have l2 := readsAll_len ra2
      rw [Array.length_toList] at l1 l2
      rw [l1, l2]
      exact lex_D xs ys _ _ _ _ 0 k1 k2 c hu ra1 ra2 (fun _ => hf) q
end
end DL

namespace DL
open PySem PySem.Spec L2 PyProof.Rows
def neTup : D → Bool
  | .tuple [] => false
  | _ => true
def srtOk (ds : List D) : Bool := pairsOk ds && (ds.all neTup && decide (PyData.depthAll ds ≤ 60))
def nSorted : List D → Option (List D)
  | [.list ds] => if srtOk ds = true then some (srtB ds) else none
  | _ => none
@[simp] theorem nSorted_l (ds : List D) : nSorted [.list ds] = if srtOk ds = true then some (srtB ds) else none := rfl
theorem pairsOk_at {ds : List D} (h : pairsOk ds = true) {x y : D} (hx : x ∈ ds) (hy : y ∈ ds) : ordd x = true ∧ cmpOk x y = true := by
  have := List.all_eq_true.mp h x hx
  rw [Bool.and_eq_true] at this
  exact ⟨this.1, List.all_eq_true.mp this.2 y hy⟩
def ds1 : List D → List D
  | [] => [.int 0]
  | l => l
theorem ds1_ok {ds : List D} (h : pairsOk ds = true) : pairsOk (ds1 ds) = true := by
  cases ds with
  | nil => rfl
  | cons _ _ => exact h
theorem ds1_mem {ds : List D} {x : D} (h : x ∈ ds) : x ∈ ds1 ds := by
  cases ds with
  | nil => cases h
  | cons _ _ => exact h
noncomputable def pick (ds : List D) (d : D) : D := open Classical in if d ∈ ds then d else (ds1 ds).headD (.int 0)
theorem pick_mem (ds : List D) (d : D) : pick ds d ∈ ds1 ds := by
  unfold pick
  split
  · rename_i h
    exact ds1_mem h
  · cases ds <;> simp [ds1]
theorem pick_of {ds : List D} {d : D} (h : d ∈ ds) : pick ds d = d := by
  unfold pick
  rw [if_pos h]
noncomputable def ltv (h : Heap) (ds : List D) (v u : Value) : Bool := ltB (pick ds (SeqAt.readOf h v)) (pick ds (SeqAt.readOf h u))
theorem ltv_swo (h : Heap) {ds : List D} (ok : pairsOk ds = true) : SrtO.Swo (ltv h ds) := by
  have ok1 := ds1_ok ok
  have a1 : ∀ x, x ∈ ds1 ds → ordd x = true := fun x hx => (pairsOk_at ok1 hx hx).1
  have a2 : ∀ x y, x ∈ ds1 ds → y ∈ ds1 ds → cmpOk x y = true := fun x y hx hy => (pairsOk_at ok1 hx hy).2
  exact ⟨fun x y e => ltB_asym a1 a2 (pick_mem _ _) (pick_mem _ _) e, fun x y z e1 e2 => ltB_ntr a1 a2 (pick_mem _ _) (pick_mem _ _) (pick_mem _ _) e1 e2⟩
theorem readsAll_mem {h : Heap} : ∀ {vs : List Value} {ds : List D} {as : List Addr} {v : Value}, ReadsAll h vs ds as → v ∈ vs → ∃ d bs, d ∈ ds ∧ Reads h v d bs
  | _, _, _, _, .nil, m => by cases m
  | _, _, _, _, .cons r1 r2, m => by
    rcases List.mem_cons.mp m with rfl | m
    · exact ⟨_, _, by simp, r1⟩
    · obtain ⟨d, bs, h1, h2⟩ := readsAll_mem r2 m
      exact ⟨d, bs, List.mem_cons_of_mem _ h1, h2⟩
theorem dep_mem : ∀ {ds : List D} {d : D}, d ∈ ds → d.depth ≤ PyData.depthAll ds
  | [], _, m => by cases m
  | x :: xs, d, m => by
    have := dep_cons x xs
    rcases List.mem_cons.mp m with rfl | m
    · exact this.1
    · have := dep_mem m
      omega
def tyD : D → String
  | .int _ => "int"
  | .str _ => "str"
  | _ => "tuple"
theorem looks_D {M : Model} {h : Heap} {v : Value} {d : D} {as : List Addr} (o : ordd d = true) (r : Reads h v d as) : PySem.W.Looks M h (typeOf v) (.type (tyD d)) := by
  cases d with
  | int _ =>
    cases r
    exact PySem.W.Looks.now
  | str _ =>
    cases r
    exact PySem.W.Looks.now
  | tuple _ =>
    cases r with
    | tuple e c dd ra =>
      have : PySem.W.Looks M h (typeOf (.ref _)) _ := (PySem.W.Looks.ld e).andThen .now
      rw [c] at this
      exact this
  | _ => simp [ordd] at o
theorem cmp_ty {d e : D} (h : cmpOk d e = true) : tyD d = tyD e := by
  cases d <;> cases e <;> first | rfl | (simp [cmpOk] at h)
theorem firsts_D {h : Heap} : ∀ {vs : List Value} {ds : List D} {as : List Addr}, ReadsAll h vs ds as → (∀ d ∈ ds, ∃ x r, d = .tuple (x :: r)) → ∃ fs : List Value, PySem.W.KatTups h vs fs ∧ fs.length = vs.length ∧ ∀ f ∈ fs, ∃ x r bs, PyData.tuple (x :: r) ∈ ds ∧ Reads h f x bs
  | _, _, _, .nil, _ => ⟨[], PySem.W.KatTups.nil, rfl, fun _ hm => by simp at hm⟩
  | _, _, _, .cons r1 r2, hp => by
    obtain ⟨fs, h1, h2, h3⟩ := firsts_D r2 fun d hd => hp d (List.mem_cons_of_mem _ hd)
    obtain ⟨x, r, e⟩ := hp _ List.mem_cons_self
    subst e
    cases r1 with
    | tuple e1 c1 d1 ra1 =>
      rename_i vs1 n1
      generalize hvl : vs1.toList = l at ra1
      cases ra1 with
      | cons p q =>
        rename_i v0 vr _ _
        refine ⟨v0 :: fs, PySem.W.KatTups.cons e1 c1 d1 ?_ h1, by simp [h2], fun f hm => ?_⟩
        · rw [← Array.getElem?_toList, hvl]
          rfl
        · rcases List.mem_cons.mp hm with rfl | hm
          · exact ⟨x, r, _, by simp, p⟩
          · obtain ⟨x', r', bs, m, k⟩ := h3 f hm
            exact ⟨x', r', bs, List.mem_cons_of_mem _ m, k⟩
section
variable {prog : Program} {w : World} {A : Around} {s : Shared}
theorem sortable_D {a : Addr} {vs : List Value} {ds : List D} {as : List Addr} (h0 : Heap) (hr : ReadsAll s.heap vs ds as) (ok : srtOk ds = true) (hu : A.units + 60 < cLine) (h2 : 2 ≤ vs.length) (he : ∀ v ∈ vs, ∀ d bs, d ∈ ds → Reads s.heap v d bs → SeqAt.readOf h0 v = d)
    (ha : ∀ o, s.heap.get? a = some o → o.cls ≠ .type "tuple") : SrtO.SortableO prog w A s a vs (ltv h0 ds) := by
  unfold srtOk at ok
  simp only [Bool.and_eq_true, decide_eq_true_iff] at ok
  obtain ⟨ok1, ok2, ok3⟩ := ok
  intro h' keep
  have kp : ∀ b o, s.heap.get? b = some o → o.cls = .type "tuple" → h'.get? b = some o := fun b o e c => keep b o (fun z => by subst z; exact ha o e c) e
  have od : orddL ds = true := by
    have : ∀ l : List D, (∀ x ∈ l, ordd x = true) → orddL l = true := by
      intro l
      induction l with
      | nil => intro _; rfl
      | cons x l ih =>
        intro h
        unfold orddL
        rw [h x (by simp), ih fun y hy => h y (List.mem_cons_of_mem _ hy)]
        rfl
    exact this ds fun x hx => (pairsOk_at ok1 hx hx).1
  have hr' : ReadsAll h' vs ds as := readsAll_keep kp ds vs as od hr
  have at_ : ∀ v ∈ vs, ∃ d bs, d ∈ ds ∧ Reads h' v d bs ∧ pick ds (SeqAt.readOf h0 v) = d := fun v hv => by
    obtain ⟨d, bs, h1, h3⟩ := readsAll_mem hr hv
    exact ⟨d, bs, h1, reads_keep kp d v bs (pairsOk_at ok1 h1 h1).1 h3, by rw [he v hv d bs h1 h3, pick_of h1]⟩
  have rm : ∀ d e, d ∈ ds → e ∈ ds → A.units + min d.depth e.depth < cLine := fun d e hd he => by
    have := dep_mem hd
    omega
  obtain ⟨d0, hd0⟩ : ∃ d0, d0 ∈ ds := by
    cases vs with
    | nil => simp at h2
    | cons v _ =>
      obtain ⟨d, _, h1, _⟩ := readsAll_mem hr (List.mem_cons_self (a := v))
      exact ⟨d, h1⟩
  have ty : ∀ d ∈ ds, tyD d = tyD d0 := fun d hd => cmp_ty (pairsOk_at ok1 hd hd0).2
  cases hq : d0 with
  | int i =>
    refine ⟨oneType', fun Q E hq' => PySem.W.kas_kind (s := { s with heap := h' }) (T := .type "int") h2 (fun v hv => ?_) (by decide) (by decide) hq', fun p q hp hq' => ?_⟩
    · obtain ⟨d, bs, h1, h3, _⟩ := at_ v hv
      have := looks_D (M := model prog w) (pairsOk_at ok1 h1 h1).1 h3
      rw [ty d h1, hq] at this
      exact this
    · obtain ⟨d, bs, h1, h3, e1⟩ := at_ _ hp
      obtain ⟨e, cs, k1, k3, e2⟩ := at_ _ hq'
      have t1 := ty d h1
      have t2 := ty e k1
      have o1 := (pairsOk_at ok1 h1 h1).1
      have o2 := (pairsOk_at ok1 k1 k1).1
      have goal : (ltv h0 ds p.1 q.1) = ltB d e := by unfold ltv; rw [e1, e2]
      show wpAny (model prog w) A (keyLt' oneType' p.1 q.1) (fun r s' => s' = { s with heap := h' } ∧ r = ltv h0 ds p.1 q.1) _ _
      rw [goal]
      rw [hq] at t1 t2
      cases d <;> first | (simp [ordd] at o1; done) | (simp [tyD] at t1; done) | skip
      cases e <;> first | (simp [ordd] at o2; done) | (simp [tyD] at t2; done) | skip
      generalize p.1 = pv at *
      generalize q.1 = qv at *
      cases h3
      cases k3
      exact PySem.W.kat_lt_int ⟨rfl, by simp [ltB]⟩
  | str i =>
    refine ⟨oneType', fun Q E hq' => PySem.W.kas_kind (s := { s with heap := h' }) (T := .type "str") h2 (fun v hv => ?_) (by decide) (by decide) hq', fun p q hp hq' => ?_⟩
    · obtain ⟨d, bs, h1, h3, _⟩ := at_ v hv
      have := looks_D (M := model prog w) (pairsOk_at ok1 h1 h1).1 h3
      rw [ty d h1, hq] at this
      exact this
    · obtain ⟨d, bs, h1, h3, e1⟩ := at_ _ hp
      obtain ⟨e, cs, k1, k3, e2⟩ := at_ _ hq'
      have t1 := ty d h1
      have t2 := ty e k1
      have o1 := (pairsOk_at ok1 h1 h1).1
      have o2 := (pairsOk_at ok1 k1 k1).1
      have goal : (ltv h0 ds p.1 q.1) = ltB d e := by unfold ltv; rw [e1, e2]
      show wpAny (model prog w) A (keyLt' oneType' p.1 q.1) (fun r s' => s' = { s with heap := h' } ∧ r = ltv h0 ds p.1 q.1) _ _
      rw [goal]
      rw [hq] at t1 t2
      cases d <;> first | (simp [ordd] at o1; done) | (simp [tyD] at t1; done) | skip
      cases e <;> first | (simp [ordd] at o2; done) | (simp [tyD] at t2; done) | skip
      generalize p.1 = pv at *
      generalize q.1 = qv at *
      cases h3
      cases k3
      exact PySem.W.kas_lt_str ⟨rfl, by simp [ltB]⟩
  | tuple l0 =>
    have tup : ∀ d ∈ ds, ∃ x r, d = .tuple (x :: r) := fun d hd => by
      have t1 := ty d hd
      have o1 := (pairsOk_at ok1 hd hd).1
      have n1 := List.all_eq_true.mp ok2 d hd
      rw [hq] at t1
      cases d <;> first | (simp [ordd] at o1; done) | (simp [tyD] at t1; done) | skip
      rename_i xs
      cases xs with
      | nil => simp [neTup] at n1
      | cons x r => exact ⟨x, r, rfl⟩
    obtain ⟨fs, f1, f2, f3⟩ := firsts_D hr' tup
    obtain ⟨x0, r0, e0⟩ := tup d0 hd0
    have tf : ∀ x r, PyData.tuple (x :: r) ∈ ds → tyD x = tyD x0 ∧ ordd x = true := fun x r hm => by
      have p1 := pairsOk_at ok1 hm hd0
      rw [e0] at p1
      have p2 := p1.2
      have p3 := p1.1
      unfold cmpOk cmpL at p2
      unfold ordd orddL at p3
      rw [Bool.and_eq_true] at p2 p3
      exact ⟨cmp_ty p2.1, p3.1⟩
    refine ⟨tuples' (Value.type (tyD x0) != Value.type "tuple"), fun Q E hq' => PySem.W.kat_kind (s := { s with heap := h' }) (T := .type (tyD x0)) f1 (by omega) (fun f hf => ?_) (by simp) hq', fun p q hp hq' => ?_⟩
    · obtain ⟨x, r, bs, m, k⟩ := f3 f hf
      have := looks_D (M := model prog w) (tf x r m).2 k
      rw [(tf x r m).1] at this
      exact this
    · obtain ⟨d, bs, h1, h3, e1⟩ := at_ _ hp
      obtain ⟨e, cs, k1, k3, e2⟩ := at_ _ hq'
      have goal : (ltv h0 ds p.1 q.1) = ltB d e := by unfold ltv; rw [e1, e2]
      show wpAny (model prog w) A (keyLt' (tuples' _) p.1 q.1) (fun r s' => s' = { s with heap := h' } ∧ r = ltv h0 ds p.1 q.1) _ _
      rw [goal]
      obtain ⟨x, r, rfl⟩ := tup d h1
      obtain ⟨y, t, rfl⟩ := tup e k1
      have o1 := (pairsOk_at ok1 h1 h1).1
      have o2 := (pairsOk_at ok1 k1 k1).1
      have c := (pairsOk_at ok1 h1 k1).2
      have room := rm _ _ h1 k1
      unfold ordd at o1 o2
      unfold cmpOk at c
      unfold ltB
      refine key_D (s := { s with heap := h' }) o1 o2 c (by simp only [PyData.depth] at room; omega) h3 k3 (fun hb x' r' ex => ?_) ⟨rfl, rfl⟩
      cases ex
      have t1 := tf x r h1
      rw [← t1.1] at hb
      have o3 := t1.2
      cases x <;> first | rfl | (simp [ordd] at o3; done) | (simp [tyD] at hb)
  | none =>
    have := (pairsOk_at ok1 hd0 hd0).1
    rw [hq] at this
    simp [ordd] at this
  | bool _ =>
    have := (pairsOk_at ok1 hd0 hd0).1
    rw [hq] at this
    simp [ordd] at this
  | list _ =>
    have := (pairsOk_at ok1 hd0 hd0).1
    rw [hq] at this
    simp [ordd] at this
  | dict _ =>
    have := (pairsOk_at ok1 hd0 hd0).1
    rw [hq] at this
    simp [ordd] at this
end
end DL

namespace DL
open PySem PySem.Spec L2 PyProof.Rows
theorem perm_map {α β : Type} (f : α → β) : ∀ {out : List β} {m : List β}, out.Perm m → ∀ {T : List α}, T.map f = m → ∃ T' : List α, T'.Perm T ∧ T'.map f = out := by
  intro out m p
  induction p with
  | nil =>
    intro T e
    exact ⟨T, List.Perm.refl _, e⟩
  | cons x p ih =>
    intro T e
    cases T with
    | nil => cases e
    | cons t T =>
      rw [List.map_cons] at e
      injection e with e1 e2
      obtain ⟨T', h1, h2⟩ := ih e2
      exact ⟨t :: T', h1.cons t, by rw [List.map_cons, e1, h2]⟩
  | swap x y l =>
    intro T e
    cases T with
    | nil => cases e
    | cons t T =>
      cases T with
      | nil => cases e
      | cons t2 T =>
        rw [List.map_cons, List.map_cons] at e
        injection e with e1 e2
        injection e2 with e2 e3
        exact ⟨t2 :: t :: T, List.Perm.swap t t2 T, by rw [List.map_cons, List.map_cons, e1, e2, e3]⟩
  | trans p1 p2 ih1 ih2 =>
    intro T e
    obtain ⟨T1, h1, h2⟩ := ih2 e
    obtain ⟨T2, h3, h4⟩ := ih1 h2
    exact ⟨T2, h3.trans h1, h4⟩
theorem triples {K : Fg} {J : Hp} {h : Heap} : ∀ {xs : List V} {ds : List D} {its : List Value} {as : List Addr}, Vals xs its → RpAll K J xs ds → ReadsAll h its ds as → ∃ T : List (V × D × Value), T.map (·.1) = xs ∧ T.map (·.2.1) = ds ∧ T.map (·.2.2) = its ∧ ∀ t ∈ T, RelV t.1 t.2.2 ∧ Rp K J t.1 t.2.1 ∧ ∃ bs, Reads h t.2.2 t.2.1 bs
  | _, _, _, _, .nil, .nil, .nil => ⟨[], rfl, rfl, rfl, fun t h => by cases h⟩
  | _, _, _, _, .cons a1 a2, .cons b1 b2, .cons c1 c2 => by
    obtain ⟨T, h1, h2, h3, h4⟩ := triples a2 b2 c2
    refine ⟨(_, _, _) :: T, by rw [List.map_cons, h1], by rw [List.map_cons, h2], by rw [List.map_cons, h3], fun t ht => ?_⟩
    rcases List.mem_cons.mp ht with rfl | ht
    · exact ⟨a1, b1, _, c1⟩
    · exact h4 t ht
theorem vals_T : ∀ {T : List (V × D × Value)}, (∀ t ∈ T, RelV t.1 t.2.2) → Vals (T.map (·.1)) (T.map (·.2.2))
  | [], _ => .nil
  | t :: T, h => .cons (h t (by simp)) (vals_T fun u hu => h u (List.mem_cons_of_mem _ hu))
theorem rps_T {K : Fg} {J : Hp} : ∀ {T : List (V × D × Value)}, (∀ t ∈ T, Rp K J t.1 t.2.1) → RpAll K J (T.map (·.1)) (T.map (·.2.1))
  | [], _ => .nil
  | t :: T, h => .cons (h t (by simp)) (rps_T fun u hu => h u (List.mem_cons_of_mem _ hu))
theorem orddL_all : ∀ {ds : List D}, (∀ x ∈ ds, ordd x = true) → orddL ds = true
  | [], _ => rfl
  | x :: l, h => by
    unfold orddL
    rw [h x (by simp), orddL_all fun y hy => h y (List.mem_cons_of_mem _ hy)]
    rfl
section
variable {X : Cx}
theorem cn_sorted (hu : X.A.units + 64 < cLine) : CallN X (.builtin "sorted") nSorted := by
  intro pins s σ H xs us Q I r h
  obtain ⟨J, dsx, ys, sj, w, e, q⟩ := h
  unfold nSorted at e
  split at e
  · rename_i ds
    split at e
    · rename_i ok
      cases e
      obtain ⟨v, rfl, wv⟩ := wks1 w
      obtain ⟨a, vs, rfl, h1, r1⟩ := wv.list sj
      obtain rfl := Vals.ref1 r
      obtain ⟨its, rv, hl, hz⟩ := I.list h1
      have okk := ok
      unfold srtOk at ok
      simp only [Bool.and_eq_true, decide_eq_true_iff] at ok
      obtain ⟨ok1, ok2, ok3⟩ := ok
      have od : orddL ds = true := orddL_all fun x hx => (pairsOk_at ok1 hx hx).1
      have dp : DpAll X.K H vs ds := rps_dp ds vs (orddL_lay ds od) (dps_mono sj _ _ r1)
      obtain ⟨as, ra⟩ := Dp.readsAll I ds vs its dp rv
      have rdo : ∀ v ∈ its, ∀ d bs, d ∈ ds → Reads s.heap v d bs → SeqAt.readOf s.heap v = d := fun v _ d bs hd hr => SeqAt.readOf_eq (ordd_lay d (pairsOk_at ok1 hd hd).1) hr
      refine SrtO.sorted_ord (ltv_swo s.heap ok1) hl.isList (by rw [← rv.length]; exact hz) (fun h2 h₁ a' ha' kk => ?_) fun out o1 o2 => ?_
      · have ra' : ReadsAll h₁ its ds as := readsAll_keep (fun b o e _ => (kk b o e).2) ds its as od ra
        refine sortable_D (s := { s with heap := h₁ }) s.heap ra' okk (by show X.A.units + 1 + 1 + 60 < cLine; omega) h2 (fun v hv d bs hd hr => ?_) fun o e => ?_
        · obtain ⟨d', cs, hd', hr'⟩ := readsAll_mem ra hv
          have k1 := rdo v hv d' cs hd' hr'
          have k2 : Reads h₁ v d' cs := reads_keep (fun b o e _ => (kk b o e).2) d' v cs (pairsOk_at ok1 hd' hd').1 hr'
          have k3 := SeqAt.readOf_eq (ordd_lay d (pairsOk_at ok1 hd hd).1) hr
          have k4 := SeqAt.readOf_eq (ordd_lay d' (pairsOk_at ok1 hd' hd').1) k2
          rw [k1, ← k4, k3]
        · have e' : some o = some (seqObj "list" its.toArray 0) := e.symm.trans ha'
          cases e'
          intro c
          exact absurd (Value.type.inj c) (by decide)
      · obtain ⟨T, t1, t2, t3, t4⟩ := triples rv r1 ra
        obtain ⟨T', p1, p2⟩ := perm_map (fun t : V × D × Value => t.2.2) o2.perm t3
        have m4 : ∀ t ∈ T', RelV t.1 t.2.2 ∧ Rp X.K J t.1 t.2.1 ∧ ∃ bs, Reads s.heap t.2.2 t.2.1 bs := fun t ht => t4 t (p1.mem_iff.mp ht)
        have mv : Vals (T'.map (·.1)) out := by
          rw [← p2]
          exact vals_T fun t ht => (m4 t ht).1
        have mr : RpAll X.K J (T'.map (·.1)) (T'.map (·.2.1)) := rps_T fun t ht => (m4 t ht).2.1
        have mp : (T'.map (·.2.1)).Perm ds := by
          have := p1.map (·.2.1)
          rw [t2] at this
          exact this
        have ms : SrtB (T'.map (·.2.1)) := by
          rw [← p2] at o1
          have o1 := List.pairwise_map.mp o1
          refine List.pairwise_map.mpr (o1.imp_of_mem fun {t u} ht hu' e => ?_)
          obtain ⟨_, _, bs, hr⟩ := m4 t ht
          obtain ⟨_, _, cs, hr'⟩ := m4 u hu'
          have d1 : t.2.1 ∈ ds := mp.mem_iff.mp (List.mem_map_of_mem ht)
          have d2 : u.2.1 ∈ ds := mp.mem_iff.mp (List.mem_map_of_mem hu')
          unfold ltv at e
          rw [SeqAt.readOf_eq (ordd_lay _ (pairsOk_at ok1 d1 d1).1) hr, SeqAt.readOf_eq (ordd_lay _ (pairsOk_at ok1 d2 d2).1) hr', pick_of d1, pick_of d2] at e
          exact e
        have me : T'.map (·.2.1) = srtB ds := srt_unique (S := fun x => x ∈ ds) (fun x hx => (pairsOk_at ok1 hx hx).1) (fun x y hx hy => (pairsOk_at ok1 hx hy).2) (fun y hy => mp.mem_iff.mp hy) (mp.trans (srtB_perm ds).symm) ms
          (srtB_srt (S := fun x => x ∈ ds) (fun x hx => (pairsOk_at ok1 hx hx).1) (fun x y hx hy => (pairsOk_at ok1 hx hy).2) fun y hy => hy)
        rw [me] at mr
        obtain ⟨ep, he'⟩ := PyProof.Rows.sortedAll_at s.heap its out.toArray
        have hlen : (T'.map (·.1)).length ≤ sizeLine := by
          have e1 := mp.length_eq
          have e2 := dps_len r1
          simp only [List.length_map] at e1 ⊢
          omega
        exact ⟨.ref _, upd H (s.heap.objs.size + 1) (.lst (T'.map (·.1))), I.laid (t' := s.toks) (fun _ _ => PyProof.Rows.sortedAll_old) (Nat.le_succ _) ⟨hlen, _, ep, mv, he'⟩, rfl, q _ _ (I.hok.fresh (Nat.le_succ _)) mr⟩
    · cases e
  · cases e
/-! ### a slice of a list as a list of one's own -/
def nSl : D → Option Int → Option Int → Option (List D)
  | .list xs, lo, hi => some (cutD xs lo hi)
  | _, _, _ => none
@[simp] theorem nSl_l (xs : List D) (lo hi : Option Int) : nSl (.list xs) lo hi = some (cutG xs lo hi) := rfl
@[simp] def nSlc (g : D → Option Int → Option Int → Option (List D)) (fa : EC) (fl fh : Env → Out (Option Int)) (ρ : Env) : Out (List D) := (fa ρ).bind fun x ρ1 => (fl ρ1).bind fun lo ρ2 => (fh ρ2).bind fun hi ρ3 => match deref ρ3 x with
  | some dx => match g dx lo hi with
    | some d => .ok d ρ3
    | none => .bad
  | none => .bad
def rSN (K : Fg) (g : D → Option Int → Option Int → Option (List D)) : V → Option Int → Option Int → Hp → VK → Prop := fun x lo hi H Q => ∃ J dx xs, Same J H ∧ Wk K J H x dx ∧ g dx lo hi = some xs ∧ ∀ p us, H p = none → RpAll K J us xs → Q (.ref p) (upd H p (.lst us))
theorem osl_n : SlR X (rSN X.K nSl) := fun pins s σ H x v vl vu lo hi sl Q I rx hs pl pu ⟨J, dx, xs, sj, wx, e, q⟩ => by
  refine sl_list pins s σ H x v vl vu lo hi sl Q I rx hs pl pu ?_
  unfold nSl at e
  split at e
  · cases e
    obtain ⟨a, vs, rfl, h1, r1⟩ := wx.list sj
    exact ⟨a, vs, rfl, h1, fun p hp => q p _ hp (cut_dps lo hi r1)⟩
  · cases e
theorem dn_sl {Y : Yx} {a : Expr} {pos : Pos} {g : D → Option Int → Option Int → Option (List D)} {fo : EC} {lo hi : Option Expr} {fl fh : Env → Out (Option Int)} {p2 : Pos} (hr : SlR X (rSN X.K g)) (ha : DE X Y a fo) (hl : DO X Y lo fl) (hu : DO X Y hi fh) : DN X Y (.Subscript a (.Slice lo hi none p2) pos) (nSlc g fo fl fh) := by
  refine PE.imp (pe_slice hr ha hl hu) fun σ H Q ⟨G, J, ρ, er, h⟩ => ⟨G, J, ρ, er, PostN.of h fun x ρ1 v J1 H1 s1 r1 e1 h1 => ⟨G, J1, ρ1, e1, PostN.of h1 fun l ρ2 w J2 H2 s2 r2 e2 h2 => ⟨G, J2, ρ2, e2, PostN.of h2 fun u ρ3 w3 J3 H3 s3 r3 e3 h3 => ?_⟩⟩⟩
  cases r2
  cases r3
  split at h3
  · rename_i dx d1
    split at h3
    · rename_i d h4
      exact ⟨J3, dx, d, e3.ex, deref_ok e3 ((r1.mono s2).mono s3) d1, h4, fun p us hp r => h3.now e3 hp r⟩
    · exact h3.elim
  · exact h3.elim
end
/-! ### what is sorted, in plain words -/
theorem ordd_tx (l : Tx) : ordd (.str (tx l)) = true := by
  have := coTx.sh (by decide) l
  unfold SeqAt.shaped at this
  rw [Bool.and_eq_true] at this
  have h := this.1
  show PyData.strOk (tx l) = true
  have e : (PyData.str (tx l)).canLay0 = true := h
  simpa [PyData.canLay0] using e
theorem ordd_int (i : Int) : ordd (.int i) = true := rfl
theorem orddL_ints (l : List Int) : orddL (l.map .int) = true := orddL_all fun x hx => by
  obtain ⟨i, _, rfl⟩ := List.mem_map.mp hx
  rfl
theorem cmpL_ints : ∀ l m : List Int, cmpL (l.map .int) (m.map .int) = true
  | [], _ => by simp [cmpL]
  | _ :: _, [] => by simp [cmpL]
  | a :: l, b :: m => by
    have := cmpL_ints l m
    simp [cmpL, cmpOk, this]
theorem dep_ints : ∀ l : List Int, PyData.depthAll (l.map .int) = 0
  | [] => by simp [PyData.depthAll]
  | a :: l => by
    have := dep_ints l
    simp [PyData.depthAll, PyData.depth, this]
theorem depAll_le {n : Nat} : ∀ {ds : List D}, (∀ d ∈ ds, d.depth ≤ n) → PyData.depthAll ds ≤ n
  | [], _ => by simp [PyData.depthAll]
  | x :: l, h => by
    have h1 := h x (by simp)
    have h2 := depAll_le fun y hy => h y (List.mem_cons_of_mem _ hy)
    simp only [PyData.depthAll]
    omega
theorem srtOk_of {ds : List D} (h1 : ∀ x ∈ ds, ordd x = true) (h2 : ∀ x ∈ ds, ∀ y ∈ ds, cmpOk x y = true) (h3 : ∀ x ∈ ds, neTup x = true) (h4 : ∀ x ∈ ds, x.depth ≤ 60) : srtOk ds = true := by
  unfold srtOk pairsOk
  rw [Bool.and_eq_true, Bool.and_eq_true, decide_eq_true_iff]
  exact ⟨List.all_eq_true.mpr fun x hx => by rw [Bool.and_eq_true]; exact ⟨h1 x hx, List.all_eq_true.mpr fun y hy => h2 x hx y hy⟩, List.all_eq_true.mpr h3, depAll_le h4⟩
theorem srtOk_ints (l : List Int) : srtOk (l.map .int) = true := srtOk_of (fun x hx => by
    obtain ⟨i, _, rfl⟩ := List.mem_map.mp hx
    rfl) (fun x hx y hy => by
    obtain ⟨i, _, rfl⟩ := List.mem_map.mp hx
    obtain ⟨j, _, rfl⟩ := List.mem_map.mp hy
    rfl) (fun x hx => by
    obtain ⟨i, _, rfl⟩ := List.mem_map.mp hx
    rfl) (fun x hx => by
    obtain ⟨i, _, rfl⟩ := List.mem_map.mp hx
    simp [PyData.depth])
theorem srtOk_txs (l : List Tx) : srtOk (l.map fun x => .str (tx x)) = true := srtOk_of (fun x hx => by
    obtain ⟨i, _, rfl⟩ := List.mem_map.mp hx
    exact ordd_tx i) (fun x hx y hy => by
    obtain ⟨i, _, rfl⟩ := List.mem_map.mp hx
    obtain ⟨j, _, rfl⟩ := List.mem_map.mp hy
    rfl) (fun x hx => by
    obtain ⟨i, _, rfl⟩ := List.mem_map.mp hx
    rfl) (fun x hx => by
    obtain ⟨i, _, rfl⟩ := List.mem_map.mp hx
    simp [PyData.depth])
/-- a sorted image is the image of some list of the same items -/
theorem srtB_map {α : Type} (f : α → D) (l : List α) : ∃ m : List α, m.Perm l ∧ srtB (l.map f) = m.map f := by
  obtain ⟨m, h1, h2⟩ := perm_map f (srtB_perm (l.map f)) rfl
  exact ⟨m, h1, h2.symm⟩
end DL

namespace DL
open PySem PySem.Spec L2 PyProof.Rows
/-! ### sorted(x), whatever x is gathered from -/
theorem sorted_gen {prog : Program} {w : World} {A : Around} {E : Value → Shared → Prop} {s : Shared} {r : Addr} {Q : Value → Shared → Prop} {Pv : List Value → Prop}
    (hcol : ∀ (R : List Value → Shared → Prop) (E : Value → Shared → Prop), (∀ (h' : Heap) (tk : Nat) (vs : List Value), (∀ b o, s.heap.get? b = some o → h'.get? b = some o) → Pv vs → R vs { s with heap := h', toks := tk }) → wpAny (model prog w) A.in1 (collect (.ref r)) R E s)
    (fin : ∀ (tk : Nat) (vs : List Value), Pv vs → vs.length ≤ sizeLine ∧ ∃ ltv : Value → Value → Bool, SrtO.Swo ltv ∧
      (2 ≤ vs.length → ∀ (h₁ : Heap) (a : Addr), h₁.get? a = some (seqObj "list" vs.toArray 0) → (∀ b o, s.heap.get? b = some o → b ≠ a ∧ h₁.get? b = some o) → SrtO.SortableO prog w A.in1.in1 { s with heap := h₁, toks := tk } a vs ltv) ∧
      ∀ (out : List Value) (h2 : Heap) (D : Addr), SrtO.Srtd ltv out → SrtO.Stb ltv out vs → (∀ b o, s.heap.get? b = some o → h2.get? b = some o) → s.heap.get? D = none → (∃ ep, h2.get? D = some (seqObj "list" out.toArray ep)) → Q (.ref D) { s with heap := h2, toks := tk }) :
    wpAny (model prog w) A (call (.builtin "sorted") [.ref r]) Q E s := by
  refine Calls.call_function_entry kind_sorted plain_sorted entry_sorted (args_sorted1 _) ?_
  unfold Builtin.«sorted»
  refine wpAny_bind (m := checkCount "sorted" 1 1 _) (wpAny_pure ?_)
  refine wpAny_bind (hcol _ _ fun h' tk vs hk hv => ?_)
  obtain ⟨hz, ltv, O, hS, hf⟩ := fin tk vs hv
  refine wpAny_bind (wpAny_newList ?_ hz)
  have hoL : (h'.push (seqObj "list" vs.toArray 0)).get? h'.objs.size = some (seqObj "list" vs.toArray 0) := Heap.get?_push_size _ rfl
  have szl : ∀ b o, s.heap.get? b = some o → b < h'.objs.size := fun b o e => Heap.lt_size (hk b o e)
  have keep : ∀ b o, s.heap.get? b = some o → b ≠ h'.objs.size ∧ (h'.push (seqObj "list" vs.toArray 0)).get? b = some o := fun b o e => ⟨Nat.ne_of_lt (szl b o e), Heap.get?_push_of_some _ (hk b o e)⟩
  show wpAny _ _ _ _ _ { s with heap := h'.push (seqObj "list" vs.toArray 0), toks := tk }
  refine wpAny_bind (wpAny_holding (wpAny_call_entry slot_list_sort ⟨_, hoL, rfl⟩ entry_list_sort (SrtO.list_sort_ord (s := { s with heap := h'.push (seqObj "list" vs.toArray 0), toks := tk }) O hoL hz (fun h2 => hS h2 _ _ hoL keep) fun out hs hb => ⟨_, rfl, ?_⟩) (args_list_sort _)))
  refine wpAny_pure ⟨_, rfl, ?_⟩
  refine hf out _ _ hs hb (fun b o e => ?_) ?_ (sortedHeap_at hoL)
  · rw [sortedHeap_old (keep b o e).1 (Heap.lt_size (keep b o e).2)]
    exact (keep b o e).2
  · cases e : s.heap.get? h'.objs.size with
    | none => rfl
    | some o => exact absurd rfl (keep _ o e).1
/-- what nSorted needs of the items -/
theorem sorted_fin {X : Cx} {pins : List (Addr × Obj)} {σ : L2.St} {H J : Hp} {s : Shared} {Q : VK} (I : Inv X pins σ H s) (hu : X.A.units + 64 < cLine) {xs : List V} {ds : List D} {its : List Value} {as : List Addr} (ok : srtOk ds = true) (r1 : RpAll X.K J xs ds) (rv : Vals xs its) (ra : ReadsAll s.heap its ds as) (hz : xs.length ≤ sizeLine)
    (q : ∀ p us, H p = none → RpAll X.K J us (srtB ds) → Q (.ref p) (upd H p (.lst us))) (tk : Nat) : its.length ≤ sizeLine ∧ ∃ ltv : Value → Value → Bool, SrtO.Swo ltv ∧
      (2 ≤ its.length → ∀ (h₁ : Heap) (a : Addr), h₁.get? a = some (seqObj "list" its.toArray 0) → (∀ b o, s.heap.get? b = some o → b ≠ a ∧ h₁.get? b = some o) → SrtO.SortableO X.prog X.w X.A.in1.in1 { s with heap := h₁, toks := tk } a its ltv) ∧
      ∀ (out : List Value) (h2 : Heap) (dd : Addr), SrtO.Srtd ltv out → SrtO.Stb ltv out its → (∀ b o, s.heap.get? b = some o → h2.get? b = some o) → s.heap.get? dd = none → (∃ ep, h2.get? dd = some (seqObj "list" out.toArray ep)) → EP X pins σ Q (.ref dd) { s with heap := h2, toks := tk } := by
  have okk := ok
  unfold srtOk at ok
  simp only [Bool.and_eq_true, decide_eq_true_iff] at ok
  obtain ⟨ok1, ok2, ok3⟩ := ok
  have od : orddL ds = true := orddL_all fun x hx => (pairsOk_at ok1 hx hx).1
  have rdo : ∀ v ∈ its, ∀ d bs, d ∈ ds → Reads s.heap v d bs → SeqAt.readOf s.heap v = d := fun v _ d bs hd hr => SeqAt.readOf_eq (ordd_lay d (pairsOk_at ok1 hd hd).1) hr
  refine ⟨by rw [← rv.length]; exact hz, ltv s.heap ds, ltv_swo s.heap ok1, fun h2 h₁ a' ha' kk => ?_, fun out h2 dd o1 o2 hk hD ⟨ep, he'⟩ => ?_⟩
  · have ra' : ReadsAll h₁ its ds as := readsAll_keep (fun b o e _ => (kk b o e).2) ds its as od ra
    refine sortable_D (s := { s with heap := h₁, toks := tk }) s.heap ra' okk (by show X.A.units + 1 + 1 + 60 < cLine; omega) h2 (fun v hv d bs hd hr => ?_) fun o e => ?_
    · obtain ⟨d', cs, hd', hr'⟩ := readsAll_mem ra hv
      have k1 := rdo v hv d' cs hd' hr'
      have k2 : Reads h₁ v d' cs := reads_keep (fun b o e _ => (kk b o e).2) d' v cs (pairsOk_at ok1 hd' hd').1 hr'
      have k3 := SeqAt.readOf_eq (ordd_lay d (pairsOk_at ok1 hd hd).1) hr
      have k4 := SeqAt.readOf_eq (ordd_lay d' (pairsOk_at ok1 hd' hd').1) k2
      rw [k1, ← k4, k3]
    · have e' : some o = some (seqObj "list" its.toArray 0) := e.symm.trans ha'
      cases e'
      intro c
      exact absurd (Value.type.inj c) (by decide)
  · obtain ⟨T, t1, t2, t3, t4⟩ := triples rv r1 ra
    obtain ⟨T', p1, p2⟩ := perm_map (fun t : V × D × Value => t.2.2) o2.perm t3
    have m4 : ∀ t ∈ T', RelV t.1 t.2.2 ∧ Rp X.K J t.1 t.2.1 ∧ ∃ bs, Reads s.heap t.2.2 t.2.1 bs := fun t ht => t4 t (p1.mem_iff.mp ht)
    have mv : Vals (T'.map (·.1)) out := by
      rw [← p2]
      exact vals_T fun t ht => (m4 t ht).1
    have mr : RpAll X.K J (T'.map (·.1)) (T'.map (·.2.1)) := rps_T fun t ht => (m4 t ht).2.1
    have mp : (T'.map (·.2.1)).Perm ds := by
      have := p1.map (·.2.1)
      rw [t2] at this
      exact this
    have ms : SrtB (T'.map (·.2.1)) := by
      rw [← p2] at o1
      have o1 := List.pairwise_map.mp o1
      refine List.pairwise_map.mpr (o1.imp_of_mem fun {t u} ht hu' e => ?_)
      obtain ⟨_, _, bs, hr⟩ := m4 t ht
      obtain ⟨_, _, cs, hr'⟩ := m4 u hu'
      have d1 : t.2.1 ∈ ds := mp.mem_iff.mp (List.mem_map_of_mem ht)
      have d2 : u.2.1 ∈ ds := mp.mem_iff.mp (List.mem_map_of_mem hu')
      unfold ltv at e
      rw [SeqAt.readOf_eq (ordd_lay _ (pairsOk_at ok1 d1 d1).1) hr, SeqAt.readOf_eq (ordd_lay _ (pairsOk_at ok1 d2 d2).1) hr', pick_of d1, pick_of d2] at e
      exact e
    have me : T'.map (·.2.1) = srtB ds := srt_unique (S := fun x => x ∈ ds) (fun x hx => (pairsOk_at ok1 hx hx).1) (fun x y hx hy => (pairsOk_at ok1 hx hy).2) (fun y hy => mp.mem_iff.mp hy) (mp.trans (srtB_perm ds).symm) ms
      (srtB_srt (S := fun x => x ∈ ds) (fun x hx => (pairsOk_at ok1 hx hx).1) (fun x y hx hy => (pairsOk_at ok1 hx hy).2) fun y hy => hy)
    rw [me] at mr
    have hlen : (T'.map (·.1)).length ≤ sizeLine := by
      have e1 := mp.length_eq
      have e2 := dps_len r1
      simp only [List.length_map] at e1 ⊢
      omega
    have hn : H dd = none := I.hok.gone hD
    exact ⟨.ref dd, upd H dd (.lst (T'.map (·.1))), I.laidN (t' := tk) hk hD hn ⟨hlen, _, ep, mv, he'⟩, rfl, q _ _ hn mr⟩
def nSorted2 : List D → Option (List D)
  | [.list ds] => if srtOk ds = true then some (srtB ds) else none
  | [.tuple ds] => if srtOk ds = true then some (srtB ds) else none
  | _ => none
@[simp] theorem nSorted2_l (ds : List D) : nSorted2 [.list ds] = if srtOk ds = true then some (srtB ds) else none := rfl
@[simp] theorem nSorted2_t (ds : List D) : nSorted2 [.tuple ds] = if srtOk ds = true then some (srtB ds) else none := rfl
section
variable {X : Cx}
theorem cn_sorted2 (hu : X.A.units + 64 < cLine) : CallN X (.builtin "sorted") nSorted2 := by
  intro pins s σ H xs us Q I r ⟨J, dsx, ys, sj, w, e, q⟩
  unfold nSorted2 at e
  split at e
  · rename_i ds
    split at e
    · rename_i ok
      exact cn_sorted hu pins s σ H xs us Q I r ⟨J, _, ys, sj, w, by rw [nSorted_l, if_pos ok]; exact e, q⟩
    · cases e
  · rename_i ds
    split at e
    · rename_i ok
      cases e
      obtain ⟨v, rfl, wv⟩ := wks1 w
      obtain ⟨a, vs, rfl, h1, r1, _⟩ := wv.tup sj
      obtain rfl := Vals.ref1 r
      obtain ⟨its, rv, ht, hz⟩ := I.tuple h1
      obtain ⟨o, ho, hc, n, hd⟩ := id ht
      have ok1 : pairsOk ds = true := by
        unfold srtOk at ok
        rw [Bool.and_eq_true] at ok
        exact ok.1
      have od : orddL ds = true := orddL_all fun x hx => (pairsOk_at ok1 hx hx).1
      have dp : DpAll X.K H vs ds := rps_dp ds vs (orddL_lay ds od) (dps_mono sj _ _ r1)
      obtain ⟨as, ra⟩ := Dp.readsAll I ds vs its dp rv
      refine sorted_gen (Pv := fun v => v = its) (fun R E hR => ?_) fun tk vs' hv => ?_
      · refine wpAny_collect_seq a (.inr rfl) ho hc hd (fun h' hk => ?_) (by rw [List.size_toArray, ← rv.length]; exact hz)
        rw [List.toList_toArray]
        exact hR h' s.toks its hk rfl
      · subst hv
        exact sorted_fin I hu ok r1 rv ra hz q tk
    · cases e
  · cases e
end
end DL

namespace DL
open PySem PySem.Spec L2 PyProof.Rows
/-! ### dicts of one's own: keys ints or texts, values plain data -/
def keyOf : D → Option Key
  | .int i => some (.inl i)
  | .str x => some (.inr x)
  | _ => none
@[simp] theorem keyOf_int (i : Int) : keyOf (.int i) = some (.inl i) := rfl
@[simp] theorem keyOf_str (x : Str) : keyOf (.str x) = some (.inr x) := rfl
def keyD : Key → D
  | .inl i => .int i
  | .inr x => .str x
def getK (kvs : List (Key × D)) (k : Key) : Option D := (kvs.find? fun p => decide (p.1 = k)).map (·.2)
def putKD (kvs : List (Key × D)) (k : Key) (v : D) : List (Key × D) :=
  if (kvs.any fun p => decide (p.1 = k)) = true then kvs.map (fun p => if p.1 = k then (p.1, v) else p) else kvs ++ [(k, v)]
section
variable {K : Fg} {J : Hp}
theorem KvAll.get {vs : List (Key × V)} {ds : List (Key × D)} (h : KvAll K J vs ds) (k : Key) : (valV vs k = none ∧ getK ds k = none) ∨ ∃ v d, valV vs k = some v ∧ getK ds k = some d ∧ Rp K J v d := by
  induction h with
  | nil => exact .inl ⟨rfl, rfl⟩
  | @cons k' v d vs ds r _ ih =>
    by_cases e : k' = k
    · exact .inr ⟨v, d, valV_pos (p := (k', v)) e, by simp [getK, List.find?_cons, e], r⟩
    · rw [valV_neg (p := (k', v)) e]
      have : getK ((k', d) :: ds) k = getK ds k := by simp [getK, List.find?_cons, e]
      rw [this]
      exact ih
theorem KvAll.any {vs : List (Key × V)} {ds : List (Key × D)} (h : KvAll K J vs ds) (k : Key) : (vs.any fun p => decide (p.1 = k)) = (ds.any fun p => decide (p.1 = k)) := by
  induction h with
  | nil => rfl
  | cons r _ ih => simp only [List.any_cons, ih]
theorem KvAll.mapK {vs : List (Key × V)} {ds : List (Key × D)} (h : KvAll K J vs ds) (k : Key) {v : V} {d : D} (r : Rp K J v d) : KvAll K J (vs.map fun p => if p.1 = k then (p.1, v) else p) (ds.map fun p => if p.1 = k then (p.1, d) else p) := by
  induction h with
  | nil => exact .nil
  | @cons k' v' d' vs ds r' _ ih =>
    rw [List.map_cons, List.map_cons]
    by_cases e : k' = k
    · rw [if_pos e, if_pos e]
      exact .cons r ih
    · rw [if_neg e, if_neg e]
      exact .cons r' ih
theorem KvAll.snoc {vs : List (Key × V)} {ds : List (Key × D)} (h : KvAll K J vs ds) (k : Key) {v : V} {d : D} (r : Rp K J v d) : KvAll K J (vs ++ [(k, v)]) (ds ++ [(k, d)]) := by
  induction h with
  | nil => exact .cons r .nil
  | cons r' _ ih => exact .cons r' ih
theorem KvAll.put {vs : List (Key × V)} {ds : List (Key × D)} (h : KvAll K J vs ds) (k : Key) {v : V} {d : D} (r : Rp K J v d) : KvAll K J (putK vs k v) (putKD ds k d) := by
  unfold putK putKD
  rw [h.any k]
  split
  · exact h.mapK k r
  · exact h.snoc k r
theorem KvAll.leng {vs : List (Key × V)} {ds : List (Key × D)} (h : KvAll K J vs ds) : vs.length = ds.length := by
  induction h with
  | nil => rfl
  | cons _ _ ih => simp [ih]
theorem KvAll.keys {vs : List (Key × V)} {ds : List (Key × D)} (h : KvAll K J vs ds) : vs.map (·.1) = ds.map (·.1) := by
  induction h with
  | nil => rfl
  | cons _ _ ih => simp [ih]
theorem keyOf_rp {v : V} {d : D} {k : Key} (h : keyOf d = some k) (r : Rp K J v d) : v = kV k := by
  unfold keyOf at h
  split at h
  · cases h
    cases r
    rfl
  · cases h
    cases r
    rfl
  · cases h
theorem dct_at {G : Gd} {H : Hp} {σ : L2.St} {ρ : Env} {i : Nat} {fx : Bool} {kvs : List (Key × D)} (e : ER K G J H σ ρ) (hi : ρ[i]? = some (.own fx (.dct kvs))) : ∃ a vs, σ[i]? = some (some (.ref a)) ∧ H a = some (.dK vs) ∧ KvAll K J vs kvs ∧ J a = none := by
  obtain ⟨fs, hs, _, q⟩ := e.ft
  obtain ⟨y, f, e1, e2, so⟩ := hs.get hi
  cases so with
  | own ho =>
    obtain ⟨a, vs, ef, ha, hd⟩ := ho
    injection ef with ea er
    subst ea er
    exact ⟨_, vs, e1, ha, hd, (q _ (List.mem_of_getElem? e2) _ (by simp)).1⟩
end
/-- {} in a slot -/
@[simp] def sNewD (i : Nat) (ρ : Env) : SO := if loose ρ i = true then .nx (ρ.set i (.own false (.dct []))) else .bad
/-- x[k] -/
@[simp] def eGetD (i : Nat) (fe : EC) (ρ : Env) : Out VV := match ρ[i]? with
  | some (.own _ (.dct _)) => (fe ρ).bind fun y ρ1 => match deref ρ1 y, ρ1[i]? with
    | some d, some (.own _ (.dct kvs)) => match keyOf d with
      | some k => match getK kvs k with
        | some v => .ok (.val v) ρ1
        | none => .bad
      | none => .bad
    | _, _ => .bad
  | _ => .bad
/-- k in x -/
@[simp] def eInD (b : Bool) (i : Nat) (fe : EC) (ρ : Env) : Out VV := (fe ρ).bind fun y ρ1 => match deref ρ1 y, ρ1[i]? with
    | some d, some (.own _ (.dct kvs)) => match keyOf d with
      | some k => .ok (.val (.bool (if b = true then (getK kvs k).isSome else !(getK kvs k).isSome))) ρ1
      | none => .bad
    | _, _ => .bad
/-- x[k] = v -/
@[simp] def sPutD (i : Nat) (fk fv : EC) (ρ : Env) : SO := (fv ρ).then fun y ρ1 => match keepV ρ1 y with
  | some (d, ρ2) => match ρ2[i]? with
    | some (.own _ (.dct _)) => (fk ρ2).then fun z ρ3 => match deref ρ3 z, ρ3[i]? with
      | some dk, some (.own fx (.dct kvs)) => match keyOf dk with
        | some k => if kvs.length < sizeLine then .nx (ρ3.set i (.own fx (.dct (putKD kvs k d)))) else .bad
        | none => .bad
      | _, _ => .bad
    | _ => .bad
  | none => .bad
section
variable {X : Cx} {Y : Yx} {a b c e : Expr} {pos : Pos}
theorem ds_newD (i : Nat) {x : Str} {p dpos : Pos} (hN : X.N.Nodup) (hi : X.N[i]? = some x := by rfl) (hx : Loc X.env.scope x := by first | exact Or.inl rfl | exact Or.inr rfl)
    (hf : X.fn x = true ∨ X.env.scope.names.lookup x = some .local := by first | exact .inl rfl | exact .inr rfl | assumption) (hs : swapsWithSole [.Name x p] (.Dict [] [] dpos) pos.line X.env = pure false := by rfl) (hw : swappedStores [.Name x p] (.Dict [] [] dpos) X.env = pure none := by rfl)
    (h1 : (assignEach [.Name x p] X.env).map (·.2) = [assign (.Name x p) X.env] := by rfl) : DS X Y (.Assign [.Name x p] (.Dict [] [] dpos) pos) (sNewD i) := by
  refine PS.imp (ps_asg pe_dnewK (pg_name hN hi hx hf) hs hw h1) fun D σ H ⟨G, J, ρ, er, hp⟩ q hq => ?_
  unfold sNewD at hp
  split at hp
  · rename_i hl
    exact hp _ J _ (.refl _) (er.setO hq hl ⟨q, [], rfl, upd_same, .nil⟩)
  · exact hp.elim
theorem wk_key {K : Fg} {J H : Hp} {v : V} {d : D} {k : Key} (h : keyOf d = some k) (w : Wk K J H v d) : v = kV k := by
  rcases w with w | ⟨_, _, _, _, rfl, _⟩
  · exact keyOf_rp h w
  · cases h
theorem de_getD (i : Nat) {x : Str} {p : Pos} {fe : EC} (hu : X.A.units + 1 < cLine) (he : DE X Y e fe) (hN : X.N[i]? = some x := by rfl) (hv : Vis X.env.scope x := by first | exact Or.inl rfl | exact Or.inr (Or.inl rfl) | exact Or.inr (Or.inr rfl)) (hd : (x == ("__debug__" : Str)) = false := by decide)
    (hcd : (x == ("__classdict__" : Str)) = false := by decide) (hsl : NoSl e := by exact fun _ _ => rfl) : DE X Y (.Subscript (.Name x p) e pos) (eGetD i fe) := by
  refine PE.imp (pe_dget hu (pe_var (i := i) hN hv hd hcd) he hsl) fun σ H Q ⟨G, J, ρ, er, h⟩ => ?_
  unfold eGetD at h
  split at h
  · rename_i fx0 kvs0 hi0
    obtain ⟨a, vs, q1, q2, q3, _⟩ := dct_at er hi0
    refine ⟨_, q1, G, J, ρ, er, Post.bind h fun y ρ1 w J1 H1 s1 r1 e1 h1 => ?_⟩
    split at h1
    · rename_i d fx kvs hdr hi
      split at h1
      · rename_i k hk
        split at h1
        · rename_i v hg
          obtain ⟨a2, vs2, k1, k2, k3, _⟩ := dct_at e1 hi
          rw [q1] at k1
          cases k1
          have hw := wk_key hk (deref_ok e1 r1 hdr)
          subst hw
          rcases k3.get k with ⟨_, n⟩ | ⟨v', d', g1, g2, g3⟩
          · rw [n] at hg
            cases hg
          · rw [g2] at hg
            cases hg
            exact ⟨a, v', rfl, by rw [← g1]; exact DGet.k k2, h1.now g3 e1⟩
        · exact h1.elim
      · exact h1.elim
    · exact h1.elim
  · exact h.elim
theorem in_end {K : Fg} {b : Bool} {i : Nat} {σ : L2.St} {G : Gd} {J1 H1 : Hp} {ρ1 : Env} {y : VV} {w : V} {Q : VK} (r1 : RV K σ J1 w y) (e1 : ER K G J1 H1 σ ρ1)
    (h1 : Post K Y G J1 σ (RV K σ) (match deref ρ1 y, ρ1[i]? with
    | some d, some (.own _ (.dct kvs)) => match keyOf d with
      | some k => .ok (.val (.bool (if b = true then (getK kvs k).isSome else !(getK kvs k).isSome))) ρ1
      | none => .bad
    | _, _ => .bad) Q) : ∃ v, σ[i]? = some (some v) ∧ ∃ a o, v = .ref a ∧ DGet H1 a w o ∧ Q (.bl (if b = true then o.isSome else !o.isSome)) H1 := by
  split at h1
  · rename_i d fx kvs hdr hi
    split at h1
    · rename_i k hk
      obtain ⟨a2, vs2, k1, k2, k3, _⟩ := dct_at e1 hi
      have hw := wk_key hk (deref_ok e1 r1 hdr)
      subst hw
      refine ⟨_, k1, a2, valV vs2 k, rfl, DGet.k k2, ?_⟩
      have e : (valV vs2 k).isSome = (getK kvs k).isSome := by
        rcases k3.get k with ⟨n1, n2⟩ | ⟨v', d', g1, g2, g3⟩
        · rw [n1, n2]; rfl
        · rw [g1, g2]; rfl
      rw [e]
      exact h1.now (.bl _) e1
    · exact h1.elim
  · exact h1.elim
theorem de_inD (i : Nat) {x : Str} {p : Pos} {fe : EC} (hu : X.A.units + 1 < cLine) (he : DE X Y e fe) (hN : X.N[i]? = some x := by rfl) (hv : Vis X.env.scope x := by first | exact Or.inl rfl | exact Or.inr (Or.inl rfl) | exact Or.inr (Or.inr rfl)) (hd : (x == ("__debug__" : Str)) = false := by decide)
    (hcd : (x == ("__classdict__" : Str)) = false := by decide) : DE X Y (.Compare e [.In] [.Name x p] pos) (eInD true i fe) := by
  refine PE.imp (pe_cmp (pc_din hu he (pe_var (i := i) hN hv hd hcd))) fun σ H Q ⟨G, J, ρ, er, h⟩ => ⟨G, J, ρ, er, Post.bind h fun y ρ1 w J1 H1 s1 r1 e1 h1 => in_end r1 e1 h1⟩
theorem de_notInD (i : Nat) {x : Str} {p : Pos} {fe : EC} (hu : X.A.units + 1 < cLine) (he : DE X Y e fe) (hN : X.N[i]? = some x := by rfl) (hv : Vis X.env.scope x := by first | exact Or.inl rfl | exact Or.inr (Or.inl rfl) | exact Or.inr (Or.inr rfl)) (hd : (x == ("__debug__" : Str)) = false := by decide)
    (hcd : (x == ("__classdict__" : Str)) = false := by decide) : DE X Y (.Compare e [.NotIn] [.Name x p] pos) (eInD false i fe) := by
  refine PE.imp (pe_cmp (pc_dnotin hu he (pe_var (i := i) hN hv hd hcd))) fun σ H Q ⟨G, J, ρ, er, h⟩ => ⟨G, J, ρ, er, Post.bind h fun y ρ1 w J1 H1 s1 r1 e1 h1 => in_end r1 e1 h1⟩
theorem ds_putD (i : Nat) {x : Str} {ix : Expr} {fk fv : EC} {p tpos : Pos} (hu : X.A.units + 1 < cLine) (hv : DE X Y e fv) (hx : DE X Y ix fk) (hN : X.N[i]? = some x := by rfl) (hvis : Vis X.env.scope x := by first | exact Or.inl rfl | exact Or.inr (Or.inl rfl) | exact Or.inr (Or.inr rfl))
    (hd : (x == ("__debug__" : Str)) = false := by decide) (hcd : (x == ("__classdict__" : Str)) = false := by decide) (hs : swapsWith e (some (.Subscript (.Name x p) ix tpos)) pos.line X.env = pure false := by rfl) :
    DS X Y (.Assign [.Subscript (.Name x p) ix tpos] e pos) (sPutD i fk fv) := by
  refine PS.imp (ps_dput hu (pe_var (i := i) hN hvis hd hcd) hx hv hs) fun D σ H ⟨G, J, ρ, er, h⟩ => ⟨G, J, ρ, er, Post.then h fun y ρ1 v J1 H1 s1 r1 e1 hp => ?_⟩
  split at hp
  · rename_i d ρ2 hk
    obtain ⟨J2, s2, r2, e2⟩ := keep_ok e1 r1 hk
    split at hp
    · rename_i fx0 kvs0 hi0
      obtain ⟨a, vs, q1, q2, q3, _⟩ := dct_at e2 hi0
      refine ⟨_, q1, G, J2, ρ2, e2, Post.then (SPost.mono s2 hp) fun z ρ3 w J3 H3 s3 r3 e3 hp3 => ?_⟩
      split at hp3
      · rename_i dk fx kvs hdr hi3
        split at hp3
        · rename_i k hk3
          split at hp3
          · rename_i hl
            obtain ⟨a3, vs3, k1, k2, k3, k4⟩ := dct_at e3 hi3
            rw [q1] at k1
            cases k1
            have hw := wk_key hk3 (deref_ok e3 r3 hdr)
            subst hw
            exact ⟨a, _, rfl, DPut.k k2 (by rw [k3.leng]; exact hl), hp3 _ J3 _ (.refl _) (e3.mutA hi3 q1 ⟨a, vs3, rfl, k2, k3⟩ k4 ⟨a, _, rfl, upd_same, k3.put k (dp_mono s3 _ _ r2)⟩)⟩
          · exact hp3.elim
        · exact hp3.elim
      · exact hp3.elim
    · exact hp.elim
  · exact hp.elim
end
end DL

namespace DL
open PySem PySem.Spec L2 PyProof.Rows
/-! ### sorted(a dict): its keys -/
theorem rp_key {K : Fg} {J : Hp} (k : Key) : Rp K J (kV k) (keyD k) := by
  cases k with
  | inl i => exact .int i
  | inr x => exact .str x
theorem rps_keys {K : Fg} {J : Hp} : ∀ ks : List Key, RpAll K J (ks.map kV) (ks.map keyD)
  | [] => .nil
  | k :: ks => .cons (rp_key k) (rps_keys ks)
theorem reads_key {h : Heap} {k : Key} {u : Value} (r : RelV (kV k) u) : Reads h u (keyD k) [] := by
  cases k with
  | inl i =>
    obtain ⟨t, rfl⟩ := r
    exact .int i t
  | inr x =>
    obtain ⟨t, rfl⟩ := r
    exact .str x t
theorem reads_keys {h : Heap} : ∀ {ks : List Key} {us : List Value}, Vals (ks.map kV) us → ReadsAll h us (ks.map keyD) []
  | [], _, .nil => .nil
  | k :: ks, _, .cons r t => by
    have := ReadsAll.cons (reads_key (h := h) r) (reads_keys t)
    simpa using this
def rSrtD (K : Fg) : List V → Hp → VK → Prop := fun vs H Q => ∃ (J : Hp) (a : Addr) (kvs : List (Key × V)), vs = [.ref a] ∧ H a = some (.dK kvs) ∧ srtOk (kvs.map fun p => keyD p.1) = true ∧ ∀ p us, H p = none → RpAll K J us (srtB (kvs.map fun p => keyD p.1)) → Q (.ref p) (upd H p (.lst us))
theorem vals_of_at : ∀ (ks : List Key) (us : List Value), us.length = ks.length → (∀ (j : Nat) (u : Value), us[j]? = some u → ∃ k, ks[j]? = some k ∧ RelV (kV k) u) → Vals (ks.map kV) us
  | [], [], _, _ => .nil
  | [], _ :: _, h, _ => by simp at h
  | _ :: _, [], h, _ => by simp at h
  | k :: ks, u :: us, hl, h => by
    obtain ⟨k', e, r⟩ := h 0 u rfl
    rw [List.getElem?_cons_zero] at e
    cases e
    exact .cons r (vals_of_at ks us (by simpa using hl) fun j u hj => by
      obtain ⟨k', e, r⟩ := h (j + 1) u (by rw [List.getElem?_cons_succ]; exact hj)
      exact ⟨k', by rw [List.getElem?_cons_succ] at e; exact e, r⟩)
section
variable {X : Cx} {Y : Yx}
theorem cr_srtD (hc : X.calm = true) (hu : X.A.units + 64 < cLine) : CallR X (.builtin "sorted") (rSrtD X.K) := by
  intro pins s σ H xs us Q I r ⟨J, a, kvs, e1, ha, ok, q⟩
  subst e1
  obtain rfl := Vals.ref1 r
  obtain ⟨hl, lo, vs, rkv, dd⟩ := (show ObjOk X.prog X.w H s.heap a (.dK kvs) from I.hok a _ ha)
  obtain ⟨ep, hat⟩ := dd.dictAt
  have hlen : kvs.length = vs.length := Paired.length rkv
  have keys : ∀ (j : Nat) (p : Key × Value), vs[j]? = some p → ∃ q, kvs[j]? = some q ∧ q.1 = p.1 := by
    have : ∀ {kvs : List (Key × V)} {vs : List (Key × Value)}, KV kvs vs → ∀ (j : Nat) (p : Key × Value), vs[j]? = some p → ∃ q, kvs[j]? = some q ∧ q.1 = p.1 := by
      intro kvs vs h
      unfold KV at h
      induction h with
      | nil => intro j p e; simp at e
      | cons h1 _ ih =>
        intro j p e
        cases j with
        | zero =>
          rw [List.getElem?_cons_zero] at e
          cases e
          exact ⟨_, rfl, h1.1⟩
        | succ j =>
          rw [List.getElem?_cons_succ] at e
          obtain ⟨q, e1, e2⟩ := ih j p e
          exact ⟨q, by rw [List.getElem?_cons_succ]; exact e1, e2⟩
    exact this rkv
  refine sorted_gen (Pv := fun v => Vals ((kvs.map (·.1)).map kV) v) (fun R E hR => ?_) fun tk vs' hv => ?_
  · refine PySem.W.kdu_collect (A := X.A.in1) (PySem.W.kdl_dict (knd := mixKind X.prog X.w) (kvs := vs) (ep := ep) lo) (I.ok.hd hc) hat (by rw [← hlen]; exact hl) fun h' tk acc hk hacc => ?_
    refine hR h' tk acc.toList hk (vals_of_at _ _ (by rw [Array.length_toList, hacc.1, List.length_map, hlen]) fun j u hj => ?_)
    obtain ⟨k, x, hx, hk2⟩ := hacc.2 j u (by rw [← Array.getElem?_toList]; exact hj)
    obtain ⟨q', e1, e2⟩ := keys j _ hx
    exact ⟨k, by rw [List.getElem?_map, e1]; simp [e2], relV_key hk2⟩
  · have em : kvs.map (fun p => keyD p.1) = (kvs.map (·.1)).map keyD := by rw [List.map_map]; rfl
    rw [em] at ok q
    exact sorted_fin I hu ok (rps_keys (J := J) _) hv (reads_keys hv) (by simp only [List.length_map]; exact hl) q tk
/-- sorted(x), a dict in slot i -/
@[simp] def nSrtD (i : Nat) (ρ : Env) : Out (List D) := match ρ[i]? with
  | some (.own _ (.dct kvs)) => if srtOk (kvs.map fun p => keyD p.1) = true then .ok (srtB (kvs.map fun p => keyD p.1)) ρ else .bad
  | _ => .bad
theorem dn_srtD (i : Nat) {x : Str} {p p2 pos : Pos} (hc : X.calm = true) (hu : X.A.units + 64 < cLine) (hm : X.mg "sorted" = none) (hN : X.N[i]? = some x := by rfl) (hv : Vis X.env.scope x := by first | exact Or.inl rfl | exact Or.inr (Or.inl rfl) | exact Or.inr (Or.inr rfl))
    (hd : (x == ("__debug__" : Str)) = false := by decide) (hcd : (x == ("__classdict__" : Str)) = false := by decide) (hg : Gl X "sorted" := by rfl) (hs : starEach [.Name x p2] X.env = (false, eval (.Name x p2) X.env) :: starEach [] X.env := by rfl) (he : starEach (.Name x p2 :: []) X.env = (false, eval (.Name x p2) X.env) :: starEach [] X.env := by rfl) (hpl : (backTo pos (starEach [] X.env)).any (·.1) = false := by rfl) :
    DN X Y (.Call (.Name "sorted" p) [.Name x p2] [] pos) (nSrtD i) := by
  refine PE.imp (pe_callB (cr_srtD hc hu) hg hm bt_sorted (pa_cons (pe_var (i := i) hN hv hd hcd) pa_nil hs) (by decide) (by decide) he hpl) fun σ H Q ⟨G, J, ρ, er, h⟩ => ?_
  unfold nSrtD at h
  split at h
  · rename_i fx kvs hi
    split at h
    · rename_i ok
      obtain ⟨a, vs, q1, q2, q3, _⟩ := dct_at er hi
      have ek : vs.map (fun p => keyD p.1) = kvs.map fun p => keyD p.1 := by
        have := q3.keys
        have h2 := congrArg (List.map keyD) this
        rw [List.map_map, List.map_map] at h2
        exact h2
      refine ⟨_, q1, J, a, vs, rfl, q2, by rw [ek]; exact ok, fun p us hp r => ?_⟩
      rw [ek] at r
      exact h.now er hp r
    · exact h.elim
  · exact h.elim
end
end DL

namespace DL
open PySem PySem.Spec L2 PyProof.Rows PySem.W
section
variable {P : Program} {w : World} {K : Fg} {mg : Str → Option Value} {base : Heap}
theorem fn_0o {f : Addr} {fd : FuncData} {ps : List Str} {n k : Nat} {ct : String → Option Value} (hn : ps.length = n + 1) : FnOk P w K mg base (L2.CX P w) k f fd ps (spO K ct n fun _ _ => .bad) :=
  ⟨fun vs H Q E ⟨J, a, r, us, o, ds, e, _, _, _, rv, hl, _⟩ => by rw [e, List.length_cons, dps_len rv, hl, hn], fun A outer s H args vs us Q E _ _ _ _ ⟨J, a, r, us', o, ds, e, _, _, _, rv, hl, h⟩ => h.elim⟩
end
/-! ### max of a tuple of ints -/
def dMaxA : List D → Option D
  | [.tuple xs] => match intsD xs with
    | some l => if l ≠ [] then some (.int (maxL l)) else none
    | none => none
  | ds => dMax ds
@[simp] theorem dMaxA_l (xs : List D) : dMaxA [.list xs] = dMax [.list xs] := rfl
@[simp] theorem dMaxA_2 (i j : Int) : dMaxA [.int i, .int j] = dMax [.int i, .int j] := rfl
theorem foldl_max (n : Int) : ∀ l : List Int, l.foldl max n = maxL (n :: l)
  | [] => rfl
  | k :: l => by
    have h1 := foldl_max (max n k) l
    have h2 := maxL_mem (n :: k :: l) (by simp)
    have h3 := maxL_mem (max n k :: l) (by simp)
    rw [List.foldl_cons, h1]
    have a1 : maxL (max n k :: l) ≤ maxL (n :: k :: l) := by
      rcases List.mem_cons.mp h3.1 with e | e
      · have b1 := h2.2 n (by simp)
        have b2 := h2.2 k (by simp)
        rw [e]
        omega
      · exact h2.2 _ (List.mem_cons_of_mem _ (List.mem_cons_of_mem _ e))
    have a2 : maxL (n :: k :: l) ≤ maxL (max n k :: l) := by
      have b0 := h3.2 (max n k) (by simp)
      rcases List.mem_cons.mp h2.1 with e | e
      · rw [e]
        omega
      · rcases List.mem_cons.mp e with e | e
        · rw [e]
          omega
        · exact h3.2 _ (List.mem_cons_of_mem _ e)
    omega
theorem maxA_ints (l : List Int) (h : l ≠ []) : dMaxA [.tuple (l.map .int)] = some (.int (maxL l)) := by
  show (match intsD (l.map PyData.int) with
    | some l => if l ≠ [] then some (PyData.int (maxL l)) else none
    | none => none) = _
  rw [DL.ints_map]
  simp [h]
theorem alike_ints (l : List Int) : AlikeAll (l.map PyData.int) := by
  refine ⟨fun x hx y hy => ?_, fun x hx => ?_⟩
  · obtain ⟨i, _, rfl⟩ := List.mem_map.mp hx
    obtain ⟨j, _, rfl⟩ := List.mem_map.mp hy
    rfl
  · obtain ⟨i, _, rfl⟩ := List.mem_map.mp hx
    intro z
    cases z
section
variable {X : Cx}
theorem cd_maxA (hc : X.calm = true) (hu : X.A.units + 64 < cLine) : CallD X (.builtin "max") dMaxA := by
  intro pins s σ H xs us Q I r ⟨J, dsx, d, sj, w, e, q⟩
  unfold dMaxA at e
  split at e
  · rename_i ds
    split at e
    · rename_i l hl
      split at e
      · rename_i hne
        cases e
        obtain ⟨v, rfl, wv⟩ := wks1 w
        obtain ⟨a, vs, rfl, h1, r1, _⟩ := wv.tup sj
        obtain rfl := Vals.ref1 r
        obtain ⟨its, rv, ht, hz⟩ := I.tuple h1
        have hds : ds = l.map .int := ints_inv hl
        subst hds
        have dp : DpAll X.K H vs (l.map .int) := rps_dp _ vs (orddL_lay _ (orddL_ints l)) (dps_mono sj _ _ r1)
        obtain ⟨as, ra⟩ := Dp.readsAll I _ vs its dp rv
        obtain ⟨n, l', rfl⟩ : ∃ n l', l = n :: l' := by
          cases l with
          | nil => exact absurd rfl hne
          | cons a b => exact ⟨a, b, rfl⟩
        refine max_tuple_data (x := .int n) (xs := l'.map .int) (I.ok.hd hc) ht ra (alike_ints (n :: l')) (by
          have := dep_ints (n :: l')
          rw [List.map_cons] at this
          rw [this]
          omega) fun i v h' tk bs hv hr hk => ?_
        rw [maxD_ints, foldl_max] at hr
        cases hr
        exact ⟨.int (maxL (n :: l')), H, I.kept (t' := tk) hk, ⟨_, rfl⟩, q _ J H (.refl sj) (.int _)⟩
      · cases e
    · cases e
  · exact cd_max hc pins s σ H xs us Q I r ⟨J, _, d, sj, w, e, q⟩
end
/-! ### k in a dict, as a test -/
section
variable {X : Cx} {Y : Yx} {a b c e : Expr} {pos : Pos}
theorem inT_core {b : Bool} {i : Nat} {fe : EC} {σ : L2.St} {H : Hp} {Q : Bool → Hp → Prop} {R : V → Hp → Prop} (hR : ∀ z H', Q z H' → R (.bl z) H') (h : tT X.K Y (eTest (eInD b i fe)) σ H Q) :
    tE X.K Y fe σ H fun y H1 => tVar i σ H1 fun x H2 => ∃ a o, x = .ref a ∧ DGet H2 a y o ∧ R (.bl (if b = true then o.isSome else !o.isSome)) H2 := by
  obtain ⟨G, J, ρ, er, h⟩ := h
  refine ⟨G, J, ρ, er, ?_⟩
  have h : Post X.K Y G J σ (fun _ v x => v = x) ((fe ρ).bind fun y ρ1 => eTest (fun ρ1 => match deref ρ1 y, ρ1[i]? with
    | some d, some (.own _ (.dct kvs)) => match keyOf d with
      | some k => .ok (.val (.bool (if b = true then (getK kvs k).isSome else !(getK kvs k).isSome))) ρ1
      | none => .bad
    | _, _ => .bad) ρ1) Q := by
    have e : eTest (eInD b i fe) ρ = (fe ρ).bind fun y ρ1 => eTest (fun ρ1 => match deref ρ1 y, ρ1[i]? with
      | some d, some (.own _ (.dct kvs)) => match keyOf d with
        | some k => .ok (.val (.bool (if b = true then (getK kvs k).isSome else !(getK kvs k).isSome))) ρ1
        | none => .bad
      | _, _ => .bad) ρ1 := by
      unfold eTest eInD
      cases fe ρ <;> rfl
    rw [e] at h
    exact h
  exact Post.bind h fun y ρ1 w J1 H1 s1 r1 e1 h1 => by
    simp only [eTest] at h1
    cases hd : deref ρ1 y with
    | none =>
      rw [hd] at h1
      exact h1.elim
    | some d =>
      cases hi : ρ1[i]? with
      | none =>
        rw [hd, hi] at h1
        exact h1.elim
      | some sv =>
        rw [hd, hi] at h1
        cases sv with
        | own fx o =>
          cases o with
          | dct kvs =>
            simp only at h1
            cases hk : keyOf d with
            | none =>
              rw [hk] at h1
              exact h1.elim
            | some k =>
              rw [hk] at h1
              obtain ⟨a2, vs2, k1, k2, k3, _⟩ := dct_at e1 hi
              have hw := wk_key hk (deref_ok e1 r1 hd)
              subst hw
              refine ⟨_, k1, a2, valV vs2 k, rfl, DGet.k k2, hR _ _ ?_⟩
              have e : (valV vs2 k).isSome = (getK kvs k).isSome := by
                rcases k3.get k with ⟨n1, n2⟩ | ⟨v', d', g1, g2, g3⟩
                · rw [n1, n2]; rfl
                · rw [g1, g2]; rfl
              rw [e]
              exact Post.now h1 rfl e1
          | _ => exact h1.elim
        | _ => exact h1.elim
theorem dt_inD (i : Nat) {x : Str} {p : Pos} {fe : EC} (hu : X.A.units + 1 < cLine) (he : DE X Y e fe) (hN : X.N[i]? = some x := by rfl) (hv : Vis X.env.scope x := by first | exact Or.inl rfl | exact Or.inr (Or.inl rfl) | exact Or.inr (Or.inr rfl)) (hd : (x == ("__debug__" : Str)) = false := by decide)
    (hcd : (x == ("__classdict__" : Str)) = false := by decide) : DT X Y (.Compare e [.In] [.Name x p] pos) (eTest (eInD true i fe)) := by
  refine PT.imp (pt_cmp (pc_din hu he (pe_var (i := i) hN hv hd hcd))) fun σ H Q h => ?_
  exact inT_core (b := true) (R := fun x H1 => ∃ c, x = .bl c ∧ Q c H1) (fun z H' q => ⟨z, rfl, q⟩) h
theorem dt_notInD (i : Nat) {x : Str} {p : Pos} {fe : EC} (hu : X.A.units + 1 < cLine) (he : DE X Y e fe) (hN : X.N[i]? = some x := by rfl) (hv : Vis X.env.scope x := by first | exact Or.inl rfl | exact Or.inr (Or.inl rfl) | exact Or.inr (Or.inr rfl)) (hd : (x == ("__debug__" : Str)) = false := by decide)
    (hcd : (x == ("__classdict__" : Str)) = false := by decide) : DT X Y (.Compare e [.NotIn] [.Name x p] pos) (eTest (eInD false i fe)) := by
  refine PT.imp (pt_cmp (pc_dnotin hu he (pe_var (i := i) hN hv hd hcd))) fun σ H Q h => ?_
  exact inT_core (b := false) (R := fun x H1 => ∃ c, x = .bl c ∧ Q c H1) (fun z H' q => ⟨z, rfl, q⟩) h
end
end DL

namespace LW
open PySem PySem.Spec L2 DL PyProof.Rows
def top (i : Nat) : Stmt := PySem.Challenge.pw_joinedagain_k02_values_that_are_no_tongu.main.body.getD i (.Pass ⟨0, 0, 0, 0⟩)
abbrev s_is_integer : Stmt := top 11
abbrev s_is_word : Stmt := top 12
abbrev s_is_places : Stmt := top 13
abbrev s_is_signs : Stmt := top 15
abbrev s_is_pattern : Stmt := top 16
abbrev s_is_pair : Stmt := top 17
abbrev s_is_formed : Stmt := top 18
abbrev s_are_ascending : Stmt := top 19
abbrev s_is_tongue : Stmt := top 20
abbrev s_is_list : Stmt := top 21
abbrev s_first_twice : Stmt := top 22
abbrev s_check_tongue : Stmt := top 23
abbrev s__law_bag : Stmt := top 25
abbrev s__law_draw : Stmt := top 26
abbrev s__law_one : Stmt := top 27
abbrev s__law_word : Stmt := top 28
abbrev s__law_pattern : Stmt := top 29
abbrev s__law_places : Stmt := top 30
abbrev s__law_tongue : Stmt := top 31
abbrev s__law_spoilt : Stmt := top 34
abbrev s__law_is_int : Stmt := top 35
abbrev s__law_is_word : Stmt := top 36
abbrev s__law_is_pair : Stmt := top 37
abbrev s__law_is_pattern : Stmt := top 38
abbrev s__law_is_formed : Stmt := top 39
abbrev s__law_ascending : Stmt := top 40
abbrev s__law_due : Stmt := top 41
abbrev s__law_told : Stmt := top 42
abbrev s_law : Stmt := top 43
abbrev si_BadTongue : Stmt := inClass (top 2) 0
def d_MOST_LETTERS : D := (.int 40)
def d_MOST_SIGNS : D := (.int 12)
def d_MOST_LEVEL : D := (.int 9)
def d_MOST_PATTERNS : D := (.int 400)
def d_MOST_EXCEPTIONS : D := (.int 200)
def d_MOST_LIST : D := (.int 200)
def d_LETTERS : D := (.str (tx [97, 98, 99, 100, 101, 102, 103, 104, 105, 106, 107, 108, 109, 110, 111, 112, 113, 114, 115, 116, 117, 118, 119, 120, 121, 122]))
def sub_ : String → String → Bool := fun x y => x == y

-- is_integer: 0:value 1:low 2:high
def c_is_integer : SC :=
    (sRet (eAndV (eIsi ["int"] (eVar 0)) (eAndV (eNotV (eIsi ["bool"] (eVar 0))) (eChain dLe dLe (eVar 1) (eVar 0) (eVar 2)))))
def m_is_integer : List D → FO := fnP c_is_integer 0
-- is_word: 0:value 1:sign
def e_is_word_0 : EC :=
    (eBin dIn (eVar 1) (eC d_LETTERS))
def lc_is_word_0 : DL.Env → Out (List D) :=
    nLc [1] (eIter (eVar 0)) (setN 1) tYesD e_is_word_0
def c_is_word : SC :=
    (sSeq (sIf (eOr (eNot (eTruth (eIsi ["str"] (eVar 0)))) (eNot (eTest (eChain dLe dLe (eC (.int 1)) (eCallB dLen (aCons (eVar 0) aNil)) (eC d_MOST_LETTERS)))))
    (sRet (eC (.bool false)))
    sNx)
    (sRet (eCallB dAll (aCons (eN lc_is_word_0) aNil))))
def m_is_word : List D → FO := fnP c_is_word 1
-- is_places: 0:word 1:value 2:place 3:one 4:other
def e_is_places_0 : EC :=
    (eCall 3 m_is_integer (aCons (eVar 2) (aCons (eC (.int 1)) (aCons (eBin dSub (eCallB dLen (aCons (eVar 0) aNil)) (eC (.int 1))) aNil))))
def lc_is_places_0 : DL.Env → Out (List D) :=
    nLc [2] (eIter (eVar 1)) (setN 2) tYesD e_is_places_0
def e_is_places_1 : EC :=
    (eBin dLt (eVar 3) (eVar 4))
def lc_is_places_1 : DL.Env → Out (List D) :=
    nLc [3, 4] (eZip (aCons (eVar 1) (aCons (eSl dSl (eVar 1) (oSome (eC (.int 1))) oNone) aNil))) (setTup 2 (setCons (setN 3) (setCons (setN 4) setNil))) tYesD e_is_places_1
def c_is_places : SC :=
    (sSeq (sIf (eOr (eNot (eTruth (eIsi ["tuple"] (eVar 1)))) (eNot (eTruth (eCallB dAll (aCons (eN lc_is_places_0) aNil)))))
    (sRet (eC (.bool false)))
    sNx)
    (sRet (eCallB dAll (aCons (eN lc_is_places_1) aNil))))
def m_is_places : List D → FO := fnP c_is_places 3
-- is_signs: 0:value 1:inner 2:sign
def e_is_signs_0 : EC :=
    (eBin dIn (eVar 2) (eC d_LETTERS))
def lc_is_signs_0 : DL.Env → Out (List D) :=
    nLc [2] (eIter (eVar 1)) (setN 2) tYesD e_is_signs_0
def c_is_signs : SC :=
    (sSeq (sIf (eOr (eNot (eTruth (eIsi ["str"] (eVar 0)))) (eNot (eTest (eChain dLe dLe (eC (.int 1)) (eCallB dLen (aCons (eVar 0) aNil)) (eC d_MOST_SIGNS)))))
    (sRet (eC (.bool false)))
    sNx)
    (sSeq (sAsg (eSl dSl (eVar 0) (oSome (eCallB dInt (aCons (eBin dEq (eBin dIx (eVar 0) (eC (.int 0))) (eC (.str (tx [46])))) aNil))) oNone) (setN 1))
    (sSeq (sIf (eAnd (eTest (eBin dNe (eVar 1) (eC (.str (tx []))))) (eTest (eBin dEq (eBin dIx (eVar 1) (eNeg (eC (.int 1)))) (eC (.str (tx [46]))))))
    (sAsg (eSl dSl (eVar 1) oNone (oSome (eNeg (eC (.int 1))))) (setN 1))
    sNx)
    (sRet (eAndV (eBin dNe (eVar 1) (eC (.str (tx [])))) (eCallB dAll (aCons (eN lc_is_signs_0) aNil)))))))
def m_is_signs : List D → FO := fnP c_is_signs 2
-- is_pattern: 0:value 1:_ 2:text 3:levels 4:level
def e_is_pattern_0 : EC :=
    (eCall 3 m_is_integer (aCons (eVar 4) (aCons (eC (.int 0)) (aCons (eC d_MOST_LEVEL) aNil))))
def lc_is_pattern_0 : DL.Env → Out (List D) :=
    nLc [4] (eIter (eVar 3)) (setN 4) tYesD e_is_pattern_0
def c_is_pattern : SC :=
    (sSeq (sIf (eOr (eNot (eTruth (eIsi ["tuple"] (eVar 0)))) (eOr (eTest (eBin dNe (eCallB dLen (aCons (eVar 0) aNil)) (eC (.int 3)))) (eOr (eTest (eBin dNe (eBin dIx (eVar 0) (eC (.int 0))) (eC (.str (tx [112, 97, 116, 116, 101, 114, 110]))))) (eNot (eTruth (eCall 1 m_is_signs (aCons (eBin dIx (eVar 0) (eC (.int 1))) aNil)))))))
    (sRet (eC (.bool false)))
    sNx)
    (sSeq (sAsg (eVar 0) (setTup 3 (setCons (setN 1) (setCons (setN 2) (setCons (setN 3) setNil)))))
    (sSeq (sIf (eOr (eNot (eTruth (eIsi ["tuple"] (eVar 3)))) (eTest (eBin dNe (eCallB dLen (aCons (eVar 3) aNil)) (eBin dAdd (eCallB dLen (aCons (eVar 2) aNil)) (eC (.int 1))))))
    (sRet (eC (.bool false)))
    sNx)
    (sSeq (sIf (eOr (eNot (eTruth (eCallB dAll (aCons (eN lc_is_pattern_0) aNil)))) (eTest (eBin dEq (eCallB dMaxA (aCons (eVar 3) aNil)) (eC (.int 0)))))
    (sRet (eC (.bool false)))
    sNx)
    (sRet (eAndV (eOrV (eBin dNe (eBin dIx (eVar 2) (eC (.int 0))) (eC (.str (tx [46])))) (eBin dEq (eBin dIx (eVar 3) (eC (.int 0))) (eC (.int 0)))) (eOrV (eBin dNe (eBin dIx (eVar 2) (eNeg (eC (.int 1)))) (eC (.str (tx [46])))) (eBin dEq (eBin dIx (eVar 3) (eNeg (eC (.int 1)))) (eC (.int 0))))))))))
def m_is_pattern : List D → FO := fnP c_is_pattern 4
-- is_pair: 0:value
def c_is_pair : SC :=
    (sRet (eAndV (eIsi ["tuple"] (eVar 0)) (eAndV (eBin dEq (eCallB dLen (aCons (eVar 0) aNil)) (eC (.int 2))) (eAndV (eCall 1 m_is_word (aCons (eBin dIx (eVar 0) (eC (.int 0))) aNil)) (eCall 2 m_is_places (aCons (eBin dIx (eVar 0) (eC (.int 0))) (aCons (eBin dIx (eVar 0) (eC (.int 1))) aNil)))))))
def m_is_pair : List D → FO := fnP c_is_pair 0
-- is_formed: 0:value 1:_ 2:left 3:right 4:patterns 5:exceptions 6:one
def e_is_formed_0 : EC :=
    (eCall 1 m_is_pattern (aCons (eVar 6) aNil))
def lc_is_formed_0 : DL.Env → Out (List D) :=
    nLc [6] (eIter (eVar 4)) (setN 6) tYesD e_is_formed_0
def e_is_formed_1 : EC :=
    (eCall 1 m_is_pair (aCons (eVar 6) aNil))
def lc_is_formed_1 : DL.Env → Out (List D) :=
    nLc [6] (eIter (eVar 5)) (setN 6) tYesD e_is_formed_1
def c_is_formed : SC :=
    (sSeq (sIf (eOr (eNot (eTruth (eIsi ["tuple"] (eVar 0)))) (eOr (eTest (eBin dNe (eCallB dLen (aCons (eVar 0) aNil)) (eC (.int 5)))) (eTest (eBin dNe (eBin dIx (eVar 0) (eC (.int 0))) (eC (.str (tx [116, 111, 110, 103, 117, 101])))))))
    (sRet (eC (.bool false)))
    sNx)
    (sSeq (sAsg (eVar 0) (setTup 5 (setCons (setN 1) (setCons (setN 2) (setCons (setN 3) (setCons (setN 4) (setCons (setN 5) setNil)))))))
    (sSeq (sIf (eOr (eNot (eTruth (eCall 3 m_is_integer (aCons (eVar 2) (aCons (eC (.int 1)) (aCons (eC d_MOST_LEVEL) aNil)))))) (eNot (eTruth (eCall 3 m_is_integer (aCons (eVar 3) (aCons (eC (.int 1)) (aCons (eC d_MOST_LEVEL) aNil)))))))
    (sRet (eC (.bool false)))
    sNx)
    (sSeq (sIf (eOr (eNot (eTruth (eIsi ["tuple"] (eVar 4)))) (eNot (eTruth (eCallB dAll (aCons (eN lc_is_formed_0) aNil)))))
    (sRet (eC (.bool false)))
    sNx)
    (sRet (eAndV (eIsi ["tuple"] (eVar 5)) (eCallB dAll (aCons (eN lc_is_formed_1) aNil))))))))
def m_is_formed : List D → FO := fnP c_is_formed 6
-- are_ascending: 0:names 1:one 2:other
def e_are_ascending_0 : EC :=
    (eBin dLt (eVar 1) (eVar 2))
def lc_are_ascending_0 : DL.Env → Out (List D) :=
    nLc [1, 2] (eZip (aCons (eVar 0) (aCons (eSl dSl (eVar 0) (oSome (eC (.int 1))) oNone) aNil))) (setTup 2 (setCons (setN 1) (setCons (setN 2) setNil))) tYesD e_are_ascending_0
def c_are_ascending : SC :=
    (sRet (eCallB dAll (aCons (eN lc_are_ascending_0) aNil)))
def m_are_ascending : List D → FO := fnP c_are_ascending 2
-- is_tongue: 0:value 1:one
def e_is_tongue_0 : EC :=
    (eBin dIx (eVar 1) (eC (.int 1)))
def lc_is_tongue_0 : DL.Env → Out (List D) :=
    nLc [1] (eIter (eBin dIx (eVar 0) (eC (.int 3)))) (setN 1) tYesD e_is_tongue_0
def e_is_tongue_1 : EC :=
    (eBin dIx (eVar 1) (eC (.int 0)))
def lc_is_tongue_1 : DL.Env → Out (List D) :=
    nLc [1] (eIter (eBin dIx (eVar 0) (eC (.int 4)))) (setN 1) tYesD e_is_tongue_1
def c_is_tongue : SC :=
    (sSeq (sIf (eOr (eNot (eTruth (eCall 1 m_is_formed (aCons (eVar 0) aNil)))) (eOr (eTest (eBin dGt (eCallB dLen (aCons (eBin dIx (eVar 0) (eC (.int 3))) aNil)) (eC d_MOST_PATTERNS))) (eTest (eBin dGt (eCallB dLen (aCons (eBin dIx (eVar 0) (eC (.int 4))) aNil)) (eC d_MOST_EXCEPTIONS)))))
    (sRet (eC (.bool false)))
    sNx)
    (sRet (eAndV (eCall 1 m_are_ascending (aCons (eN lc_is_tongue_0) aNil)) (eCall 1 m_are_ascending (aCons (eN lc_is_tongue_1) aNil)))))
def m_is_tongue : List D → FO := fnP c_is_tongue 1
-- is_list: 0:value 1:one 2:word 3:_
def e_is_list_0 : EC :=
    (eCall 1 m_is_pair (aCons (eVar 1) aNil))
def lc_is_list_0 : DL.Env → Out (List D) :=
    nLc [1] (eIter (eVar 0)) (setN 1) tYesD e_is_list_0
def e_is_list_1 : EC :=
    (eVar 2)
def lc_is_list_1 : DL.Env → Out (List D) :=
    nLc [2, 3] (eIter (eVar 0)) (setTup 2 (setCons (setN 2) (setCons (setN 3) setNil))) tYesD e_is_list_1
def c_is_list : SC :=
    (sSeq (sIf (eOr (eNot (eTruth (eIsi ["tuple"] (eVar 0)))) (eOr (eNot (eTest (eChain dLe dLe (eC (.int 1)) (eCallB dLen (aCons (eVar 0) aNil)) (eC d_MOST_LIST)))) (eNot (eTruth (eCallB dAll (aCons (eN lc_is_list_0) aNil))))))
    (sRet (eC (.bool false)))
    sNx)
    (sRet (eCall 1 m_are_ascending (aCons (eN lc_is_list_1) aNil))))
def m_is_list : List D → FO := fnP c_is_list 3
-- first_twice: 0:names 1:seen 2:name
def b_first_twice_0 : SC :=
    sFg true [2] (sSeq (sIf (eTest (eInD true 1 (eVar 2)))
    (sRet (eVar 2))
    sNx)
    (sPutD 1 (eVar 2) (eC (.bool true))))
def L_first_twice_0 : SC :=
    sPre [2] (sFg true [2] (sFor (eIter (eVar 0)) (setN 2) b_first_twice_0))
def c_first_twice : SC :=
    (sSeq (sNewD 1)
    (sSeq L_first_twice_0
    (sRet (eC .none))))
def m_first_twice : List D → FO := fnP c_first_twice 2
-- check_tongue: 0:value 1:_ 2:left 3:right 4:patterns 5:exceptions 6:names 7:one 8:name
def e_check_tongue_0 : EC :=
    (eBin dIx (eVar 7) (eC (.int 0)))
def lc_check_tongue_0 : DL.Env → Out (List D) :=
    nLc [7] (eIter (eVar 5)) (setN 7) tYesD e_check_tongue_0
def e_check_tongue_1 : EC :=
    (eBin dIx (eVar 7) (eC (.int 1)))
def lc_check_tongue_1 : DL.Env → Out (List D) :=
    nLc [7] (eIter (eVar 4)) (setN 7) tYesD e_check_tongue_1
def b_check_tongue_0 : SC :=
    sFg true [6, 7, 8] (sSeq (sAsg (eCall 1 m_first_twice (aCons (eVar 6) aNil)) (setN 8))
    (sIf (eTest (eBin dIsNot (eVar 8) (eC .none)))
    (sRaiseI "BadTongue" ["kind", "name"] (aCons (eC (.str (tx [116, 119, 105, 99, 101]))) (aCons (eVar 8) aNil)))
    sNx))
def L_check_tongue_0 : SC :=
    sPre [6, 7, 8] (sFg true [6, 7, 8] (sFor (eIter (eTup (aCons (eN lc_check_tongue_1) (aCons (eN lc_check_tongue_0) aNil)))) (setN 6) b_check_tongue_0))
def c_check_tongue : SC :=
    (sSeq (sIf (eNot (eTruth (eCall 1 m_is_formed (aCons (eVar 0) aNil))))
    (sRaiseI "BadTongue" ["kind", "name"] (aCons (eC (.str (tx [102, 111, 114, 109]))) (aCons (eC (.str (tx []))) aNil)))
    sNx)
    (sSeq (sAsg (eVar 0) (setTup 5 (setCons (setN 1) (setCons (setN 2) (setCons (setN 3) (setCons (setN 4) (setCons (setN 5) setNil)))))))
    (sSeq (sIf (eTest (eBin dGt (eCallB dLen (aCons (eVar 4) aNil)) (eC d_MOST_PATTERNS)))
    (sRaiseI "BadTongue" ["kind", "name"] (aCons (eC (.str (tx [109, 97, 110, 121]))) (aCons (eC (.str (tx [112, 97, 116, 116, 101, 114, 110, 115]))) aNil)))
    sNx)
    (sSeq (sIf (eTest (eBin dGt (eCallB dLen (aCons (eVar 5) aNil)) (eC d_MOST_EXCEPTIONS)))
    (sRaiseI "BadTongue" ["kind", "name"] (aCons (eC (.str (tx [109, 97, 110, 121]))) (aCons (eC (.str (tx [101, 120, 99, 101, 112, 116, 105, 111, 110, 115]))) aNil)))
    sNx)
    (sSeq L_check_tongue_0
    (sRet (eTup (aCons (eC (.str (tx [116, 111, 110, 103, 117, 101]))) (aCons (eVar 2) (aCons (eVar 3) (aCons (eCallB dTuple (aCons (eN (nCallB nSorted2 (aCons (eVar 4) aNil))) aNil)) (aCons (eCallB dTuple (aCons (eN (nCallB nSorted2 (aCons (eVar 5) aNil))) aNil)) aNil))))))))))))
def m_check_tongue : List D → FO := fnP c_check_tongue 8
-- _law_bag: 0:script 1:k 2:cell
def c__law_bag : SC :=
    (sSeq (sAsg (eC (.int 0)) (setN 2))
    (sSeq (sIf (eTest (eBin dLt (eVar 1) (eCallB dLen (aCons (eVar 0) aNil))))
    (sAsg (eCallB dInt (aCons (eBin dIx (eVar 0) (eVar 1)) aNil)) (setN 2))
    sNx)
    (sRetNew (nLst (aCons (eC (.int 0)) (aCons (eBin dAdd (eC (.int 1303)) (eBin dMulA (eC (.int 48611)) (eVar 1))) (aCons (eC (.int 0)) (aCons (eVar 2) aNil))))))))
def m__law_bag : List D → FO := fnP c__law_bag 1
-- _law_draw: 0:bag 1:many 2:seed 3:rest
def c__law_draw : SC :=
    (sSeq (sIf (eTest (eBin dLt (eVar 1) (eC (.int 1))))
    (sRet (eC (.int 0)))
    sNx)
    (sSeq (sIf (eTest (eBin dEq (eBin dIx (eVar 0) (eC (.int 0))) (eC (.int 0))))
    (sSeq (sSetL 0 (eC (.int 2)) (eBin dAdd (eBin dIx (eVar 0) (eC (.int 2))) (eC (.int 1))))
    (sSeq (sAsg (eBin dMod (eCallB dInt (aCons (eBin dAdd (eBin dAdd (eBin dAdd (eBin dMulA (eBin dIx (eVar 0) (eC (.int 1))) (eC (.int 48271))) (eBin dMulA (eBin dIx (eVar 0) (eC (.int 3))) (eC (.int 69621)))) (eBin dMulA (eBin dIx (eVar 0) (eC (.int 2))) (eC (.int 16807)))) (eC (.int 11))) aNil)) (eC (.int 2147483647))) (setN 2))
    (sSeq (sSetL 0 (eC (.int 0)) (eBin dAdd (eBin dMulA (eVar 2) (eC (.int 2147483629))) (eBin dMod (eCallB dInt (aCons (eBin dAdd (eBin dMulA (eVar 2) (eVar 2)) (eBin dIx (eVar 0) (eC (.int 3)))) aNil)) (eC (.int 2147483629)))))
    (sSeq (sIf (eAnd (eTest (eBin dEq (eBin dIx (eVar 0) (eC (.int 2))) (eC (.int 1)))) (eTest (eBin dGe (eBin dIx (eVar 0) (eC (.int 3))) (eBin dPow (eC (.int 10)) (eC (.int 18))))))
    (sSetL 0 (eC (.int 0)) (eBin dIx (eVar 0) (eC (.int 3))))
    sNx)
    (sSetL 0 (eC (.int 1)) (eVar 2))))))
    sNx)
    (sSeq (sAsg (eBin dIx (eVar 0) (eC (.int 0))) (setN 3))
    (sSeq (sSetL 0 (eC (.int 0)) (eBin dFdiv (eVar 3) (eVar 1)))
    (sRet (eBin dMod (eCallB dInt (aCons (eVar 3) aNil)) (eVar 1)))))))
def m__law_draw : Own → List D → OO := fnO c__law_draw 2
-- _law_one: 0:bag 1:row
def c__law_one : SC :=
    (sRet (eBin dIx (eVar 1) (eCallO 0 1 m__law_draw (aCons (eCallB dLen (aCons (eVar 1) aNil)) aNil))))
def m__law_one : Own → List D → OO := fnO c__law_one 0
-- _law_word: 0:bag 1:letters 2:most 3:k
def e__law_word_0 : EC :=
    (eBin dIx (eVar 1) (eCallO 0 1 m__law_draw (aCons (eCallB dLen (aCons (eVar 1) aNil)) aNil)))
def lc__law_word_0 : DL.Env → Out (List D) :=
    nLc [3] (eRng1 (aCons (eBin dAdd (eC (.int 1)) (eCallO 0 1 m__law_draw (aCons (eVar 2) aNil))) aNil)) (setN 3) tYesD e__law_word_0
def c__law_word : SC :=
    (sRet (eMeth "str" dJoin (eC (.str (tx []))) (aCons (eN lc__law_word_0) aNil)))
def m__law_word : Own → List D → OO := fnO c__law_word 1
-- _law_pattern: 0:bag 1:letters 2:most 3:text 4:levels 5:k 6:at
def b__law_pattern_0 : SC :=
    sFg true [5, 6] (sSeq (sAsg (eCallO 0 1 m__law_draw (aCons (eCallB dLen (aCons (eVar 4) aNil)) aNil)) (setN 6))
    (sIf (eNot (eOr (eAnd (eTest (eBin dEq (eVar 6) (eC (.int 0)))) (eTest (eBin dEq (eBin dIx (eVar 3) (eC (.int 0))) (eC (.str (tx [46])))))) (eAnd (eTest (eBin dEq (eVar 6) (eCallB dLen (aCons (eVar 3) aNil)))) (eTest (eBin dEq (eBin dIx (eVar 3) (eNeg (eC (.int 1)))) (eC (.str (tx [46]))))))))
    (sSetL 4 (eVar 6) (eBin dAdd (eC (.int 1)) (eCallO 0 1 m__law_draw (aCons (eBin dIx (eN (nLst (aCons (eC (.int 2)) (aCons (eC (.int 4)) (aCons (eC (.int 9)) aNil))))) (eCallO 0 1 m__law_draw (aCons (eC (.int 3)) aNil))) aNil))))
    sNx))
def L__law_pattern_0 : SC :=
    sPre [5, 6] (sFg true [5, 6] (sFor (eRng1 (aCons (eBin dAdd (eC (.int 1)) (eCallO 0 1 m__law_draw (aCons (eC (.int 3)) aNil))) aNil)) (setN 5) b__law_pattern_0))
def c__law_pattern : SC :=
    (sSeq (sAsg (eCallO 0 2 m__law_word (aCons (eVar 1) (aCons (eVar 2) aNil))) (setN 3))
    (sSeq (sAsg (eBin dAdd (eBin dIx (eN (nLst (aCons (eC (.str (tx []))) (aCons (eC (.str (tx []))) (aCons (eC (.str (tx [46]))) aNil))))) (eCallO 0 1 m__law_draw (aCons (eC (.int 3)) aNil))) (eVar 3)) (setN 3))
    (sSeq (sAsg (eBin dAdd (eVar 3) (eBin dMulA (eBin dIx (eN (nLst (aCons (eC (.str (tx []))) (aCons (eC (.str (tx []))) (aCons (eC (.str (tx [46]))) aNil))))) (eCallO 0 1 m__law_draw (aCons (eC (.int 3)) aNil))) (eCallB dInt (aCons (eBin dLt (eCallB dLen (aCons (eVar 3) aNil)) (eC (.int 12))) aNil)))) (setN 3))
    (sSeq (sAsg (eSl dSl (eVar 3) oNone (oSome (eC (.int 12)))) (setN 3))
    (sSeq (sNew 4 (nRep (nLst (aCons (eC (.int 0)) aNil)) (eBin dAdd (eCallB dLen (aCons (eVar 3) aNil)) (eC (.int 1)))))
    (sSeq L__law_pattern_0
    (sSeq (sIf (eTest (eBin dEq (eCallB dMaxA (aCons (eVar 4) aNil)) (eC (.int 0))))
    (sSetL 4 (eIf (eTest (eBin dEq (eBin dIx (eVar 3) (eC (.int 0))) (eC (.str (tx [46]))))) (eC (.int 1)) (eC (.int 0))) (eC (.int 1)))
    sNx)
    (sRet (eTup (aCons (eC (.str (tx [112, 97, 116, 116, 101, 114, 110]))) (aCons (eVar 3) (aCons (eCallB dTuple (aCons (eVar 4) aNil)) aNil))))))))))))
def m__law_pattern : Own → List D → OO := fnO c__law_pattern 4
-- _law_places: 0:bag 1:word 2:place
def e__law_places_0 : EC :=
    (eVar 2)
def t__law_places_0 : TC :=
    (eTest (eBin dEq (eCallO 0 1 m__law_draw (aCons (eC (.int 3)) aNil)) (eC (.int 0))))
def lc__law_places_0 : DL.Env → Out (List D) :=
    nLc [2] (eRng2 (aCons (eC (.int 1)) (aCons (eCallB dLen (aCons (eVar 1) aNil)) aNil))) (setN 2) t__law_places_0 e__law_places_0
def c__law_places : SC :=
    (sRet (eCallB dTuple (aCons (eN lc__law_places_0) aNil)))
def m__law_places : Own → List D → OO := fnO c__law_places 1
-- _law_tongue: 0:bag 1:letters 2:many 3:most 4:rows 5:k 6:pattern 7:words 8:word 9:left 10:right 11:patterns 12:text
def b__law_tongue_0 : SC :=
    sFg true [5, 6] (sSeq (sAsg (eCallO 0 2 m__law_pattern (aCons (eVar 1) (aCons (eVar 3) aNil))) (setN 6))
    (sPutD 4 (eBin dIx (eVar 6) (eC (.int 1))) (eVar 6)))
def L__law_tongue_0 : SC :=
    sPre [5, 6] (sFg true [5, 6] (sFor (eRng1 (aCons (eVar 2) aNil)) (setN 5) b__law_tongue_0))
def b__law_tongue_1 : SC :=
    sFg true [5] (sSeq (sAsg (eCallO 0 2 m__law_word (aCons (eVar 1) (aCons (eC (.int 6)) aNil))) (setN 8))
    (sPutD 7 (eVar 8) (eCallO 0 1 m__law_places (aCons (eVar 8) aNil))))
def L__law_tongue_1 : SC :=
    sPre [5] (sFg true [5] (sFor (eRng1 (aCons (eCallO 0 1 m__law_draw (aCons (eC (.int 4)) aNil)) aNil)) (setN 5) b__law_tongue_1))
def e__law_tongue_0 : EC :=
    (eGetD 4 (eVar 12))
def lc__law_tongue_0 : DL.Env → Out (List D) :=
    nLc [12] (eIter (eN (nSrtD 4))) (setN 12) tYesD e__law_tongue_0
def e__law_tongue_1 : EC :=
    (eTup (aCons (eVar 8) (aCons (eGetD 7 (eVar 8)) aNil)))
def lc__law_tongue_1 : DL.Env → Out (List D) :=
    nLc [8] (eIter (eN (nSrtD 7))) (setN 8) tYesD e__law_tongue_1
def c__law_tongue : SC :=
    (sSeq (sNewD 4)
    (sSeq L__law_tongue_0
    (sSeq (sNewD 7)
    (sSeq L__law_tongue_1
    (sSeq (sAsg (eBin dAdd (eC (.int 1)) (eCallO 0 1 m__law_draw (aCons (eC (.int 3)) aNil))) (setN 9))
    (sSeq (sAsg (eBin dAdd (eC (.int 1)) (eCallO 0 1 m__law_draw (aCons (eC (.int 3)) aNil))) (setN 10))
    (sSeq (sAsg (eCallB dTuple (aCons (eN lc__law_tongue_0) aNil)) (setN 11))
    (sRet (eTup (aCons (eC (.str (tx [116, 111, 110, 103, 117, 101]))) (aCons (eVar 9) (aCons (eVar 10) (aCons (eVar 11) (aCons (eCallB dTuple (aCons (eN lc__law_tongue_1) aNil)) aNil))))))))))))))
def m__law_tongue : Own → List D → OO := fnO c__law_tongue 9
-- _law_spoilt: 0:bag 1:value 2:odd 3:down 4:at 5:pick
def c__law_spoilt (rc : Own → List D → OO) : SC :=
    (sSeq (sIf (eOr (eTest (eBin dEq (eVar 3) (eC (.int 0)))) (eOr (eNot (eTruth (eIsi ["tuple"] (eVar 1)))) (eOr (eTest (eBin dEq (eCallB dLen (aCons (eVar 1) aNil)) (eC (.int 0)))) (eTest (eBin dEq (eCallO 0 1 m__law_draw (aCons (eC (.int 4)) aNil)) (eC (.int 0)))))))
    (sRet (eVar 2))
    sNx)
    (sSeq (sAsg (eCallO 0 1 m__law_draw (aCons (eCallB dLen (aCons (eVar 1) aNil)) aNil)) (setN 4))
    (sSeq (sAsg (eCallO 0 1 m__law_draw (aCons (eC (.int 9)) aNil)) (setN 5))
    (sSeq (sIf (eTest (eBin dEq (eVar 5) (eC (.int 0))))
    (sRet (eBin dAdd (eSl dSl (eVar 1) oNone (oSome (eVar 4))) (eSl dSl (eVar 1) (oSome (eBin dAdd (eVar 4) (eC (.int 1)))) oNone)))
    sNx)
    (sSeq (sIf (eTest (eBin dEq (eVar 5) (eC (.int 1))))
    (sRet (eBin dAdd (eBin dAdd (eSl dSl (eVar 1) oNone (oSome (eVar 4))) (eTup (aCons (eVar 2) aNil))) (eSl dSl (eVar 1) (oSome (eVar 4)) oNone)))
    sNx)
    (sSeq (sIf (eTest (eBin dEq (eVar 5) (eC (.int 2))))
    (sRet (eBin dAdd (eSl dSl (eVar 1) oNone (oSome (eBin dAdd (eVar 4) (eC (.int 1))))) (eSl dSl (eVar 1) (oSome (eVar 4)) oNone)))
    sNx)
    (sSeq (sIf (eTest (eBin dEq (eVar 5) (eC (.int 3))))
    (sRet (eBin dAdd (eBin dAdd (eBin dAdd (eSl dSl (eVar 1) oNone (oSome (eVar 4))) (eSl dSl (eVar 1) (oSome (eBin dAdd (eVar 4) (eC (.int 1)))) (oSome (eBin dAdd (eVar 4) (eC (.int 2)))))) (eSl dSl (eVar 1) (oSome (eVar 4)) (oSome (eBin dAdd (eVar 4) (eC (.int 1)))))) (eSl dSl (eVar 1) (oSome (eBin dAdd (eVar 4) (eC (.int 2)))) oNone)))
    sNx)
    (sSeq (sIf (eTest (eBin dEq (eVar 5) (eC (.int 4))))
    (sRet (eN (nCallB nList (aCons (eVar 1) aNil))))
    sNx)
    (sRet (eBin dAdd (eBin dAdd (eSl dSl (eVar 1) oNone (oSome (eVar 4))) (eTup (aCons (eCallO 0 3 rc (aCons (eBin dIx (eVar 1) (eVar 4)) (aCons (eVar 2) (aCons (eBin dSub (eVar 3) (eC (.int 1))) aNil)))) aNil))) (eSl dSl (eVar 1) (oSome (eBin dAdd (eVar 4) (eC (.int 1)))) oNone)))))))))))
def m__law_spoilt : Nat → Own → List D → OO
  | 0 => fun _ _ => .bad
  | n + 1 => fnO (c__law_spoilt (m__law_spoilt n)) 2
-- _law_is_int: 0:value 1:low 2:high
def c__law_is_int : SC :=
    (sRet (eAndV (eIsi ["int"] (eVar 0)) (eAndV (eNotV (eIsi ["bool"] (eVar 0))) (eAndV (eBin dLe (eVar 1) (eVar 0)) (eBin dLe (eVar 0) (eVar 2))))))
def m__law_is_int : List D → FO := fnP c__law_is_int 0
-- _law_is_word: 0:value 1:sign
def e__law_is_word_0 : EC :=
    (eVar 1)
def t__law_is_word_0 : TC :=
    (eTest (eBin dNotIn (eVar 1) (eC (.str (tx [97, 98, 99, 100, 101, 102, 103, 104, 105, 106, 107, 108, 109, 110, 111, 112, 113, 114, 115, 116, 117, 118, 119, 120, 121, 122])))))
def lc__law_is_word_0 : DL.Env → Out (List D) :=
    nLc [1] (eIter (eVar 0)) (setN 1) t__law_is_word_0 e__law_is_word_0
def c__law_is_word : SC :=
    (sSeq (sIf (eOr (eNot (eTruth (eIsi ["str"] (eVar 0)))) (eOr (eTest (eBin dLt (eCallB dLen (aCons (eVar 0) aNil)) (eC (.int 1)))) (eTest (eBin dGt (eCallB dLen (aCons (eVar 0) aNil)) (eC (.int 40))))))
    (sRet (eC (.bool false)))
    sNx)
    (sRet (eBin dEq (eN lc__law_is_word_0) (eN (nLst aNil)))))
def m__law_is_word : List D → FO := fnP c__law_is_word 1
-- _law_is_pair: 0:value 1:before 2:place
def b__law_is_pair_0 : SC :=
    sFg true [2] (sSeq (sIf (eNot (eTruth (eCall 3 m__law_is_int (aCons (eVar 2) (aCons (eBin dAdd (eVar 1) (eC (.int 1))) (aCons (eBin dSub (eCallB dLen (aCons (eBin dIx (eVar 0) (eC (.int 0))) aNil)) (eC (.int 1))) aNil))))))
    (sRet (eC (.bool false)))
    sNx)
    (sAsg (eVar 2) (setN 1)))
def L__law_is_pair_0 : SC :=
    sPre [2] (sFg true [1, 2] (sFor (eIter (eBin dIx (eVar 0) (eC (.int 1)))) (setN 2) b__law_is_pair_0))
def c__law_is_pair : SC :=
    (sSeq (sIf (eOr (eNot (eTruth (eIsi ["tuple"] (eVar 0)))) (eOr (eTest (eBin dNe (eCallB dLen (aCons (eVar 0) aNil)) (eC (.int 2)))) (eOr (eNot (eTruth (eCall 1 m__law_is_word (aCons (eBin dIx (eVar 0) (eC (.int 0))) aNil)))) (eNot (eTruth (eIsi ["tuple"] (eBin dIx (eVar 0) (eC (.int 1)))))))))
    (sRet (eC (.bool false)))
    sNx)
    (sSeq (sAsg (eC (.int 0)) (setN 1))
    (sSeq L__law_is_pair_0
    (sRet (eC (.bool true))))))
def m__law_is_pair : List D → FO := fnP c__law_is_pair 2
-- _law_is_pattern: 0:value 1:text 2:levels 3:inner 4:level
def e__law_is_pattern_0 : EC :=
    (eCall 3 m__law_is_int (aCons (eVar 4) (aCons (eC (.int 0)) (aCons (eC (.int 9)) aNil))))
def lc__law_is_pattern_0 : DL.Env → Out (List D) :=
    nLc [4] (eIter (eVar 2)) (setN 4) tYesD e__law_is_pattern_0
def c__law_is_pattern : SC :=
    (sSeq (sIf (eOr (eNot (eTruth (eIsi ["tuple"] (eVar 0)))) (eOr (eTest (eBin dNe (eCallB dLen (aCons (eVar 0) aNil)) (eC (.int 3)))) (eOr (eNot (eTruth (eIsi ["str"] (eBin dIx (eVar 0) (eC (.int 0)))))) (eTest (eBin dNe (eBin dIx (eVar 0) (eC (.int 0))) (eC (.str (tx [112, 97, 116, 116, 101, 114, 110]))))))))
    (sRet (eC (.bool false)))
    sNx)
    (sSeq (sAsg (eSl dSl (eVar 0) (oSome (eC (.int 1))) oNone) (setTup 2 (setCons (setN 1) (setCons (setN 2) setNil))))
    (sSeq (sIf (eOr (eNot (eTruth (eIsi ["str"] (eVar 1)))) (eOr (eTest (eBin dLt (eCallB dLen (aCons (eVar 1) aNil)) (eC (.int 1)))) (eOr (eTest (eBin dGt (eCallB dLen (aCons (eVar 1) aNil)) (eC (.int 12)))) (eNot (eTruth (eIsi ["tuple"] (eVar 2)))))))
    (sRet (eC (.bool false)))
    sNx)
    (sSeq (sAsg (eIf (eTest (eBin dEq (eBin dIx (eVar 1) (eC (.int 0))) (eC (.str (tx [46]))))) (eSl dSl (eVar 1) (oSome (eC (.int 1))) oNone) (eVar 1)) (setN 3))
    (sSeq (sAsg (eIf (eAnd (eTest (eBin dNe (eVar 3) (eC (.str (tx []))))) (eTest (eBin dEq (eBin dIx (eVar 3) (eNeg (eC (.int 1)))) (eC (.str (tx [46])))))) (eSl dSl (eVar 3) oNone (oSome (eNeg (eC (.int 1))))) (eVar 3)) (setN 3))
    (sSeq (sIf (eOr (eNot (eTruth (eCall 1 m__law_is_word (aCons (eVar 3) aNil)))) (eTest (eBin dNe (eCallB dLen (aCons (eVar 2) aNil)) (eBin dAdd (eCallB dLen (aCons (eVar 1) aNil)) (eC (.int 1))))))
    (sRet (eC (.bool false)))
    sNx)
    (sSeq (sIf (eOr (eTest (eBin dIn (eC (.bool false)) (eN lc__law_is_pattern_0))) (eTest (eBin dEq (eCallB dMaxA (aCons (eVar 2) aNil)) (eC (.int 0)))))
    (sRet (eC (.bool false)))
    sNx)
    (sRet (eNotV (eOrV (eAndV (eBin dEq (eBin dIx (eVar 1) (eC (.int 0))) (eC (.str (tx [46])))) (eBin dGt (eBin dIx (eVar 2) (eC (.int 0))) (eC (.int 0)))) (eAndV (eBin dEq (eBin dIx (eVar 1) (eNeg (eC (.int 1)))) (eC (.str (tx [46])))) (eBin dGt (eBin dIx (eVar 2) (eNeg (eC (.int 1)))) (eC (.int 0))))))))))))))
def m__law_is_pattern : List D → FO := fnP c__law_is_pattern 4
-- _law_is_formed: 0:value 1:one
def e__law_is_formed_0 : EC :=
    (eCall 1 m__law_is_pattern (aCons (eVar 1) aNil))
def lc__law_is_formed_0 : DL.Env → Out (List D) :=
    nLc [1] (eIter (eBin dIx (eVar 0) (eC (.int 3)))) (setN 1) tYesD e__law_is_formed_0
def e__law_is_formed_1 : EC :=
    (eCall 1 m__law_is_pair (aCons (eVar 1) aNil))
def lc__law_is_formed_1 : DL.Env → Out (List D) :=
    nLc [1] (eIter (eBin dIx (eVar 0) (eC (.int 4)))) (setN 1) tYesD e__law_is_formed_1
def c__law_is_formed : SC :=
    (sSeq (sIf (eOr (eNot (eTruth (eIsi ["tuple"] (eVar 0)))) (eOr (eTest (eBin dNe (eCallB dLen (aCons (eVar 0) aNil)) (eC (.int 5)))) (eOr (eNot (eTruth (eIsi ["str"] (eBin dIx (eVar 0) (eC (.int 0)))))) (eTest (eBin dNe (eBin dIx (eVar 0) (eC (.int 0))) (eC (.str (tx [116, 111, 110, 103, 117, 101]))))))))
    (sRet (eC (.bool false)))
    sNx)
    (sSeq (sIf (eOr (eNot (eTruth (eCall 3 m__law_is_int (aCons (eBin dIx (eVar 0) (eC (.int 1))) (aCons (eC (.int 1)) (aCons (eC (.int 9)) aNil)))))) (eNot (eTruth (eCall 3 m__law_is_int (aCons (eBin dIx (eVar 0) (eC (.int 2))) (aCons (eC (.int 1)) (aCons (eC (.int 9)) aNil)))))))
    (sRet (eC (.bool false)))
    sNx)
    (sSeq (sIf (eOr (eNot (eTruth (eIsi ["tuple"] (eBin dIx (eVar 0) (eC (.int 3)))))) (eNot (eTruth (eIsi ["tuple"] (eBin dIx (eVar 0) (eC (.int 4)))))))
    (sRet (eC (.bool false)))
    sNx)
    (sRet (eBin dNotIn (eC (.bool false)) (eBin dAdd (eN lc__law_is_formed_0) (eN lc__law_is_formed_1)))))))
def m__law_is_formed : List D → FO := fnP c__law_is_formed 1
-- _law_ascending: 0:rows 1:j
def e__law_ascending_0 : EC :=
    (eBin dLt (eBin dIx (eVar 0) (eVar 1)) (eBin dIx (eVar 0) (eBin dAdd (eVar 1) (eC (.int 1)))))
def lc__law_ascending_0 : DL.Env → Out (List D) :=
    nLc [1] (eRng1 (aCons (eBin dSub (eCallB dLen (aCons (eVar 0) aNil)) (eC (.int 1))) aNil)) (setN 1) tYesD e__law_ascending_0
def c__law_ascending : SC :=
    (sRet (eBin dNotIn (eC (.bool false)) (eN lc__law_ascending_0)))
def m__law_ascending : List D → FO := fnP c__law_ascending 1
-- _law_due: 0:value 1:rows 2:at 3:names 4:one 5:j
def e__law_due_0 : EC :=
    (eBin dIx (eVar 4) (eVar 2))
def lc__law_due_0 : DL.Env → Out (List D) :=
    nLc [4] (eIter (eVar 1)) (setN 4) tYesD e__law_due_0
def b__law_due_0 : SC :=
    sFg true [5] (sIf (eTest (eBin dIn (eBin dIx (eVar 3) (eVar 5)) (eSl dSl (eVar 3) oNone (oSome (eVar 5)))))
    (sRet (eTup (aCons (eC (.str (tx [116, 119, 105, 99, 101]))) (aCons (eBin dIx (eVar 3) (eVar 5)) aNil))))
    sNx)
def L__law_due_0 : SC :=
    sPre [5] (sFg true [5] (sFor (eRng1 (aCons (eCallB dLen (aCons (eVar 3) aNil)) aNil)) (setN 5) b__law_due_0))
def b__law_due_1 : SC :=
    sFg true [1, 2, 3, 5] (sSeq (sAsg (eN lc__law_due_0) (setN 3))
    L__law_due_0)
def L__law_due_1 : SC :=
    sPre [1, 2, 3, 5] (sFg true [1, 2, 3, 4, 5] (sFor (eIter (eN (nLst (aCons (eTup (aCons (eBin dIx (eVar 0) (eC (.int 3))) (aCons (eC (.int 1)) aNil))) (aCons (eTup (aCons (eBin dIx (eVar 0) (eC (.int 4))) (aCons (eC (.int 0)) aNil))) aNil))))) (setTup 2 (setCons (setN 1) (setCons (setN 2) setNil))) b__law_due_1))
def c__law_due : SC :=
    (sSeq (sIf (eNot (eTruth (eCall 1 m__law_is_formed (aCons (eVar 0) aNil))))
    (sRet (eTup (aCons (eC (.str (tx [102, 111, 114, 109]))) (aCons (eC (.str (tx []))) aNil))))
    sNx)
    (sSeq (sIf (eOr (eTest (eBin dGt (eCallB dLen (aCons (eBin dIx (eVar 0) (eC (.int 3))) aNil)) (eC (.int 400)))) (eTest (eBin dGt (eCallB dLen (aCons (eBin dIx (eVar 0) (eC (.int 4))) aNil)) (eC (.int 200)))))
    (sRet (eTup (aCons (eC (.str (tx [109, 97, 110, 121]))) (aCons (eIf (eTest (eBin dGt (eCallB dLen (aCons (eBin dIx (eVar 0) (eC (.int 3))) aNil)) (eC (.int 400)))) (eC (.str (tx [112, 97, 116, 116, 101, 114, 110, 115]))) (eC (.str (tx [101, 120, 99, 101, 112, 116, 105, 111, 110, 115])))) aNil))))
    sNx)
    (sSeq L__law_due_1
    (sRet (eBin dAdd (eSl dSl (eVar 0) oNone (oSome (eC (.int 3)))) (eTup (aCons (eCallB dTuple (aCons (eN (nCallB nSorted2 (aCons (eBin dIx (eVar 0) (eC (.int 3))) aNil))) aNil)) (aCons (eCallB dTuple (aCons (eN (nCallB nSorted2 (aCons (eBin dIx (eVar 0) (eC (.int 4))) aNil))) aNil)) aNil))))))))
def m__law_due : List D → FO := fnP c__law_due 5
-- _law_told: 0:value 1:e
def c__law_told : SC :=
    (sTryM sub_ (sRet (eCall 1 m_check_tongue (aCons (eVar 0) aNil)))
    [.named "BadTongue" 1 (xBin dPair (xFld "BadTongue" "kind") (xFld "BadTongue" "name"))])
def m__law_told : List D → FO := fnP c__law_told 1
-- law: 0:script 1:k 2:bag 3:value 4:odd 5:turn 6:due 7:whole 8:one 9:inner 10:rows 11:good
def b_law_0 : SC :=
    sFg true [5] (sAsg (eCallO 2 3 (m__law_spoilt 12) (aCons (eVar 3) (aCons (eBin dIx (eVar 4) (eCallO 2 1 m__law_draw (aCons (eC (.int 16)) aNil))) (aCons (eC (.int 9)) aNil)))) (setN 3))
def L_law_0 : SC :=
    sPre [5] (sFg true [5] (sFor (eRng1 (aCons (eCallO 2 1 m__law_draw (aCons (eC (.int 3)) aNil)) aNil)) (setN 5) b_law_0))
def e_law_0 : EC :=
    (eBin dIx (eVar 8) (eC (.int 1)))
def lc_law_0 : DL.Env → Out (List D) :=
    nLc [8] (eIter (eBin dIx (eVar 3) (eC (.int 3)))) (setN 8) tYesD e_law_0
def e_law_1 : EC :=
    (eBin dIx (eVar 8) (eC (.int 0)))
def lc_law_1 : DL.Env → Out (List D) :=
    nLc [8] (eIter (eBin dIx (eVar 3) (eC (.int 4)))) (setN 8) tYesD e_law_1
def b_law_1 : SC :=
    sFg true [] (sIf (eTest (eBin dIsNot (eCall 1 m_is_pattern (aCons (eVar 8) aNil)) (eC (.bool true))))
    (sRet (eC (.bool false)))
    sNx)
def L_law_1 : SC :=
    sPre [] (sFg true [] (sFor (eIter (eBin dIx (eVar 3) (eC (.int 3)))) (setN 8) b_law_1))
def b_law_2 : SC :=
    sFg true [] (sIf (eTest (eBin dNe (eCallB dRepr (aCons (eCall 1 m_is_pattern (aCons (eVar 8) aNil)) aNil)) (eCallB dRepr (aCons (eCall 1 m__law_is_pattern (aCons (eVar 8) aNil)) aNil))))
    (sRet (eC (.bool false)))
    sNx)
def L_law_2 : SC :=
    sPre [] (sFg true [] (sFor (eIter (eIf (eTruth (eIsi ["tuple"] (eVar 9))) (eVar 9) (eN (nLst (aCons (eVar 9) aNil))))) (setN 8) b_law_2))
def e_law_2 : EC :=
    (eCall 1 m__law_is_pair (aCons (eVar 8) aNil))
def lc_law_2 : DL.Env → Out (List D) :=
    nLc [8] (eIter (eVar 10)) (setN 8) tYesD e_law_2
def e_law_3 : EC :=
    (eBin dIx (eVar 8) (eC (.int 0)))
def lc_law_3 : DL.Env → Out (List D) :=
    nLc [8] (eIter (eVar 10)) (setN 8) tYesD e_law_3
def b_law_3 : SC :=
    sFg true [1, 2, 3, 5, 6, 7, 9, 10, 11] (sSeq (sCallN 2 2 m__law_bag (aCons (eVar 0) (aCons (eVar 1) aNil)))
    (sSeq (sAsg (eCallO 2 3 m__law_tongue (aCons (eC (.str (tx [97, 98, 99]))) (aCons (eCallO 2 1 m__law_draw (aCons (eC (.int 9)) aNil)) (aCons (eCallO 2 1 m__law_one (aCons (eN (nLst (aCons (eC (.int 2)) (aCons (eC (.int 5)) (aCons (eC (.int 12)) aNil))))) aNil)) aNil)))) (setN 3))
    (sSeq (sIf (eTest (eBin dEq (eCallO 2 1 m__law_draw (aCons (eC (.int 3)) aNil)) (eC (.int 0))))
    (sAsg (eBin dAdd (eSl dSl (eVar 3) oNone (oSome (eC (.int 3)))) (eTup (aCons (eBin dAdd (eRev (eBin dIx (eVar 3) (eC (.int 3)))) (eSl dSl (eBin dIx (eVar 3) (eC (.int 3))) oNone (oSome (eCallO 2 1 m__law_draw (aCons (eC (.int 2)) aNil))))) (aCons (eBin dAdd (eRev (eBin dIx (eVar 3) (eC (.int 4)))) (eSl dSl (eBin dIx (eVar 3) (eC (.int 4))) oNone (oSome (eCallO 2 1 m__law_draw (aCons (eC (.int 2)) aNil))))) aNil)))) (setN 3))
    sNx)
    (sSeq (sIf (eTest (eBin dEq (eCallO 2 1 m__law_draw (aCons (eC (.int 9)) aNil)) (eC (.int 0))))
    (sAsg (eBin dAdd (eSl dSl (eVar 3) oNone (oSome (eC (.int 3)))) (eTup (aCons (eBin dMulA (eTup (aCons (eTup (aCons (eC (.str (tx [112, 97, 116, 116, 101, 114, 110]))) (aCons (eC (.str (tx [97]))) (aCons (eTup (aCons (eC (.int 1)) (aCons (eC (.int 0)) aNil))) aNil)))) aNil)) (eCallO 2 1 m__law_one (aCons (eN (nLst (aCons (eC (.int 400)) (aCons (eC (.int 401)) aNil)))) aNil))) (aCons (eBin dIx (eVar 3) (eC (.int 4))) aNil)))) (setN 3))
    sNx)
    (sSeq (sAsg (eN (nLst (aCons (eC (.int 0)) (aCons (eNeg (eC (.int 1))) (aCons (eC (.int 10)) (aCons (eC (.bool true)) (aCons (eC .none) (aCons (eC (.str (tx [120]))) (aCons (eC (.str (tx []))) (aCons (eC (.str (tx [46]))) (aCons (eC (.str (tx [97, 46, 98]))) (aCons (eC (.str (tx [46, 46]))) (aCons (eTup aNil) (aCons (eN (nLst aNil)) (aCons (eC (.str (tx [65]))) (aCons (eTup (aCons (eC (.int 1)) aNil)) (aCons (eC (.str (tx [116, 111, 110, 103, 117, 101]))) (aCons (eC (.int 1)) aNil)))))))))))))))))) (setN 4))
    (sSeq L_law_0
    (sSeq (sAsg (eCall 1 m__law_due (aCons (eVar 3) aNil)) (setN 6))
    (sSeq (sIf (eTest (eBin dNe (eCall 1 m__law_told (aCons (eVar 3) aNil)) (eVar 6)))
    (sRet (eC (.bool false)))
    sNx)
    (sSeq (sAsg (eAndV (eBin dEq (eCallB dLen (aCons (eVar 6) aNil)) (eC (.int 5))) (eAndV (eCall 1 m__law_ascending (aCons (eN lc_law_0) aNil)) (eCall 1 m__law_ascending (aCons (eN lc_law_1) aNil)))) (setN 7))
    (sSeq (sIf (eTest (eBin dNe (eCallB dRepr (aCons (eCall 1 m_is_tongue (aCons (eVar 3) aNil)) aNil)) (eCallB dRepr (aCons (eVar 7) aNil))))
    (sRet (eC (.bool false)))
    sNx)
    (sSeq (sIf (eTruth (eCall 1 m__law_is_formed (aCons (eVar 3) aNil)))
    L_law_1
    sNx)
    (sSeq (sAsg (eIf (eAnd (eTruth (eIsi ["tuple"] (eVar 3))) (eTest (eBin dGt (eCallB dLen (aCons (eVar 3) aNil)) (eC (.int 3))))) (eBin dIx (eVar 3) (eC (.int 3))) (eVar 3)) (setN 9))
    (sSeq L_law_2
    (sSeq (sAsg (eIf (eAnd (eTruth (eIsi ["tuple"] (eVar 3))) (eTest (eBin dEq (eCallB dLen (aCons (eVar 3) aNil)) (eC (.int 5))))) (eBin dIx (eVar 3) (eC (.int 4))) (eC .none)) (setN 10))
    (sSeq (sAsg (eAndV (eIsi ["tuple"] (eVar 10)) (eAndV (eBin dLe (eC (.int 1)) (eCallB dLen (aCons (eVar 10) aNil))) (eAndV (eBin dLt (eCallB dLen (aCons (eVar 10) aNil)) (eC (.int 201))) (eBin dNotIn (eC (.bool false)) (eN lc_law_2))))) (setN 11))
    (sIf (eTest (eBin dNe (eCallB dRepr (aCons (eCall 1 m_is_list (aCons (eVar 10) aNil)) aNil)) (eCallB dRepr (aCons (eAndV (eVar 11) (eCall 1 m__law_ascending (aCons (eN lc_law_3) aNil))) aNil))))
    (sRet (eC (.bool false)))
    sNx))))))))))))))))
def L_law_3 : SC :=
    sPre [1, 2, 3, 5, 6, 7, 9, 10, 11] (sFg true [1, 2, 3, 5, 6, 7, 8, 9, 10, 11] (sFor (eRng1 (aCons (eCallB dMaxA (aCons (eC (.int 1)) (aCons (eCallB dMin (aCons (eC (.int 10)) (aCons (eCallB dLen (aCons (eVar 0) aNil)) aNil))) aNil))) aNil)) (setN 1) b_law_3))
def e_law_4 : EC :=
    (eCall 1 m_is_tongue (aCons (eVar 4) aNil))
def lc_law_4 : DL.Env → Out (List D) :=
    nLc [4] (eIter (eN (nLst (aCons (eC .none) (aCons (eC (.int 5)) (aCons (eC (.str (tx [116, 111, 110, 103, 117, 101]))) (aCons (eN (nLst aNil)) (aCons (eTup aNil) aNil)))))))) (setN 4) tYesD e_law_4
def c_law : SC :=
    (sSeq L_law_3
    (sRet (eAndV (eBin dEq (eN lc_law_4) (eN (nRep (nLst (aCons (eC (.bool false)) aNil)) (eC (.int 5))))) (eBin dIs (eCall 1 m_is_list (aCons (eTup aNil) aNil)) (eC (.bool false))))))
def m_law : List D → FO := fnP c_law 11
structure Facts (K : Fg) (mg : Str → Option Value) where
  a_is_integer : Addr
  d_is_integer : FuncData
  a_is_word : Addr
  d_is_word : FuncData
  a_is_places : Addr
  d_is_places : FuncData
  a_is_signs : Addr
  d_is_signs : FuncData
  a_is_pattern : Addr
  d_is_pattern : FuncData
  a_is_pair : Addr
  d_is_pair : FuncData
  a_is_formed : Addr
  d_is_formed : FuncData
  a_are_ascending : Addr
  d_are_ascending : FuncData
  a_is_tongue : Addr
  d_is_tongue : FuncData
  a_is_list : Addr
  d_is_list : FuncData
  a_first_twice : Addr
  d_first_twice : FuncData
  a_check_tongue : Addr
  d_check_tongue : FuncData
  a__law_bag : Addr
  d__law_bag : FuncData
  a__law_draw : Addr
  d__law_draw : FuncData
  a__law_one : Addr
  d__law_one : FuncData
  a__law_word : Addr
  d__law_word : FuncData
  a__law_pattern : Addr
  d__law_pattern : FuncData
  a__law_places : Addr
  d__law_places : FuncData
  a__law_tongue : Addr
  d__law_tongue : FuncData
  a__law_spoilt : Addr
  d__law_spoilt : FuncData
  a__law_is_int : Addr
  d__law_is_int : FuncData
  a__law_is_word : Addr
  d__law_is_word : FuncData
  a__law_is_pair : Addr
  d__law_is_pair : FuncData
  a__law_is_pattern : Addr
  d__law_is_pattern : FuncData
  a__law_is_formed : Addr
  d__law_is_formed : FuncData
  a__law_ascending : Addr
  d__law_ascending : FuncData
  a__law_due : Addr
  d__law_due : FuncData
  a__law_told : Addr
  d__law_told : FuncData
  a_law : Addr
  d_law : FuncData
  C_BadTongue : Addr
  i_BadTongue : Addr
  e_BadTongue : FuncData
  F_is_integer : Fun K "is_integer" "is_integer" s_is_integer a_is_integer d_is_integer
  m_is_integer : mg "is_integer" = some (.ref a_is_integer)
  b_is_integer : Binds K d_is_integer ["value", "low", "high"] []
  F_is_word : Fun K "is_word" "is_word" s_is_word a_is_word d_is_word
  m_is_word : mg "is_word" = some (.ref a_is_word)
  b_is_word : Binds K d_is_word ["value"] []
  F_is_places : Fun K "is_places" "is_places" s_is_places a_is_places d_is_places
  m_is_places : mg "is_places" = some (.ref a_is_places)
  b_is_places : Binds K d_is_places ["word", "value"] []
  F_is_signs : Fun K "is_signs" "is_signs" s_is_signs a_is_signs d_is_signs
  m_is_signs : mg "is_signs" = some (.ref a_is_signs)
  b_is_signs : Binds K d_is_signs ["value"] []
  F_is_pattern : Fun K "is_pattern" "is_pattern" s_is_pattern a_is_pattern d_is_pattern
  m_is_pattern : mg "is_pattern" = some (.ref a_is_pattern)
  b_is_pattern : Binds K d_is_pattern ["value"] []
  F_is_pair : Fun K "is_pair" "is_pair" s_is_pair a_is_pair d_is_pair
  m_is_pair : mg "is_pair" = some (.ref a_is_pair)
  b_is_pair : Binds K d_is_pair ["value"] []
  F_is_formed : Fun K "is_formed" "is_formed" s_is_formed a_is_formed d_is_formed
  m_is_formed : mg "is_formed" = some (.ref a_is_formed)
  b_is_formed : Binds K d_is_formed ["value"] []
  F_are_ascending : Fun K "are_ascending" "are_ascending" s_are_ascending a_are_ascending d_are_ascending
  m_are_ascending : mg "are_ascending" = some (.ref a_are_ascending)
  b_are_ascending : Binds K d_are_ascending ["names"] []
  F_is_tongue : Fun K "is_tongue" "is_tongue" s_is_tongue a_is_tongue d_is_tongue
  m_is_tongue : mg "is_tongue" = some (.ref a_is_tongue)
  b_is_tongue : Binds K d_is_tongue ["value"] []
  F_is_list : Fun K "is_list" "is_list" s_is_list a_is_list d_is_list
  m_is_list : mg "is_list" = some (.ref a_is_list)
  b_is_list : Binds K d_is_list ["value"] []
  F_first_twice : Fun K "first_twice" "first_twice" s_first_twice a_first_twice d_first_twice
  m_first_twice : mg "first_twice" = some (.ref a_first_twice)
  b_first_twice : Binds K d_first_twice ["names"] []
  F_check_tongue : Fun K "check_tongue" "check_tongue" s_check_tongue a_check_tongue d_check_tongue
  m_check_tongue : mg "check_tongue" = some (.ref a_check_tongue)
  b_check_tongue : Binds K d_check_tongue ["value"] []
  F__law_bag : Fun K "_law_bag" "_law_bag" s__law_bag a__law_bag d__law_bag
  m__law_bag : mg "_law_bag" = some (.ref a__law_bag)
  b__law_bag : Binds K d__law_bag ["script", "k"] []
  F__law_draw : Fun K "_law_draw" "_law_draw" s__law_draw a__law_draw d__law_draw
  m__law_draw : mg "_law_draw" = some (.ref a__law_draw)
  b__law_draw : Binds K d__law_draw ["bag", "many"] []
  F__law_one : Fun K "_law_one" "_law_one" s__law_one a__law_one d__law_one
  m__law_one : mg "_law_one" = some (.ref a__law_one)
  b__law_one : Binds K d__law_one ["bag", "row"] []
  F__law_word : Fun K "_law_word" "_law_word" s__law_word a__law_word d__law_word
  m__law_word : mg "_law_word" = some (.ref a__law_word)
  b__law_word : Binds K d__law_word ["bag", "letters", "most"] []
  F__law_pattern : Fun K "_law_pattern" "_law_pattern" s__law_pattern a__law_pattern d__law_pattern
  m__law_pattern : mg "_law_pattern" = some (.ref a__law_pattern)
  b__law_pattern : Binds K d__law_pattern ["bag", "letters", "most"] []
  F__law_places : Fun K "_law_places" "_law_places" s__law_places a__law_places d__law_places
  m__law_places : mg "_law_places" = some (.ref a__law_places)
  b__law_places : Binds K d__law_places ["bag", "word"] []
  F__law_tongue : Fun K "_law_tongue" "_law_tongue" s__law_tongue a__law_tongue d__law_tongue
  m__law_tongue : mg "_law_tongue" = some (.ref a__law_tongue)
  b__law_tongue : Binds K d__law_tongue ["bag", "letters", "many", "most"] []
  F__law_spoilt : Fun K "_law_spoilt" "_law_spoilt" s__law_spoilt a__law_spoilt d__law_spoilt
  m__law_spoilt : mg "_law_spoilt" = some (.ref a__law_spoilt)
  b__law_spoilt : Binds K d__law_spoilt ["bag", "value", "odd", "down"] []
  F__law_is_int : Fun K "_law_is_int" "_law_is_int" s__law_is_int a__law_is_int d__law_is_int
  m__law_is_int : mg "_law_is_int" = some (.ref a__law_is_int)
  b__law_is_int : Binds K d__law_is_int ["value", "low", "high"] []
  F__law_is_word : Fun K "_law_is_word" "_law_is_word" s__law_is_word a__law_is_word d__law_is_word
  m__law_is_word : mg "_law_is_word" = some (.ref a__law_is_word)
  b__law_is_word : Binds K d__law_is_word ["value"] []
  F__law_is_pair : Fun K "_law_is_pair" "_law_is_pair" s__law_is_pair a__law_is_pair d__law_is_pair
  m__law_is_pair : mg "_law_is_pair" = some (.ref a__law_is_pair)
  b__law_is_pair : Binds K d__law_is_pair ["value"] []
  F__law_is_pattern : Fun K "_law_is_pattern" "_law_is_pattern" s__law_is_pattern a__law_is_pattern d__law_is_pattern
  m__law_is_pattern : mg "_law_is_pattern" = some (.ref a__law_is_pattern)
  b__law_is_pattern : Binds K d__law_is_pattern ["value"] []
  F__law_is_formed : Fun K "_law_is_formed" "_law_is_formed" s__law_is_formed a__law_is_formed d__law_is_formed
  m__law_is_formed : mg "_law_is_formed" = some (.ref a__law_is_formed)
  b__law_is_formed : Binds K d__law_is_formed ["value"] []
  F__law_ascending : Fun K "_law_ascending" "_law_ascending" s__law_ascending a__law_ascending d__law_ascending
  m__law_ascending : mg "_law_ascending" = some (.ref a__law_ascending)
  b__law_ascending : Binds K d__law_ascending ["rows"] []
  F__law_due : Fun K "_law_due" "_law_due" s__law_due a__law_due d__law_due
  m__law_due : mg "_law_due" = some (.ref a__law_due)
  b__law_due : Binds K d__law_due ["value"] []
  F__law_told : Fun K "_law_told" "_law_told" s__law_told a__law_told d__law_told
  m__law_told : mg "_law_told" = some (.ref a__law_told)
  b__law_told : Binds K d__law_told ["value"] []
  F_law : Fun K "law" "law" s_law a_law d_law
  m_law : mg "law" = some (.ref a_law)
  b_law : Binds K d_law ["script"] []
  FI_BadTongue : Fun K "__init__" "BadTongue.__init__" si_BadTongue i_BadTongue e_BadTongue
  x_BadTongue : ExI K mg "BadTongue" C_BadTongue i_BadTongue e_BadTongue ["self", "kind", "name"]
  xf_BadTongue : XfC K C_BadTongue
  nf_BadTongue_kind : PySem.W.findIn K (.ref C_BadTongue) "kind" = some none
  nf_BadTongue_name : PySem.W.findIn K (.ref C_BadTongue) "name" = some none
  g_MOST_LETTERS : GlD K mg "MOST_LETTERS" d_MOST_LETTERS
  g_MOST_SIGNS : GlD K mg "MOST_SIGNS" d_MOST_SIGNS
  g_MOST_LEVEL : GlD K mg "MOST_LEVEL" d_MOST_LEVEL
  g_MOST_PATTERNS : GlD K mg "MOST_PATTERNS" d_MOST_PATTERNS
  g_MOST_EXCEPTIONS : GlD K mg "MOST_EXCEPTIONS" d_MOST_EXCEPTIONS
  g_MOST_LIST : GlD K mg "MOST_LIST" d_MOST_LIST
  g_LETTERS : GlD K mg "LETTERS" d_LETTERS
  z_all : mg "all" = none
  z_bool : mg "bool" = none
  z_int : mg "int" = none
  z_isinstance : mg "isinstance" = none
  z_len : mg "len" = none
  z_list : mg "list" = none
  z_max : mg "max" = none
  z_min : mg "min" = none
  z_range : mg "range" = none
  z_repr : mg "repr" = none
  z_sorted : mg "sorted" = none
  z_str : mg "str" = none
  z_tuple : mg "tuple" = none
  z_zip : mg "zip" = none
  sub_ok : SubT K (fun x => if x = "BadTongue" then some (.ref C_BadTongue) else none) sub_
def ct {K : Fg} {mg : Str → Option Value} (T : Facts K mg) : String → Option Value := fun x => if x = "BadTongue" then some (.ref T.C_BadTongue) else none
theorem ct_BadTongue {K : Fg} {mg : Str → Option Value} (T : Facts K mg) : ct T "BadTongue" = some (.ref T.C_BadTongue) := by simp [ct]
section
variable {P : Program} {w : World} {K : Fg} {mg : Str → Option Value} {base : Heap}
theorem sci_BadTongue : FnScope ["self", "kind", "name"] ["self", "kind", "name"] (defScope si_BadTongue) := ⟨rfl, rfl, rfl, by decide +kernel, rfl, by decide +kernel, by decide +kernel⟩
theorem ok_i_BadTongue (T : Facts K mg) : FnOk P w K mg base (L2.CX P w) 1 T.i_BadTongue T.e_BadTongue ["self", "kind", "name"] (spI2 K T.C_BadTongue "kind" "name") := fn_i2 T.x_BadTongue.o T.nf_BadTongue_kind T.nf_BadTongue_name T.FI_BadTongue sci_BadTongue rfl rfl rfl rfl
theorem sc_is_integer : FnScope ["value", "low", "high"] ["value", "low", "high"] (defScope s_is_integer) := ⟨rfl, rfl, rfl, by decide +kernel, rfl, by decide +kernel, by decide +kernel⟩
theorem ok_is_integer (T : Facts K mg) : FnOk P w K mg base (L2.CX P w) 1 T.a_is_integer T.d_is_integer ["value", "low", "high"] (spP K (ct T) 3 m_is_integer) :=
  fn_p T.F_is_integer sc_is_integer rfl rfl fun cdv A outer s H E hr =>
    (dss_one (ds_ret (de_and (de_isi (de_var 0) T.z_isinstance T.z_int bt_int) (de_and (de_not (de_isi (de_var 0) T.z_isinstance T.z_bool bt_bool)) (de_one (de_chain od_le od_le (de_var 1) (de_var 0) (de_var 2)))))))
theorem sc_is_word : FnScope ["value", "sign"] ["value"] (defScope s_is_word) := ⟨rfl, rfl, rfl, by decide +kernel, rfl, by decide +kernel, by decide +kernel⟩
theorem ok_is_word (T : Facts K mg) : FnOk P w K mg base (L2.CX P w) 1 T.a_is_word T.d_is_word ["value"] (spP K (ct T) 1 m_is_word) :=
  fn_p T.F_is_word sc_is_word rfl rfl fun cdv A outer s H E hr =>
    (dss_cons (ds_if (L2.PW.pt (dw_or (dt_not (dt_truth (de_isi (de_var 0) T.z_isinstance T.z_str bt_str))) (dw_or1 (dt_not (dt_chain od_le od_le de_int (de_callB cd_len T.z_len bt_len (da_cons (de_var 0) da_nil)) (de_glob T.g_MOST_LETTERS))))))
    (dss_one (ds_ret de_bl))
    dss_nil)
    (dss_one (ds_ret (de_callB (cd_all rfl) T.z_all bt_all (da_cons (de_n (dn_lc (own := [("sign", 1)]) rfl sc_is_word.nd (di_seq (de_var 0)) (blkOk_by (by kernel_rfl)) (by decide) (fun _ _ _ _ _ => (dg_name 1 sc_is_word.nd)) (fun _ _ _ _ _ => dts_nil) (fun _ _ _ _ _ => (de_cmp (od_in (hu65 hr)) (de_var 1) (de_glob T.g_LETTERS))))) da_nil)))))
theorem sc_is_places : FnScope ["word", "value", "place", "one", "other"] ["word", "value"] (defScope s_is_places) := ⟨rfl, rfl, rfl, by decide +kernel, rfl, by decide +kernel, by decide +kernel⟩
theorem ok_is_places (T : Facts K mg) : FnOk P w K mg base (L2.CX P w) 2 T.a_is_places T.d_is_places ["word", "value"] (spP K (ct T) 2 m_is_places) :=
  fn_p T.F_is_places sc_is_places rfl rfl fun cdv A outer s H E hr =>
    (dss_cons (ds_if (L2.PW.pt (dw_or (dt_not (dt_truth (de_isi (de_var 1) T.z_isinstance T.z_tuple bt_tuple))) (dw_or1 (dt_not (dt_truth (de_callB (cd_all rfl) T.z_all bt_all (da_cons (de_n (dn_lc (own := [("place", 2)]) rfl sc_is_places.nd (di_seq (de_var 1)) (blkOk_by (by kernel_rfl)) (by decide) (fun _ _ _ _ _ => (dg_name 2 sc_is_places.nd)) (fun _ _ _ _ _ => dts_nil) (fun _ _ _ _ _ => (de_call (ok_is_integer T) (hr.mono (by decide)) T.m_is_integer T.F_is_integer.kp T.b_is_integer takes_no (da_cons (de_var 2) (da_cons de_int (da_cons (de_op od_sub (de_callB cd_len T.z_len bt_len (da_cons (de_var 0) da_nil)) de_int) da_nil))))))) da_nil)))))))
    (dss_one (ds_ret de_bl))
    dss_nil)
    (dss_one (ds_ret (de_callB (cd_all rfl) T.z_all bt_all (da_cons (de_n (dn_lc (own := [("one", 3), ("other", 4)]) rfl sc_is_places.nd (di_zip T.z_zip (da_cons (de_var 1) (da_cons (de_sl od_sl (de_var 1) (do_some de_int) do_none) da_nil))) (blkOk_by (by kernel_rfl)) (by decide) (fun _ _ _ _ _ => (dg_tup rfl (dgs_cons (dg_name 3 sc_is_places.nd) (dgs_cons (dg_name 4 sc_is_places.nd) dgs_nil)))) (fun _ _ _ _ _ => dts_nil) (fun _ _ _ _ _ => (de_cmp od_lt (de_var 3) (de_var 4))))) da_nil)))))
theorem sc_is_signs : FnScope ["value", "inner", "sign"] ["value"] (defScope s_is_signs) := ⟨rfl, rfl, rfl, by decide +kernel, rfl, by decide +kernel, by decide +kernel⟩
theorem ok_is_signs (T : Facts K mg) : FnOk P w K mg base (L2.CX P w) 1 T.a_is_signs T.d_is_signs ["value"] (spP K (ct T) 1 m_is_signs) :=
  fn_p T.F_is_signs sc_is_signs rfl rfl fun cdv A outer s H E hr =>
    (dss_cons (ds_if (L2.PW.pt (dw_or (dt_not (dt_truth (de_isi (de_var 0) T.z_isinstance T.z_str bt_str))) (dw_or1 (dt_not (dt_chain od_le od_le de_int (de_callB cd_len T.z_len bt_len (da_cons (de_var 0) da_nil)) (de_glob T.g_MOST_SIGNS))))))
    (dss_one (ds_ret de_bl))
    dss_nil)
    (dss_cons (ds_asg (de_sl od_sl (de_var 0) (do_some (de_callTy cd_int T.z_int bt_int (da_cons (de_cmp (od_eq (hu64 hr)) (de_ix od_ix (de_var 0) de_int) (de_strT (by decide +kernel))) da_nil))) do_none) (dg_name 1 sc_is_signs.nd))
    (dss_cons (ds_if (L2.PW.pt (dw_and (dt_cmp (od_ne (hu64 hr)) (de_var 1) (de_strT (by decide +kernel))) (dw_and1 (dt_cmp (od_eq (hu64 hr)) (de_ix od_ix (de_var 1) (de_neg de_int)) (de_strT (by decide +kernel))))))
    (dss_one (ds_asg (de_sl od_sl (de_var 1) do_none (do_some (de_neg de_int))) (dg_name 1 sc_is_signs.nd)))
    dss_nil)
    (dss_one (ds_ret (de_and (de_cmp (od_ne (hu64 hr)) (de_var 1) (de_strT (by decide +kernel))) (de_one (de_callB (cd_all rfl) T.z_all bt_all (da_cons (de_n (dn_lc (own := [("sign", 2)]) rfl sc_is_signs.nd (di_seq (de_var 1)) (blkOk_by (by kernel_rfl)) (by decide) (fun _ _ _ _ _ => (dg_name 2 sc_is_signs.nd)) (fun _ _ _ _ _ => dts_nil) (fun _ _ _ _ _ => (de_cmp (od_in (hu65 hr)) (de_var 2) (de_glob T.g_LETTERS))))) da_nil)))))))))
theorem sc_is_pattern : FnScope ["value", "_", "text", "levels", "level"] ["value"] (defScope s_is_pattern) := ⟨rfl, rfl, rfl, by decide +kernel, rfl, by decide +kernel, by decide +kernel⟩
theorem ok_is_pattern (T : Facts K mg) : FnOk P w K mg base (L2.CX P w) 2 T.a_is_pattern T.d_is_pattern ["value"] (spP K (ct T) 1 m_is_pattern) :=
  fn_p T.F_is_pattern sc_is_pattern rfl rfl fun cdv A outer s H E hr =>
    (dss_cons (ds_if (L2.PW.pt (dw_or (dt_not (dt_truth (de_isi (de_var 0) T.z_isinstance T.z_tuple bt_tuple))) (dw_or (dt_cmp (od_ne (hu64 hr)) (de_callB cd_len T.z_len bt_len (da_cons (de_var 0) da_nil)) de_int) (dw_or (dt_cmp (od_ne (hu64 hr)) (de_ix od_ix (de_var 0) de_int) (de_strT (by decide +kernel))) (dw_or1 (dt_not (dt_truth (de_call (ok_is_signs T) (hr.mono (by decide)) T.m_is_signs T.F_is_signs.kp T.b_is_signs (takes_at (takes_of rfl rfl rfl rfl)) (da_cons (de_ix od_ix (de_var 0) de_int) da_nil)))))))))
    (dss_one (ds_ret de_bl))
    dss_nil)
    (dss_cons (ds_asg (de_var 0) (dg_tup rfl (dgs_cons (dg_name 1 sc_is_pattern.nd) (dgs_cons (dg_name 2 sc_is_pattern.nd) (dgs_cons (dg_name 3 sc_is_pattern.nd) dgs_nil)))))
    (dss_cons (ds_if (L2.PW.pt (dw_or (dt_not (dt_truth (de_isi (de_var 3) T.z_isinstance T.z_tuple bt_tuple))) (dw_or1 (dt_cmp (od_ne (hu64 hr)) (de_callB cd_len T.z_len bt_len (da_cons (de_var 3) da_nil)) (de_op od_add (de_callB cd_len T.z_len bt_len (da_cons (de_var 2) da_nil)) de_int)))))
    (dss_one (ds_ret de_bl))
    dss_nil)
    (dss_cons (ds_if (L2.PW.pt (dw_or (dt_not (dt_truth (de_callB (cd_all rfl) T.z_all bt_all (da_cons (de_n (dn_lc (own := [("level", 4)]) rfl sc_is_pattern.nd (di_seq (de_var 3)) (blkOk_by (by kernel_rfl)) (by decide) (fun _ _ _ _ _ => (dg_name 4 sc_is_pattern.nd)) (fun _ _ _ _ _ => dts_nil) (fun _ _ _ _ _ => (de_call (ok_is_integer T) (hr.mono (by decide)) T.m_is_integer T.F_is_integer.kp T.b_is_integer takes_no (da_cons (de_var 4) (da_cons de_int (da_cons (de_glob T.g_MOST_LEVEL) da_nil))))))) da_nil)))) (dw_or1 (dt_cmp (od_eq (hu64 hr)) (de_callB (cd_maxA rfl (hu64 hr)) T.z_max bt_max (da_cons (de_var 3) da_nil)) de_int))))
    (dss_one (ds_ret de_bl))
    dss_nil)
    (dss_one (ds_ret (de_and (de_or (de_cmp (od_ne (hu64 hr)) (de_ix od_ix (de_var 2) de_int) (de_strT (by decide +kernel))) (de_one (de_cmp (od_eq (hu64 hr)) (de_ix od_ix (de_var 3) de_int) de_int))) (de_one (de_or (de_cmp (od_ne (hu64 hr)) (de_ix od_ix (de_var 2) (de_neg de_int)) (de_strT (by decide +kernel))) (de_one (de_cmp (od_eq (hu64 hr)) (de_ix od_ix (de_var 3) (de_neg de_int)) de_int)))))))))))
theorem sc_is_pair : FnScope ["value"] ["value"] (defScope s_is_pair) := ⟨rfl, rfl, rfl, by decide +kernel, rfl, by decide +kernel, by decide +kernel⟩
theorem ok_is_pair (T : Facts K mg) : FnOk P w K mg base (L2.CX P w) 3 T.a_is_pair T.d_is_pair ["value"] (spP K (ct T) 1 m_is_pair) :=
  fn_p T.F_is_pair sc_is_pair rfl rfl fun cdv A outer s H E hr =>
    (dss_one (ds_ret (de_and (de_isi (de_var 0) T.z_isinstance T.z_tuple bt_tuple) (de_and (de_cmp (od_eq (hu64 hr)) (de_callB cd_len T.z_len bt_len (da_cons (de_var 0) da_nil)) de_int) (de_and (de_call (ok_is_word T) (hr.mono (by decide)) T.m_is_word T.F_is_word.kp T.b_is_word (takes_at (takes_of rfl rfl rfl rfl)) (da_cons (de_ix od_ix (de_var 0) de_int) da_nil)) (de_one (de_call (ok_is_places T) (hr.mono (by decide)) T.m_is_places T.F_is_places.kp T.b_is_places (takes_at (takes_of rfl rfl rfl rfl)) (da_cons (de_ix od_ix (de_var 0) de_int) (da_cons (de_ix od_ix (de_var 0) de_int) da_nil)))))))))
theorem sc_is_formed : FnScope ["value", "_", "left", "right", "patterns", "exceptions", "one"] ["value"] (defScope s_is_formed) := ⟨rfl, rfl, rfl, by decide +kernel, rfl, by decide +kernel, by decide +kernel⟩
theorem ok_is_formed (T : Facts K mg) : FnOk P w K mg base (L2.CX P w) 4 T.a_is_formed T.d_is_formed ["value"] (spP K (ct T) 1 m_is_formed) :=
  fn_p T.F_is_formed sc_is_formed rfl rfl fun cdv A outer s H E hr =>
    (dss_cons (ds_if (L2.PW.pt (dw_or (dt_not (dt_truth (de_isi (de_var 0) T.z_isinstance T.z_tuple bt_tuple))) (dw_or (dt_cmp (od_ne (hu64 hr)) (de_callB cd_len T.z_len bt_len (da_cons (de_var 0) da_nil)) de_int) (dw_or1 (dt_cmp (od_ne (hu64 hr)) (de_ix od_ix (de_var 0) de_int) (de_strT (by decide +kernel)))))))
    (dss_one (ds_ret de_bl))
    dss_nil)
    (dss_cons (ds_asg (de_var 0) (dg_tup rfl (dgs_cons (dg_name 1 sc_is_formed.nd) (dgs_cons (dg_name 2 sc_is_formed.nd) (dgs_cons (dg_name 3 sc_is_formed.nd) (dgs_cons (dg_name 4 sc_is_formed.nd) (dgs_cons (dg_name 5 sc_is_formed.nd) dgs_nil)))))))
    (dss_cons (ds_if (L2.PW.pt (dw_or (dt_not (dt_truth (de_call (ok_is_integer T) (hr.mono (by decide)) T.m_is_integer T.F_is_integer.kp T.b_is_integer (takes_at (takes_of rfl rfl rfl rfl)) (da_cons (de_var 2) (da_cons de_int (da_cons (de_glob T.g_MOST_LEVEL) da_nil)))))) (dw_or1 (dt_not (dt_truth (de_call (ok_is_integer T) (hr.mono (by decide)) T.m_is_integer T.F_is_integer.kp T.b_is_integer (takes_at (takes_of rfl rfl rfl rfl)) (da_cons (de_var 3) (da_cons de_int (da_cons (de_glob T.g_MOST_LEVEL) da_nil)))))))))
    (dss_one (ds_ret de_bl))
    dss_nil)
    (dss_cons (ds_if (L2.PW.pt (dw_or (dt_not (dt_truth (de_isi (de_var 4) T.z_isinstance T.z_tuple bt_tuple))) (dw_or1 (dt_not (dt_truth (de_callB (cd_all rfl) T.z_all bt_all (da_cons (de_n (dn_lc (own := [("one", 6)]) rfl sc_is_formed.nd (di_seq (de_var 4)) (blkOk_by (by kernel_rfl)) (by decide) (fun _ _ _ _ _ => (dg_name 6 sc_is_formed.nd)) (fun _ _ _ _ _ => dts_nil) (fun _ _ _ _ _ => (de_call (ok_is_pattern T) (hr.mono (by decide)) T.m_is_pattern T.F_is_pattern.kp T.b_is_pattern takes_no (da_cons (de_var 6) da_nil))))) da_nil)))))))
    (dss_one (ds_ret de_bl))
    dss_nil)
    (dss_one (ds_ret (de_and (de_isi (de_var 5) T.z_isinstance T.z_tuple bt_tuple) (de_one (de_callB (cd_all rfl) T.z_all bt_all (da_cons (de_n (dn_lc (own := [("one", 6)]) rfl sc_is_formed.nd (di_seq (de_var 5)) (blkOk_by (by kernel_rfl)) (by decide) (fun _ _ _ _ _ => (dg_name 6 sc_is_formed.nd)) (fun _ _ _ _ _ => dts_nil) (fun _ _ _ _ _ => (de_call (ok_is_pair T) (hr.mono (by decide)) T.m_is_pair T.F_is_pair.kp T.b_is_pair takes_no (da_cons (de_var 6) da_nil))))) da_nil))))))))))
theorem sc_are_ascending : FnScope ["names", "one", "other"] ["names"] (defScope s_are_ascending) := ⟨rfl, rfl, rfl, by decide +kernel, rfl, by decide +kernel, by decide +kernel⟩
theorem ok_are_ascending (T : Facts K mg) : FnOk P w K mg base (L2.CX P w) 1 T.a_are_ascending T.d_are_ascending ["names"] (spP K (ct T) 1 m_are_ascending) :=
  fn_p T.F_are_ascending sc_are_ascending rfl rfl fun cdv A outer s H E hr =>
    (dss_one (ds_ret (de_callB (cd_all rfl) T.z_all bt_all (da_cons (de_n (dn_lc (own := [("one", 1), ("other", 2)]) rfl sc_are_ascending.nd (di_zip T.z_zip (da_cons (de_var 0) (da_cons (de_sl od_sl (de_var 0) (do_some de_int) do_none) da_nil))) (blkOk_by (by kernel_rfl)) (by decide) (fun _ _ _ _ _ => (dg_tup rfl (dgs_cons (dg_name 1 sc_are_ascending.nd) (dgs_cons (dg_name 2 sc_are_ascending.nd) dgs_nil)))) (fun _ _ _ _ _ => dts_nil) (fun _ _ _ _ _ => (de_cmp od_lt (de_var 1) (de_var 2))))) da_nil))))
theorem sc_is_tongue : FnScope ["value", "one"] ["value"] (defScope s_is_tongue) := ⟨rfl, rfl, rfl, by decide +kernel, rfl, by decide +kernel, by decide +kernel⟩
theorem ok_is_tongue (T : Facts K mg) : FnOk P w K mg base (L2.CX P w) 5 T.a_is_tongue T.d_is_tongue ["value"] (spP K (ct T) 1 m_is_tongue) :=
  fn_p T.F_is_tongue sc_is_tongue rfl rfl fun cdv A outer s H E hr =>
    (dss_cons (ds_if (L2.PW.pt (dw_or (dt_not (dt_truth (de_call (ok_is_formed T) (hr.mono (by decide)) T.m_is_formed T.F_is_formed.kp T.b_is_formed (takes_at (takes_of rfl rfl rfl rfl)) (da_cons (de_var 0) da_nil)))) (dw_or (dt_cmp od_gt (de_callB cd_len T.z_len bt_len (da_cons (de_ix od_ix (de_var 0) de_int) da_nil)) (de_glob T.g_MOST_PATTERNS)) (dw_or1 (dt_cmp od_gt (de_callB cd_len T.z_len bt_len (da_cons (de_ix od_ix (de_var 0) de_int) da_nil)) (de_glob T.g_MOST_EXCEPTIONS))))))
    (dss_one (ds_ret de_bl))
    dss_nil)
    (dss_one (ds_ret (de_and (de_call (ok_are_ascending T) (hr.mono (by decide)) T.m_are_ascending T.F_are_ascending.kp T.b_are_ascending (takes_at (takes_of rfl rfl rfl rfl)) (da_cons (de_n (dn_lc (own := [("one", 1)]) rfl sc_is_tongue.nd (di_seq (de_ix od_ix (de_var 0) de_int)) (blkOk_by (by kernel_rfl)) (by decide) (fun _ _ _ _ _ => (dg_name 1 sc_is_tongue.nd)) (fun _ _ _ _ _ => dts_nil) (fun _ _ _ _ _ => (de_ix od_ix (de_var 1) de_int)))) da_nil)) (de_one (de_call (ok_are_ascending T) (hr.mono (by decide)) T.m_are_ascending T.F_are_ascending.kp T.b_are_ascending (takes_at (takes_of rfl rfl rfl rfl)) (da_cons (de_n (dn_lc (own := [("one", 1)]) rfl sc_is_tongue.nd (di_seq (de_ix od_ix (de_var 0) de_int)) (blkOk_by (by kernel_rfl)) (by decide) (fun _ _ _ _ _ => (dg_name 1 sc_is_tongue.nd)) (fun _ _ _ _ _ => dts_nil) (fun _ _ _ _ _ => (de_ix od_ix (de_var 1) de_int)))) da_nil)))))))
theorem sc_is_list : FnScope ["value", "one", "word", "_"] ["value"] (defScope s_is_list) := ⟨rfl, rfl, rfl, by decide +kernel, rfl, by decide +kernel, by decide +kernel⟩
theorem ok_is_list (T : Facts K mg) : FnOk P w K mg base (L2.CX P w) 4 T.a_is_list T.d_is_list ["value"] (spP K (ct T) 1 m_is_list) :=
  fn_p T.F_is_list sc_is_list rfl rfl fun cdv A outer s H E hr =>
    (dss_cons (ds_if (L2.PW.pt (dw_or (dt_not (dt_truth (de_isi (de_var 0) T.z_isinstance T.z_tuple bt_tuple))) (dw_or (dt_not (dt_chain od_le od_le de_int (de_callB cd_len T.z_len bt_len (da_cons (de_var 0) da_nil)) (de_glob T.g_MOST_LIST))) (dw_or1 (dt_not (dt_truth (de_callB (cd_all rfl) T.z_all bt_all (da_cons (de_n (dn_lc (own := [("one", 1)]) rfl sc_is_list.nd (di_seq (de_var 0)) (blkOk_by (by kernel_rfl)) (by decide) (fun _ _ _ _ _ => (dg_name 1 sc_is_list.nd)) (fun _ _ _ _ _ => dts_nil) (fun _ _ _ _ _ => (de_call (ok_is_pair T) (hr.mono (by decide)) T.m_is_pair T.F_is_pair.kp T.b_is_pair takes_no (da_cons (de_var 1) da_nil))))) da_nil))))))))
    (dss_one (ds_ret de_bl))
    dss_nil)
    (dss_one (ds_ret (de_call (ok_are_ascending T) (hr.mono (by decide)) T.m_are_ascending T.F_are_ascending.kp T.b_are_ascending (takes_at (takes_of rfl rfl rfl rfl)) (da_cons (de_n (dn_lc (own := [("word", 2), ("_", 3)]) rfl sc_is_list.nd (di_seq (de_var 0)) (blkOk_by (by kernel_rfl)) (by decide) (fun _ _ _ _ _ => (dg_tup rfl (dgs_cons (dg_name 2 sc_is_list.nd) (dgs_cons (dg_name 3 sc_is_list.nd) dgs_nil)))) (fun _ _ _ _ _ => dts_nil) (fun _ _ _ _ _ => (de_var 2)))) da_nil)))))
theorem sc_first_twice : FnScope ["names", "seen", "name"] ["names"] (defScope s_first_twice) := ⟨rfl, rfl, rfl, by decide +kernel, rfl, by decide +kernel, by decide +kernel⟩
theorem ok_first_twice (T : Facts K mg) : FnOk P w K mg base (L2.CX P w) 1 T.a_first_twice T.d_first_twice ["names"] (spP K (ct T) 1 m_first_twice) :=
  fn_p T.F_first_twice sc_first_twice rfl rfl fun cdv A outer s H E hr =>
    (dss_cons (ds_newD 1 sc_first_twice.nd)
    (dss_cons (ds_pre [2] (ds_fg true [2] (ds_for (passes_of rfl) rfl (di_seq (de_var 0)) (dg_name 2 sc_first_twice.nd)
    (dss_fg true [2] (dss_cons (ds_if (dt_inD 1 (Nat.lt_of_le_of_lt (Nat.add_le_add_left (by decide) _) (hu64 hr)) (de_var 2))
    (dss_one (ds_ret (de_var 2)))
    dss_nil)
    (dss_one (ds_putD 1 (Nat.lt_of_le_of_lt (Nat.add_le_add_left (by decide) _) (hu64 hr)) de_bl (de_var 2))))))))
    (dss_one (ds_ret de_non))))
theorem sc_check_tongue : FnScope ["value", "_", "left", "right", "patterns", "exceptions", "names", "one", "name"] ["value"] (defScope s_check_tongue) := ⟨rfl, rfl, rfl, by decide +kernel, rfl, by decide +kernel, by decide +kernel⟩
theorem ok_check_tongue (T : Facts K mg) : FnOk P w K mg base (L2.CX P w) 5 T.a_check_tongue T.d_check_tongue ["value"] (spP K (ct T) 1 m_check_tongue) :=
  fn_p T.F_check_tongue sc_check_tongue rfl rfl fun cdv A outer s H E hr =>
    (dss_cons (ds_if (dt_not (dt_truth (de_call (ok_is_formed T) (hr.mono (by decide)) T.m_is_formed T.F_is_formed.kp T.b_is_formed (takes_at (takes_of rfl rfl rfl rfl)) (da_cons (de_var 0) da_nil))))
    (dss_one (ds_raise2 (x := "BadTongue") (k := 1) T.x_BadTongue (ok_i_BadTongue T) (hr.mono (by decide)) (ct_BadTongue T) rfl (takes_of rfl rfl rfl rfl) (da_cons (de_strT (by decide +kernel)) (da_cons (de_strT (by decide +kernel)) da_nil))))
    dss_nil)
    (dss_cons (ds_asg (de_var 0) (dg_tup rfl (dgs_cons (dg_name 1 sc_check_tongue.nd) (dgs_cons (dg_name 2 sc_check_tongue.nd) (dgs_cons (dg_name 3 sc_check_tongue.nd) (dgs_cons (dg_name 4 sc_check_tongue.nd) (dgs_cons (dg_name 5 sc_check_tongue.nd) dgs_nil)))))))
    (dss_cons (ds_if (dt_cmp od_gt (de_callB cd_len T.z_len bt_len (da_cons (de_var 4) da_nil)) (de_glob T.g_MOST_PATTERNS))
    (dss_one (ds_raise2 (x := "BadTongue") (k := 1) T.x_BadTongue (ok_i_BadTongue T) (hr.mono (by decide)) (ct_BadTongue T) rfl (takes_of rfl rfl rfl rfl) (da_cons (de_strT (by decide +kernel)) (da_cons (de_strT (by decide +kernel)) da_nil))))
    dss_nil)
    (dss_cons (ds_if (dt_cmp od_gt (de_callB cd_len T.z_len bt_len (da_cons (de_var 5) da_nil)) (de_glob T.g_MOST_EXCEPTIONS))
    (dss_one (ds_raise2 (x := "BadTongue") (k := 1) T.x_BadTongue (ok_i_BadTongue T) (hr.mono (by decide)) (ct_BadTongue T) rfl (takes_of rfl rfl rfl rfl) (da_cons (de_strT (by decide +kernel)) (da_cons (de_strT (by decide +kernel)) da_nil))))
    dss_nil)
    (dss_cons (ds_pre [6, 7, 8] (ds_fg true [6, 7, 8] (ds_for (passes_of rfl) rfl (di_seq (de_tup (da_cons (de_n (dn_lc (own := [("one", 7)]) rfl sc_check_tongue.nd (di_seq (de_var 4)) (blkOk_by (by kernel_rfl)) (by decide) (fun _ _ _ _ _ => (dg_name 7 sc_check_tongue.nd)) (fun _ _ _ _ _ => dts_nil) (fun _ _ _ _ _ => (de_ix od_ix (de_var 7) de_int)))) (da_cons (de_n (dn_lc (own := [("one", 7)]) rfl sc_check_tongue.nd (di_seq (de_var 5)) (blkOk_by (by kernel_rfl)) (by decide) (fun _ _ _ _ _ => (dg_name 7 sc_check_tongue.nd)) (fun _ _ _ _ _ => dts_nil) (fun _ _ _ _ _ => (de_ix od_ix (de_var 7) de_int)))) da_nil)))) (dg_name 6 sc_check_tongue.nd)
    (dss_fg true [6, 7, 8] (dss_cons (ds_asg (de_call (ok_first_twice T) (hr.mono (by decide)) T.m_first_twice T.F_first_twice.kp T.b_first_twice (takes_at (takes_of rfl rfl rfl rfl)) (da_cons (de_var 6) da_nil)) (dg_name 8 sc_check_tongue.nd))
    (dss_one (ds_if (dt_cmp od_isNot (de_var 8) de_non)
    (dss_one (ds_raise2 (x := "BadTongue") (k := 1) T.x_BadTongue (ok_i_BadTongue T) (hr.mono (by decide)) (ct_BadTongue T) rfl (takes_of rfl rfl rfl rfl) (da_cons (de_strT (by decide +kernel)) (da_cons (de_var 8) da_nil))))
    dss_nil)))))))
    (dss_one (ds_ret (de_tup (da_cons (de_strT (by decide +kernel)) (da_cons (de_var 2) (da_cons (de_var 3) (da_cons (de_callTy cd_tuple T.z_tuple bt_tuple (da_cons (de_n (dn_callB (cn_sorted2 (hu64 hr)) T.z_sorted bt_sorted (da_cons (de_var 4) da_nil))) da_nil)) (da_cons (de_callTy cd_tuple T.z_tuple bt_tuple (da_cons (de_n (dn_callB (cn_sorted2 (hu64 hr)) T.z_sorted bt_sorted (da_cons (de_var 5) da_nil))) da_nil)) da_nil)))))))))))))
theorem sc__law_bag : FnScope ["script", "k", "cell"] ["script", "k"] (defScope s__law_bag) := ⟨rfl, rfl, rfl, by decide +kernel, rfl, by decide +kernel, by decide +kernel⟩
theorem ok__law_bag (T : Facts K mg) : FnOk P w K mg base (L2.CX P w) 1 T.a__law_bag T.d__law_bag ["script", "k"] (spP K (ct T) 2 m__law_bag) :=
  fn_p T.F__law_bag sc__law_bag rfl rfl fun cdv A outer s H E hr =>
    (dss_cons (ds_asg de_int (dg_name 2 sc__law_bag.nd))
    (dss_cons (ds_if (dt_cmp od_lt (de_var 1) (de_callB cd_len T.z_len bt_len (da_cons (de_var 0) da_nil)))
    (dss_one (ds_asg (de_callTy cd_int T.z_int bt_int (da_cons (de_ix od_ix (de_var 0) (de_var 1)) da_nil)) (dg_name 2 sc__law_bag.nd)))
    dss_nil)
    (dss_one (ds_retNew (dn_lst (da_cons de_int (da_cons (de_op od_add de_int (de_op od_mulA de_int (de_var 1))) (da_cons de_int (da_cons (de_var 2) da_nil)))))))))
theorem sc__law_draw : FnScope ["bag", "many", "seed", "rest"] ["bag", "many"] (defScope s__law_draw) := ⟨rfl, rfl, rfl, by decide +kernel, rfl, by decide +kernel, by decide +kernel⟩
theorem ok__law_draw (T : Facts K mg) : FnOk P w K mg base (L2.CX P w) 1 T.a__law_draw T.d__law_draw ["bag", "many"] (spO K (ct T) 1 m__law_draw) :=
  fn_o T.F__law_draw sc__law_draw rfl rfl fun cdv A outer s H E hr =>
    (dss_cons (ds_if (dt_cmp od_lt (de_var 1) de_int)
    (dss_one (ds_ret de_int))
    dss_nil)
    (dss_cons (ds_if (dt_cmp (od_eq (hu64 hr)) (de_ix od_ix (de_var 0) de_int) de_int)
    (dss_cons (ds_setL 0 (de_op od_add (de_ix od_ix (de_var 0) de_int) de_int) de_int)
    (dss_cons (ds_asg (de_op od_mod (de_callTy cd_int T.z_int bt_int (da_cons (de_op od_add (de_op od_add (de_op od_add (de_op od_mulA (de_ix od_ix (de_var 0) de_int) de_int) (de_op od_mulA (de_ix od_ix (de_var 0) de_int) de_int)) (de_op od_mulA (de_ix od_ix (de_var 0) de_int) de_int)) de_int) da_nil)) de_int) (dg_name 2 sc__law_draw.nd))
    (dss_cons (ds_setL 0 (de_op od_add (de_op od_mulA (de_var 2) de_int) (de_op od_mod (de_callTy cd_int T.z_int bt_int (da_cons (de_op od_add (de_op od_mulA (de_var 2) (de_var 2)) (de_ix od_ix (de_var 0) de_int)) da_nil)) de_int)) de_int)
    (dss_cons (ds_if (L2.PW.pt (dw_and (dt_cmp (od_eq (hu64 hr)) (de_ix od_ix (de_var 0) de_int) de_int) (dw_and1 (dt_cmp od_ge (de_ix od_ix (de_var 0) de_int) (de_op od_pow de_int de_int)))))
    (dss_one (ds_setL 0 (de_ix od_ix (de_var 0) de_int) de_int))
    dss_nil)
    (dss_one (ds_setL 0 (de_var 2) de_int))))))
    dss_nil)
    (dss_cons (ds_asg (de_ix od_ix (de_var 0) de_int) (dg_name 3 sc__law_draw.nd))
    (dss_cons (ds_setL 0 (de_op od_fdiv (de_var 3) (de_var 1)) de_int)
    (dss_one (ds_ret (de_op od_mod (de_callTy cd_int T.z_int bt_int (da_cons (de_var 3) da_nil)) (de_var 1))))))))
theorem sc__law_one : FnScope ["bag", "row"] ["bag", "row"] (defScope s__law_one) := ⟨rfl, rfl, rfl, by decide +kernel, rfl, by decide +kernel, by decide +kernel⟩
theorem ok__law_one (T : Facts K mg) : FnOk P w K mg base (L2.CX P w) 2 T.a__law_one T.d__law_one ["bag", "row"] (spO K (ct T) 1 m__law_one) :=
  fn_o T.F__law_one sc__law_one rfl rfl fun cdv A outer s H E hr =>
    (dss_one (ds_ret (de_ix od_ix (de_var 1) (de_callO 0 (ok__law_draw T) (hr.mono (by decide)) T.m__law_draw T.F__law_draw.kp T.b__law_draw (takes_at (takes_of rfl rfl rfl rfl)) (da_cons (de_callB cd_len T.z_len bt_len (da_cons (de_var 1) da_nil)) da_nil)))))
theorem sc__law_word : FnScope ["bag", "letters", "most", "k"] ["bag", "letters", "most"] (defScope s__law_word) := ⟨rfl, rfl, rfl, by decide +kernel, rfl, by decide +kernel, by decide +kernel⟩
theorem ok__law_word (T : Facts K mg) : FnOk P w K mg base (L2.CX P w) 2 T.a__law_word T.d__law_word ["bag", "letters", "most"] (spO K (ct T) 2 m__law_word) :=
  fn_o T.F__law_word sc__law_word rfl rfl fun cdv A outer s H E hr =>
    (dss_one (ds_ret (de_meth PySem.F.plainAttrs_str PySem.F.slot_str_join PySem.F.type_str_join md_join (de_strT (by decide +kernel)) (da_cons (de_n (dn_lc (own := [("k", 3)]) rfl sc__law_word.nd (di_range1 T.z_range (da_cons (de_op od_add de_int (de_callO 0 (ok__law_draw T) (hr.mono (by decide)) T.m__law_draw T.F__law_draw.kp T.b__law_draw (takes_at (takes_of rfl rfl rfl rfl)) (da_cons (de_var 2) da_nil))) da_nil)) (blkOk_by (by kernel_rfl)) (by decide) (fun _ _ _ _ _ => (dg_name 3 sc__law_word.nd)) (fun _ _ _ _ _ => dts_nil) (fun _ _ _ _ _ => (de_ix od_ix (de_var 1) (de_callO 0 (ok__law_draw T) (hr.mono (by decide)) T.m__law_draw T.F__law_draw.kp T.b__law_draw takes_no (da_cons (de_callB cd_len T.z_len bt_len (da_cons (de_var 1) da_nil)) da_nil)))))) da_nil))))
theorem sc__law_pattern : FnScope ["bag", "letters", "most", "text", "levels", "k", "at"] ["bag", "letters", "most"] (defScope s__law_pattern) := ⟨rfl, rfl, rfl, by decide +kernel, rfl, by decide +kernel, by decide +kernel⟩
theorem ok__law_pattern (T : Facts K mg) : FnOk P w K mg base (L2.CX P w) 3 T.a__law_pattern T.d__law_pattern ["bag", "letters", "most"] (spO K (ct T) 2 m__law_pattern) :=
  fn_o T.F__law_pattern sc__law_pattern rfl rfl fun cdv A outer s H E hr =>
    (dss_cons (ds_asg (de_callO 0 (ok__law_word T) (hr.mono (by decide)) T.m__law_word T.F__law_word.kp T.b__law_word (takes_at (takes_of rfl rfl rfl rfl)) (da_cons (de_var 1) (da_cons (de_var 2) da_nil))) (dg_name 3 sc__law_pattern.nd))
    (dss_cons (ds_asg (de_op od_add (de_ix od_ix (de_n (dn_lst (da_cons (de_strT (by decide +kernel)) (da_cons (de_strT (by decide +kernel)) (da_cons (de_strT (by decide +kernel)) da_nil))))) (de_callO 0 (ok__law_draw T) (hr.mono (by decide)) T.m__law_draw T.F__law_draw.kp T.b__law_draw (takes_at (takes_of rfl rfl rfl rfl)) (da_cons de_int da_nil))) (de_var 3)) (dg_name 3 sc__law_pattern.nd))
    (dss_cons (ds_asg (de_op od_add (de_var 3) (de_op od_mulA (de_ix od_ix (de_n (dn_lst (da_cons (de_strT (by decide +kernel)) (da_cons (de_strT (by decide +kernel)) (da_cons (de_strT (by decide +kernel)) da_nil))))) (de_callO 0 (ok__law_draw T) (hr.mono (by decide)) T.m__law_draw T.F__law_draw.kp T.b__law_draw (takes_at (takes_of rfl rfl rfl rfl)) (da_cons de_int da_nil))) (de_callTy cd_int T.z_int bt_int (da_cons (de_cmp od_lt (de_callB cd_len T.z_len bt_len (da_cons (de_var 3) da_nil)) de_int) da_nil)))) (dg_name 3 sc__law_pattern.nd))
    (dss_cons (ds_asg (de_sl od_sl (de_var 3) do_none (do_some de_int)) (dg_name 3 sc__law_pattern.nd))
    (dss_cons (ds_new 4 (dn_rep (dn_lst (da_cons de_int da_nil)) (de_op od_add (de_callB cd_len T.z_len bt_len (da_cons (de_var 3) da_nil)) de_int)) sc__law_pattern.nd)
    (dss_cons (ds_pre [5, 6] (ds_fg true [5, 6] (ds_for (passes_of rfl) rfl (di_range1 T.z_range (da_cons (de_op od_add de_int (de_callO 0 (ok__law_draw T) (hr.mono (by decide)) T.m__law_draw T.F__law_draw.kp T.b__law_draw (takes_at (takes_of rfl rfl rfl rfl)) (da_cons de_int da_nil))) da_nil)) (dg_name 5 sc__law_pattern.nd)
    (dss_fg true [5, 6] (dss_cons (ds_asg (de_callO 0 (ok__law_draw T) (hr.mono (by decide)) T.m__law_draw T.F__law_draw.kp T.b__law_draw (takes_at (takes_of rfl rfl rfl rfl)) (da_cons (de_callB cd_len T.z_len bt_len (da_cons (de_var 4) da_nil)) da_nil)) (dg_name 6 sc__law_pattern.nd))
    (dss_one (ds_if (dt_not (L2.PW.pt (dw_or (L2.PW.pt (dw_and (dt_cmp (od_eq (hu64 hr)) (de_var 6) de_int) (dw_and1 (dt_cmp (od_eq (hu64 hr)) (de_ix od_ix (de_var 3) de_int) (de_strT (by decide +kernel)))))) (dw_or1 (L2.PW.pt (dw_and (dt_cmp (od_eq (hu64 hr)) (de_var 6) (de_callB cd_len T.z_len bt_len (da_cons (de_var 3) da_nil))) (dw_and1 (dt_cmp (od_eq (hu64 hr)) (de_ix od_ix (de_var 3) (de_neg de_int)) (de_strT (by decide +kernel))))))))))
    (dss_one (ds_setL 4 (de_op od_add de_int (de_callO 0 (ok__law_draw T) (hr.mono (by decide)) T.m__law_draw T.F__law_draw.kp T.b__law_draw (takes_at (takes_of rfl rfl rfl rfl)) (da_cons (de_ix od_ix (de_n (dn_lst (da_cons de_int (da_cons de_int (da_cons de_int da_nil))))) (de_callO 0 (ok__law_draw T) (hr.mono (by decide)) T.m__law_draw T.F__law_draw.kp T.b__law_draw (takes_at (takes_of rfl rfl rfl rfl)) (da_cons de_int da_nil))) da_nil))) (de_var 6)))
    dss_nil)))))))
    (dss_cons (ds_if (dt_cmp (od_eq (hu64 hr)) (de_callB (cd_maxA rfl (hu64 hr)) T.z_max bt_max (da_cons (de_var 4) da_nil)) de_int)
    (dss_one (ds_setL 4 de_int (de_if (dt_cmp (od_eq (hu64 hr)) (de_ix od_ix (de_var 3) de_int) (de_strT (by decide +kernel))) de_int de_int)))
    dss_nil)
    (dss_one (ds_ret (de_tup (da_cons (de_strT (by decide +kernel)) (da_cons (de_var 3) (da_cons (de_callTy cd_tuple T.z_tuple bt_tuple (da_cons (de_var 4) da_nil)) da_nil)))))))))))))
theorem sc__law_places : FnScope ["bag", "word", "place"] ["bag", "word"] (defScope s__law_places) := ⟨rfl, rfl, rfl, by decide +kernel, rfl, by decide +kernel, by decide +kernel⟩
theorem ok__law_places (T : Facts K mg) : FnOk P w K mg base (L2.CX P w) 2 T.a__law_places T.d__law_places ["bag", "word"] (spO K (ct T) 1 m__law_places) :=
  fn_o T.F__law_places sc__law_places rfl rfl fun cdv A outer s H E hr =>
    (dss_one (ds_ret (de_callTy cd_tuple T.z_tuple bt_tuple (da_cons (de_n (dn_lc (own := [("place", 2)]) rfl sc__law_places.nd (di_range2 T.z_range (da_cons de_int (da_cons (de_callB cd_len T.z_len bt_len (da_cons (de_var 1) da_nil)) da_nil))) (blkOk_by (by kernel_rfl)) (by decide) (fun _ _ _ _ _ => (dg_name 2 sc__law_places.nd)) (fun _ _ _ _ _ => (dts_one (dt_cmp (od_eq (hu64 hr)) (de_callO 0 (ok__law_draw T) (hr.mono (by decide)) T.m__law_draw T.F__law_draw.kp T.b__law_draw takes_no (da_cons de_int da_nil)) de_int))) (fun _ _ _ _ _ => (de_var 2)))) da_nil))))
theorem sc__law_tongue : FnScope ["bag", "letters", "many", "most", "rows", "k", "pattern", "words", "word", "left", "right", "patterns", "text"] ["bag", "letters", "many", "most"] (defScope s__law_tongue) := ⟨rfl, rfl, rfl, by decide +kernel, rfl, by decide +kernel, by decide +kernel⟩
theorem ok__law_tongue (T : Facts K mg) : FnOk P w K mg base (L2.CX P w) 4 T.a__law_tongue T.d__law_tongue ["bag", "letters", "many", "most"] (spO K (ct T) 3 m__law_tongue) :=
  fn_o T.F__law_tongue sc__law_tongue rfl rfl fun cdv A outer s H E hr =>
    (dss_cons (ds_newD 4 sc__law_tongue.nd)
    (dss_cons (ds_pre [5, 6] (ds_fg true [5, 6] (ds_for (passes_of rfl) rfl (di_range1 T.z_range (da_cons (de_var 2) da_nil)) (dg_name 5 sc__law_tongue.nd)
    (dss_fg true [5, 6] (dss_cons (ds_asg (de_callO 0 (ok__law_pattern T) (hr.mono (by decide)) T.m__law_pattern T.F__law_pattern.kp T.b__law_pattern (takes_at (takes_of rfl rfl rfl rfl)) (da_cons (de_var 1) (da_cons (de_var 3) da_nil))) (dg_name 6 sc__law_tongue.nd))
    (dss_one (ds_putD 4 (Nat.lt_of_le_of_lt (Nat.add_le_add_left (by decide) _) (hu64 hr)) (de_var 6) (de_ix od_ix (de_var 6) de_int))))))))
    (dss_cons (ds_newD 7 sc__law_tongue.nd)
    (dss_cons (ds_pre [5] (ds_fg true [5] (ds_for (passes_of rfl) rfl (di_range1 T.z_range (da_cons (de_callO 0 (ok__law_draw T) (hr.mono (by decide)) T.m__law_draw T.F__law_draw.kp T.b__law_draw (takes_at (takes_of rfl rfl rfl rfl)) (da_cons de_int da_nil)) da_nil)) (dg_name 5 sc__law_tongue.nd)
    (dss_fg true [5] (dss_cons (ds_asg (de_callO 0 (ok__law_word T) (hr.mono (by decide)) T.m__law_word T.F__law_word.kp T.b__law_word (takes_at (takes_of rfl rfl rfl rfl)) (da_cons (de_var 1) (da_cons de_int da_nil))) (dg_name 8 sc__law_tongue.nd))
    (dss_one (ds_putD 7 (Nat.lt_of_le_of_lt (Nat.add_le_add_left (by decide) _) (hu64 hr)) (de_callO 0 (ok__law_places T) (hr.mono (by decide)) T.m__law_places T.F__law_places.kp T.b__law_places (takes_at (takes_of rfl rfl rfl rfl)) (da_cons (de_var 8) da_nil)) (de_var 8))))))))
    (dss_cons (ds_asg (de_op od_add de_int (de_callO 0 (ok__law_draw T) (hr.mono (by decide)) T.m__law_draw T.F__law_draw.kp T.b__law_draw (takes_at (takes_of rfl rfl rfl rfl)) (da_cons de_int da_nil))) (dg_name 9 sc__law_tongue.nd))
    (dss_cons (ds_asg (de_op od_add de_int (de_callO 0 (ok__law_draw T) (hr.mono (by decide)) T.m__law_draw T.F__law_draw.kp T.b__law_draw (takes_at (takes_of rfl rfl rfl rfl)) (da_cons de_int da_nil))) (dg_name 10 sc__law_tongue.nd))
    (dss_cons (ds_asg (de_callTy cd_tuple T.z_tuple bt_tuple (da_cons (de_n (dn_lc (own := [("text", 12)]) rfl sc__law_tongue.nd (di_seq (de_n (dn_srtD 4 rfl (hu64 hr) T.z_sorted))) (blkOk_by (by kernel_rfl)) (by decide) (fun _ _ _ _ _ => (dg_name 12 sc__law_tongue.nd)) (fun _ _ _ _ _ => dts_nil) (fun _ _ _ _ _ => (de_getD 4 (Nat.lt_of_le_of_lt (Nat.add_le_add_left (by decide) _) (hu64 hr)) (de_var 12))))) da_nil)) (dg_name 11 sc__law_tongue.nd))
    (dss_one (ds_ret (de_tup (da_cons (de_strT (by decide +kernel)) (da_cons (de_var 9) (da_cons (de_var 10) (da_cons (de_var 11) (da_cons (de_callTy cd_tuple T.z_tuple bt_tuple (da_cons (de_n (dn_lc (own := [("word", 8)]) rfl sc__law_tongue.nd (di_seq (de_n (dn_srtD 7 rfl (hu64 hr) T.z_sorted))) (blkOk_by (by kernel_rfl)) (by decide) (fun _ _ _ _ _ => (dg_name 8 sc__law_tongue.nd)) (fun _ _ _ _ _ => dts_nil) (fun _ _ _ _ _ => (de_tup (da_cons (de_var 8) (da_cons (de_getD 7 (Nat.lt_of_le_of_lt (Nat.add_le_add_left (by decide) _) (hu64 hr)) (de_var 8)) da_nil)))))) da_nil)) da_nil)))))))))))))))
theorem sc__law_spoilt : FnScope ["bag", "value", "odd", "down", "at", "pick"] ["bag", "value", "odd", "down"] (defScope s__law_spoilt) := ⟨rfl, rfl, rfl, by decide +kernel, rfl, by decide +kernel, by decide +kernel⟩
theorem ok__law_spoilt (T : Facts K mg) : ∀ n, FnOk P w K mg base (L2.CX P w) (n + 1) T.a__law_spoilt T.d__law_spoilt ["bag", "value", "odd", "down"] (spO K (ct T) 3 (m__law_spoilt n))
  | 0 => fn_0o rfl
  | n + 1 => show FnOk P w K mg base (L2.CX P w) ((n + 1) + 1) T.a__law_spoilt T.d__law_spoilt ["bag", "value", "odd", "down"] (spO K (ct T) 3 (m__law_spoilt (n + 1))) from fn_o T.F__law_spoilt sc__law_spoilt rfl rfl fun cdv A outer s H E hr => by
    have ih : FnOk P w K mg base (L2.CX P w) (n + 1) T.a__law_spoilt T.d__law_spoilt ["bag", "value", "odd", "down"] (spO K (ct T) 3 (m__law_spoilt n)) := ok__law_spoilt T n
    exact (dss_cons (ds_if (L2.PW.pt (dw_or (dt_cmp (od_eq (hu64 hr)) (de_var 3) de_int) (dw_or (dt_not (dt_truth (de_isi (de_var 1) T.z_isinstance T.z_tuple bt_tuple))) (dw_or (dt_cmp (od_eq (hu64 hr)) (de_callB cd_len T.z_len bt_len (da_cons (de_var 1) da_nil)) de_int) (dw_or1 (dt_cmp (od_eq (hu64 hr)) (de_callO 0 (ok__law_draw T) (hr.mono (by omega)) T.m__law_draw T.F__law_draw.kp T.b__law_draw (takes_at (takes_of rfl rfl rfl rfl)) (da_cons de_int da_nil)) de_int))))))
    (dss_one (ds_ret (de_var 2)))
    dss_nil)
    (dss_cons (ds_asg (de_callO 0 (ok__law_draw T) (hr.mono (by omega)) T.m__law_draw T.F__law_draw.kp T.b__law_draw (takes_at (takes_of rfl rfl rfl rfl)) (da_cons (de_callB cd_len T.z_len bt_len (da_cons (de_var 1) da_nil)) da_nil)) (dg_name 4 sc__law_spoilt.nd))
    (dss_cons (ds_asg (de_callO 0 (ok__law_draw T) (hr.mono (by omega)) T.m__law_draw T.F__law_draw.kp T.b__law_draw (takes_at (takes_of rfl rfl rfl rfl)) (da_cons de_int da_nil)) (dg_name 5 sc__law_spoilt.nd))
    (dss_cons (ds_if (dt_cmp (od_eq (hu64 hr)) (de_var 5) de_int)
    (dss_one (ds_ret (de_op od_add (de_sl od_sl (de_var 1) do_none (do_some (de_var 4))) (de_sl od_sl (de_var 1) (do_some (de_op od_add (de_var 4) de_int)) do_none))))
    dss_nil)
    (dss_cons (ds_if (dt_cmp (od_eq (hu64 hr)) (de_var 5) de_int)
    (dss_one (ds_ret (de_op od_add (de_op od_add (de_sl od_sl (de_var 1) do_none (do_some (de_var 4))) (de_tup (da_cons (de_var 2) da_nil))) (de_sl od_sl (de_var 1) (do_some (de_var 4)) do_none))))
    dss_nil)
    (dss_cons (ds_if (dt_cmp (od_eq (hu64 hr)) (de_var 5) de_int)
    (dss_one (ds_ret (de_op od_add (de_sl od_sl (de_var 1) do_none (do_some (de_op od_add (de_var 4) de_int))) (de_sl od_sl (de_var 1) (do_some (de_var 4)) do_none))))
    dss_nil)
    (dss_cons (ds_if (dt_cmp (od_eq (hu64 hr)) (de_var 5) de_int)
    (dss_one (ds_ret (de_op od_add (de_op od_add (de_op od_add (de_sl od_sl (de_var 1) do_none (do_some (de_var 4))) (de_sl od_sl (de_var 1) (do_some (de_op od_add (de_var 4) de_int)) (do_some (de_op od_add (de_var 4) de_int)))) (de_sl od_sl (de_var 1) (do_some (de_var 4)) (do_some (de_op od_add (de_var 4) de_int)))) (de_sl od_sl (de_var 1) (do_some (de_op od_add (de_var 4) de_int)) do_none))))
    dss_nil)
    (dss_cons (ds_if (dt_cmp (od_eq (hu64 hr)) (de_var 5) de_int)
    (dss_one (ds_ret (de_n (dn_callTy cn_list T.z_list bt_list (da_cons (de_var 1) da_nil)))))
    dss_nil)
    (dss_one (ds_ret (de_op od_add (de_op od_add (de_sl od_sl (de_var 1) do_none (do_some (de_var 4))) (de_tup (da_cons (de_callO 0 ih hr T.m__law_spoilt T.F__law_spoilt.kp T.b__law_spoilt (takes_at (takes_of rfl rfl rfl rfl)) (da_cons (de_ix od_ix (de_var 1) (de_var 4)) (da_cons (de_var 2) (da_cons (de_op od_sub (de_var 3) de_int) da_nil)))) da_nil))) (de_sl od_sl (de_var 1) (do_some (de_op od_add (de_var 4) de_int)) do_none))))))))))))
theorem sc__law_is_int : FnScope ["value", "low", "high"] ["value", "low", "high"] (defScope s__law_is_int) := ⟨rfl, rfl, rfl, by decide +kernel, rfl, by decide +kernel, by decide +kernel⟩
theorem ok__law_is_int (T : Facts K mg) : FnOk P w K mg base (L2.CX P w) 1 T.a__law_is_int T.d__law_is_int ["value", "low", "high"] (spP K (ct T) 3 m__law_is_int) :=
  fn_p T.F__law_is_int sc__law_is_int rfl rfl fun cdv A outer s H E hr =>
    (dss_one (ds_ret (de_and (de_isi (de_var 0) T.z_isinstance T.z_int bt_int) (de_and (de_not (de_isi (de_var 0) T.z_isinstance T.z_bool bt_bool)) (de_and (de_cmp od_le (de_var 1) (de_var 0)) (de_one (de_cmp od_le (de_var 0) (de_var 2))))))))
theorem sc__law_is_word : FnScope ["value", "sign"] ["value"] (defScope s__law_is_word) := ⟨rfl, rfl, rfl, by decide +kernel, rfl, by decide +kernel, by decide +kernel⟩
theorem ok__law_is_word (T : Facts K mg) : FnOk P w K mg base (L2.CX P w) 1 T.a__law_is_word T.d__law_is_word ["value"] (spP K (ct T) 1 m__law_is_word) :=
  fn_p T.F__law_is_word sc__law_is_word rfl rfl fun cdv A outer s H E hr =>
    (dss_cons (ds_if (L2.PW.pt (dw_or (dt_not (dt_truth (de_isi (de_var 0) T.z_isinstance T.z_str bt_str))) (dw_or (dt_cmp od_lt (de_callB cd_len T.z_len bt_len (da_cons (de_var 0) da_nil)) de_int) (dw_or1 (dt_cmp od_gt (de_callB cd_len T.z_len bt_len (da_cons (de_var 0) da_nil)) de_int)))))
    (dss_one (ds_ret de_bl))
    dss_nil)
    (dss_one (ds_ret (de_cmp (od_eq (hu64 hr)) (de_n (dn_lc (own := [("sign", 1)]) rfl sc__law_is_word.nd (di_seq (de_var 0)) (blkOk_by (by kernel_rfl)) (by decide) (fun _ _ _ _ _ => (dg_name 1 sc__law_is_word.nd)) (fun _ _ _ _ _ => (dts_one (dt_cmp (od_notIn (hu65 hr)) (de_var 1) (de_strT (by decide +kernel))))) (fun _ _ _ _ _ => (de_var 1)))) (de_n (dn_lst da_nil))))))
theorem sc__law_is_pair : FnScope ["value", "before", "place"] ["value"] (defScope s__law_is_pair) := ⟨rfl, rfl, rfl, by decide +kernel, rfl, by decide +kernel, by decide +kernel⟩
theorem ok__law_is_pair (T : Facts K mg) : FnOk P w K mg base (L2.CX P w) 2 T.a__law_is_pair T.d__law_is_pair ["value"] (spP K (ct T) 1 m__law_is_pair) :=
  fn_p T.F__law_is_pair sc__law_is_pair rfl rfl fun cdv A outer s H E hr =>
    (dss_cons (ds_if (L2.PW.pt (dw_or (dt_not (dt_truth (de_isi (de_var 0) T.z_isinstance T.z_tuple bt_tuple))) (dw_or (dt_cmp (od_ne (hu64 hr)) (de_callB cd_len T.z_len bt_len (da_cons (de_var 0) da_nil)) de_int) (dw_or (dt_not (dt_truth (de_call (ok__law_is_word T) (hr.mono (by decide)) T.m__law_is_word T.F__law_is_word.kp T.b__law_is_word (takes_at (takes_of rfl rfl rfl rfl)) (da_cons (de_ix od_ix (de_var 0) de_int) da_nil)))) (dw_or1 (dt_not (dt_truth (de_isi (de_ix od_ix (de_var 0) de_int) T.z_isinstance T.z_tuple bt_tuple))))))))
    (dss_one (ds_ret de_bl))
    dss_nil)
    (dss_cons (ds_asg de_int (dg_name 1 sc__law_is_pair.nd))
    (dss_cons (ds_pre [2] (ds_fg true [1, 2] (ds_for (passes_of rfl) rfl (di_seq (de_ix od_ix (de_var 0) de_int)) (dg_name 2 sc__law_is_pair.nd)
    (dss_fg true [2] (dss_cons (ds_if (dt_not (dt_truth (de_call (ok__law_is_int T) (hr.mono (by decide)) T.m__law_is_int T.F__law_is_int.kp T.b__law_is_int (takes_at (takes_of rfl rfl rfl rfl)) (da_cons (de_var 2) (da_cons (de_op od_add (de_var 1) de_int) (da_cons (de_op od_sub (de_callB cd_len T.z_len bt_len (da_cons (de_ix od_ix (de_var 0) de_int) da_nil)) de_int) da_nil))))))
    (dss_one (ds_ret de_bl))
    dss_nil)
    (dss_one (ds_asg (de_var 2) (dg_name 1 sc__law_is_pair.nd))))))))
    (dss_one (ds_ret de_bl)))))
theorem sc__law_is_pattern : FnScope ["value", "text", "levels", "inner", "level"] ["value"] (defScope s__law_is_pattern) := ⟨rfl, rfl, rfl, by decide +kernel, rfl, by decide +kernel, by decide +kernel⟩
theorem ok__law_is_pattern (T : Facts K mg) : FnOk P w K mg base (L2.CX P w) 2 T.a__law_is_pattern T.d__law_is_pattern ["value"] (spP K (ct T) 1 m__law_is_pattern) :=
  fn_p T.F__law_is_pattern sc__law_is_pattern rfl rfl fun cdv A outer s H E hr =>
    (dss_cons (ds_if (L2.PW.pt (dw_or (dt_not (dt_truth (de_isi (de_var 0) T.z_isinstance T.z_tuple bt_tuple))) (dw_or (dt_cmp (od_ne (hu64 hr)) (de_callB cd_len T.z_len bt_len (da_cons (de_var 0) da_nil)) de_int) (dw_or (dt_not (dt_truth (de_isi (de_ix od_ix (de_var 0) de_int) T.z_isinstance T.z_str bt_str))) (dw_or1 (dt_cmp (od_ne (hu64 hr)) (de_ix od_ix (de_var 0) de_int) (de_strT (by decide +kernel))))))))
    (dss_one (ds_ret de_bl))
    dss_nil)
    (dss_cons (ds_asg (de_sl od_sl (de_var 0) (do_some de_int) do_none) (dg_tup rfl (dgs_cons (dg_name 1 sc__law_is_pattern.nd) (dgs_cons (dg_name 2 sc__law_is_pattern.nd) dgs_nil))))
    (dss_cons (ds_if (L2.PW.pt (dw_or (dt_not (dt_truth (de_isi (de_var 1) T.z_isinstance T.z_str bt_str))) (dw_or (dt_cmp od_lt (de_callB cd_len T.z_len bt_len (da_cons (de_var 1) da_nil)) de_int) (dw_or (dt_cmp od_gt (de_callB cd_len T.z_len bt_len (da_cons (de_var 1) da_nil)) de_int) (dw_or1 (dt_not (dt_truth (de_isi (de_var 2) T.z_isinstance T.z_tuple bt_tuple))))))))
    (dss_one (ds_ret de_bl))
    dss_nil)
    (dss_cons (ds_asg (de_if (dt_cmp (od_eq (hu64 hr)) (de_ix od_ix (de_var 1) de_int) (de_strT (by decide +kernel))) (de_sl od_sl (de_var 1) (do_some de_int) do_none) (de_var 1)) (dg_name 3 sc__law_is_pattern.nd))
    (dss_cons (ds_asg (de_if (L2.PW.pt (dw_and (dt_cmp (od_ne (hu64 hr)) (de_var 3) (de_strT (by decide +kernel))) (dw_and1 (dt_cmp (od_eq (hu64 hr)) (de_ix od_ix (de_var 3) (de_neg de_int)) (de_strT (by decide +kernel)))))) (de_sl od_sl (de_var 3) do_none (do_some (de_neg de_int))) (de_var 3)) (dg_name 3 sc__law_is_pattern.nd))
    (dss_cons (ds_if (L2.PW.pt (dw_or (dt_not (dt_truth (de_call (ok__law_is_word T) (hr.mono (by decide)) T.m__law_is_word T.F__law_is_word.kp T.b__law_is_word (takes_at (takes_of rfl rfl rfl rfl)) (da_cons (de_var 3) da_nil)))) (dw_or1 (dt_cmp (od_ne (hu64 hr)) (de_callB cd_len T.z_len bt_len (da_cons (de_var 2) da_nil)) (de_op od_add (de_callB cd_len T.z_len bt_len (da_cons (de_var 1) da_nil)) de_int)))))
    (dss_one (ds_ret de_bl))
    dss_nil)
    (dss_cons (ds_if (L2.PW.pt (dw_or (dt_cmp (od_in (hu65 hr)) de_bl (de_n (dn_lc (own := [("level", 4)]) rfl sc__law_is_pattern.nd (di_seq (de_var 2)) (blkOk_by (by kernel_rfl)) (by decide) (fun _ _ _ _ _ => (dg_name 4 sc__law_is_pattern.nd)) (fun _ _ _ _ _ => dts_nil) (fun _ _ _ _ _ => (de_call (ok__law_is_int T) (hr.mono (by decide)) T.m__law_is_int T.F__law_is_int.kp T.b__law_is_int takes_no (da_cons (de_var 4) (da_cons de_int (da_cons de_int da_nil)))))))) (dw_or1 (dt_cmp (od_eq (hu64 hr)) (de_callB (cd_maxA rfl (hu64 hr)) T.z_max bt_max (da_cons (de_var 2) da_nil)) de_int))))
    (dss_one (ds_ret de_bl))
    dss_nil)
    (dss_one (ds_ret (de_not (de_or (de_and (de_cmp (od_eq (hu64 hr)) (de_ix od_ix (de_var 1) de_int) (de_strT (by decide +kernel))) (de_one (de_cmp od_gt (de_ix od_ix (de_var 2) de_int) de_int))) (de_one (de_and (de_cmp (od_eq (hu64 hr)) (de_ix od_ix (de_var 1) (de_neg de_int)) (de_strT (by decide +kernel))) (de_one (de_cmp od_gt (de_ix od_ix (de_var 2) (de_neg de_int)) de_int)))))))))))))))
theorem sc__law_is_formed : FnScope ["value", "one"] ["value"] (defScope s__law_is_formed) := ⟨rfl, rfl, rfl, by decide +kernel, rfl, by decide +kernel, by decide +kernel⟩
theorem ok__law_is_formed (T : Facts K mg) : FnOk P w K mg base (L2.CX P w) 3 T.a__law_is_formed T.d__law_is_formed ["value"] (spP K (ct T) 1 m__law_is_formed) :=
  fn_p T.F__law_is_formed sc__law_is_formed rfl rfl fun cdv A outer s H E hr =>
    (dss_cons (ds_if (L2.PW.pt (dw_or (dt_not (dt_truth (de_isi (de_var 0) T.z_isinstance T.z_tuple bt_tuple))) (dw_or (dt_cmp (od_ne (hu64 hr)) (de_callB cd_len T.z_len bt_len (da_cons (de_var 0) da_nil)) de_int) (dw_or (dt_not (dt_truth (de_isi (de_ix od_ix (de_var 0) de_int) T.z_isinstance T.z_str bt_str))) (dw_or1 (dt_cmp (od_ne (hu64 hr)) (de_ix od_ix (de_var 0) de_int) (de_strT (by decide +kernel))))))))
    (dss_one (ds_ret de_bl))
    dss_nil)
    (dss_cons (ds_if (L2.PW.pt (dw_or (dt_not (dt_truth (de_call (ok__law_is_int T) (hr.mono (by decide)) T.m__law_is_int T.F__law_is_int.kp T.b__law_is_int (takes_at (takes_of rfl rfl rfl rfl)) (da_cons (de_ix od_ix (de_var 0) de_int) (da_cons de_int (da_cons de_int da_nil)))))) (dw_or1 (dt_not (dt_truth (de_call (ok__law_is_int T) (hr.mono (by decide)) T.m__law_is_int T.F__law_is_int.kp T.b__law_is_int (takes_at (takes_of rfl rfl rfl rfl)) (da_cons (de_ix od_ix (de_var 0) de_int) (da_cons de_int (da_cons de_int da_nil)))))))))
    (dss_one (ds_ret de_bl))
    dss_nil)
    (dss_cons (ds_if (L2.PW.pt (dw_or (dt_not (dt_truth (de_isi (de_ix od_ix (de_var 0) de_int) T.z_isinstance T.z_tuple bt_tuple))) (dw_or1 (dt_not (dt_truth (de_isi (de_ix od_ix (de_var 0) de_int) T.z_isinstance T.z_tuple bt_tuple))))))
    (dss_one (ds_ret de_bl))
    dss_nil)
    (dss_one (ds_ret (de_cmp (od_notIn (hu65 hr)) de_bl (de_op od_add (de_n (dn_lc (own := [("one", 1)]) rfl sc__law_is_formed.nd (di_seq (de_ix od_ix (de_var 0) de_int)) (blkOk_by (by kernel_rfl)) (by decide) (fun _ _ _ _ _ => (dg_name 1 sc__law_is_formed.nd)) (fun _ _ _ _ _ => dts_nil) (fun _ _ _ _ _ => (de_call (ok__law_is_pattern T) (hr.mono (by decide)) T.m__law_is_pattern T.F__law_is_pattern.kp T.b__law_is_pattern takes_no (da_cons (de_var 1) da_nil))))) (de_n (dn_lc (own := [("one", 1)]) rfl sc__law_is_formed.nd (di_seq (de_ix od_ix (de_var 0) de_int)) (blkOk_by (by kernel_rfl)) (by decide) (fun _ _ _ _ _ => (dg_name 1 sc__law_is_formed.nd)) (fun _ _ _ _ _ => dts_nil) (fun _ _ _ _ _ => (de_call (ok__law_is_pair T) (hr.mono (by decide)) T.m__law_is_pair T.F__law_is_pair.kp T.b__law_is_pair takes_no (da_cons (de_var 1) da_nil))))))))))))
theorem sc__law_ascending : FnScope ["rows", "j"] ["rows"] (defScope s__law_ascending) := ⟨rfl, rfl, rfl, by decide +kernel, rfl, by decide +kernel, by decide +kernel⟩
theorem ok__law_ascending (T : Facts K mg) : FnOk P w K mg base (L2.CX P w) 1 T.a__law_ascending T.d__law_ascending ["rows"] (spP K (ct T) 1 m__law_ascending) :=
  fn_p T.F__law_ascending sc__law_ascending rfl rfl fun cdv A outer s H E hr =>
    (dss_one (ds_ret (de_cmp (od_notIn (hu65 hr)) de_bl (de_n (dn_lc (own := [("j", 1)]) rfl sc__law_ascending.nd (di_range1 T.z_range (da_cons (de_op od_sub (de_callB cd_len T.z_len bt_len (da_cons (de_var 0) da_nil)) de_int) da_nil)) (blkOk_by (by kernel_rfl)) (by decide) (fun _ _ _ _ _ => (dg_name 1 sc__law_ascending.nd)) (fun _ _ _ _ _ => dts_nil) (fun _ _ _ _ _ => (de_cmp od_lt (de_ix od_ix (de_var 0) (de_var 1)) (de_ix od_ix (de_var 0) (de_op od_add (de_var 1) de_int)))))))))
theorem sc__law_due : FnScope ["value", "rows", "at", "names", "one", "j"] ["value"] (defScope s__law_due) := ⟨rfl, rfl, rfl, by decide +kernel, rfl, by decide +kernel, by decide +kernel⟩
theorem ok__law_due (T : Facts K mg) : FnOk P w K mg base (L2.CX P w) 4 T.a__law_due T.d__law_due ["value"] (spP K (ct T) 1 m__law_due) :=
  fn_p T.F__law_due sc__law_due rfl rfl fun cdv A outer s H E hr =>
    (dss_cons (ds_if (dt_not (dt_truth (de_call (ok__law_is_formed T) (hr.mono (by decide)) T.m__law_is_formed T.F__law_is_formed.kp T.b__law_is_formed (takes_at (takes_of rfl rfl rfl rfl)) (da_cons (de_var 0) da_nil))))
    (dss_one (ds_ret (de_tup (da_cons (de_strT (by decide +kernel)) (da_cons (de_strT (by decide +kernel)) da_nil)))))
    dss_nil)
    (dss_cons (ds_if (L2.PW.pt (dw_or (dt_cmp od_gt (de_callB cd_len T.z_len bt_len (da_cons (de_ix od_ix (de_var 0) de_int) da_nil)) de_int) (dw_or1 (dt_cmp od_gt (de_callB cd_len T.z_len bt_len (da_cons (de_ix od_ix (de_var 0) de_int) da_nil)) de_int))))
    (dss_one (ds_ret (de_tup (da_cons (de_strT (by decide +kernel)) (da_cons (de_if (dt_cmp od_gt (de_callB cd_len T.z_len bt_len (da_cons (de_ix od_ix (de_var 0) de_int) da_nil)) de_int) (de_strT (by decide +kernel)) (de_strT (by decide +kernel))) da_nil)))))
    dss_nil)
    (dss_cons (ds_pre [1, 2, 3, 5] (ds_fg true [1, 2, 3, 4, 5] (ds_for (passes_of rfl) rfl (di_seq (de_n (dn_lst (da_cons (de_tup (da_cons (de_ix od_ix (de_var 0) de_int) (da_cons de_int da_nil))) (da_cons (de_tup (da_cons (de_ix od_ix (de_var 0) de_int) (da_cons de_int da_nil))) da_nil))))) (dg_tup rfl (dgs_cons (dg_name 1 sc__law_due.nd) (dgs_cons (dg_name 2 sc__law_due.nd) dgs_nil)))
    (dss_fg true [1, 2, 3, 5] (dss_cons (ds_setLc 3 (own := [("one", 4)]) rfl sc__law_due.nd (di_seq (de_var 1)) (blkOk_by (by kernel_rfl)) (by decide) (fun _ _ _ _ _ => (dg_name 4 sc__law_due.nd)) (fun _ _ _ _ _ => dts_nil) (fun _ _ _ _ _ => (de_ix od_ix (de_var 4) (de_var 2))) (sw_true rfl rfl rfl (by decide +kernel)))
    (dss_one (ds_pre [5] (ds_fg true [5] (ds_for (passes_of rfl) rfl (di_range1 T.z_range (da_cons (de_callB cd_len T.z_len bt_len (da_cons (de_var 3) da_nil)) da_nil)) (dg_name 5 sc__law_due.nd)
    (dss_fg true [5] (dss_one (ds_if (dt_cmp (od_in (hu65 hr)) (de_ix od_ix (de_var 3) (de_var 5)) (de_sl od_sl (de_var 3) do_none (do_some (de_var 5))))
    (dss_one (ds_ret (de_tup (da_cons (de_strT (by decide +kernel)) (da_cons (de_ix od_ix (de_var 3) (de_var 5)) da_nil)))))
    dss_nil))))))))))))
    (dss_one (ds_ret (de_op od_add (de_sl od_sl (de_var 0) do_none (do_some de_int)) (de_tup (da_cons (de_callTy cd_tuple T.z_tuple bt_tuple (da_cons (de_n (dn_callB (cn_sorted2 (hu64 hr)) T.z_sorted bt_sorted (da_cons (de_ix od_ix (de_var 0) de_int) da_nil))) da_nil)) (da_cons (de_callTy cd_tuple T.z_tuple bt_tuple (da_cons (de_n (dn_callB (cn_sorted2 (hu64 hr)) T.z_sorted bt_sorted (da_cons (de_ix od_ix (de_var 0) de_int) da_nil))) da_nil)) da_nil)))))))))
theorem sc__law_told : FnScope ["value", "e"] ["value"] (defScope s__law_told) := ⟨rfl, rfl, rfl, by decide +kernel, rfl, by decide +kernel, by decide +kernel⟩
theorem ok__law_told (T : Facts K mg) : FnOk P w K mg base (L2.CX P w) 6 T.a__law_told T.d__law_told ["value"] (spP K (ct T) 1 m__law_told) :=
  fn_p T.F__law_told sc__law_told rfl rfl fun cdv A outer s H E hr =>
    (dss_one (ds_tryM rfl rfl sc__law_told.nd (takes_of rfl rfl rfl rfl) (fun W pn xe tk hp => (dss_one (ds_ret (de_call (ok_check_tongue T) (hr.mono (by decide)) T.m_check_tongue T.F_check_tongue.kp T.b_check_tongue (takes_at tk) (da_cons (de_var 0) da_nil)))))
    (dh_named 1 T.sub_ok (ct_BadTongue T) T.x_BadTongue.g (dx_tup2 (dx_fld T.xf_BadTongue (ct_BadTongue T) T.nf_BadTongue_kind) (dx_fld T.xf_BadTongue (ct_BadTongue T) T.nf_BadTongue_name))
    dh_nil)))
theorem sc_law : FnScope ["script", "k", "bag", "value", "odd", "turn", "due", "whole", "one", "inner", "rows", "good"] ["script"] (defScope s_law) := ⟨rfl, rfl, rfl, by decide +kernel, rfl, by decide +kernel, by decide +kernel⟩
theorem ok_law (T : Facts K mg) : FnOk P w K mg base (L2.CX P w) 14 T.a_law T.d_law ["script"] (spP K (ct T) 1 m_law) :=
  fn_p T.F_law sc_law rfl rfl fun cdv A outer s H E hr =>
    (dss_cons (ds_pre [1, 2, 3, 5, 6, 7, 9, 10, 11] (ds_fg true [1, 2, 3, 5, 6, 7, 8, 9, 10, 11] (ds_for (passes_of rfl) rfl (di_range1 T.z_range (da_cons (de_callB (cd_maxA rfl (hu64 hr)) T.z_max bt_max (da_cons de_int (da_cons (de_callB (cd_min rfl) T.z_min bt_min (da_cons de_int (da_cons (de_callB cd_len T.z_len bt_len (da_cons (de_var 0) da_nil)) da_nil))) da_nil))) da_nil)) (dg_name 1 sc_law.nd)
    (dss_fg true [1, 2, 3, 5, 6, 7, 9, 10, 11] (dss_cons (ds_callN 2 (ok__law_bag T) (hr.mono (by decide)) T.m__law_bag T.F__law_bag.kp T.b__law_bag (takes_at (takes_of rfl rfl rfl rfl)) (da_cons (de_var 0) (da_cons (de_var 1) da_nil)) sc_law.nd)
    (dss_cons (ds_asg (de_callO 2 (ok__law_tongue T) (hr.mono (by decide)) T.m__law_tongue T.F__law_tongue.kp T.b__law_tongue (takes_at (takes_of rfl rfl rfl rfl)) (da_cons (de_strT (by decide +kernel)) (da_cons (de_callO 2 (ok__law_draw T) (hr.mono (by decide)) T.m__law_draw T.F__law_draw.kp T.b__law_draw (takes_at (takes_of rfl rfl rfl rfl)) (da_cons de_int da_nil)) (da_cons (de_callO 2 (ok__law_one T) (hr.mono (by decide)) T.m__law_one T.F__law_one.kp T.b__law_one (takes_at (takes_of rfl rfl rfl rfl)) (da_cons (de_n (dn_lst (da_cons de_int (da_cons de_int (da_cons de_int da_nil))))) da_nil)) da_nil)))) (dg_name 3 sc_law.nd))
    (dss_cons (ds_if (dt_cmp (od_eq (hu64 hr)) (de_callO 2 (ok__law_draw T) (hr.mono (by decide)) T.m__law_draw T.F__law_draw.kp T.b__law_draw (takes_at (takes_of rfl rfl rfl rfl)) (da_cons de_int da_nil)) de_int)
    (dss_one (ds_asg (de_op od_add (de_sl od_sl (de_var 3) do_none (do_some de_int)) (de_tup (da_cons (de_op od_add (de_rev (de_ix od_ix (de_var 3) de_int)) (de_sl od_sl (de_ix od_ix (de_var 3) de_int) do_none (do_some (de_callO 2 (ok__law_draw T) (hr.mono (by decide)) T.m__law_draw T.F__law_draw.kp T.b__law_draw (takes_at (takes_of rfl rfl rfl rfl)) (da_cons de_int da_nil))))) (da_cons (de_op od_add (de_rev (de_ix od_ix (de_var 3) de_int)) (de_sl od_sl (de_ix od_ix (de_var 3) de_int) do_none (do_some (de_callO 2 (ok__law_draw T) (hr.mono (by decide)) T.m__law_draw T.F__law_draw.kp T.b__law_draw (takes_at (takes_of rfl rfl rfl rfl)) (da_cons de_int da_nil))))) da_nil)))) (dg_name 3 sc_law.nd)))
    dss_nil)
    (dss_cons (ds_if (dt_cmp (od_eq (hu64 hr)) (de_callO 2 (ok__law_draw T) (hr.mono (by decide)) T.m__law_draw T.F__law_draw.kp T.b__law_draw (takes_at (takes_of rfl rfl rfl rfl)) (da_cons de_int da_nil)) de_int)
    (dss_one (ds_asg (de_op od_add (de_sl od_sl (de_var 3) do_none (do_some de_int)) (de_tup (da_cons (de_op od_mulA (de_tup (da_cons (de_tup (da_cons (de_strT (by decide +kernel)) (da_cons (de_strT (by decide +kernel)) (da_cons (de_tup (da_cons de_int (da_cons de_int da_nil))) da_nil)))) da_nil)) (de_callO 2 (ok__law_one T) (hr.mono (by decide)) T.m__law_one T.F__law_one.kp T.b__law_one (takes_at (takes_of rfl rfl rfl rfl)) (da_cons (de_n (dn_lst (da_cons de_int (da_cons de_int da_nil)))) da_nil))) (da_cons (de_ix od_ix (de_var 3) de_int) da_nil)))) (dg_name 3 sc_law.nd)))
    dss_nil)
    (dss_cons (ds_asg (de_n (dn_lst (da_cons de_int (da_cons (de_neg de_int) (da_cons de_int (da_cons de_bl (da_cons de_non (da_cons (de_strT (by decide +kernel)) (da_cons (de_strT (by decide +kernel)) (da_cons (de_strT (by decide +kernel)) (da_cons (de_strT (by decide +kernel)) (da_cons (de_strT (by decide +kernel)) (da_cons (de_tup da_nil) (da_cons (de_n (dn_lst da_nil)) (da_cons (de_strT (by decide +kernel)) (da_cons (de_tup (da_cons de_int da_nil)) (da_cons (de_strT (by decide +kernel)) (da_cons de_int da_nil)))))))))))))))))) (dg_name 4 sc_law.nd))
    (dss_cons (ds_pre [5] (ds_fg true [5] (ds_for (passes_of rfl) rfl (di_range1 T.z_range (da_cons (de_callO 2 (ok__law_draw T) (hr.mono (by decide)) T.m__law_draw T.F__law_draw.kp T.b__law_draw (takes_at (takes_of rfl rfl rfl rfl)) (da_cons de_int da_nil)) da_nil)) (dg_name 5 sc_law.nd)
    (dss_fg true [5] (dss_one (ds_asg (de_callO 2 (ok__law_spoilt T 12) (hr.mono (by decide)) T.m__law_spoilt T.F__law_spoilt.kp T.b__law_spoilt (takes_at (takes_of rfl rfl rfl rfl)) (da_cons (de_var 3) (da_cons (de_ix od_ix (de_var 4) (de_callO 2 (ok__law_draw T) (hr.mono (by decide)) T.m__law_draw T.F__law_draw.kp T.b__law_draw (takes_at (takes_of rfl rfl rfl rfl)) (da_cons de_int da_nil))) (da_cons de_int da_nil)))) (dg_name 3 sc_law.nd)))))))
    (dss_cons (ds_asg (de_call (ok__law_due T) (hr.mono (by decide)) T.m__law_due T.F__law_due.kp T.b__law_due (takes_at (takes_of rfl rfl rfl rfl)) (da_cons (de_var 3) da_nil)) (dg_name 6 sc_law.nd))
    (dss_cons (ds_if (dt_cmp (od_ne (hu64 hr)) (de_call (ok__law_told T) (hr.mono (by decide)) T.m__law_told T.F__law_told.kp T.b__law_told (takes_at (takes_of rfl rfl rfl rfl)) (da_cons (de_var 3) da_nil)) (de_var 6))
    (dss_one (ds_ret de_bl))
    dss_nil)
    (dss_cons (ds_asg (de_and (de_cmp (od_eq (hu64 hr)) (de_callB cd_len T.z_len bt_len (da_cons (de_var 6) da_nil)) de_int) (de_and (de_call (ok__law_ascending T) (hr.mono (by decide)) T.m__law_ascending T.F__law_ascending.kp T.b__law_ascending (takes_at (takes_of rfl rfl rfl rfl)) (da_cons (de_n (dn_lc (own := [("one", 8)]) rfl sc_law.nd (di_seq (de_ix od_ix (de_var 3) de_int)) (blkOk_by (by kernel_rfl)) (by decide) (fun _ _ _ _ _ => (dg_name 8 sc_law.nd)) (fun _ _ _ _ _ => dts_nil) (fun _ _ _ _ _ => (de_ix od_ix (de_var 8) de_int)))) da_nil)) (de_one (de_call (ok__law_ascending T) (hr.mono (by decide)) T.m__law_ascending T.F__law_ascending.kp T.b__law_ascending (takes_at (takes_of rfl rfl rfl rfl)) (da_cons (de_n (dn_lc (own := [("one", 8)]) rfl sc_law.nd (di_seq (de_ix od_ix (de_var 3) de_int)) (blkOk_by (by kernel_rfl)) (by decide) (fun _ _ _ _ _ => (dg_name 8 sc_law.nd)) (fun _ _ _ _ _ => dts_nil) (fun _ _ _ _ _ => (de_ix od_ix (de_var 8) de_int)))) da_nil))))) (dg_name 7 sc_law.nd))
    (dss_cons (ds_if (dt_cmp (od_ne (hu64 hr)) (de_callB cd_repr T.z_repr bt_repr (da_cons (de_call (ok_is_tongue T) (hr.mono (by decide)) T.m_is_tongue T.F_is_tongue.kp T.b_is_tongue (takes_at (takes_of rfl rfl rfl rfl)) (da_cons (de_var 3) da_nil)) da_nil)) (de_callB cd_repr T.z_repr bt_repr (da_cons (de_var 7) da_nil)))
    (dss_one (ds_ret de_bl))
    dss_nil)
    (dss_cons (ds_if (dt_truth (de_call (ok__law_is_formed T) (hr.mono (by decide)) T.m__law_is_formed T.F__law_is_formed.kp T.b__law_is_formed (takes_at (takes_of rfl rfl rfl rfl)) (da_cons (de_var 3) da_nil)))
    (dss_one (ds_pre [] (ds_fg true [] (ds_for (passes_of rfl) rfl (di_seq (de_ix od_ix (de_var 3) de_int)) (dg_name 8 sc_law.nd)
    (dss_fg true [] (dss_one (ds_if (dt_cmp od_isNot (de_call (ok_is_pattern T) (hr.mono (by decide)) T.m_is_pattern T.F_is_pattern.kp T.b_is_pattern (takes_at (takes_of rfl rfl rfl rfl)) (da_cons (de_var 8) da_nil)) de_bl)
    (dss_one (ds_ret de_bl))
    dss_nil)))))))
    dss_nil)
    (dss_cons (ds_asg (de_if (L2.PW.pt (dw_and (dt_truth (de_isi (de_var 3) T.z_isinstance T.z_tuple bt_tuple)) (dw_and1 (dt_cmp od_gt (de_callB cd_len T.z_len bt_len (da_cons (de_var 3) da_nil)) de_int)))) (de_ix od_ix (de_var 3) de_int) (de_var 3)) (dg_name 9 sc_law.nd))
    (dss_cons (ds_pre [] (ds_fg true [] (ds_for (passes_of rfl) rfl (di_seq (de_if (dt_truth (de_isi (de_var 9) T.z_isinstance T.z_tuple bt_tuple)) (de_var 9) (de_n (dn_lst (da_cons (de_var 9) da_nil))))) (dg_name 8 sc_law.nd)
    (dss_fg true [] (dss_one (ds_if (dt_cmp (od_ne (hu64 hr)) (de_callB cd_repr T.z_repr bt_repr (da_cons (de_call (ok_is_pattern T) (hr.mono (by decide)) T.m_is_pattern T.F_is_pattern.kp T.b_is_pattern (takes_at (takes_of rfl rfl rfl rfl)) (da_cons (de_var 8) da_nil)) da_nil)) (de_callB cd_repr T.z_repr bt_repr (da_cons (de_call (ok__law_is_pattern T) (hr.mono (by decide)) T.m__law_is_pattern T.F__law_is_pattern.kp T.b__law_is_pattern (takes_at (takes_of rfl rfl rfl rfl)) (da_cons (de_var 8) da_nil)) da_nil)))
    (dss_one (ds_ret de_bl))
    dss_nil))))))
    (dss_cons (ds_asg (de_if (L2.PW.pt (dw_and (dt_truth (de_isi (de_var 3) T.z_isinstance T.z_tuple bt_tuple)) (dw_and1 (dt_cmp (od_eq (hu64 hr)) (de_callB cd_len T.z_len bt_len (da_cons (de_var 3) da_nil)) de_int)))) (de_ix od_ix (de_var 3) de_int) de_non) (dg_name 10 sc_law.nd))
    (dss_cons (ds_asg (de_and (de_isi (de_var 10) T.z_isinstance T.z_tuple bt_tuple) (de_and (de_cmp od_le de_int (de_callB cd_len T.z_len bt_len (da_cons (de_var 10) da_nil))) (de_and (de_cmp od_lt (de_callB cd_len T.z_len bt_len (da_cons (de_var 10) da_nil)) de_int) (de_one (de_cmp (od_notIn (hu65 hr)) de_bl (de_n (dn_lc (own := [("one", 8)]) rfl sc_law.nd (di_seq (de_var 10)) (blkOk_by (by kernel_rfl)) (by decide) (fun _ _ _ _ _ => (dg_name 8 sc_law.nd)) (fun _ _ _ _ _ => dts_nil) (fun _ _ _ _ _ => (de_call (ok__law_is_pair T) (hr.mono (by decide)) T.m__law_is_pair T.F__law_is_pair.kp T.b__law_is_pair takes_no (da_cons (de_var 8) da_nil)))))))))) (dg_name 11 sc_law.nd))
    (dss_one (ds_if (dt_cmp (od_ne (hu64 hr)) (de_callB cd_repr T.z_repr bt_repr (da_cons (de_call (ok_is_list T) (hr.mono (by decide)) T.m_is_list T.F_is_list.kp T.b_is_list (takes_at (takes_of rfl rfl rfl rfl)) (da_cons (de_var 10) da_nil)) da_nil)) (de_callB cd_repr T.z_repr bt_repr (da_cons (de_and (de_var 11) (de_one (de_call (ok__law_ascending T) (hr.mono (by decide)) T.m__law_ascending T.F__law_ascending.kp T.b__law_ascending (takes_at (takes_of rfl rfl rfl rfl)) (da_cons (de_n (dn_lc (own := [("one", 8)]) rfl sc_law.nd (di_seq (de_var 10)) (blkOk_by (by kernel_rfl)) (by decide) (fun _ _ _ _ _ => (dg_name 8 sc_law.nd)) (fun _ _ _ _ _ => dts_nil) (fun _ _ _ _ _ => (de_ix od_ix (de_var 8) de_int)))) da_nil)))) da_nil)))
    (dss_one (ds_ret de_bl))
    dss_nil)))))))))))))))))))))
    (dss_one (ds_ret (de_and (de_cmp (od_eq (hu64 hr)) (de_n (dn_lc (own := [("odd", 4)]) rfl sc_law.nd (di_seq (de_n (dn_lst (da_cons de_non (da_cons de_int (da_cons (de_strT (by decide +kernel)) (da_cons (de_n (dn_lst da_nil)) (da_cons (de_tup da_nil) da_nil)))))))) (blkOk_by (by kernel_rfl)) (by decide) (fun _ _ _ _ _ => (dg_name 4 sc_law.nd)) (fun _ _ _ _ _ => dts_nil) (fun _ _ _ _ _ => (de_call (ok_is_tongue T) (hr.mono (by decide)) T.m_is_tongue T.F_is_tongue.kp T.b_is_tongue takes_no (da_cons (de_var 4) da_nil))))) (de_n (dn_rep (dn_lst (da_cons de_bl da_nil)) de_int))) (de_one (de_cmp od_is (de_call (ok_is_list T) (hr.mono (by decide)) T.m_is_list T.F_is_list.kp T.b_is_list (takes_at (takes_of rfl rfl rfl rfl)) (da_cons (de_tup da_nil) da_nil)) de_bl))))))
end
theorem all_mk {l : PySem.W.OpenLaw} {w : World} {K : PySem.W.Frag} {h : Heap} {mg : Str → Option Value} {fa : Addr} (X : K.In h) (G : h.Ns mainGlobals mg) (hfa : mg "law" = some (.ref fa))
    {f_is_integer : Addr} {oc_is_integer kV_is_integer dc_is_integer pm_is_integer cd_is_integer ct_is_integer : Value} {od_is_integer an_is_integer : Option Addr} {sl_is_integer : Array (Option Value)}
    {f_is_word : Addr} {oc_is_word kV_is_word dc_is_word pm_is_word cd_is_word ct_is_word : Value} {od_is_word an_is_word : Option Addr} {sl_is_word : Array (Option Value)}
    {f_is_places : Addr} {oc_is_places kV_is_places dc_is_places pm_is_places cd_is_places ct_is_places : Value} {od_is_places an_is_places : Option Addr} {sl_is_places : Array (Option Value)}
    {f_is_signs : Addr} {oc_is_signs kV_is_signs dc_is_signs pm_is_signs cd_is_signs ct_is_signs : Value} {od_is_signs an_is_signs : Option Addr} {sl_is_signs : Array (Option Value)}
    {f_is_pattern : Addr} {oc_is_pattern kV_is_pattern dc_is_pattern pm_is_pattern cd_is_pattern ct_is_pattern : Value} {od_is_pattern an_is_pattern : Option Addr} {sl_is_pattern : Array (Option Value)}
    {f_is_pair : Addr} {oc_is_pair kV_is_pair dc_is_pair pm_is_pair cd_is_pair ct_is_pair : Value} {od_is_pair an_is_pair : Option Addr} {sl_is_pair : Array (Option Value)}
    {f_is_formed : Addr} {oc_is_formed kV_is_formed dc_is_formed pm_is_formed cd_is_formed ct_is_formed : Value} {od_is_formed an_is_formed : Option Addr} {sl_is_formed : Array (Option Value)}
    {f_are_ascending : Addr} {oc_are_ascending kV_are_ascending dc_are_ascending pm_are_ascending cd_are_ascending ct_are_ascending : Value} {od_are_ascending an_are_ascending : Option Addr} {sl_are_ascending : Array (Option Value)}
    {f_is_tongue : Addr} {oc_is_tongue kV_is_tongue dc_is_tongue pm_is_tongue cd_is_tongue ct_is_tongue : Value} {od_is_tongue an_is_tongue : Option Addr} {sl_is_tongue : Array (Option Value)}
    {f_is_list : Addr} {oc_is_list kV_is_list dc_is_list pm_is_list cd_is_list ct_is_list : Value} {od_is_list an_is_list : Option Addr} {sl_is_list : Array (Option Value)}
    {f_first_twice : Addr} {oc_first_twice kV_first_twice dc_first_twice pm_first_twice cd_first_twice ct_first_twice : Value} {od_first_twice an_first_twice : Option Addr} {sl_first_twice : Array (Option Value)}
    {f_check_tongue : Addr} {oc_check_tongue kV_check_tongue dc_check_tongue pm_check_tongue cd_check_tongue ct_check_tongue : Value} {od_check_tongue an_check_tongue : Option Addr} {sl_check_tongue : Array (Option Value)}
    {f__law_bag : Addr} {oc__law_bag kV__law_bag dc__law_bag pm__law_bag cd__law_bag ct__law_bag : Value} {od__law_bag an__law_bag : Option Addr} {sl__law_bag : Array (Option Value)}
    {f__law_draw : Addr} {oc__law_draw kV__law_draw dc__law_draw pm__law_draw cd__law_draw ct__law_draw : Value} {od__law_draw an__law_draw : Option Addr} {sl__law_draw : Array (Option Value)}
    {f__law_one : Addr} {oc__law_one kV__law_one dc__law_one pm__law_one cd__law_one ct__law_one : Value} {od__law_one an__law_one : Option Addr} {sl__law_one : Array (Option Value)}
    {f__law_word : Addr} {oc__law_word kV__law_word dc__law_word pm__law_word cd__law_word ct__law_word : Value} {od__law_word an__law_word : Option Addr} {sl__law_word : Array (Option Value)}
    {f__law_pattern : Addr} {oc__law_pattern kV__law_pattern dc__law_pattern pm__law_pattern cd__law_pattern ct__law_pattern : Value} {od__law_pattern an__law_pattern : Option Addr} {sl__law_pattern : Array (Option Value)}
    {f__law_places : Addr} {oc__law_places kV__law_places dc__law_places pm__law_places cd__law_places ct__law_places : Value} {od__law_places an__law_places : Option Addr} {sl__law_places : Array (Option Value)}
    {f__law_tongue : Addr} {oc__law_tongue kV__law_tongue dc__law_tongue pm__law_tongue cd__law_tongue ct__law_tongue : Value} {od__law_tongue an__law_tongue : Option Addr} {sl__law_tongue : Array (Option Value)}
    {f__law_spoilt : Addr} {oc__law_spoilt kV__law_spoilt dc__law_spoilt pm__law_spoilt cd__law_spoilt ct__law_spoilt : Value} {od__law_spoilt an__law_spoilt : Option Addr} {sl__law_spoilt : Array (Option Value)}
    {f__law_is_int : Addr} {oc__law_is_int kV__law_is_int dc__law_is_int pm__law_is_int cd__law_is_int ct__law_is_int : Value} {od__law_is_int an__law_is_int : Option Addr} {sl__law_is_int : Array (Option Value)}
    {f__law_is_word : Addr} {oc__law_is_word kV__law_is_word dc__law_is_word pm__law_is_word cd__law_is_word ct__law_is_word : Value} {od__law_is_word an__law_is_word : Option Addr} {sl__law_is_word : Array (Option Value)}
    {f__law_is_pair : Addr} {oc__law_is_pair kV__law_is_pair dc__law_is_pair pm__law_is_pair cd__law_is_pair ct__law_is_pair : Value} {od__law_is_pair an__law_is_pair : Option Addr} {sl__law_is_pair : Array (Option Value)}
    {f__law_is_pattern : Addr} {oc__law_is_pattern kV__law_is_pattern dc__law_is_pattern pm__law_is_pattern cd__law_is_pattern ct__law_is_pattern : Value} {od__law_is_pattern an__law_is_pattern : Option Addr} {sl__law_is_pattern : Array (Option Value)}
    {f__law_is_formed : Addr} {oc__law_is_formed kV__law_is_formed dc__law_is_formed pm__law_is_formed cd__law_is_formed ct__law_is_formed : Value} {od__law_is_formed an__law_is_formed : Option Addr} {sl__law_is_formed : Array (Option Value)}
    {f__law_ascending : Addr} {oc__law_ascending kV__law_ascending dc__law_ascending pm__law_ascending cd__law_ascending ct__law_ascending : Value} {od__law_ascending an__law_ascending : Option Addr} {sl__law_ascending : Array (Option Value)}
    {f__law_due : Addr} {oc__law_due kV__law_due dc__law_due pm__law_due cd__law_due ct__law_due : Value} {od__law_due an__law_due : Option Addr} {sl__law_due : Array (Option Value)}
    {f__law_told : Addr} {oc__law_told kV__law_told dc__law_told pm__law_told cd__law_told ct__law_told : Value} {od__law_told an__law_told : Option Addr} {sl__law_told : Array (Option Value)}
    {f_law : Addr} {oc_law kV_law dc_law pm_law cd_law ct_law : Value} {od_law an_law : Option Addr} {sl_law : Array (Option Value)}
    {C_BadTongue : Addr}
    {nm_BadTongue} {q_BadTongue} {N_BadTongue} {bs_BadTongue} {bm_BadTongue} {sn_BadTongue} {sub_BadTongue} {ab_BadTongue} {col_BadTongue} {dd_BadTongue} {k0_BadTongue} {k1_BadTongue} {k2_BadTongue} {k3_BadTongue} {k5_BadTongue}
    {fi_BadTongue : Addr}
    {oci_BadTongue kVi_BadTongue dci_BadTongue pmi_BadTongue cdi_BadTongue cti_BadTongue : Value} {odi_BadTongue ani_BadTongue : Option Addr} {sli_BadTongue : Array (Option Value)}
    {t_MOST_LETTERS : Tok}
    {t_MOST_SIGNS : Tok}
    {t_MOST_LEVEL : Tok}
    {t_MOST_PATTERNS : Tok}
    {t_MOST_EXCEPTIONS : Tok}
    {t_MOST_LIST : Tok}
    {t_LETTERS : Tok}
    (a_is_integer : PySem.W.nsIn K mainGlobals "is_integer" = some (some (.ref f_is_integer)))
    (l_is_integer : K.lookup f_is_integer = some ⟨oc_is_integer, od_is_integer, .func (PySem.W.fnOf "is_integer" "is_integer" (defArgs s_is_integer) (defBody s_is_integer) (defScope s_is_integer) .none kV_is_integer dc_is_integer pm_is_integer an_is_integer cd_is_integer ct_is_integer), sl_is_integer⟩)
    (c_is_integer : PySem.W.codeIn K cd_is_integer "is_integer" = true)
    (k_is_integer : PySem.W.keepIn K (.ref f_is_integer) = true)
    (a_is_word : PySem.W.nsIn K mainGlobals "is_word" = some (some (.ref f_is_word)))
    (l_is_word : K.lookup f_is_word = some ⟨oc_is_word, od_is_word, .func (PySem.W.fnOf "is_word" "is_word" (defArgs s_is_word) (defBody s_is_word) (defScope s_is_word) .none kV_is_word dc_is_word pm_is_word an_is_word cd_is_word ct_is_word), sl_is_word⟩)
    (c_is_word : PySem.W.codeIn K cd_is_word "is_word" = true)
    (k_is_word : PySem.W.keepIn K (.ref f_is_word) = true)
    (a_is_places : PySem.W.nsIn K mainGlobals "is_places" = some (some (.ref f_is_places)))
    (l_is_places : K.lookup f_is_places = some ⟨oc_is_places, od_is_places, .func (PySem.W.fnOf "is_places" "is_places" (defArgs s_is_places) (defBody s_is_places) (defScope s_is_places) .none kV_is_places dc_is_places pm_is_places an_is_places cd_is_places ct_is_places), sl_is_places⟩)
    (c_is_places : PySem.W.codeIn K cd_is_places "is_places" = true)
    (k_is_places : PySem.W.keepIn K (.ref f_is_places) = true)
    (a_is_signs : PySem.W.nsIn K mainGlobals "is_signs" = some (some (.ref f_is_signs)))
    (l_is_signs : K.lookup f_is_signs = some ⟨oc_is_signs, od_is_signs, .func (PySem.W.fnOf "is_signs" "is_signs" (defArgs s_is_signs) (defBody s_is_signs) (defScope s_is_signs) .none kV_is_signs dc_is_signs pm_is_signs an_is_signs cd_is_signs ct_is_signs), sl_is_signs⟩)
    (c_is_signs : PySem.W.codeIn K cd_is_signs "is_signs" = true)
    (k_is_signs : PySem.W.keepIn K (.ref f_is_signs) = true)
    (a_is_pattern : PySem.W.nsIn K mainGlobals "is_pattern" = some (some (.ref f_is_pattern)))
    (l_is_pattern : K.lookup f_is_pattern = some ⟨oc_is_pattern, od_is_pattern, .func (PySem.W.fnOf "is_pattern" "is_pattern" (defArgs s_is_pattern) (defBody s_is_pattern) (defScope s_is_pattern) .none kV_is_pattern dc_is_pattern pm_is_pattern an_is_pattern cd_is_pattern ct_is_pattern), sl_is_pattern⟩)
    (c_is_pattern : PySem.W.codeIn K cd_is_pattern "is_pattern" = true)
    (k_is_pattern : PySem.W.keepIn K (.ref f_is_pattern) = true)
    (a_is_pair : PySem.W.nsIn K mainGlobals "is_pair" = some (some (.ref f_is_pair)))
    (l_is_pair : K.lookup f_is_pair = some ⟨oc_is_pair, od_is_pair, .func (PySem.W.fnOf "is_pair" "is_pair" (defArgs s_is_pair) (defBody s_is_pair) (defScope s_is_pair) .none kV_is_pair dc_is_pair pm_is_pair an_is_pair cd_is_pair ct_is_pair), sl_is_pair⟩)
    (c_is_pair : PySem.W.codeIn K cd_is_pair "is_pair" = true)
    (k_is_pair : PySem.W.keepIn K (.ref f_is_pair) = true)
    (a_is_formed : PySem.W.nsIn K mainGlobals "is_formed" = some (some (.ref f_is_formed)))
    (l_is_formed : K.lookup f_is_formed = some ⟨oc_is_formed, od_is_formed, .func (PySem.W.fnOf "is_formed" "is_formed" (defArgs s_is_formed) (defBody s_is_formed) (defScope s_is_formed) .none kV_is_formed dc_is_formed pm_is_formed an_is_formed cd_is_formed ct_is_formed), sl_is_formed⟩)
    (c_is_formed : PySem.W.codeIn K cd_is_formed "is_formed" = true)
    (k_is_formed : PySem.W.keepIn K (.ref f_is_formed) = true)
    (a_are_ascending : PySem.W.nsIn K mainGlobals "are_ascending" = some (some (.ref f_are_ascending)))
    (l_are_ascending : K.lookup f_are_ascending = some ⟨oc_are_ascending, od_are_ascending, .func (PySem.W.fnOf "are_ascending" "are_ascending" (defArgs s_are_ascending) (defBody s_are_ascending) (defScope s_are_ascending) .none kV_are_ascending dc_are_ascending pm_are_ascending an_are_ascending cd_are_ascending ct_are_ascending), sl_are_ascending⟩)
    (c_are_ascending : PySem.W.codeIn K cd_are_ascending "are_ascending" = true)
    (k_are_ascending : PySem.W.keepIn K (.ref f_are_ascending) = true)
    (a_is_tongue : PySem.W.nsIn K mainGlobals "is_tongue" = some (some (.ref f_is_tongue)))
    (l_is_tongue : K.lookup f_is_tongue = some ⟨oc_is_tongue, od_is_tongue, .func (PySem.W.fnOf "is_tongue" "is_tongue" (defArgs s_is_tongue) (defBody s_is_tongue) (defScope s_is_tongue) .none kV_is_tongue dc_is_tongue pm_is_tongue an_is_tongue cd_is_tongue ct_is_tongue), sl_is_tongue⟩)
    (c_is_tongue : PySem.W.codeIn K cd_is_tongue "is_tongue" = true)
    (k_is_tongue : PySem.W.keepIn K (.ref f_is_tongue) = true)
    (a_is_list : PySem.W.nsIn K mainGlobals "is_list" = some (some (.ref f_is_list)))
    (l_is_list : K.lookup f_is_list = some ⟨oc_is_list, od_is_list, .func (PySem.W.fnOf "is_list" "is_list" (defArgs s_is_list) (defBody s_is_list) (defScope s_is_list) .none kV_is_list dc_is_list pm_is_list an_is_list cd_is_list ct_is_list), sl_is_list⟩)
    (c_is_list : PySem.W.codeIn K cd_is_list "is_list" = true)
    (k_is_list : PySem.W.keepIn K (.ref f_is_list) = true)
    (a_first_twice : PySem.W.nsIn K mainGlobals "first_twice" = some (some (.ref f_first_twice)))
    (l_first_twice : K.lookup f_first_twice = some ⟨oc_first_twice, od_first_twice, .func (PySem.W.fnOf "first_twice" "first_twice" (defArgs s_first_twice) (defBody s_first_twice) (defScope s_first_twice) .none kV_first_twice dc_first_twice pm_first_twice an_first_twice cd_first_twice ct_first_twice), sl_first_twice⟩)
    (c_first_twice : PySem.W.codeIn K cd_first_twice "first_twice" = true)
    (k_first_twice : PySem.W.keepIn K (.ref f_first_twice) = true)
    (a_check_tongue : PySem.W.nsIn K mainGlobals "check_tongue" = some (some (.ref f_check_tongue)))
    (l_check_tongue : K.lookup f_check_tongue = some ⟨oc_check_tongue, od_check_tongue, .func (PySem.W.fnOf "check_tongue" "check_tongue" (defArgs s_check_tongue) (defBody s_check_tongue) (defScope s_check_tongue) .none kV_check_tongue dc_check_tongue pm_check_tongue an_check_tongue cd_check_tongue ct_check_tongue), sl_check_tongue⟩)
    (c_check_tongue : PySem.W.codeIn K cd_check_tongue "check_tongue" = true)
    (k_check_tongue : PySem.W.keepIn K (.ref f_check_tongue) = true)
    (a__law_bag : PySem.W.nsIn K mainGlobals "_law_bag" = some (some (.ref f__law_bag)))
    (l__law_bag : K.lookup f__law_bag = some ⟨oc__law_bag, od__law_bag, .func (PySem.W.fnOf "_law_bag" "_law_bag" (defArgs s__law_bag) (defBody s__law_bag) (defScope s__law_bag) .none kV__law_bag dc__law_bag pm__law_bag an__law_bag cd__law_bag ct__law_bag), sl__law_bag⟩)
    (c__law_bag : PySem.W.codeIn K cd__law_bag "_law_bag" = true)
    (k__law_bag : PySem.W.keepIn K (.ref f__law_bag) = true)
    (a__law_draw : PySem.W.nsIn K mainGlobals "_law_draw" = some (some (.ref f__law_draw)))
    (l__law_draw : K.lookup f__law_draw = some ⟨oc__law_draw, od__law_draw, .func (PySem.W.fnOf "_law_draw" "_law_draw" (defArgs s__law_draw) (defBody s__law_draw) (defScope s__law_draw) .none kV__law_draw dc__law_draw pm__law_draw an__law_draw cd__law_draw ct__law_draw), sl__law_draw⟩)
    (c__law_draw : PySem.W.codeIn K cd__law_draw "_law_draw" = true)
    (k__law_draw : PySem.W.keepIn K (.ref f__law_draw) = true)
    (a__law_one : PySem.W.nsIn K mainGlobals "_law_one" = some (some (.ref f__law_one)))
    (l__law_one : K.lookup f__law_one = some ⟨oc__law_one, od__law_one, .func (PySem.W.fnOf "_law_one" "_law_one" (defArgs s__law_one) (defBody s__law_one) (defScope s__law_one) .none kV__law_one dc__law_one pm__law_one an__law_one cd__law_one ct__law_one), sl__law_one⟩)
    (c__law_one : PySem.W.codeIn K cd__law_one "_law_one" = true)
    (k__law_one : PySem.W.keepIn K (.ref f__law_one) = true)
    (a__law_word : PySem.W.nsIn K mainGlobals "_law_word" = some (some (.ref f__law_word)))
    (l__law_word : K.lookup f__law_word = some ⟨oc__law_word, od__law_word, .func (PySem.W.fnOf "_law_word" "_law_word" (defArgs s__law_word) (defBody s__law_word) (defScope s__law_word) .none kV__law_word dc__law_word pm__law_word an__law_word cd__law_word ct__law_word), sl__law_word⟩)
    (c__law_word : PySem.W.codeIn K cd__law_word "_law_word" = true)
    (k__law_word : PySem.W.keepIn K (.ref f__law_word) = true)
    (a__law_pattern : PySem.W.nsIn K mainGlobals "_law_pattern" = some (some (.ref f__law_pattern)))
    (l__law_pattern : K.lookup f__law_pattern = some ⟨oc__law_pattern, od__law_pattern, .func (PySem.W.fnOf "_law_pattern" "_law_pattern" (defArgs s__law_pattern) (defBody s__law_pattern) (defScope s__law_pattern) .none kV__law_pattern dc__law_pattern pm__law_pattern an__law_pattern cd__law_pattern ct__law_pattern), sl__law_pattern⟩)
    (c__law_pattern : PySem.W.codeIn K cd__law_pattern "_law_pattern" = true)
    (k__law_pattern : PySem.W.keepIn K (.ref f__law_pattern) = true)
    (a__law_places : PySem.W.nsIn K mainGlobals "_law_places" = some (some (.ref f__law_places)))
    (l__law_places : K.lookup f__law_places = some ⟨oc__law_places, od__law_places, .func (PySem.W.fnOf "_law_places" "_law_places" (defArgs s__law_places) (defBody s__law_places) (defScope s__law_places) .none kV__law_places dc__law_places pm__law_places an__law_places cd__law_places ct__law_places), sl__law_places⟩)
    (c__law_places : PySem.W.codeIn K cd__law_places "_law_places" = true)
    (k__law_places : PySem.W.keepIn K (.ref f__law_places) = true)
    (a__law_tongue : PySem.W.nsIn K mainGlobals "_law_tongue" = some (some (.ref f__law_tongue)))
    (l__law_tongue : K.lookup f__law_tongue = some ⟨oc__law_tongue, od__law_tongue, .func (PySem.W.fnOf "_law_tongue" "_law_tongue" (defArgs s__law_tongue) (defBody s__law_tongue) (defScope s__law_tongue) .none kV__law_tongue dc__law_tongue pm__law_tongue an__law_tongue cd__law_tongue ct__law_tongue), sl__law_tongue⟩)
    (c__law_tongue : PySem.W.codeIn K cd__law_tongue "_law_tongue" = true)
    (k__law_tongue : PySem.W.keepIn K (.ref f__law_tongue) = true)
    (a__law_spoilt : PySem.W.nsIn K mainGlobals "_law_spoilt" = some (some (.ref f__law_spoilt)))
    (l__law_spoilt : K.lookup f__law_spoilt = some ⟨oc__law_spoilt, od__law_spoilt, .func (PySem.W.fnOf "_law_spoilt" "_law_spoilt" (defArgs s__law_spoilt) (defBody s__law_spoilt) (defScope s__law_spoilt) .none kV__law_spoilt dc__law_spoilt pm__law_spoilt an__law_spoilt cd__law_spoilt ct__law_spoilt), sl__law_spoilt⟩)
    (c__law_spoilt : PySem.W.codeIn K cd__law_spoilt "_law_spoilt" = true)
    (k__law_spoilt : PySem.W.keepIn K (.ref f__law_spoilt) = true)
    (a__law_is_int : PySem.W.nsIn K mainGlobals "_law_is_int" = some (some (.ref f__law_is_int)))
    (l__law_is_int : K.lookup f__law_is_int = some ⟨oc__law_is_int, od__law_is_int, .func (PySem.W.fnOf "_law_is_int" "_law_is_int" (defArgs s__law_is_int) (defBody s__law_is_int) (defScope s__law_is_int) .none kV__law_is_int dc__law_is_int pm__law_is_int an__law_is_int cd__law_is_int ct__law_is_int), sl__law_is_int⟩)
    (c__law_is_int : PySem.W.codeIn K cd__law_is_int "_law_is_int" = true)
    (k__law_is_int : PySem.W.keepIn K (.ref f__law_is_int) = true)
    (a__law_is_word : PySem.W.nsIn K mainGlobals "_law_is_word" = some (some (.ref f__law_is_word)))
    (l__law_is_word : K.lookup f__law_is_word = some ⟨oc__law_is_word, od__law_is_word, .func (PySem.W.fnOf "_law_is_word" "_law_is_word" (defArgs s__law_is_word) (defBody s__law_is_word) (defScope s__law_is_word) .none kV__law_is_word dc__law_is_word pm__law_is_word an__law_is_word cd__law_is_word ct__law_is_word), sl__law_is_word⟩)
    (c__law_is_word : PySem.W.codeIn K cd__law_is_word "_law_is_word" = true)
    (k__law_is_word : PySem.W.keepIn K (.ref f__law_is_word) = true)
    (a__law_is_pair : PySem.W.nsIn K mainGlobals "_law_is_pair" = some (some (.ref f__law_is_pair)))
    (l__law_is_pair : K.lookup f__law_is_pair = some ⟨oc__law_is_pair, od__law_is_pair, .func (PySem.W.fnOf "_law_is_pair" "_law_is_pair" (defArgs s__law_is_pair) (defBody s__law_is_pair) (defScope s__law_is_pair) .none kV__law_is_pair dc__law_is_pair pm__law_is_pair an__law_is_pair cd__law_is_pair ct__law_is_pair), sl__law_is_pair⟩)
    (c__law_is_pair : PySem.W.codeIn K cd__law_is_pair "_law_is_pair" = true)
    (k__law_is_pair : PySem.W.keepIn K (.ref f__law_is_pair) = true)
    (a__law_is_pattern : PySem.W.nsIn K mainGlobals "_law_is_pattern" = some (some (.ref f__law_is_pattern)))
    (l__law_is_pattern : K.lookup f__law_is_pattern = some ⟨oc__law_is_pattern, od__law_is_pattern, .func (PySem.W.fnOf "_law_is_pattern" "_law_is_pattern" (defArgs s__law_is_pattern) (defBody s__law_is_pattern) (defScope s__law_is_pattern) .none kV__law_is_pattern dc__law_is_pattern pm__law_is_pattern an__law_is_pattern cd__law_is_pattern ct__law_is_pattern), sl__law_is_pattern⟩)
    (c__law_is_pattern : PySem.W.codeIn K cd__law_is_pattern "_law_is_pattern" = true)
    (k__law_is_pattern : PySem.W.keepIn K (.ref f__law_is_pattern) = true)
    (a__law_is_formed : PySem.W.nsIn K mainGlobals "_law_is_formed" = some (some (.ref f__law_is_formed)))
    (l__law_is_formed : K.lookup f__law_is_formed = some ⟨oc__law_is_formed, od__law_is_formed, .func (PySem.W.fnOf "_law_is_formed" "_law_is_formed" (defArgs s__law_is_formed) (defBody s__law_is_formed) (defScope s__law_is_formed) .none kV__law_is_formed dc__law_is_formed pm__law_is_formed an__law_is_formed cd__law_is_formed ct__law_is_formed), sl__law_is_formed⟩)
    (c__law_is_formed : PySem.W.codeIn K cd__law_is_formed "_law_is_formed" = true)
    (k__law_is_formed : PySem.W.keepIn K (.ref f__law_is_formed) = true)
    (a__law_ascending : PySem.W.nsIn K mainGlobals "_law_ascending" = some (some (.ref f__law_ascending)))
    (l__law_ascending : K.lookup f__law_ascending = some ⟨oc__law_ascending, od__law_ascending, .func (PySem.W.fnOf "_law_ascending" "_law_ascending" (defArgs s__law_ascending) (defBody s__law_ascending) (defScope s__law_ascending) .none kV__law_ascending dc__law_ascending pm__law_ascending an__law_ascending cd__law_ascending ct__law_ascending), sl__law_ascending⟩)
    (c__law_ascending : PySem.W.codeIn K cd__law_ascending "_law_ascending" = true)
    (k__law_ascending : PySem.W.keepIn K (.ref f__law_ascending) = true)
    (a__law_due : PySem.W.nsIn K mainGlobals "_law_due" = some (some (.ref f__law_due)))
    (l__law_due : K.lookup f__law_due = some ⟨oc__law_due, od__law_due, .func (PySem.W.fnOf "_law_due" "_law_due" (defArgs s__law_due) (defBody s__law_due) (defScope s__law_due) .none kV__law_due dc__law_due pm__law_due an__law_due cd__law_due ct__law_due), sl__law_due⟩)
    (c__law_due : PySem.W.codeIn K cd__law_due "_law_due" = true)
    (k__law_due : PySem.W.keepIn K (.ref f__law_due) = true)
    (a__law_told : PySem.W.nsIn K mainGlobals "_law_told" = some (some (.ref f__law_told)))
    (l__law_told : K.lookup f__law_told = some ⟨oc__law_told, od__law_told, .func (PySem.W.fnOf "_law_told" "_law_told" (defArgs s__law_told) (defBody s__law_told) (defScope s__law_told) .none kV__law_told dc__law_told pm__law_told an__law_told cd__law_told ct__law_told), sl__law_told⟩)
    (c__law_told : PySem.W.codeIn K cd__law_told "_law_told" = true)
    (k__law_told : PySem.W.keepIn K (.ref f__law_told) = true)
    (a_law : PySem.W.nsIn K mainGlobals "law" = some (some (.ref f_law)))
    (l_law : K.lookup f_law = some ⟨oc_law, od_law, .func (PySem.W.fnOf "law" "law" (defArgs s_law) (defBody s_law) (defScope s_law) .none kV_law dc_law pm_law an_law cd_law ct_law), sl_law⟩)
    (c_law : PySem.W.codeIn K cd_law "law" = true)
    (k_law : PySem.W.keepIn K (.ref f_law) = true)
    (a_BadTongue : PySem.W.nsIn K mainGlobals "BadTongue" = some (some (.ref C_BadTongue)))
    (kc_BadTongue : PySem.W.keepIn K (.ref C_BadTongue) = true)
    (eC_BadTongue : PySem.W.subIn K (.ref C_BadTongue) (.type "BaseException") = some true)
    (tC_BadTongue : PySem.W.typeIn K (.ref C_BadTongue) = some (.type "type"))
    (xL_BadTongue : K.lookup C_BadTongue = some (excClassObj nm_BadTongue q_BadTongue C_BadTongue N_BadTongue bs_BadTongue bm_BadTongue true sn_BadTongue sub_BadTongue ab_BadTongue col_BadTongue dd_BadTongue k0_BadTongue k1_BadTongue k2_BadTongue k3_BadTongue k5_BadTongue "ValueError.__new__"))
    (hb_BadTongue : PySem.HandSPX.refsVE bm_BadTongue = true)
    (sa_BadTongue : PySem.W.findIn K (.ref C_BadTongue) "__setattr__" = some (some (.builtin "object.__setattr__")))
    (ga_BadTongue : PySem.W.findIn K (.ref C_BadTongue) "__getattribute__" = some (some (.builtin "BaseException.__getattribute__")))
    (gg_BadTongue : PySem.W.findIn K (.ref C_BadTongue) "__getattr__" = some none)
    (hC_BadTongue : PySem.W.hasDictIn K C_BadTongue = true)
    (iC_BadTongue : PySem.W.findIn K (.ref C_BadTongue) "__init__" = some (some (.ref fi_BadTongue)))
    (ti_BadTongue : PySem.W.typeIn K (.ref fi_BadTongue) = some (.type "function"))
    (li_BadTongue : K.lookup fi_BadTongue = some ⟨oci_BadTongue, odi_BadTongue, .func (PySem.W.fnOf "__init__" "BadTongue.__init__" (defArgs si_BadTongue) (defBody si_BadTongue) (defScope si_BadTongue) .none kVi_BadTongue dci_BadTongue pmi_BadTongue ani_BadTongue cdi_BadTongue cti_BadTongue), sli_BadTongue⟩)
    (ci_BadTongue : PySem.W.codeIn K cdi_BadTongue "BadTongue.__init__" = true)
    (ki_BadTongue : PySem.W.keepIn K (.ref fi_BadTongue) = true)
    (nf_BadTongue_kind : PySem.W.findIn K (.ref C_BadTongue) "kind" = some none)
    (nf_BadTongue_name : PySem.W.findIn K (.ref C_BadTongue) "name" = some none)
    (a_MOST_LETTERS : PySem.W.nsIn K mainGlobals "MOST_LETTERS" = some (some (.int 40 t_MOST_LETTERS)))
    (a_MOST_SIGNS : PySem.W.nsIn K mainGlobals "MOST_SIGNS" = some (some (.int 12 t_MOST_SIGNS)))
    (a_MOST_LEVEL : PySem.W.nsIn K mainGlobals "MOST_LEVEL" = some (some (.int 9 t_MOST_LEVEL)))
    (a_MOST_PATTERNS : PySem.W.nsIn K mainGlobals "MOST_PATTERNS" = some (some (.int 400 t_MOST_PATTERNS)))
    (a_MOST_EXCEPTIONS : PySem.W.nsIn K mainGlobals "MOST_EXCEPTIONS" = some (some (.int 200 t_MOST_EXCEPTIONS)))
    (a_MOST_LIST : PySem.W.nsIn K mainGlobals "MOST_LIST" = some (some (.int 200 t_MOST_LIST)))
    (a_LETTERS : PySem.W.nsIn K mainGlobals "LETTERS" = some (some (.str "abcdefghijklmnopqrstuvwxyz" t_LETTERS)))
    (z_all : PySem.W.nsIn K mainGlobals "all" = some none)
    (z_bool : PySem.W.nsIn K mainGlobals "bool" = some none)
    (z_int : PySem.W.nsIn K mainGlobals "int" = some none)
    (z_isinstance : PySem.W.nsIn K mainGlobals "isinstance" = some none)
    (z_len : PySem.W.nsIn K mainGlobals "len" = some none)
    (z_list : PySem.W.nsIn K mainGlobals "list" = some none)
    (z_max : PySem.W.nsIn K mainGlobals "max" = some none)
    (z_min : PySem.W.nsIn K mainGlobals "min" = some none)
    (z_range : PySem.W.nsIn K mainGlobals "range" = some none)
    (z_repr : PySem.W.nsIn K mainGlobals "repr" = some none)
    (z_sorted : PySem.W.nsIn K mainGlobals "sorted" = some none)
    (z_str : PySem.W.nsIn K mainGlobals "str" = some none)
    (z_tuple : PySem.W.nsIn K mainGlobals "tuple" = some none)
    (z_zip : PySem.W.nsIn K mainGlobals "zip" = some none)
    (i_BadTongue : PySem.W.isClsIn K C_BadTongue = true)
    (e_BadTongue_BadTongue : PySem.W.subIn K (.ref C_BadTongue) (.ref C_BadTongue) = some true)
    : ∃ fd : FuncData, (∀ (s : Shared) (v : Value), BindsTo s fd ⟨[v], []⟩ [("script", v)]) ∧ ∀ base : Heap, K.In base → base.Ns mainGlobals mg → FnOk l.prog w K mg base (L2.CX l.prog w) 14 fa fd ["script"] (spTrue K m_law) := by
  have e := hfa.symm.trans (PySem.W.mg_of X G a_law)
  cases e
  have F_is_integer := fun_mk (st := s_is_integer) l_is_integer c_is_integer k_is_integer
  have B_is_integer := F_is_integer.binds (ps := ["value", "low", "high"]) fun _ _ _ _ _ _ us hl => match us, hl with | [_, _, _], _ => rfl
  have F_is_word := fun_mk (st := s_is_word) l_is_word c_is_word k_is_word
  have B_is_word := F_is_word.binds (ps := ["value"]) fun _ _ _ _ _ _ us hl => match us, hl with | [_], _ => rfl
  have F_is_places := fun_mk (st := s_is_places) l_is_places c_is_places k_is_places
  have B_is_places := F_is_places.binds (ps := ["word", "value"]) fun _ _ _ _ _ _ us hl => match us, hl with | [_, _], _ => rfl
  have F_is_signs := fun_mk (st := s_is_signs) l_is_signs c_is_signs k_is_signs
  have B_is_signs := F_is_signs.binds (ps := ["value"]) fun _ _ _ _ _ _ us hl => match us, hl with | [_], _ => rfl
  have F_is_pattern := fun_mk (st := s_is_pattern) l_is_pattern c_is_pattern k_is_pattern
  have B_is_pattern := F_is_pattern.binds (ps := ["value"]) fun _ _ _ _ _ _ us hl => match us, hl with | [_], _ => rfl
  have F_is_pair := fun_mk (st := s_is_pair) l_is_pair c_is_pair k_is_pair
  have B_is_pair := F_is_pair.binds (ps := ["value"]) fun _ _ _ _ _ _ us hl => match us, hl with | [_], _ => rfl
  have F_is_formed := fun_mk (st := s_is_formed) l_is_formed c_is_formed k_is_formed
  have B_is_formed := F_is_formed.binds (ps := ["value"]) fun _ _ _ _ _ _ us hl => match us, hl with | [_], _ => rfl
  have F_are_ascending := fun_mk (st := s_are_ascending) l_are_ascending c_are_ascending k_are_ascending
  have B_are_ascending := F_are_ascending.binds (ps := ["names"]) fun _ _ _ _ _ _ us hl => match us, hl with | [_], _ => rfl
  have F_is_tongue := fun_mk (st := s_is_tongue) l_is_tongue c_is_tongue k_is_tongue
  have B_is_tongue := F_is_tongue.binds (ps := ["value"]) fun _ _ _ _ _ _ us hl => match us, hl with | [_], _ => rfl
  have F_is_list := fun_mk (st := s_is_list) l_is_list c_is_list k_is_list
  have B_is_list := F_is_list.binds (ps := ["value"]) fun _ _ _ _ _ _ us hl => match us, hl with | [_], _ => rfl
  have F_first_twice := fun_mk (st := s_first_twice) l_first_twice c_first_twice k_first_twice
  have B_first_twice := F_first_twice.binds (ps := ["names"]) fun _ _ _ _ _ _ us hl => match us, hl with | [_], _ => rfl
  have F_check_tongue := fun_mk (st := s_check_tongue) l_check_tongue c_check_tongue k_check_tongue
  have B_check_tongue := F_check_tongue.binds (ps := ["value"]) fun _ _ _ _ _ _ us hl => match us, hl with | [_], _ => rfl
  have F__law_bag := fun_mk (st := s__law_bag) l__law_bag c__law_bag k__law_bag
  have B__law_bag := F__law_bag.binds (ps := ["script", "k"]) fun _ _ _ _ _ _ us hl => match us, hl with | [_, _], _ => rfl
  have F__law_draw := fun_mk (st := s__law_draw) l__law_draw c__law_draw k__law_draw
  have B__law_draw := F__law_draw.binds (ps := ["bag", "many"]) fun _ _ _ _ _ _ us hl => match us, hl with | [_, _], _ => rfl
  have F__law_one := fun_mk (st := s__law_one) l__law_one c__law_one k__law_one
  have B__law_one := F__law_one.binds (ps := ["bag", "row"]) fun _ _ _ _ _ _ us hl => match us, hl with | [_, _], _ => rfl
  have F__law_word := fun_mk (st := s__law_word) l__law_word c__law_word k__law_word
  have B__law_word := F__law_word.binds (ps := ["bag", "letters", "most"]) fun _ _ _ _ _ _ us hl => match us, hl with | [_, _, _], _ => rfl
  have F__law_pattern := fun_mk (st := s__law_pattern) l__law_pattern c__law_pattern k__law_pattern
  have B__law_pattern := F__law_pattern.binds (ps := ["bag", "letters", "most"]) fun _ _ _ _ _ _ us hl => match us, hl with | [_, _, _], _ => rfl
  have F__law_places := fun_mk (st := s__law_places) l__law_places c__law_places k__law_places
  have B__law_places := F__law_places.binds (ps := ["bag", "word"]) fun _ _ _ _ _ _ us hl => match us, hl with | [_, _], _ => rfl
  have F__law_tongue := fun_mk (st := s__law_tongue) l__law_tongue c__law_tongue k__law_tongue
  have B__law_tongue := F__law_tongue.binds (ps := ["bag", "letters", "many", "most"]) fun _ _ _ _ _ _ us hl => match us, hl with | [_, _, _, _], _ => rfl
  have F__law_spoilt := fun_mk (st := s__law_spoilt) l__law_spoilt c__law_spoilt k__law_spoilt
  have B__law_spoilt := F__law_spoilt.binds (ps := ["bag", "value", "odd", "down"]) fun _ _ _ _ _ _ us hl => match us, hl with | [_, _, _, _], _ => rfl
  have F__law_is_int := fun_mk (st := s__law_is_int) l__law_is_int c__law_is_int k__law_is_int
  have B__law_is_int := F__law_is_int.binds (ps := ["value", "low", "high"]) fun _ _ _ _ _ _ us hl => match us, hl with | [_, _, _], _ => rfl
  have F__law_is_word := fun_mk (st := s__law_is_word) l__law_is_word c__law_is_word k__law_is_word
  have B__law_is_word := F__law_is_word.binds (ps := ["value"]) fun _ _ _ _ _ _ us hl => match us, hl with | [_], _ => rfl
  have F__law_is_pair := fun_mk (st := s__law_is_pair) l__law_is_pair c__law_is_pair k__law_is_pair
  have B__law_is_pair := F__law_is_pair.binds (ps := ["value"]) fun _ _ _ _ _ _ us hl => match us, hl with | [_], _ => rfl
  have F__law_is_pattern := fun_mk (st := s__law_is_pattern) l__law_is_pattern c__law_is_pattern k__law_is_pattern
  have B__law_is_pattern := F__law_is_pattern.binds (ps := ["value"]) fun _ _ _ _ _ _ us hl => match us, hl with | [_], _ => rfl
  have F__law_is_formed := fun_mk (st := s__law_is_formed) l__law_is_formed c__law_is_formed k__law_is_formed
  have B__law_is_formed := F__law_is_formed.binds (ps := ["value"]) fun _ _ _ _ _ _ us hl => match us, hl with | [_], _ => rfl
  have F__law_ascending := fun_mk (st := s__law_ascending) l__law_ascending c__law_ascending k__law_ascending
  have B__law_ascending := F__law_ascending.binds (ps := ["rows"]) fun _ _ _ _ _ _ us hl => match us, hl with | [_], _ => rfl
  have F__law_due := fun_mk (st := s__law_due) l__law_due c__law_due k__law_due
  have B__law_due := F__law_due.binds (ps := ["value"]) fun _ _ _ _ _ _ us hl => match us, hl with | [_], _ => rfl
  have F__law_told := fun_mk (st := s__law_told) l__law_told c__law_told k__law_told
  have B__law_told := F__law_told.binds (ps := ["value"]) fun _ _ _ _ _ _ us hl => match us, hl with | [_], _ => rfl
  have F_law := fun_mk (st := s_law) l_law c_law k_law
  have B_law := F_law.binds (ps := ["script"]) fun _ _ _ _ _ _ us hl => match us, hl with | [_], _ => rfl
  have FI_BadTongue := fun_mk (st := si_BadTongue) li_BadTongue ci_BadTongue ki_BadTongue
  have BI_BadTongue := FI_BadTongue.binds (ps := ["self", "kind", "name"]) fun _ _ _ _ _ _ us hl => match us, hl with | [_, _, _], _ => rfl
  have SUB : SubT K (fun x => if x = "BadTongue" then some (.ref C_BadTongue) else none) sub_ := ⟨fun x y c d hx hy => by
    try dsimp only at hx hy
    repeat' split at hx
    all_goals first | (cases hx; done) | skip
    all_goals (repeat' split at hy)
    all_goals first | (cases hy; done) | skip
    all_goals (subst_vars; cases hx; cases hy; first | exact exm2 eC_BadTongue i_BadTongue tC_BadTongue e_BadTongue_BadTongue)⟩
  exact ⟨PySem.W.fnOf "law" "law" (defArgs s_law) (defBody s_law) (defScope s_law) .none kV_law dc_law pm_law an_law cd_law ct_law, fun s v => .of_eq rfl, fun base _ _ => FnOk.imp (ok_law (K := K) (mg := mg) {
    a_is_integer := f_is_integer,
    d_is_integer := PySem.W.fnOf "is_integer" "is_integer" (defArgs s_is_integer) (defBody s_is_integer) (defScope s_is_integer) .none kV_is_integer dc_is_integer pm_is_integer an_is_integer cd_is_integer ct_is_integer,
    F_is_integer := F_is_integer,
    m_is_integer := PySem.W.mg_of X G a_is_integer,
    b_is_integer := B_is_integer,
    a_is_word := f_is_word,
    d_is_word := PySem.W.fnOf "is_word" "is_word" (defArgs s_is_word) (defBody s_is_word) (defScope s_is_word) .none kV_is_word dc_is_word pm_is_word an_is_word cd_is_word ct_is_word,
    F_is_word := F_is_word,
    m_is_word := PySem.W.mg_of X G a_is_word,
    b_is_word := B_is_word,
    a_is_places := f_is_places,
    d_is_places := PySem.W.fnOf "is_places" "is_places" (defArgs s_is_places) (defBody s_is_places) (defScope s_is_places) .none kV_is_places dc_is_places pm_is_places an_is_places cd_is_places ct_is_places,
    F_is_places := F_is_places,
    m_is_places := PySem.W.mg_of X G a_is_places,
    b_is_places := B_is_places,
    a_is_signs := f_is_signs,
    d_is_signs := PySem.W.fnOf "is_signs" "is_signs" (defArgs s_is_signs) (defBody s_is_signs) (defScope s_is_signs) .none kV_is_signs dc_is_signs pm_is_signs an_is_signs cd_is_signs ct_is_signs,
    F_is_signs := F_is_signs,
    m_is_signs := PySem.W.mg_of X G a_is_signs,
    b_is_signs := B_is_signs,
    a_is_pattern := f_is_pattern,
    d_is_pattern := PySem.W.fnOf "is_pattern" "is_pattern" (defArgs s_is_pattern) (defBody s_is_pattern) (defScope s_is_pattern) .none kV_is_pattern dc_is_pattern pm_is_pattern an_is_pattern cd_is_pattern ct_is_pattern,
    F_is_pattern := F_is_pattern,
    m_is_pattern := PySem.W.mg_of X G a_is_pattern,
    b_is_pattern := B_is_pattern,
    a_is_pair := f_is_pair,
    d_is_pair := PySem.W.fnOf "is_pair" "is_pair" (defArgs s_is_pair) (defBody s_is_pair) (defScope s_is_pair) .none kV_is_pair dc_is_pair pm_is_pair an_is_pair cd_is_pair ct_is_pair,
    F_is_pair := F_is_pair,
    m_is_pair := PySem.W.mg_of X G a_is_pair,
    b_is_pair := B_is_pair,
    a_is_formed := f_is_formed,
    d_is_formed := PySem.W.fnOf "is_formed" "is_formed" (defArgs s_is_formed) (defBody s_is_formed) (defScope s_is_formed) .none kV_is_formed dc_is_formed pm_is_formed an_is_formed cd_is_formed ct_is_formed,
    F_is_formed := F_is_formed,
    m_is_formed := PySem.W.mg_of X G a_is_formed,
    b_is_formed := B_is_formed,
    a_are_ascending := f_are_ascending,
    d_are_ascending := PySem.W.fnOf "are_ascending" "are_ascending" (defArgs s_are_ascending) (defBody s_are_ascending) (defScope s_are_ascending) .none kV_are_ascending dc_are_ascending pm_are_ascending an_are_ascending cd_are_ascending ct_are_ascending,
    F_are_ascending := F_are_ascending,
    m_are_ascending := PySem.W.mg_of X G a_are_ascending,
    b_are_ascending := B_are_ascending,
    a_is_tongue := f_is_tongue,
    d_is_tongue := PySem.W.fnOf "is_tongue" "is_tongue" (defArgs s_is_tongue) (defBody s_is_tongue) (defScope s_is_tongue) .none kV_is_tongue dc_is_tongue pm_is_tongue an_is_tongue cd_is_tongue ct_is_tongue,
    F_is_tongue := F_is_tongue,
    m_is_tongue := PySem.W.mg_of X G a_is_tongue,
    b_is_tongue := B_is_tongue,
    a_is_list := f_is_list,
    d_is_list := PySem.W.fnOf "is_list" "is_list" (defArgs s_is_list) (defBody s_is_list) (defScope s_is_list) .none kV_is_list dc_is_list pm_is_list an_is_list cd_is_list ct_is_list,
    F_is_list := F_is_list,
    m_is_list := PySem.W.mg_of X G a_is_list,
    b_is_list := B_is_list,
    a_first_twice := f_first_twice,
    d_first_twice := PySem.W.fnOf "first_twice" "first_twice" (defArgs s_first_twice) (defBody s_first_twice) (defScope s_first_twice) .none kV_first_twice dc_first_twice pm_first_twice an_first_twice cd_first_twice ct_first_twice,
    F_first_twice := F_first_twice,
    m_first_twice := PySem.W.mg_of X G a_first_twice,
    b_first_twice := B_first_twice,
    a_check_tongue := f_check_tongue,
    d_check_tongue := PySem.W.fnOf "check_tongue" "check_tongue" (defArgs s_check_tongue) (defBody s_check_tongue) (defScope s_check_tongue) .none kV_check_tongue dc_check_tongue pm_check_tongue an_check_tongue cd_check_tongue ct_check_tongue,
    F_check_tongue := F_check_tongue,
    m_check_tongue := PySem.W.mg_of X G a_check_tongue,
    b_check_tongue := B_check_tongue,
    a__law_bag := f__law_bag,
    d__law_bag := PySem.W.fnOf "_law_bag" "_law_bag" (defArgs s__law_bag) (defBody s__law_bag) (defScope s__law_bag) .none kV__law_bag dc__law_bag pm__law_bag an__law_bag cd__law_bag ct__law_bag,
    F__law_bag := F__law_bag,
    m__law_bag := PySem.W.mg_of X G a__law_bag,
    b__law_bag := B__law_bag,
    a__law_draw := f__law_draw,
    d__law_draw := PySem.W.fnOf "_law_draw" "_law_draw" (defArgs s__law_draw) (defBody s__law_draw) (defScope s__law_draw) .none kV__law_draw dc__law_draw pm__law_draw an__law_draw cd__law_draw ct__law_draw,
    F__law_draw := F__law_draw,
    m__law_draw := PySem.W.mg_of X G a__law_draw,
    b__law_draw := B__law_draw,
    a__law_one := f__law_one,
    d__law_one := PySem.W.fnOf "_law_one" "_law_one" (defArgs s__law_one) (defBody s__law_one) (defScope s__law_one) .none kV__law_one dc__law_one pm__law_one an__law_one cd__law_one ct__law_one,
    F__law_one := F__law_one,
    m__law_one := PySem.W.mg_of X G a__law_one,
    b__law_one := B__law_one,
    a__law_word := f__law_word,
    d__law_word := PySem.W.fnOf "_law_word" "_law_word" (defArgs s__law_word) (defBody s__law_word) (defScope s__law_word) .none kV__law_word dc__law_word pm__law_word an__law_word cd__law_word ct__law_word,
    F__law_word := F__law_word,
    m__law_word := PySem.W.mg_of X G a__law_word,
    b__law_word := B__law_word,
    a__law_pattern := f__law_pattern,
    d__law_pattern := PySem.W.fnOf "_law_pattern" "_law_pattern" (defArgs s__law_pattern) (defBody s__law_pattern) (defScope s__law_pattern) .none kV__law_pattern dc__law_pattern pm__law_pattern an__law_pattern cd__law_pattern ct__law_pattern,
    F__law_pattern := F__law_pattern,
    m__law_pattern := PySem.W.mg_of X G a__law_pattern,
    b__law_pattern := B__law_pattern,
    a__law_places := f__law_places,
    d__law_places := PySem.W.fnOf "_law_places" "_law_places" (defArgs s__law_places) (defBody s__law_places) (defScope s__law_places) .none kV__law_places dc__law_places pm__law_places an__law_places cd__law_places ct__law_places,
    F__law_places := F__law_places,
    m__law_places := PySem.W.mg_of X G a__law_places,
    b__law_places := B__law_places,
    a__law_tongue := f__law_tongue,
    d__law_tongue := PySem.W.fnOf "_law_tongue" "_law_tongue" (defArgs s__law_tongue) (defBody s__law_tongue) (defScope s__law_tongue) .none kV__law_tongue dc__law_tongue pm__law_tongue an__law_tongue cd__law_tongue ct__law_tongue,
    F__law_tongue := F__law_tongue,
    m__law_tongue := PySem.W.mg_of X G a__law_tongue,
    b__law_tongue := B__law_tongue,
    a__law_spoilt := f__law_spoilt,
    d__law_spoilt := PySem.W.fnOf "_law_spoilt" "_law_spoilt" (defArgs s__law_spoilt) (defBody s__law_spoilt) (defScope s__law_spoilt) .none kV__law_spoilt dc__law_spoilt pm__law_spoilt an__law_spoilt cd__law_spoilt ct__law_spoilt,
    F__law_spoilt := F__law_spoilt,
    m__law_spoilt := PySem.W.mg_of X G a__law_spoilt,
    b__law_spoilt := B__law_spoilt,
    a__law_is_int := f__law_is_int,
    d__law_is_int := PySem.W.fnOf "_law_is_int" "_law_is_int" (defArgs s__law_is_int) (defBody s__law_is_int) (defScope s__law_is_int) .none kV__law_is_int dc__law_is_int pm__law_is_int an__law_is_int cd__law_is_int ct__law_is_int,
    F__law_is_int := F__law_is_int,
    m__law_is_int := PySem.W.mg_of X G a__law_is_int,
    b__law_is_int := B__law_is_int,
    a__law_is_word := f__law_is_word,
    d__law_is_word := PySem.W.fnOf "_law_is_word" "_law_is_word" (defArgs s__law_is_word) (defBody s__law_is_word) (defScope s__law_is_word) .none kV__law_is_word dc__law_is_word pm__law_is_word an__law_is_word cd__law_is_word ct__law_is_word,
    F__law_is_word := F__law_is_word,
    m__law_is_word := PySem.W.mg_of X G a__law_is_word,
    b__law_is_word := B__law_is_word,
    a__law_is_pair := f__law_is_pair,
    d__law_is_pair := PySem.W.fnOf "_law_is_pair" "_law_is_pair" (defArgs s__law_is_pair) (defBody s__law_is_pair) (defScope s__law_is_pair) .none kV__law_is_pair dc__law_is_pair pm__law_is_pair an__law_is_pair cd__law_is_pair ct__law_is_pair,
    F__law_is_pair := F__law_is_pair,
    m__law_is_pair := PySem.W.mg_of X G a__law_is_pair,
    b__law_is_pair := B__law_is_pair,
    a__law_is_pattern := f__law_is_pattern,
    d__law_is_pattern := PySem.W.fnOf "_law_is_pattern" "_law_is_pattern" (defArgs s__law_is_pattern) (defBody s__law_is_pattern) (defScope s__law_is_pattern) .none kV__law_is_pattern dc__law_is_pattern pm__law_is_pattern an__law_is_pattern cd__law_is_pattern ct__law_is_pattern,
    F__law_is_pattern := F__law_is_pattern,
    m__law_is_pattern := PySem.W.mg_of X G a__law_is_pattern,
    b__law_is_pattern := B__law_is_pattern,
    a__law_is_formed := f__law_is_formed,
    d__law_is_formed := PySem.W.fnOf "_law_is_formed" "_law_is_formed" (defArgs s__law_is_formed) (defBody s__law_is_formed) (defScope s__law_is_formed) .none kV__law_is_formed dc__law_is_formed pm__law_is_formed an__law_is_formed cd__law_is_formed ct__law_is_formed,
    F__law_is_formed := F__law_is_formed,
    m__law_is_formed := PySem.W.mg_of X G a__law_is_formed,
    b__law_is_formed := B__law_is_formed,
    a__law_ascending := f__law_ascending,
    d__law_ascending := PySem.W.fnOf "_law_ascending" "_law_ascending" (defArgs s__law_ascending) (defBody s__law_ascending) (defScope s__law_ascending) .none kV__law_ascending dc__law_ascending pm__law_ascending an__law_ascending cd__law_ascending ct__law_ascending,
    F__law_ascending := F__law_ascending,
    m__law_ascending := PySem.W.mg_of X G a__law_ascending,
    b__law_ascending := B__law_ascending,
    a__law_due := f__law_due,
    d__law_due := PySem.W.fnOf "_law_due" "_law_due" (defArgs s__law_due) (defBody s__law_due) (defScope s__law_due) .none kV__law_due dc__law_due pm__law_due an__law_due cd__law_due ct__law_due,
    F__law_due := F__law_due,
    m__law_due := PySem.W.mg_of X G a__law_due,
    b__law_due := B__law_due,
    a__law_told := f__law_told,
    d__law_told := PySem.W.fnOf "_law_told" "_law_told" (defArgs s__law_told) (defBody s__law_told) (defScope s__law_told) .none kV__law_told dc__law_told pm__law_told an__law_told cd__law_told ct__law_told,
    F__law_told := F__law_told,
    m__law_told := PySem.W.mg_of X G a__law_told,
    b__law_told := B__law_told,
    a_law := fa,
    d_law := PySem.W.fnOf "law" "law" (defArgs s_law) (defBody s_law) (defScope s_law) .none kV_law dc_law pm_law an_law cd_law ct_law,
    F_law := F_law,
    m_law := PySem.W.mg_of X G a_law,
    b_law := B_law,
    C_BadTongue := C_BadTongue,
    i_BadTongue := fi_BadTongue,
    e_BadTongue := PySem.W.fnOf "__init__" "BadTongue.__init__" (defArgs si_BadTongue) (defBody si_BadTongue) (defScope si_BadTongue) .none kVi_BadTongue dci_BadTongue pmi_BadTongue ani_BadTongue cdi_BadTongue cti_BadTongue,
    FI_BadTongue := FI_BadTongue,
    x_BadTongue := ⟨⟨⟨_, _, _, _, _, _, _, _, _, _, _, _, _, _, _, xL_BadTongue, hb_BadTongue⟩, sa_BadTongue, eC_BadTongue, tC_BadTongue, kc_BadTongue⟩, PySem.W.mg_of X G a_BadTongue, iC_BadTongue, ti_BadTongue, BI_BadTongue⟩,
    xf_BadTongue := ⟨ga_BadTongue, gg_BadTongue, eC_BadTongue, hC_BadTongue⟩,
    nf_BadTongue_kind := nf_BadTongue_kind,
    nf_BadTongue_name := nf_BadTongue_name,
    g_MOST_LETTERS := gl_int (PySem.W.mg_of X G a_MOST_LETTERS),
    g_MOST_SIGNS := gl_int (PySem.W.mg_of X G a_MOST_SIGNS),
    g_MOST_LEVEL := gl_int (PySem.W.mg_of X G a_MOST_LEVEL),
    g_MOST_PATTERNS := gl_int (PySem.W.mg_of X G a_MOST_PATTERNS),
    g_MOST_EXCEPTIONS := gl_int (PySem.W.mg_of X G a_MOST_EXCEPTIONS),
    g_MOST_LIST := gl_int (PySem.W.mg_of X G a_MOST_LIST),
    g_LETTERS := gl_eq (gl_str (PySem.W.mg_of X G a_LETTERS)) (by kernel_rfl),
    z_all := PySem.W.mg_none_of X G z_all,
    z_bool := PySem.W.mg_none_of X G z_bool,
    z_int := PySem.W.mg_none_of X G z_int,
    z_isinstance := PySem.W.mg_none_of X G z_isinstance,
    z_len := PySem.W.mg_none_of X G z_len,
    z_list := PySem.W.mg_none_of X G z_list,
    z_max := PySem.W.mg_none_of X G z_max,
    z_min := PySem.W.mg_none_of X G z_min,
    z_range := PySem.W.mg_none_of X G z_range,
    z_repr := PySem.W.mg_none_of X G z_repr,
    z_sorted := PySem.W.mg_none_of X G z_sorted,
    z_str := PySem.W.mg_none_of X G z_str,
    z_tuple := PySem.W.mg_none_of X G z_tuple,
    z_zip := PySem.W.mg_none_of X G z_zip,
    sub_ok := SUB }) (fun vs H Q E => spTrue_imp vs H Q E)⟩
end LW

namespace LW
open PySem PySem.Spec L2 DL PyProof.Rows
/-! the bag -/
abbrev bagI (a b c d : Int) : Own := .lst [.int a, .int b, .int c, .int d]
def Bag (o : Own) : Prop := ∃ a b c d, o = bagI a b c d
theorem pow18 : dPow (.int 10) (.int 18) = some (.int 1000000000000000000) := by kernel_rfl
theorem seed_fit (x : Int) : fitZ 18446744073709551616 (x % 2147483647) = true := fitZ_of (by
  have h1 := Int.emod_nonneg x (b := 2147483647) (by decide)
  have h2 := Int.emod_lt_of_pos x (b := 2147483647) (by decide)
  omega)
abbrev sdB (b c d : Int) : Int := (b * 48271 + d * 69621 + (c + 1) * 16807 + 11) % 2147483647
theorem bag_draw {o : Own} (ho : Bag o) (many : Int) (h : 0 < many) (h2 : many < 1073741824) : ∃ i o', m__law_draw o [.int many] = .ret (.int i) o' ∧ Bag o' ∧ 0 ≤ i ∧ i < many := by
  obtain ⟨a, b, c, d, rfl⟩ := ho
  have hf : fitZ 1073741824 many = true := fitZ_of (by omega)
  have h1 : ¬ many < 1 := by omega
  have hr : ∀ x : Int, 0 ≤ x % many ∧ x % many < many := fun x => ⟨Int.emod_nonneg _ (by omega), Int.emod_lt_of_pos _ h⟩
  have sf := seed_fit
  have k1 : fitZ 18446744073709551616 48271 = true := by decide
  have k2 : fitZ 18446744073709551616 69621 = true := by decide
  have k3 : fitZ 18446744073709551616 16807 = true := by decide
  by_cases ha : a = 0
  · by_cases hc : c + 1 = 1
    · by_cases hd : (1000000000000000000 : Int) ≤ d
      · refine ⟨d % many, bagI (d / many) (sdB b c d) (c + 1) d, ?_, ⟨_, _, _, _, rfl⟩, hr _⟩
        simp [m__law_draw, c__law_draw, fnO, h1, h, hf, ha, hc, hd, sdB, atI, ixN, mulOk, sf, k1, k2, k3, pow18]
      · refine ⟨(sdB b c d * 2147483629 + (sdB b c d * sdB b c d + d) % 2147483629) % many, bagI ((sdB b c d * 2147483629 + (sdB b c d * sdB b c d + d) % 2147483629) / many) (sdB b c d) (c + 1) d, ?_, ⟨_, _, _, _, rfl⟩, hr _⟩
        simp [m__law_draw, c__law_draw, fnO, h1, h, hf, ha, hc, hd, sdB, atI, ixN, mulOk, sf, k1, k2, k3, pow18]
    · refine ⟨(sdB b c d * 2147483629 + (sdB b c d * sdB b c d + d) % 2147483629) % many, bagI ((sdB b c d * 2147483629 + (sdB b c d * sdB b c d + d) % 2147483629) / many) (sdB b c d) (c + 1) d, ?_, ⟨_, _, _, _, rfl⟩, hr _⟩
      simp [m__law_draw, c__law_draw, fnO, h1, h, hf, ha, hc, sdB, atI, ixN, mulOk, sf, k1, k2, k3, pow18]
  · refine ⟨a % many, bagI (a / many) b c d, ?_, ⟨_, _, _, _, rfl⟩, hr _⟩
    simp [m__law_draw, c__law_draw, fnO, h1, h, hf, ha, atI, ixN]
theorem one_go (xs : List DL.D) (h : xs ≠ []) (hl : xs.length ≤ 1000) {o : Own} (ho : Bag o) : ∃ (x : DL.D) (o' : Own), m__law_one o [.list xs] = .ret x o' ∧ Bag o' ∧ x ∈ xs := by
  have hp : 0 < xs.length := List.length_pos_iff.mpr h
  obtain ⟨i, o', e, ho', i0, i1⟩ := bag_draw ho (xs.length : Nat) (by omega) (by omega)
  obtain ⟨k, rfl⟩ : ∃ k : Nat, i = (k : Int) := ⟨i.toNat, by omega⟩
  have hk : k < xs.length := by omega
  have ea : atI xs (k : Int) = some xs[k] := atI_nat xs k hk
  refine ⟨xs[k], o', ?_, ho', List.getElem_mem _⟩
  simp [m__law_one, c__law_one, fnO, e, ea]
theorem word_go (L : Tx) (h0 : 1 ≤ L.length) (hL : L.length ≤ 1000) (most : Int) (h1 : 1 ≤ most) (h2 : most ≤ 900) {o : Own} (ho : Bag o) :
    ∃ (w : Tx) (o' : Own), m__law_word o [.str (tx L), .int most] = .ret (.str (tx w)) o' ∧ Bag o' ∧ (∀ c ∈ w, c ∈ L) ∧ 1 ≤ w.length ∧ (w.length : Int) ≤ most := by
  obtain ⟨i, o1, e1, ho1, i0, i1⟩ := bag_draw ho most (by omega) (by omega)
  obtain ⟨k, rfl⟩ : ∃ k : Nat, i = (k : Int) := ⟨i.toNat, by omega⟩
  have er : eRng1 (aCons (eBin dAdd (eC (.int 1)) (eCallO 0 1 m__law_draw (aCons (eVar 2) aNil))) aNil) [.own true o, .d (.str (tx L)), .d (.int most), .un] = .ok ((List.range (1 + k)).map fun (i : Nat) => .int (i : Int)) [.own true o1, .d (.str (tx L)), .d (.int most), .un] := by
    rw [← rng_map]
    exact range_ok (by simp [e1]) (by omega)
  obtain ⟨outs, s, e2, hs, ha⟩ := nlc_runA (S := Own) (vs := [3]) (set := setN 3) (fe := e__law_word_0) (List.range (1 + k)) (fun (i : Nat) => PyData.int (i : Int)) (fun o => [.own true o, .d (.str (tx L)), .d (.int most), .un]) Bag (fun _ v => ∃ c : Ch, v = .str (tx [c]) ∧ c ∈ L) o1
    (fun o => [.own true o, .d (.str (tx L)), .d (.int most), .un]) er (by simp) (by simp) ho1 (by intro s _; simp) (by simp; omega) (by
      intro x hx s hs
      obtain ⟨i, o', e, ho', i0, i1⟩ := bag_draw hs (L.length : Nat) (by omega) (by omega)
      obtain ⟨k, rfl⟩ : ∃ k : Nat, i = (k : Int) := ⟨i.toNat, by omega⟩
      have hk : k < L.length := by omega
      have ea := atI_nat L k hk
      have e4 := dIx_tx L k (by omega)
      have zL : L.length ≤ sizeLine := le_line (by omega)
      exact ⟨_, [.own true o', .d (.str (tx L)), .d (.int most), .d (.int x)], .str (tx [L[k]]), o', rfl, by simp [e__law_word_0, e, ea, zL], ho', ⟨L[k], rfl, List.getElem_mem _⟩, by simp, by simp⟩)
  obtain ⟨w, rfl, hw⟩ := all2_dec (fun c : Ch => .str (tx [c])) (P := fun _ c => c ∈ L) (fun _ v ⟨c, e, h⟩ => ⟨c, e, h⟩) ha
  have lw : w.length = 1 + k := by rw [hw.len, List.length_range]
  have hj := dJoin_chrs w (by omega)
  refine ⟨w, s, ?_, hs, All2.right (P := fun c => c ∈ L) (fun _ _ h => h) hw, by omega, by omega⟩
  have e2 : lc__law_word_0 [.own true o, .d (.str (tx L)), .d (.int most), .un] = .ok (chrs w) [.own true s, .d (.str (tx L)), .d (.int most), .un] := e2
  simp [m__law_word, c__law_word, fnO, e2, dTy, hj]
theorem bag_go (ns : List Int) (k : Nat) (hk : k ≤ 100) : ∃ o, m__law_bag [.list (ns.map .int), .int k] = .own o ∧ Bag o := by
  have hm : mulOk 48611 (k : Int) = true := by
    unfold mulOk
    rw [show fitZ (2 ^ 64) 48611 = true by decide]
    rfl
  by_cases h : k < ns.length
  · have e := atI_nat ns k h
    have h' : (k : Int) < ns.length := by omega
    refine ⟨bagI 0 (1303 + 48611 * k) 0 ns[k], ?_, ⟨_, _, _, _, rfl⟩⟩
    simp [m__law_bag, c__law_bag, fnP, h', e, hm]
  · have h' : ¬ (k : Int) < ns.length := by omega
    refine ⟨bagI 0 (1303 + 48611 * k) 0 0, ?_, ⟨_, _, _, _, rfl⟩⟩
    simp [m__law_bag, c__law_bag, fnP, h', hm]
/-! values that may come -/
inductive Nc (L : Nat) : Nat → DL.D → Prop
  | none (n : Nat) : Nc L n .none
  | bool (n : Nat) (b : Bool) : Nc L n (.bool b)
  | int (n : Nat) (i : Int) : Nc L n (.int i)
  | str (n : Nat) (t : Tx) (h : t.length ≤ L) : Nc L n (.str (tx t))
  | tup (n : Nat) (xs : List DL.D) (h : xs.length ≤ L) (hx : ∀ x ∈ xs, Nc L n x) : Nc L (n + 1) (.tuple xs)
  | lst (n : Nat) (xs : List DL.D) (h : xs.length ≤ L) (hx : ∀ x ∈ xs, Nc L n x) : Nc L (n + 1) (.list xs)
theorem Nc.shN {L n : Nat} {d : DL.D} (h : Nc L n d) : ShN n d := by
  induction h with
  | none n => exact ⟨by simp [PyData.canLay0], by simp [PyData.depth]⟩
  | bool n b => exact ⟨by simp [PyData.canLay0], by simp [PyData.depth]⟩
  | int n i => exact ⟨by simp [PyData.canLay0], by simp [PyData.depth]⟩
  | str n t h => 
    have h0 := dNe_tx t t
    have h1 : SeqAt.shaped (.str (tx t)) = true := by
      unfold dNe at h0
      split at h0
      · next h => exact h.1
      · cases h0
    exact ⟨by rw [sh_str] at h1; simpa [PyData.canLay0] using h1, by simp [PyData.depth]⟩
  | tup n xs h hx ih =>
    have := shN_tup (n := n) id xs ih
    simpa using this
  | lst n xs h hx ih =>
    have := shN_list (n := n) id xs ih
    simpa using this
theorem Nc.le {L M n : Nat} {d : DL.D} (h : Nc L n d) (hL : L ≤ M) : ∀ {m}, n ≤ m → Nc M m d := by
  induction h with
  | none n => exact fun _ => .none _
  | bool n b => exact fun _ => .bool _ b
  | int n i => exact fun _ => .int _ i
  | str n t h => exact fun _ => .str _ t (by omega)
  | tup n xs h hx ih =>
    intro m hm
    obtain ⟨k, rfl⟩ : ∃ k, m = k + 1 := ⟨m - 1, by omega⟩
    exact .tup k xs (by omega) fun x hx => ih x hx (by omega)
  | lst n xs h hx ih =>
    intro m hm
    obtain ⟨k, rfl⟩ : ∃ k, m = k + 1 := ⟨m - 1, by omega⟩
    exact .lst k xs (by omega) fun x hx => ih x hx (by omega)
def isI : DL.D → Int → Int → Bool
  | .int i, a, b => decide (a ≤ i) && decide (i ≤ b)
  | _, _, _ => false
theorem isI_int {v : DL.D} {a b : Int} (h : isI v a b = true) : ∃ i, v = .int i ∧ a ≤ i ∧ i ≤ b := by
  cases v <;> simp [isI] at h ⊢
  exact h
theorem int_any {L n : Nat} {v : DL.D} (h : Nc L n v) (a b : Int) : m_is_integer [v, .int a, .int b] = .ret (.bool (isI v a b)) ∧ m__law_is_int [v, .int a, .int b] = .ret (.bool (isI v a b)) := by
  cases h with
  | int n i => by_cases h : a ≤ i <;> simp [m_is_integer, c_is_integer, m__law_is_int, c__law_is_int, fnP, isI, h]
  | none n => simp [m_is_integer, c_is_integer, m__law_is_int, c__law_is_int, fnP, isI]
  | bool n i => simp [m_is_integer, c_is_integer, m__law_is_int, c__law_is_int, fnP, isI]
  | str n i => simp [m_is_integer, c_is_integer, m__law_is_int, c__law_is_int, fnP, isI]
  | tup n i => simp [m_is_integer, c_is_integer, m__law_is_int, c__law_is_int, fnP, isI]
  | lst n i => simp [m_is_integer, c_is_integer, m__law_is_int, c__law_is_int, fnP, isI]
def letters : Tx := [97, 98, 99, 100, 101, 102, 103, 104, 105, 106, 107, 108, 109, 110, 111, 112, 113, 114, 115, 116, 117, 118, 119, 120, 121, 122]
def okL (w : Tx) : Bool := w.all fun c => decide (c ∈ letters)
def okW (w : Tx) : Bool := decide (1 ≤ w.length) && decide (w.length ≤ 40) && okL w
theorem word_ok (w : Tx) (hl : w.length ≤ 10000) : m_is_word [.str (tx w)] = .ret (.bool (okW w)) := by
  have hz : w.length ≤ sizeLine := le_line hl
  have e1 : lc_is_word_0 [.d (.str (tx w)), .un] = .ok (w.map fun c => .bool (decide (c ∈ letters))) [.d (.str (tx w)), .un] :=
    nlc_map w (fun c => .str (tx [c])) _ (by simp) (by simp) (by simp; rfl) (by simp) hl fun c hc => ⟨[.d (.str (tx w)), .d (.str (tx [c]))], by simp, by simp [e_is_word_0, d_LETTERS, letters], by simp, by simp⟩
  have e2 := dAll_bools w fun c => decide (c ∈ letters)
  unfold okW okL
  by_cases h1 : 1 ≤ w.length <;> by_cases h2 : w.length ≤ 40
  · have h1' : (1 : Int) ≤ w.length := by omega
    have h2' : (w.length : Int) ≤ 40 := by omega
    simp [m_is_word, c_is_word, fnP, hz, h1, h2, h1', h2', e1, e2, d_MOST_LETTERS]
  · have h1' : (1 : Int) ≤ w.length := by omega
    have h2' : ¬ (w.length : Int) ≤ 40 := by omega
    simp [m_is_word, c_is_word, fnP, hz, h1, h2, h1', h2', d_MOST_LETTERS]
  · have h1' : ¬ (1 : Int) ≤ w.length := by omega
    simp [m_is_word, c_is_word, fnP, hz, h1, h2, h1', d_MOST_LETTERS]
  · have h1' : ¬ (1 : Int) ≤ w.length := by omega
    simp [m_is_word, c_is_word, fnP, hz, h1, h2, h1', d_MOST_LETTERS]
theorem shN_strs (l : List Tx) : ShN 1 (.list (l.map fun t => .str (tx t))) := shN_list (fun t => .str (tx t)) l fun t _ => (Nc.str (L := t.length) 0 t (Nat.le_refl _)).shN
theorem word_law (w : Tx) (hl : w.length ≤ 10000) : m__law_is_word [.str (tx w)] = .ret (.bool (okW w)) := by
  have hz : w.length ≤ sizeLine := le_line hl
  have e1 : lc__law_is_word_0 [.d (.str (tx w)), .un] = .ok ((w.filter fun c => !decide (c ∈ letters)).map fun c => .str (tx [c])) [.d (.str (tx w)), .un] :=
    nlc_filter w (fun c => .str (tx [c])) _ _ (by simp) (by simp) (by simp; rfl) (by simp) hl fun c hc => ⟨[.d (.str (tx w)), .d (.str (tx [c]))], by simp, by simp [t__law_is_word_0, letters], by simp [e__law_is_word_0], by simp, by simp⟩
  have e2 := dEq_nilL (shN_list (n := 0) (fun c : Ch => PyData.str (tx [c])) (w.filter fun c => !decide (c ∈ letters)) fun t _ => (Nc.str (L := 1) 0 [t] (Nat.le_refl _)).shN)
  have e3 : (((w.filter fun c => !decide (c ∈ letters)).map fun c : Ch => PyData.str (tx [c])).isEmpty) = okL w := by
    unfold okL
    rw [Bool.eq_iff_iff]
    simp
  rw [e3] at e2
  unfold okW
  by_cases h1 : 1 ≤ w.length <;> by_cases h2 : w.length ≤ 40
  · have h1' : ¬ (w.length : Int) < 1 := by omega
    have h2' : ¬ (40 : Int) < w.length := by omega
    simp only [m__law_is_word, c__law_is_word, fnP]
    simp [hz, h1, h2, h1', h2', e1]
    simp [e2]
  · have h1' : ¬ (w.length : Int) < 1 := by omega
    have h2' : (40 : Int) < w.length := by omega
    simp [m__law_is_word, c__law_is_word, fnP, hz, h1, h2, h1', h2']
  · have h1' : (w.length : Int) < 1 := by omega
    simp [m__law_is_word, c__law_is_word, fnP, hz, h1, h2, h1']
  · have h1' : (w.length : Int) < 1 := by omega
    simp [m__law_is_word, c__law_is_word, fnP, hz, h1, h2, h1']
def isW (v : DL.D) : Bool := match m_is_word [v] with
  | .ret (.bool b) => b
  | _ => false
theorem isW_tx (w : Tx) (hl : w.length ≤ 10000) : isW (.str (tx w)) = okW w := by
  unfold isW
  rw [word_ok w hl]
theorem word_any {L n : Nat} {v : DL.D} (hL : L ≤ 10000) (h : Nc L n v) : m_is_word [v] = .ret (.bool (isW v)) ∧ m__law_is_word [v] = .ret (.bool (isW v)) ∧ (isW v = true → ∃ w, v = .str (tx w) ∧ w.length ≤ L ∧ okW w = true) := by
  cases h with
  | str n t ht =>
    rw [isW_tx t (by omega), word_ok t (by omega), word_law t (by omega)]
    exact ⟨rfl, rfl, fun h => ⟨t, rfl, ht, h⟩⟩
  | int n i => simp [isW, m_is_word, c_is_word, m__law_is_word, c__law_is_word, fnP]
  | none n => simp [isW, m_is_word, c_is_word, m__law_is_word, c__law_is_word, fnP]
  | bool n i => simp [isW, m_is_word, c_is_word, m__law_is_word, c__law_is_word, fnP]
  | tup n i => simp [isW, m_is_word, c_is_word, m__law_is_word, c__law_is_word, fnP]
  | lst n i => simp [isW, m_is_word, c_is_word, m__law_is_word, c__law_is_word, fnP]
/-! places, pairs -/
def zipA (ps : List Int) : Bool := (ps.zip ps.tail).all fun p => decide (p.1 < p.2)
theorem zipA_cons2 (p q : Int) (r : List Int) : zipA (p :: q :: r) = (decide (p < q) && zipA (q :: r)) := rfl
theorem zipA_lt : ∀ (p : Int) (r : List Int), zipA (p :: r) = true → ∀ x ∈ r, p < x
  | p, [], _, x, hx => by cases hx
  | p, q :: r, h, x, hx => by
    rw [zipA_cons2] at h
    simp at h
    rcases List.mem_cons.mp hx with rfl | hx
    · exact h.1
    · have := zipA_lt q r h.2 x hx
      omega
def okP (n : Int) (ps : List Int) : Bool := (ps.all fun p => decide (1 ≤ p) && decide (p ≤ n)) && zipA ps
def allI (ys : List DL.D) (a b : Int) : Bool := ys.all fun y => isI y a b
theorem allI_int {a b : Int} : ∀ {ys : List DL.D}, allI ys a b = true → ∃ ps : List Int, ys = ps.map PyData.int ∧ ∀ p ∈ ps, a ≤ p ∧ p ≤ b
  | [], _ => ⟨[], rfl, by simp⟩
  | y :: ys, h => by
    simp only [allI, List.all_cons, Bool.and_eq_true] at h
    obtain ⟨i, rfl, h1, h2⟩ := isI_int h.1
    obtain ⟨ps, rfl, h3⟩ := allI_int (ys := ys) h.2
    exact ⟨i :: ps, rfl, by simpa using ⟨⟨h1, h2⟩, h3⟩⟩
theorem allI_map (ps : List Int) (a b : Int) : allI (ps.map .int) a b = ps.all fun p => decide (a ≤ p) && decide (p ≤ b) := by
  simp [allI, List.all_map, isI, Function.comp_def]
def chk (n : Int) : Int → List DL.D → Bool
  | _, [] => true
  | b, .int i :: r => decide (b + 1 ≤ i) && decide (i ≤ n) && chk n i r
  | _, _ :: _ => false
theorem chk_map (n : Int) : ∀ (ps : List Int) (b : Int), chk n b (ps.map .int) = ((ps.all fun p => decide (b + 1 ≤ p) && decide (p ≤ n)) && zipA ps)
  | [], b => rfl
  | [p], b => by simp [chk, zipA]
  | p :: q :: r, b => by
    have ih := chk_map n (q :: r) p
    rw [List.map_cons, chk, ih, zipA_cons2]
    rw [Bool.eq_iff_iff]
    simp only [List.all_cons, Bool.and_eq_true, decide_eq_true_eq, List.all_eq_true]
    constructor
    · rintro ⟨⟨h1, h2⟩, ⟨⟨h3, h4⟩, h5⟩, h6⟩
      exact ⟨⟨⟨h1, h2⟩, ⟨by omega, h4⟩, fun x hx => ⟨by have := h5 x hx; omega, (h5 x hx).2⟩⟩, by omega, h6⟩
    · rintro ⟨⟨⟨h1, h2⟩, ⟨h3, h4⟩, h5⟩, h7, h6⟩
      exact ⟨⟨h1, h2⟩, ⟨⟨by omega, h4⟩, fun x hx => ⟨by have := zipA_lt q r h6 x hx; omega, (h5 x hx).2⟩⟩, h6⟩
theorem chk_int (n : Int) : ∀ (ys : List DL.D) (b : Int), 0 ≤ b → chk n b ys = true → allI ys 1 n = true
  | [], b, _, _ => rfl
  | .int i :: r, b, hb, h => by
    simp only [chk, Bool.and_eq_true, decide_eq_true_eq] at h
    have := chk_int n r i (by omega) h.2
    show (isI (.int i) 1 n && allI r 1 n) = true
    rw [this]
    simp [isI]
    omega
  | .none :: r, b, _, h => by simp [chk] at h
  | .bool _ :: r, b, _, h => by simp [chk] at h
  | .str _ :: r, b, _, h => by simp [chk] at h
  | .tuple _ :: r, b, _, h => by simp [chk] at h
  | .list _ :: r, b, _, h => by simp [chk] at h
  | .dict _ :: r, b, _, h => by simp [chk] at h
theorem places_any {L n : Nat} {y : DL.D} (w : Tx) (hw : w.length ≤ 10000) (hL : L ≤ 10000) (h : Nc L n y) : m_is_places [.str (tx w), y] = .ret (.bool (match y with
    | .tuple ys => chk ((w.length : Int) - 1) 0 ys
    | _ => false)) := by
  have hz : w.length ≤ sizeLine := le_line hw
  cases h with
  | tup n ys h hx =>
    have e1 : lc_is_places_0 [.d (.str (tx w)), .d (.tuple ys), .un, .un, .un] = .ok (ys.map fun p => .bool (isI p 1 ((w.length : Int) - 1))) [.d (.str (tx w)), .d (.tuple ys), .un, .un, .un] :=
      nlc_map ys id _ (by simp) (by simp) (by simp; rfl) (by simp) (by omega) fun p hp => ⟨[.d (.str (tx w)), .d (.tuple ys), .d p, .un, .un], by simp, by simp [e_is_places_0, hz, (int_any (hx p hp) 1 ((w.length : Int) - 1)).1], by simp, by simp⟩
    have e3 := dAll_bools ys fun p => isI p 1 ((w.length : Int) - 1)
    cases ha : allI ys 1 ((w.length : Int) - 1)
    · have hc : chk ((w.length : Int) - 1) 0 ys = false := by
        cases hc : chk ((w.length : Int) - 1) 0 ys with
        | false => rfl
        | true =>
          rw [chk_int _ ys 0 (by omega) hc] at ha
          cases ha
      unfold allI at ha
      simp [m_is_places, c_is_places, fnP, e1, e3, ha, hc]
    · obtain ⟨ps, rfl, hps⟩ := allI_int ha
      have e2 : lc_is_places_1 [.d (.str (tx w)), .d (.tuple (ps.map .int)), .un, .un, .un] = .ok ((ps.zip (ps.tail)).map fun p => .bool (decide (p.1 < p.2))) [.d (.str (tx w)), .d (.tuple (ps.map .int)), .un, .un, .un] :=
        nlc_map (ps.zip (ps.tail)) (fun p => .tuple [.int p.1, .int p.2]) _ (by
          have := cutG_from (ps.map PyData.int) 1
          have h2 := zipD_map PyData.int PyData.int ps ps.tail
          rw [List.map_tail] at h2
          simp at this
          simp [this, h2]) (by simp) (by simp; rfl) (by simp) (by simp at h; rw [List.length_zip]; omega) fun p hp => ⟨[.d (.str (tx w)), .d (.tuple (ps.map .int)), .un, .d (.int p.1), .d (.int p.2)], by simp, by simp [e_is_places_1], by simp, by simp⟩
      have e4 := dAll_bools (ps.zip (ps.tail)) fun p => decide (p.1 < p.2)
      have hc := chk_map ((w.length : Int) - 1) ps 0
      have ha2 := ha
      rw [allI_map] at ha2
      simp only [Int.zero_add] at hc
      rw [ha2] at hc
      unfold allI at ha
      rw [ha] at e3
      simp only [Bool.true_and] at hc
      unfold zipA at hc
      simp only [hc]
      rw [List.map_map] at e1 e3
      simp [m_is_places, c_is_places, fnP, e1, e3, e2, e4]
  | int n i => simp [m_is_places, c_is_places, fnP]
  | none n => simp [m_is_places, c_is_places, fnP]
  | bool n i => simp [m_is_places, c_is_places, fnP]
  | str n i => simp [m_is_places, c_is_places, fnP]
  | lst n i => simp [m_is_places, c_is_places, fnP]
theorem pl_loop {L n : Nat} (w : Tx) (hw : w.length ≤ 10000) (zs : List DL.D) : ∀ (ys : List DL.D), (∀ y ∈ ys, Nc L n y) → ∀ (b : Int),
    if chk ((w.length : Int) - 1) b ys = true then ∃ b' : Int, forRun (setN 2) b__law_is_pair_0 ys [.d (.tuple [.str (tx w), .tuple zs]), .d (.int b), .un] = .nx [.d (.tuple [.str (tx w), .tuple zs]), .d (.int b'), .un]
    else ∃ ρ, forRun (setN 2) b__law_is_pair_0 ys [.d (.tuple [.str (tx w), .tuple zs]), .d (.int b), .un] = .rt (.bool false) ρ
  | [], _, b => by
    rw [if_pos (by simp [chk])]
    exact ⟨b, rfl⟩
  | y :: ys, h, b => by
    have hz : w.length ≤ sizeLine := le_line hw
    have e1 := (int_any (h y (by simp)) (b + 1) ((w.length : Int) - 1)).2
    cases hi : isI y (b + 1) ((w.length : Int) - 1)
    · have hc : chk ((w.length : Int) - 1) b (y :: ys) = false := by
        cases y <;> simp [chk]
        intro h1 h2
        simp [isI] at hi
        omega
      rw [hc, if_neg (by simp)]
      rw [hi] at e1
      refine ⟨blankE [.d (.tuple [.str (tx w), .tuple zs]), .d (.int b), .d y], ?_⟩
      unfold forRun
      simp [b__law_is_pair_0, hz, e1]
    · obtain ⟨i, rfl, h1, h2⟩ := isI_int hi
      have ih := pl_loop w hw zs ys (fun y hy => h y (List.mem_cons_of_mem _ hy)) i
      have hc : chk ((w.length : Int) - 1) b (.int i :: ys) = chk ((w.length : Int) - 1) i ys := by
        rw [chk]
        simp [h1, h2]
      rw [hi] at e1
      rw [hc]
      unfold forRun
      have e2 : b__law_is_pair_0 [.d (.tuple [.str (tx w), .tuple zs]), .d (.int b), .d (.int i)] = .nx [.d (.tuple [.str (tx w), .tuple zs]), .d (.int i), .un] := by
        simp [b__law_is_pair_0, hz, e1]
      simp only [setN, DL.setN, List.set, e2]
      simp [e2]
      exact ih
def isPr (v : DL.D) : Bool := match m_is_pair [v] with
  | .ret (.bool b) => b
  | _ => false
theorem pair_any {L n : Nat} {v : DL.D} (hL : L ≤ 10000) (h : Nc L n v) : m_is_pair [v] = .ret (.bool (isPr v)) ∧ m__law_is_pair [v] = .ret (.bool (isPr v)) ∧ (isPr v = true → ∃ (w : Tx) (ps : List Int), v = .tuple [.str (tx w), .tuple (ps.map .int)] ∧ okW w = true ∧ w.length ≤ L ∧ ps.length ≤ L) := by
  suffices H : ∃ b, m_is_pair [v] = .ret (.bool b) ∧ m__law_is_pair [v] = .ret (.bool b) ∧ (b = true → ∃ (w : Tx) (ps : List Int), v = .tuple [.str (tx w), .tuple (ps.map .int)] ∧ okW w = true ∧ w.length ≤ L ∧ ps.length ≤ L) by
    obtain ⟨b, h1, h2, h3⟩ := H
    have : isPr v = b := by
      unfold isPr
      rw [h1]
    rw [this]
    exact ⟨h1, h2, h3⟩
  cases h with
  | int n i => exact ⟨false, by simp [m_is_pair, c_is_pair, fnP], by simp [m__law_is_pair, c__law_is_pair, fnP], by simp⟩
  | none n => exact ⟨false, by simp [m_is_pair, c_is_pair, fnP], by simp [m__law_is_pair, c__law_is_pair, fnP], by simp⟩
  | bool n i => exact ⟨false, by simp [m_is_pair, c_is_pair, fnP], by simp [m__law_is_pair, c__law_is_pair, fnP], by simp⟩
  | str n i => exact ⟨false, by simp [m_is_pair, c_is_pair, fnP], by simp [m__law_is_pair, c__law_is_pair, fnP], by simp⟩
  | lst n i => exact ⟨false, by simp [m_is_pair, c_is_pair, fnP], by simp [m__law_is_pair, c__law_is_pair, fnP], by simp⟩
  | tup n xs hl hx =>
    match xs, hl, hx with
    | [], _, _ => exact ⟨false, by simp [m_is_pair, c_is_pair, fnP], by simp [m__law_is_pair, c__law_is_pair, fnP], by simp⟩
    | [_], _, _ => exact ⟨false, by simp [m_is_pair, c_is_pair, fnP], by simp [m__law_is_pair, c__law_is_pair, fnP], by simp⟩
    | _ :: _ :: _ :: r, _, _ =>
      have hn : ¬ (r.length : Int) + 1 + 1 + 1 = 2 := by omega
      exact ⟨false, by simp [m_is_pair, c_is_pair, fnP, hn], by simp [m__law_is_pair, c__law_is_pair, fnP, hn], by simp⟩
    | [x, y], hl, hx =>
      obtain ⟨e1, e2, e3⟩ := word_any hL (hx x (by simp))
      cases hw : isW x with
      | false =>
        rw [hw] at e1 e2
        exact ⟨false, by simp [m_is_pair, c_is_pair, fnP, e1], by simp [m__law_is_pair, c__law_is_pair, fnP, e2], by simp⟩
      | true =>
        rw [hw] at e1 e2
        obtain ⟨w, rfl, hwl, hwo⟩ := e3 hw
        have e4 := places_any w (by omega) hL (hx y (by simp))
        cases hx y (by simp) with
        | int n i => exact ⟨false, by simp [m_is_pair, c_is_pair, fnP, e1, e4], by simp [m__law_is_pair, c__law_is_pair, fnP, e2], by simp⟩
        | none n => exact ⟨false, by simp [m_is_pair, c_is_pair, fnP, e1, e4], by simp [m__law_is_pair, c__law_is_pair, fnP, e2], by simp⟩
        | bool n i => exact ⟨false, by simp [m_is_pair, c_is_pair, fnP, e1, e4], by simp [m__law_is_pair, c__law_is_pair, fnP, e2], by simp⟩
        | str n i => exact ⟨false, by simp [m_is_pair, c_is_pair, fnP, e1, e4], by simp [m__law_is_pair, c__law_is_pair, fnP, e2], by simp⟩
        | lst n i => exact ⟨false, by simp [m_is_pair, c_is_pair, fnP, e1, e4], by simp [m__law_is_pair, c__law_is_pair, fnP, e2], by simp⟩
        | tup n ys hyl hy =>
          simp only at e4
          have el := pl_loop w (by omega) ys ys hy 0
          cases hc : chk ((w.length : Int) - 1) 0 ys with
          | false =>
            rw [hc] at e4 el
            rw [if_neg (by simp)] at el
            obtain ⟨ρ, el⟩ := el
            exact ⟨false, by simp [m_is_pair, c_is_pair, fnP, e1, e4], by simp [m__law_is_pair, c__law_is_pair, fnP, e2, L__law_is_pair_0, el], by simp⟩
          | true =>
            have ha := chk_int _ ys 0 (by omega) hc
            rw [hc] at e4 el
            rw [if_pos rfl] at el
            obtain ⟨b', el⟩ := el
            obtain ⟨ps, rfl, _⟩ := allI_int ha
            exact ⟨true, by simp [m_is_pair, c_is_pair, fnP, e1, e4], by simp [m__law_is_pair, c__law_is_pair, fnP, e2, L__law_is_pair_0, el], fun _ => ⟨w, ps, rfl, hwo, hwl, by simpa using hyl⟩⟩
/-! signs -/
theorem atI_m1 {α : Type} (l : List α) (h : l ≠ []) : atI l (-1) = some (l.getLast h) := by
  have h1 : 1 ≤ l.length := List.length_pos_iff.mpr h
  have h2 : ixN l.length (-1) = some (l.length - 1) := by
    unfold ixN
    rw [if_neg (by decide), if_pos (by omega)]
    congr 1
    omega
  unfold atI
  rw [h2, List.getLast_eq_getElem]
  show l[l.length - 1]? = _
  rw [List.getElem?_eq_getElem (by omega)]
theorem cutG_0 {α : Type} (l : List α) : cutG l (some 0) none = l := by
  have := cutG_from l 0
  simpa using this
theorem cutG_1 {α : Type} (a : α) (l : List α) : cutG (a :: l) (some 1) none = l := by
  have := cutG_from (a :: l) 1
  simpa using this
def innerA : Tx → Tx
  | [] => []
  | c :: r => if c = 46 then r else c :: r
def innerB (a : Tx) : Tx := if a.getLast? = some 46 then a.dropLast else a
def okS (t : Tx) : Bool := decide (1 ≤ t.length) && decide (t.length ≤ 12) && (decide (innerB (innerA t) ≠ []) && okL (innerB (innerA t)))
theorem lastx (a : Tx) (h : a ≠ []) (hl : a.length ≤ 10000) : dIx (.str (tx a)) (.int (-1)) = some (.str (tx [a.getLast h])) := by
  rw [dIx_tx a _ hl, atI_m1 a h]
  rfl
theorem headx (c : Ch) (r : Tx) (hl : (c :: r).length ≤ 10000) : dIx (.str (tx (c :: r))) (.int 0) = some (.str (tx [c])) := by
  rw [dIx_tx _ _ hl, atI_c0]
  rfl
theorem signs_lc (v : SV) (a : Tx) (hl : a.length ≤ 10000) : lc_is_signs_0 [v, .d (.str (tx a)), .un] = .ok (a.map fun c => .bool (decide (c ∈ letters))) [v, .d (.str (tx a)), .un] :=
  nlc_map a (fun c => .str (tx [c])) _ (by simp) (by simp) (by simp; rfl) (by simp) hl fun c hc => ⟨[v, .d (.str (tx a)), .d (.str (tx [c]))], by simp, by simp [e_is_signs_0, d_LETTERS, letters], by simp, by simp⟩
def restS : SC := sSeq (sIf (eAnd (eTest (eBin dNe (eVar 1) (eC (.str (tx []))))) (eTest (eBin dEq (eBin dIx (eVar 1) (eNeg (eC (.int 1)))) (eC (.str (tx [46]))))))
    (sAsg (eSl dSl (eVar 1) oNone (oSome (eNeg (eC (.int 1))))) (setN 1)) sNx)
    (sRet (eAndV (eBin dNe (eVar 1) (eC (.str (tx [])))) (eCallB dAll (aCons (eN lc_is_signs_0) aNil))))
theorem c_signs : c_is_signs = (sSeq (sIf (eOr (eNot (eTruth (eIsi ["str"] (eVar 0)))) (eNot (eTest (eChain dLe dLe (eC (.int 1)) (eCallB dLen (aCons (eVar 0) aNil)) (eC d_MOST_SIGNS)))))
    (sRet (eC (.bool false)))
    sNx)
    (sSeq (sAsg (eSl dSl (eVar 0) (oSome (eCallB dInt (aCons (eBin dEq (eBin dIx (eVar 0) (eC (.int 0))) (eC (.str (tx [46])))) aNil))) oNone) (setN 1))
    restS)) := rfl
theorem rest_ok (v : SV) (a : Tx) (ha : a.length ≤ 12) : restS [v, .d (.str (tx a)), .un] = .rt (.bool (decide (innerB a ≠ []) && okL (innerB a))) [v, .d (.str (tx (innerB a))), .un] := by
  have za : a.length ≤ sizeLine := le_line (by omega)
  have lcs := fun (a : Tx) (h : a.length ≤ 10000) => signs_lc v a h
  have alls := fun a : Tx => dAll_bools a fun c => decide (c ∈ letters)
  by_cases hn : a = []
  · subst hn
    simp [restS, innerB, za]
  · have hlx := lastx a hn (by omega)
    have hbl := cutG_butlast a
    by_cases h46 : a.getLast hn = 46
    · have hI : innerB a = a.dropLast := by
        unfold innerB
        rw [if_pos (by rw [List.getLast?_eq_some_getLast hn, h46])]
      have l1 := lcs a.dropLast (by simp; omega)
      have l2 := alls a.dropLast
      rw [hI]
      generalize a.dropLast = b at *
      by_cases hd : b = []
      · simp [restS, -dIx_s, hlx, h46, hn, za, hbl, hd]
      · unfold okL
        simp [restS, -dIx_s, hlx, h46, hn, za, hbl, hd, l1, l2]
    · have hI : innerB a = a := by
        unfold innerB
        rw [if_neg (by rw [List.getLast?_eq_some_getLast hn]; simpa using h46)]
      have l1 := lcs a (by omega)
      have l2 := alls a
      rw [hI]
      unfold okL
      simp [restS, -dIx_s, hlx, h46, hn, za, l1, l2]
theorem signs_ok (t : Tx) (hl : t.length ≤ 10000) : m_is_signs [.str (tx t)] = .ret (.bool (okS t)) := by
  have hz : t.length ≤ sizeLine := le_line hl
  unfold okS
  by_cases h1 : 1 ≤ t.length
  · by_cases h2 : t.length ≤ 12
    · have h1' : (1 : Int) ≤ t.length := by omega
      have h2' : (t.length : Int) ≤ 12 := by omega
      obtain ⟨c, r, rfl⟩ : ∃ c r, t = c :: r := by
        cases t with
        | nil => simp at h1
        | cons c r => exact ⟨c, r, rfl⟩
      have hx := headx c r hl
      have hr : r.length ≤ 12 := by simp at h2; omega
      have k1 := fun v : SV => rest_ok v r hr
      have k2 := fun v : SV => rest_ok v (c :: r) h2
      have n1 : ((r.length : Int) + 1) ≤ 12 := by simp at h2; omega
      have n0 : (1 : Int) ≤ (r.length : Int) + 1 := by omega
      have hz' : r.length + 1 ≤ sizeLine := hz
      have n2 : r.length ≤ 11 := by simp at h2; omega
      by_cases hc : c = 46
      · subst hc
        have e : innerA (46 :: r) = r := by simp [innerA]
        rw [e]
        simp only [m_is_signs, c_signs, fnP]
        simp [-dIx_s, hz', n0, n1, n2, hx, d_MOST_SIGNS, cutG_1, k1]
      · have e : innerA (c :: r) = c :: r := by simp [innerA, hc]
        rw [e]
        simp only [m_is_signs, c_signs, fnP]
        simp [-dIx_s, hz', n0, n1, n2, hx, d_MOST_SIGNS, hc, cutG_0, k2]
    · have h1' : (1 : Int) ≤ t.length := by omega
      have h2' : ¬ (t.length : Int) ≤ 12 := by omega
      simp [m_is_signs, c_is_signs, fnP, hz, h1, h2, h1', h2', d_MOST_SIGNS]
  · have h1' : ¬ (1 : Int) ≤ t.length := by omega
    simp [m_is_signs, c_is_signs, fnP, hz, h1, h1', d_MOST_SIGNS]
theorem signs_no {L n : Nat} {v : DL.D} (h : Nc L n v) : (∃ t : Tx, v = .str (tx t) ∧ t.length ≤ L) ∨ m_is_signs [v] = .ret (.bool false) ∧ anyTy ["str"] v = some false := by
  cases h with
  | str n t h => exact .inl ⟨t, rfl, h⟩
  | int n i => exact .inr ⟨by simp [m_is_signs, c_is_signs, fnP], by simp⟩
  | none n => exact .inr ⟨by simp [m_is_signs, c_is_signs, fnP], by simp⟩
  | bool n i => exact .inr ⟨by simp [m_is_signs, c_is_signs, fnP], by simp⟩
  | tup n i => exact .inr ⟨by simp [m_is_signs, c_is_signs, fnP], by simp⟩
  | lst n i => exact .inr ⟨by simp [m_is_signs, c_is_signs, fnP], by simp⟩
/-! patterns -/
def pat : Tx := [112, 97, 116, 116, 101, 114, 110]
theorem ne_str {L n : Nat} {x : DL.D} (h : Nc L n x) (hn : n ≤ 64) (q : Tx) : (∃ t : Tx, x = .str (tx t) ∧ t.length ≤ L) ∨ dNe x (.str (tx q)) = some (.bool true) ∧ (match x with | .str _ => false | .dict _ => false | _ => true) = true := by
  have h1 := h.shN.sh hn
  have h2 := (Nc.str (L := q.length) 0 q (Nat.le_refl _)).shN.sh (by decide)
  cases h with
  | str n t h => exact .inl ⟨t, rfl, h⟩
  | int n i => exact .inr ⟨by unfold dNe; rw [if_pos ⟨h1, h2⟩]; simp [PyData.eqv], rfl⟩
  | none n => exact .inr ⟨by unfold dNe; rw [if_pos ⟨h1, h2⟩]; simp [PyData.eqv], rfl⟩
  | bool n i => exact .inr ⟨by unfold dNe; rw [if_pos ⟨h1, h2⟩]; simp [PyData.eqv], rfl⟩
  | tup n i => exact .inr ⟨by unfold dNe; rw [if_pos ⟨h1, h2⟩]; simp [PyData.eqv], rfl⟩
  | lst n i => exact .inr ⟨by unfold dNe; rw [if_pos ⟨h1, h2⟩]; simp [PyData.eqv], rfl⟩
theorem isi_str {x : DL.D} (h : (match x with | .str _ => false | .dict _ => false | _ => true) = true) (f : EC) (ρ ρ1 : DL.Env) (hf : f ρ = .ok (.val x) ρ1) : eTruth (eIsi ["str"] f) ρ = .ok false ρ1 := by
  cases x <;> simp [hf] at h ⊢
theorem in_false {α : Type} (l : List α) (p : α → Bool) : dIn (.bool false) (.list (l.map fun x => .bool (p x))) = some (.bool (!l.all p)) := by
  have h1 : SeqAt.shaped (.bool false) = true := sh_bool false
  have h2 := (shN_list (n := 0) (fun x => PyData.bool (p x)) l fun x _ => (Nc.bool (L := 0) 0 (p x)).shN).sh (by decide)
  show (if SeqAt.shaped (.bool false) = true ∧ SeqAt.shaped (.list (l.map fun x => .bool (p x))) = true then some (PyData.bool ((l.map fun x => PyData.bool (p x)).any fun z => PyData.eqv z (.bool false))) else none) = _
  rw [if_pos ⟨h1, h2⟩, List.any_map]
  congr 2
  rw [Bool.eq_iff_iff]
  simp [PyData.eqv]
theorem notin_false {α : Type} (l : List α) (p : α → Bool) : dNotIn (.bool false) (.list (l.map fun x => .bool (p x))) = some (.bool (l.all p)) := by
  have h1 : SeqAt.shaped (.bool false) = true := sh_bool false
  have h2 := (shN_list (n := 0) (fun x => PyData.bool (p x)) l fun x _ => (Nc.bool (L := 0) 0 (p x)).shN).sh (by decide)
  rw [dNotIn_lst, if_pos ⟨h1, h2⟩, List.any_map]
  congr 2
  rw [Bool.eq_iff_iff]
  simp [PyData.eqv]
def isPt (v : DL.D) : Bool := match m_is_pattern [v] with
  | .ret (.bool b) => b
  | _ => false
structure PtOk (L : Nat) (v : DL.D) (t : Tx) (ls : List Int) : Prop where
  e : v = .tuple [.str (tx pat), .str (tx t), .tuple (ls.map .int)]
  l1 : 1 ≤ t.length
  l2 : t.length ≤ 12
  ll : ls.length = t.length + 1
def pt2 (zs : List DL.D) (s0 s1 s2 s3 : SV) : List SV := [s0, s1, s2, .d (.tuple zs), .un]
theorem inner_le (t : Tx) : (innerB (innerA t)).length ≤ t.length := by
  have h1 : (innerA t).length ≤ t.length := by
    cases t with
    | nil => simp [innerA]
    | cons c r => simp only [innerA]; split <;> simp
  unfold innerB
  split
  · simp; omega
  · exact h1
theorem okS_word (t : Tx) (h1 : 1 ≤ t.length) (h2 : t.length ≤ 12) : okW (innerB (innerA t)) = okS t := by
  have := inner_le t
  unfold okW okS
  rw [Bool.eq_iff_iff]
  simp only [Bool.and_eq_true, decide_eq_true_eq]
  have e : 1 ≤ (innerB (innerA t)).length ↔ innerB (innerA t) ≠ [] := List.length_pos_iff
  constructor
  · rintro ⟨⟨a, b⟩, c⟩
    exact ⟨⟨h1, h2⟩, e.mp a, c⟩
  · rintro ⟨_, a, c⟩
    exact ⟨⟨e.mpr a, by omega⟩, c⟩
def patT : SC := (sSeq (sIf (eOr (eNot (eTruth (eIsi ["tuple"] (eVar 3)))) (eTest (eBin dNe (eCallB dLen (aCons (eVar 3) aNil)) (eBin dAdd (eCallB dLen (aCons (eVar 2) aNil)) (eC (.int 1))))))
    (sRet (eC (.bool false)))
    sNx)
    (sSeq (sIf (eOr (eNot (eTruth (eCallB dAll (aCons (eN lc_is_pattern_0) aNil)))) (eTest (eBin dEq (eCallB dMaxA (aCons (eVar 3) aNil)) (eC (.int 0)))))
    (sRet (eC (.bool false)))
    sNx)
    (sRet (eAndV (eOrV (eBin dNe (eBin dIx (eVar 2) (eC (.int 0))) (eC (.str (tx [46])))) (eBin dEq (eBin dIx (eVar 3) (eC (.int 0))) (eC (.int 0)))) (eOrV (eBin dNe (eBin dIx (eVar 2) (eNeg (eC (.int 1)))) (eC (.str (tx [46])))) (eBin dEq (eBin dIx (eVar 3) (eNeg (eC (.int 1)))) (eC (.int 0))))))))
def lawT : SC := (sSeq (sIf (eOr (eNot (eTruth (eCall 1 m__law_is_word (aCons (eVar 3) aNil)))) (eTest (eBin dNe (eCallB dLen (aCons (eVar 2) aNil)) (eBin dAdd (eCallB dLen (aCons (eVar 1) aNil)) (eC (.int 1))))))
    (sRet (eC (.bool false)))
    sNx)
    (sSeq (sIf (eOr (eTest (eBin dIn (eC (.bool false)) (eN lc__law_is_pattern_0))) (eTest (eBin dEq (eCallB dMaxA (aCons (eVar 2) aNil)) (eC (.int 0)))))
    (sRet (eC (.bool false)))
    sNx)
    (sRet (eNotV (eOrV (eAndV (eBin dEq (eBin dIx (eVar 1) (eC (.int 0))) (eC (.str (tx [46])))) (eBin dGt (eBin dIx (eVar 2) (eC (.int 0))) (eC (.int 0)))) (eAndV (eBin dEq (eBin dIx (eVar 1) (eNeg (eC (.int 1)))) (eC (.str (tx [46])))) (eBin dGt (eBin dIx (eVar 2) (eNeg (eC (.int 1)))) (eC (.int 0)))))))))
theorem pt_lc (V x y : SV) {L n : Nat} (zs : List DL.D) (hl : zs.length ≤ 10000) (hx : ∀ z ∈ zs, Nc L n z) : lc_is_pattern_0 [V, x, y, .d (.tuple zs), .un] = .ok (zs.map fun z => .bool (isI z 0 9)) [V, x, y, .d (.tuple zs), .un] :=
  nlc_map zs id _ (by simp) (by simp) (by simp; rfl) (by simp) hl fun z hz => ⟨[V, x, y, .d (.tuple zs), .d z], by simp, by simp [e_is_pattern_0, (int_any (hx z hz) 0 9).1, d_MOST_LEVEL], by simp, by simp⟩
theorem lw_lc (V x y : SV) {L n : Nat} (zs : List DL.D) (hl : zs.length ≤ 10000) (hx : ∀ z ∈ zs, Nc L n z) : lc__law_is_pattern_0 [V, x, .d (.tuple zs), y, .un] = .ok (zs.map fun z => .bool (isI z 0 9)) [V, x, .d (.tuple zs), y, .un] :=
  nlc_map zs id _ (by simp) (by simp) (by simp; rfl) (by simp) hl fun z hz => ⟨[V, x, .d (.tuple zs), y, .d z], by simp, by simp [e__law_is_pattern_0, (int_any (hx z hz) 0 9).2], by simp, by simp⟩
theorem tails (V x : SV) {L n : Nat} (t : Tx) (h1 : 1 ≤ t.length) (h2 : t.length ≤ 12) (zs : List DL.D) (hl : zs.length ≤ 10000) (hx : ∀ z ∈ zs, Nc L n z) (i : Tx) (hi : m__law_is_word [.str (tx i)] = .ret (.bool true)) :
    ∃ b, patT [V, x, .d (.str (tx t)), .d (.tuple zs), .un] = .rt (.bool b) [V, x, .d (.str (tx t)), .d (.tuple zs), .un] ∧ lawT [V, .d (.str (tx t)), .d (.tuple zs), .d (.str (tx i)), .un] = .rt (.bool b) [V, .d (.str (tx t)), .d (.tuple zs), .d (.str (tx i)), .un] ∧
      (b = true → ∃ ls : List Int, zs = ls.map PyData.int ∧ ls.length = t.length + 1) := by
  have hz : t.length ≤ sizeLine := le_line (by omega)
  by_cases hn : zs.length = t.length + 1
  · have hn' : (zs.length : Int) = t.length + 1 := by omega
    have a1 := pt_lc V x (.d (.str (tx t))) zs hl hx
    have a2 := lw_lc V (.d (.str (tx t))) (.d (.str (tx i))) zs hl hx
    have b1 := dAll_bools zs fun z => isI z 0 9
    have b2 := in_false zs fun z => isI z 0 9
    cases ha : allI zs 0 9 with
    | false =>
      unfold allI at ha
      rw [ha] at b1 b2
      refine ⟨false, ?_, ?_, by simp⟩
      · simp [patT, hz, hn', a1, b1]
      · simp [lawT, hz, hn', a2, b2, hi]
    | true =>
      obtain ⟨ls, rfl, hls⟩ := allI_int ha
      unfold allI at ha
      rw [ha] at b1 b2
      rw [List.map_map] at a1 a2 b1 b2
      rw [List.length_map] at hn
      have hln : (ls.length : Int) = t.length + 1 := by omega
      have hne : ls ≠ [] := by
        intro e
        rw [e] at hn
        simp at hn
      have hm := maxA_ints ls hne
      by_cases h0 : maxL ls = 0
      · refine ⟨false, ?_, ?_, by simp⟩
        · simp [patT, hz, hln, a1, b1, hm, h0]
        · simp [lawT, hz, hln, a2, b2, hi, hm, h0]
      · obtain ⟨c, r, rfl⟩ : ∃ c r, t = c :: r := by
          cases t with
          | nil => simp at h1
          | cons c r => exact ⟨c, r, rfl⟩
        have x0 := headx c r (by omega)
        have x1 := lastx (c :: r) (by simp) (by omega)
        have y1 := atI_m1 ls hne
        have hlast := hls (ls.getLast hne) (List.getLast_mem hne)
        generalize ls.getLast hne = lz at *
        generalize (c :: r).getLast (by simp) = cz at *
        obtain ⟨l0, lr, rfl⟩ : ∃ c r, ls = c :: r := by
          cases ls with
          | nil => exact absurd rfl hne
          | cons c r => exact ⟨c, r, rfl⟩
        have hfst := hls l0 (by simp)
        have y0 := atI_c0 l0 lr
        generalize l0 :: lr = ls at *
        generalize c :: r = t at *
        refine ⟨(!decide (c = 46) || decide (l0 = 0)) && (!decide (cz = 46) || decide (lz = 0)), ?_, ?_, fun _ => ⟨ls, rfl, hn⟩⟩
        · by_cases c1 : c = 46 <;> by_cases c2 : cz = 46 <;> by_cases c3 : l0 = 0 <;> simp [patT, hz, hln, a1, b1, hm, h0, -dIx_s, x0, x1, y0, y1, c1, c2, c3]
        · have g0 : (0 < l0) ↔ ¬ (l0 = 0) := by omega
          have g1 : (0 < lz) ↔ ¬ (lz = 0) := by omega
          by_cases c1 : c = 46 <;> by_cases c2 : cz = 46 <;> by_cases c3 : l0 = 0 <;> simp [lawT, hz, hln, a2, b2, hi, hm, h0, -dIx_s, x0, x1, y0, y1, c1, c2, c3, g0, g1]
  · have hn' : ¬ (zs.length : Int) = t.length + 1 := by omega
    refine ⟨false, ?_, ?_, by simp⟩
    · simp [patT, hz, hn']
    · simp [lawT, hz, hn', hi]
def lawIn1 : SC := sAsg (eIf (eTest (eBin dEq (eBin dIx (eVar 1) (eC (.int 0))) (eC (.str (tx [46]))))) (eSl dSl (eVar 1) (oSome (eC (.int 1))) oNone) (eVar 1)) (setN 3)
def lawIn2 : SC := sAsg (eIf (eAnd (eTest (eBin dNe (eVar 3) (eC (.str (tx []))))) (eTest (eBin dEq (eBin dIx (eVar 3) (eNeg (eC (.int 1)))) (eC (.str (tx [46])))))) (eSl dSl (eVar 3) oNone (oSome (eNeg (eC (.int 1))))) (eVar 3)) (setN 3)
theorem in1_ok (V y : SV) (t : Tx) (h1 : 1 ≤ t.length) (h2 : t.length ≤ 12) : lawIn1 [V, .d (.str (tx t)), y, .un, .un] = .nx [V, .d (.str (tx t)), y, .d (.str (tx (innerA t))), .un] := by
  obtain ⟨c, r, rfl⟩ : ∃ c r, t = c :: r := by
    cases t with
    | nil => simp at h1
    | cons c r => exact ⟨c, r, rfl⟩
  have hz : r.length + 1 ≤ sizeLine := le_line (by simp at h2; omega)
  have hx := headx c r (by omega)
  by_cases hc : c = 46
  · subst hc
    have e : innerA (46 :: r) = r := by simp [innerA]
    rw [e]
    simp [lawIn1, -dIx_s, hx, hz, cutG_1]
  · have e : innerA (c :: r) = c :: r := by simp [innerA, hc]
    rw [e]
    simp [lawIn1, -dIx_s, hx, hz, hc]
theorem in2_ok (V x y : SV) (a : Tx) (h2 : a.length ≤ 12) : lawIn2 [V, x, y, .d (.str (tx a)), .un] = .nx [V, x, y, .d (.str (tx (innerB a))), .un] := by
  have hz : a.length ≤ sizeLine := le_line (by omega)
  by_cases hn : a = []
  · subst hn
    simp [lawIn2, innerB, hz]
  · have hlx := lastx a hn (by omega)
    have hbl := cutG_butlast a
    by_cases h46 : a.getLast hn = 46
    · have hI : innerB a = a.dropLast := by
        unfold innerB
        rw [if_pos (by rw [List.getLast?_eq_some_getLast hn, h46])]
      rw [hI]
      simp [lawIn2, -dIx_s, hlx, h46, hn, hz, hbl]
    · have hI : innerB a = a := by
        unfold innerB
        rw [if_neg (by rw [List.getLast?_eq_some_getLast hn]; simpa using h46)]
      rw [hI]
      simp [lawIn2, -dIx_s, hlx, h46, hn, hz]
theorem c_pat : c_is_pattern = (sSeq (sIf (eOr (eNot (eTruth (eIsi ["tuple"] (eVar 0)))) (eOr (eTest (eBin dNe (eCallB dLen (aCons (eVar 0) aNil)) (eC (.int 3)))) (eOr (eTest (eBin dNe (eBin dIx (eVar 0) (eC (.int 0))) (eC (.str (tx pat))))) (eNot (eTruth (eCall 1 m_is_signs (aCons (eBin dIx (eVar 0) (eC (.int 1))) aNil)))))))
    (sRet (eC (.bool false)))
    sNx)
    (sSeq (sAsg (eVar 0) (setTup 3 (setCons (setN 1) (setCons (setN 2) (setCons (setN 3) setNil)))))
    patT)) := rfl
theorem c_lawpat : c__law_is_pattern = (sSeq (sIf (eOr (eNot (eTruth (eIsi ["tuple"] (eVar 0)))) (eOr (eTest (eBin dNe (eCallB dLen (aCons (eVar 0) aNil)) (eC (.int 3)))) (eOr (eNot (eTruth (eIsi ["str"] (eBin dIx (eVar 0) (eC (.int 0)))))) (eTest (eBin dNe (eBin dIx (eVar 0) (eC (.int 0))) (eC (.str (tx pat))))))))
    (sRet (eC (.bool false)))
    sNx)
    (sSeq (sAsg (eSl dSl (eVar 0) (oSome (eC (.int 1))) oNone) (setTup 2 (setCons (setN 1) (setCons (setN 2) setNil))))
    (sSeq (sIf (eOr (eNot (eTruth (eIsi ["str"] (eVar 1)))) (eOr (eTest (eBin dLt (eCallB dLen (aCons (eVar 1) aNil)) (eC (.int 1)))) (eOr (eTest (eBin dGt (eCallB dLen (aCons (eVar 1) aNil)) (eC (.int 12)))) (eNot (eTruth (eIsi ["tuple"] (eVar 2)))))))
    (sRet (eC (.bool false)))
    sNx)
    (sSeq lawIn1 (sSeq lawIn2 lawT))))) := rfl
theorem pattern_any {L n : Nat} {v : DL.D} (hn : n ≤ 60) (hL : L ≤ 10000) (h : Nc L n v) : m_is_pattern [v] = .ret (.bool (isPt v)) ∧ m__law_is_pattern [v] = .ret (.bool (isPt v)) ∧ (isPt v = true → ∃ t ls, PtOk L v t ls) := by
  suffices H : ∃ b, m_is_pattern [v] = .ret (.bool b) ∧ m__law_is_pattern [v] = .ret (.bool b) ∧ (b = true → ∃ t ls, PtOk L v t ls) by
    obtain ⟨b, h1, h2, h3⟩ := H
    have : isPt v = b := by
      unfold isPt
      rw [h1]
    rw [this]
    exact ⟨h1, h2, h3⟩
  cases h with
  | int n i => exact ⟨false, by simp [m_is_pattern, c_pat, fnP], by simp [m__law_is_pattern, c_lawpat, fnP], by simp⟩
  | none n => exact ⟨false, by simp [m_is_pattern, c_pat, fnP], by simp [m__law_is_pattern, c_lawpat, fnP], by simp⟩
  | bool n i => exact ⟨false, by simp [m_is_pattern, c_pat, fnP], by simp [m__law_is_pattern, c_lawpat, fnP], by simp⟩
  | str n i => exact ⟨false, by simp [m_is_pattern, c_pat, fnP], by simp [m__law_is_pattern, c_lawpat, fnP], by simp⟩
  | lst n i => exact ⟨false, by simp [m_is_pattern, c_pat, fnP], by simp [m__law_is_pattern, c_lawpat, fnP], by simp⟩
  | tup n xs hl hx =>
    match xs, hl, hx with
    | [], _, _ => exact ⟨false, by simp [m_is_pattern, c_pat, fnP], by simp [m__law_is_pattern, c_lawpat, fnP], by simp⟩
    | [_], _, _ => exact ⟨false, by simp [m_is_pattern, c_pat, fnP], by simp [m__law_is_pattern, c_lawpat, fnP], by simp⟩
    | [_, _], _, _ => exact ⟨false, by simp [m_is_pattern, c_pat, fnP], by simp [m__law_is_pattern, c_lawpat, fnP], by simp⟩
    | _ :: _ :: _ :: _ :: r, _, _ =>
      have hn : ¬ (r.length : Int) + 1 + 1 + 1 + 1 = 3 := by omega
      exact ⟨false, by simp [m_is_pattern, c_pat, fnP, hn], by simp [m__law_is_pattern, c_lawpat, fnP, hn], by simp⟩
    | [x, y, z], hl, hx =>
      rcases ne_str (hx x (by simp)) (by omega) pat with ⟨q, rfl, hq⟩ | ⟨ex, ix⟩
      · by_cases hp : q = pat
        · subst hp
          rcases signs_no (hx y (by simp)) with ⟨t, rfl, ht⟩ | ⟨ey, iy⟩
          · have es := signs_ok t (by omega)
            have zt : t.length ≤ sizeLine := le_line (by omega)
            by_cases h1 : 1 ≤ t.length
            · by_cases h2 : t.length ≤ 12
              · have h1' : ¬ (t.length : Int) < 1 := by omega
                have h2' : ¬ (12 : Int) < t.length := by omega
                have i1 := fun V y => in1_ok V y t h1 h2
                have hi := inner_le t
                have i2 := fun V x y => in2_ok V x y (innerA t) (by
                  cases t with
                  | nil => simp at h1
                  | cons c r => simp only [innerA]; split <;> simp at h2 ⊢ <;> omega)
                have ew := word_law (innerB (innerA t)) (by omega)
                rw [okS_word t h1 h2] at ew
                cases ho : okS t with
                | false =>
                  rw [ho] at es ew
                  refine ⟨false, by simp [m_is_pattern, c_pat, fnP, pat, es], ?_, by simp⟩
                  have eT : ∀ (V : SV) (zs : DL.D), lawT [V, .d (.str (tx t)), .d zs, .d (.str (tx (innerB (innerA t)))), .un] = .rt (.bool false) [V, .d (.str (tx t)), .d zs, .d (.str (tx (innerB (innerA t)))), .un] := fun V zs => by simp [lawT, ew]
                  cases hx z (by simp) with
                  | int n i => simp [m__law_is_pattern, c_lawpat, fnP, cutG_1, zt, h1', h2']
                  | none n => simp [m__law_is_pattern, c_lawpat, fnP, cutG_1, zt, h1', h2']
                  | bool n i => simp [m__law_is_pattern, c_lawpat, fnP, cutG_1, zt, h1', h2']
                  | str n i => simp [m__law_is_pattern, c_lawpat, fnP, cutG_1, zt, h1', h2']
                  | lst n i => simp [m__law_is_pattern, c_lawpat, fnP, cutG_1, zt, h1', h2']
                  | tup n zs hzl hzs => simp [m__law_is_pattern, c_lawpat, fnP, cutG_1, zt, h1', h2', i1, i2, eT]
                | true =>
                  rw [ho] at es ew
                  cases hx z (by simp) with
                  | int n i => exact ⟨false, by simp [m_is_pattern, c_pat, fnP, pat, es, patT], by simp [m__law_is_pattern, c_lawpat, fnP, cutG_1, zt, h1', h2'], by simp⟩
                  | none n => exact ⟨false, by simp [m_is_pattern, c_pat, fnP, pat, es, patT], by simp [m__law_is_pattern, c_lawpat, fnP, cutG_1, zt, h1', h2'], by simp⟩
                  | bool n i => exact ⟨false, by simp [m_is_pattern, c_pat, fnP, pat, es, patT], by simp [m__law_is_pattern, c_lawpat, fnP, cutG_1, zt, h1', h2'], by simp⟩
                  | str n i => exact ⟨false, by simp [m_is_pattern, c_pat, fnP, pat, es, patT], by simp [m__law_is_pattern, c_lawpat, fnP, cutG_1, zt, h1', h2'], by simp⟩
                  | lst n i => exact ⟨false, by simp [m_is_pattern, c_pat, fnP, pat, es, patT], by simp [m__law_is_pattern, c_lawpat, fnP, cutG_1, zt, h1', h2'], by simp⟩
                  | tup n zs hzl hzs =>
                    obtain ⟨b, f1, f2, f3⟩ := tails (.d (.tuple [.str (tx pat), .str (tx t), .tuple zs])) (.d (.str (tx pat))) t h1 h2 zs (by omega) hzs _ ew
                    refine ⟨b, by simp [m_is_pattern, c_pat, fnP, es, f1], by simp [m__law_is_pattern, c_lawpat, fnP, cutG_1, zt, h1', h2', i1, i2, f2], fun hb => ?_⟩
                    obtain ⟨ls, rfl, hll⟩ := f3 hb
                    exact ⟨t, ls, rfl, h1, h2, hll⟩
              · have h1' : ¬ (t.length : Int) < 1 := by omega
                have h2' : (12 : Int) < t.length := by omega
                have ho : okS t = false := by simp [okS, h2]
                rw [ho] at es
                exact ⟨false, by simp [m_is_pattern, c_pat, fnP, es], by simp [m__law_is_pattern, c_lawpat, fnP, cutG_1, zt, h1', h2'], by simp⟩
            · have h1' : (t.length : Int) < 1 := by omega
              have ho : okS t = false := by simp [okS, h1]
              rw [ho] at es
              exact ⟨false, by simp [m_is_pattern, c_pat, fnP, es], by simp [m__law_is_pattern, c_lawpat, fnP, cutG_1, zt, h1'], by simp⟩
          · refine ⟨false, by simp [m_is_pattern, c_pat, fnP, ey], ?_, by simp⟩
            simp [m__law_is_pattern, c_lawpat, fnP, cutG_1, iy]
        · refine ⟨false, by simp [m_is_pattern, c_pat, fnP, hp], by simp [m__law_is_pattern, c_lawpat, fnP, hp], by simp⟩
      · refine ⟨false, by simp [m_is_pattern, c_pat, fnP, ex], ?_, by simp⟩
        cases x <;> simp [m__law_is_pattern, c_lawpat, fnP] at ix ⊢
/-! formed -/
def tong : Tx := [116, 111, 110, 103, 117, 101]
def isFm (v : DL.D) : Bool := match m_is_formed [v] with
  | .ret (.bool b) => b
  | _ => false
structure FmOk (L : Nat) (n : Nat) (v : DL.D) (a b : Int) (ps es : List DL.D) : Prop where
  e : v = .tuple [.str (tx tong), .int a, .int b, .tuple ps, .tuple es]
  hp : ∀ p ∈ ps, Nc L n p ∧ isPt p = true
  he : ∀ p ∈ es, Nc L n p ∧ isPr p = true
  lp : ps.length ≤ L
  le : es.length ≤ L
theorem fm_lc0 (s0 s1 s2 s3 s5 : SV) {L n : Nat} (hn : n ≤ 60) (hL : L ≤ 10000) (zs : List DL.D) (hl : zs.length ≤ L) (hx : ∀ z ∈ zs, Nc L n z) : lc_is_formed_0 [s0, s1, s2, s3, .d (.tuple zs), s5, .un] = .ok (zs.map fun z => .bool (isPt z)) [s0, s1, s2, s3, .d (.tuple zs), s5, .un] :=
  nlc_map zs id _ (by simp) (by simp) (by simp; rfl) (by simp) (by omega) fun z hz => ⟨[s0, s1, s2, s3, .d (.tuple zs), s5, .d z], by simp, by simp [e_is_formed_0, (pattern_any hn hL (hx z hz)).1], by simp, by simp⟩
theorem fm_lc1 (s0 s1 s2 s3 s4 : SV) {L n : Nat} (hL : L ≤ 10000) (zs : List DL.D) (hl : zs.length ≤ L) (hx : ∀ z ∈ zs, Nc L n z) : lc_is_formed_1 [s0, s1, s2, s3, s4, .d (.tuple zs), .un] = .ok (zs.map fun z => .bool (isPr z)) [s0, s1, s2, s3, s4, .d (.tuple zs), .un] :=
  nlc_map zs id _ (by simp) (by simp) (by simp; rfl) (by simp) (by omega) fun z hz => ⟨[s0, s1, s2, s3, s4, .d (.tuple zs), .d z], by simp, by simp [e_is_formed_1, (pair_any hL (hx z hz)).1], by simp, by simp⟩
theorem fl_lc0 (x a b e : DL.D) {L n : Nat} (hn : n ≤ 60) (hL : L ≤ 10000) (zs : List DL.D) (hl : zs.length ≤ L) (hx : ∀ z ∈ zs, Nc L n z) : lc__law_is_formed_0 [.d (.tuple [x, a, b, .tuple zs, e]), .un] = .ok (zs.map fun z => .bool (isPt z)) [.d (.tuple [x, a, b, .tuple zs, e]), .un] :=
  nlc_map zs id _ (by simp) (by simp) (by simp; rfl) (by simp) (by omega) fun z hz => ⟨[.d (.tuple [x, a, b, .tuple zs, e]), .d z], by simp, by simp [e__law_is_formed_0, (pattern_any hn hL (hx z hz)).2.1], by simp, by simp⟩
theorem fl_lc1 (x a b e : DL.D) {L n : Nat} (hL : L ≤ 10000) (zs : List DL.D) (hl : zs.length ≤ L) (hx : ∀ z ∈ zs, Nc L n z) : lc__law_is_formed_1 [.d (.tuple [x, a, b, e, .tuple zs]), .un] = .ok (zs.map fun z => .bool (isPr z)) [.d (.tuple [x, a, b, e, .tuple zs]), .un] :=
  nlc_map zs id _ (by simp) (by simp) (by simp; rfl) (by simp) (by omega) fun z hz => ⟨[.d (.tuple [x, a, b, e, .tuple zs]), .d z], by simp, by simp [e__law_is_formed_1, (pair_any hL (hx z hz)).2.1], by simp, by simp⟩
def isTp : DL.D → Bool
  | .tuple _ => true
  | _ => false
theorem ty_tup {L n : Nat} {v : DL.D} (h : Nc L n v) : anyTy ["tuple"] v = some (isTp v) := by
  cases h <;> simp [isTp]
theorem notin_false2 {α β : Type} (l : List α) (p : α → Bool) (m : List β) (q : β → Bool) : dNotIn (.bool false) (.list ((l.map fun x => .bool (p x)) ++ m.map fun x => .bool (q x))) = some (.bool (l.all p && m.all q)) := by
  have := notin_false ((l.map p) ++ (m.map q)) id
  rw [List.map_append, List.map_map, List.map_map, List.all_append, List.all_map, List.all_map] at this
  exact this
theorem isTp_of {L n : Nat} {v : DL.D} (h : Nc L n v) (ht : isTp v = true) : ∃ m xs, n = m + 1 ∧ v = .tuple xs ∧ xs.length ≤ L ∧ ∀ x ∈ xs, Nc L m x := by
  cases h <;> simp [isTp] at ht
  case tup n xs h hx => exact ⟨n, xs, rfl, rfl, h, hx⟩
theorem c_fm : c_is_formed =
    (sSeq (sIf (eOr (eNot (eTruth (eIsi ["tuple"] (eVar 0)))) (eOr (eTest (eBin dNe (eCallB dLen (aCons (eVar 0) aNil)) (eC (.int 5)))) (eTest (eBin dNe (eBin dIx (eVar 0) (eC (.int 0))) (eC (.str (tx tong)))))))
    (sRet (eC (.bool false)))
    sNx)
    (sSeq (sAsg (eVar 0) (setTup 5 (setCons (setN 1) (setCons (setN 2) (setCons (setN 3) (setCons (setN 4) (setCons (setN 5) setNil)))))))
    (sSeq (sIf (eOr (eNot (eTruth (eCall 3 m_is_integer (aCons (eVar 2) (aCons (eC (.int 1)) (aCons (eC d_MOST_LEVEL) aNil)))))) (eNot (eTruth (eCall 3 m_is_integer (aCons (eVar 3) (aCons (eC (.int 1)) (aCons (eC d_MOST_LEVEL) aNil)))))))
    (sRet (eC (.bool false)))
    sNx)
    (sSeq (sIf (eOr (eNot (eTruth (eIsi ["tuple"] (eVar 4)))) (eNot (eTruth (eCallB dAll (aCons (eN lc_is_formed_0) aNil)))))
    (sRet (eC (.bool false)))
    sNx)
    (sRet (eAndV (eIsi ["tuple"] (eVar 5)) (eCallB dAll (aCons (eN lc_is_formed_1) aNil)))))))) := rfl
theorem c_lfm : c__law_is_formed =
    (sSeq (sIf (eOr (eNot (eTruth (eIsi ["tuple"] (eVar 0)))) (eOr (eTest (eBin dNe (eCallB dLen (aCons (eVar 0) aNil)) (eC (.int 5)))) (eOr (eNot (eTruth (eIsi ["str"] (eBin dIx (eVar 0) (eC (.int 0)))))) (eTest (eBin dNe (eBin dIx (eVar 0) (eC (.int 0))) (eC (.str (tx tong))))))))
    (sRet (eC (.bool false)))
    sNx)
    (sSeq (sIf (eOr (eNot (eTruth (eCall 3 m__law_is_int (aCons (eBin dIx (eVar 0) (eC (.int 1))) (aCons (eC (.int 1)) (aCons (eC (.int 9)) aNil)))))) (eNot (eTruth (eCall 3 m__law_is_int (aCons (eBin dIx (eVar 0) (eC (.int 2))) (aCons (eC (.int 1)) (aCons (eC (.int 9)) aNil)))))))
    (sRet (eC (.bool false)))
    sNx)
    (sSeq (sIf (eOr (eNot (eTruth (eIsi ["tuple"] (eBin dIx (eVar 0) (eC (.int 3)))))) (eNot (eTruth (eIsi ["tuple"] (eBin dIx (eVar 0) (eC (.int 4)))))))
    (sRet (eC (.bool false)))
    sNx)
    (sRet (eBin dNotIn (eC (.bool false)) (eBin dAdd (eN lc__law_is_formed_0) (eN lc__law_is_formed_1))))))) := rfl
theorem formed_any {L n : Nat} {v : DL.D} (hn : n ≤ 60) (hL5 : L ≤ 5000) (h : Nc L n v) : m_is_formed [v] = .ret (.bool (isFm v)) ∧ m__law_is_formed [v] = .ret (.bool (isFm v)) ∧ (isFm v = true → ∃ a b ps es, FmOk L n v a b ps es) := by
  have hL : L ≤ 10000 := by omega
  suffices H : ∃ b, m_is_formed [v] = .ret (.bool b) ∧ m__law_is_formed [v] = .ret (.bool b) ∧ (b = true → ∃ a b ps es, FmOk L n v a b ps es) by
    obtain ⟨b, h1, h2, h3⟩ := H
    have : isFm v = b := by
      unfold isFm
      rw [h1]
    rw [this]
    exact ⟨h1, h2, h3⟩
  cases h with
  | int n i => exact ⟨false, by simp [m_is_formed, c_fm, fnP], by simp [m__law_is_formed, c_lfm, fnP], by simp⟩
  | none n => exact ⟨false, by simp [m_is_formed, c_fm, fnP], by simp [m__law_is_formed, c_lfm, fnP], by simp⟩
  | bool n i => exact ⟨false, by simp [m_is_formed, c_fm, fnP], by simp [m__law_is_formed, c_lfm, fnP], by simp⟩
  | str n i => exact ⟨false, by simp [m_is_formed, c_fm, fnP], by simp [m__law_is_formed, c_lfm, fnP], by simp⟩
  | lst n i => exact ⟨false, by simp [m_is_formed, c_fm, fnP], by simp [m__law_is_formed, c_lfm, fnP], by simp⟩
  | tup n xs hl hx =>
    match xs, hl, hx with
    | [], _, _ => exact ⟨false, by simp [m_is_formed, c_fm, fnP], by simp [m__law_is_formed, c_lfm, fnP], by simp⟩
    | [_], _, _ => exact ⟨false, by simp [m_is_formed, c_fm, fnP], by simp [m__law_is_formed, c_lfm, fnP], by simp⟩
    | [_, _], _, _ => exact ⟨false, by simp [m_is_formed, c_fm, fnP], by simp [m__law_is_formed, c_lfm, fnP], by simp⟩
    | [_, _, _], _, _ => exact ⟨false, by simp [m_is_formed, c_fm, fnP], by simp [m__law_is_formed, c_lfm, fnP], by simp⟩
    | [_, _, _, _], _, _ => exact ⟨false, by simp [m_is_formed, c_fm, fnP], by simp [m__law_is_formed, c_lfm, fnP], by simp⟩
    | _ :: _ :: _ :: _ :: _ :: _ :: r, _, _ =>
      have hn : ¬ (r.length : Int) + 1 + 1 + 1 + 1 + 1 + 1 = 5 := by omega
      exact ⟨false, by simp [m_is_formed, c_fm, fnP, hn], by simp [m__law_is_formed, c_lfm, fnP, hn], by simp⟩
    | [x, a, b, P, E], hl, hx =>
      rcases ne_str (hx x (by simp)) (by omega) tong with ⟨q, rfl, hq⟩ | ⟨ex, ix⟩
      · by_cases hp : q = tong
        · subst hp
          have a1 := (int_any (hx a (by simp)) 1 9)
          have b1 := (int_any (hx b (by simp)) 1 9)
          have P1 := ty_tup (hx P (by simp))
          have E1 := ty_tup (hx E (by simp))
          cases ha : isI a 1 9 with
          | false =>
            rw [ha] at a1
            exact ⟨false, by simp [m_is_formed, c_fm, fnP, a1.1, d_MOST_LEVEL], by simp [m__law_is_formed, c_lfm, fnP, a1.2], by simp⟩
          | true =>
          rw [ha] at a1
          cases hb : isI b 1 9 with
          | false =>
            rw [hb] at b1
            exact ⟨false, by simp [m_is_formed, c_fm, fnP, a1.1, b1.1, d_MOST_LEVEL], by simp [m__law_is_formed, c_lfm, fnP, a1.2, b1.2], by simp⟩
          | true =>
          rw [hb] at b1
          obtain ⟨ai, rfl, _⟩ := isI_int ha
          obtain ⟨bi, rfl, _⟩ := isI_int hb
          cases hP : isTp P with
          | false =>
            rw [hP] at P1
            exact ⟨false, by simp [m_is_formed, c_fm, fnP, a1.1, b1.1, P1, d_MOST_LEVEL], by simp [m__law_is_formed, c_lfm, fnP, a1.2, b1.2, P1], by simp⟩
          | true =>
          obtain ⟨m, ps, rfl, rfl, hpl, hps⟩ := isTp_of (hx P (by simp)) hP
          have p1 := fm_lc0 (.d (.tuple [.str (tx tong), .int ai, .int bi, .tuple ps, E])) (.d (.str (tx tong))) (.d (.int ai)) (.d (.int bi)) (.d E) (by omega) hL ps hpl hps
          have p2 := dAll_bools ps isPt
          have pn := dAll_bools ps isPt
          cases hE : isTp E with
          | false =>
            rw [hE] at E1
            refine ⟨false, ?_, by simp [m__law_is_formed, c_lfm, fnP, a1.2, b1.2, E1], by simp⟩
            cases hb : ps.all isPt <;> rw [hb] at p2 <;> simp [m_is_formed, c_fm, fnP, a1.1, b1.1, p1, p2, E1, d_MOST_LEVEL, -List.all_eq_true, -List.all_eq_false]
          | true =>
          obtain ⟨m', es, hm', rfl, hel, hes⟩ := isTp_of (hx E (by simp)) hE
          cases hm'
          have e1 := fm_lc1 (.d (.tuple [.str (tx tong), .int ai, .int bi, .tuple ps, .tuple es])) (.d (.str (tx tong))) (.d (.int ai)) (.d (.int bi)) (.d (.tuple ps)) hL es hel hes
          have e2 := dAll_bools es isPr
          have l1 := fl_lc0 (.str (tx tong)) (.int ai) (.int bi) (.tuple es) (by omega) hL ps hpl hps
          have l2 := fl_lc1 (.str (tx tong)) (.int ai) (.int bi) (.tuple ps) hL es hel hes
          have l3 := notin_false2 ps isPt es isPr
          have hsz : ps.length + es.length ≤ sizeLine := le_line (by omega)
          refine ⟨ps.all isPt && es.all isPr, ?_, ?_, fun hb => ?_⟩
          · cases hb : ps.all isPt <;> rw [hb] at p2
            · simp only [Bool.false_and]
              simp [m_is_formed, c_fm, fnP, a1.1, b1.1, p1, p2, d_MOST_LEVEL]
            · simp only [Bool.true_and]
              simp [m_is_formed, c_fm, fnP, a1.1, b1.1, p1, p2, e1, e2, d_MOST_LEVEL]
          · simp [m__law_is_formed, c_lfm, fnP, a1.2, b1.2, l1, l2, l3, hsz]
          · simp only [Bool.and_eq_true, List.all_eq_true] at hb
            exact ⟨ai, bi, ps, es, rfl, fun p hp => ⟨(hps p hp).le (Nat.le_refl _) (by omega), hb.1 p hp⟩, fun p hp => ⟨(hes p hp).le (Nat.le_refl _) (by omega), hb.2 p hp⟩, hpl, hel⟩
        · have hp' := hp
          refine ⟨false, by simp [m_is_formed, c_fm, fnP, hp'], by simp [m__law_is_formed, c_lfm, fnP, hp'], by simp⟩
      · refine ⟨false, by simp [m_is_formed, c_fm, fnP, ex], ?_, by simp⟩
        cases x <;> simp [m__law_is_formed, c_lfm, fnP] at ix ⊢
/-! names: ascending, first twice -/
def strD (t : Tx) : DL.D := .str (tx t)
def PD (p : Tx × List Int) : DL.D := .tuple [.str (tx pat), .str (tx p.1), .tuple (p.2.map .int)]
def ED (p : Tx × List Int) : DL.D := .tuple [.str (tx p.1), .tuple (p.2.map .int)]
theorem lift_all {α : Type} {f : α → DL.D} {Q : α → Prop} : ∀ {l : List DL.D}, (∀ d ∈ l, ∃ a, d = f a ∧ Q a) → ∃ m : List α, l = m.map f ∧ ∀ a ∈ m, Q a
  | [], _ => ⟨[], rfl, by simp⟩
  | d :: l, h => by
    obtain ⟨a, rfl, ha⟩ := h d (by simp)
    obtain ⟨m, rfl, hm⟩ := lift_all fun d hd => h d (List.mem_cons_of_mem _ hd)
    exact ⟨a :: m, rfl, by simpa using ⟨ha, hm⟩⟩
def ascT (l : List Tx) : Bool := (l.zip l.tail).all fun p => decide (p.1 < p.2)
theorem asc_ok (l : List Tx) (hl : l.length ≤ 10000) : m_are_ascending [.list (l.map strD)] = .ret (.bool (ascT l)) := by
  have e2 : lc_are_ascending_0 [.d (.list (l.map strD)), .un, .un] = .ok ((l.zip l.tail).map fun p => .bool (decide (p.1 < p.2))) [.d (.list (l.map strD)), .un, .un] :=
    nlc_map (l.zip l.tail) (fun p => .tuple [strD p.1, strD p.2]) _ (by
      have := cutG_from (l.map strD) 1
      have h2 := zipD_map strD strD l l.tail
      rw [List.map_tail] at h2
      simp at this
      simp [this, h2]) (by simp) (by simp; rfl) (by simp) (by rw [List.length_zip]; omega) fun p hp => ⟨[.d (.list (l.map strD)), .d (strD p.1), .d (strD p.2)], by simp, by
        have := dLt_tx p.1 p.2
        simp [e_are_ascending_0, strD, this], by simp, by simp⟩
  have e4 := dAll_bools (l.zip l.tail) fun p => decide (p.1 < p.2)
  unfold ascT
  simp [m_are_ascending, c_are_ascending, fnP, e2, e4]
theorem asc_law (l : List Tx) (hl : l.length ≤ 10000) : m__law_ascending [.list (l.map strD)] = .ret (.bool (ascT l)) := by
  have hr : eRng1 (aCons (eBin dSub (eCallB dLen (aCons (eVar 0) aNil)) (eC (.int 1))) aNil) [.d (.list (l.map strD)), .un] = .ok ((List.range (l.length - 1)).map fun (i : Nat) => .int (i : Int)) [.d (.list (l.map strD)), .un] := by
    by_cases h0 : l.length = 0
    · have : l = [] := List.length_eq_zero_iff.mp h0
      subst this
      have := eRng1_ok (fa := aCons (eBin dSub (eCallB dLen (aCons (eVar 0) aNil)) (eC (.int 1))) aNil) (ρ := [.d (.list (([] : List Tx).map strD)), .un]) (ρ1 := [.d (.list (([] : List Tx).map strD)), .un]) (n := -1) (by simp) (by decide)
      rw [this]
      rfl
    · rw [← rng_map]
      refine range_ok ?_ (by omega)
      have : (l.length : Int) - 1 = ((l.length - 1 : Nat) : Int) := by omega
      simp [this]
  have e2 : lc__law_ascending_0 [.d (.list (l.map strD)), .un] = .ok ((List.range (l.length - 1)).map fun j => .bool (decide ((l[j]?.getD []) < (l[j + 1]?.getD [])))) [.d (.list (l.map strD)), .un] :=
    nlc_map (List.range (l.length - 1)) (fun (i : Nat) => .int (i : Int)) _ hr (by simp) (by simp; rfl) (by simp) (by rw [List.length_range]; omega) fun j hj => ⟨[.d (.list (l.map strD)), .d (.int j)], by simp, by
        have hj' : j < l.length - 1 := List.mem_range.mp hj
        have a1 := atI_nat l j (by omega)
        have a2 := atI_nat l (j + 1) (by omega)
        have := dLt_tx (l[j]'(by omega)) (l[j + 1]'(by omega))
        push_cast at a2
        rw [List.getElem?_eq_getElem (show j < l.length by omega), List.getElem?_eq_getElem (show j + 1 < l.length by omega)]
        simp [e__law_ascending_0, strD, this, a1, a2], by simp, by simp⟩
  have e4 := notin_false (List.range (l.length - 1)) fun j => decide ((l[j]?.getD []) < (l[j + 1]?.getD []))
  have e5 : ((List.range (l.length - 1)).all fun j => decide ((l[j]?.getD []) < (l[j + 1]?.getD []))) = ascT l := by
    have : l.zip l.tail = (List.range (l.length - 1)).map fun j => ((l[j]?.getD []), (l[j + 1]?.getD [])) := by
      apply List.ext_getElem
      · simp
      · intro i h1 h2
        simp at h1
        simp [List.getElem?_eq_getElem (show i < l.length by omega), List.getElem?_eq_getElem (show i + 1 < l.length by omega)]
    unfold ascT
    rw [this, List.all_map]
    first | done | rfl
  rw [e5] at e4
  simp [m__law_ascending, c__law_ascending, fnP, e2, e4]
def firstTw : List Tx → List Tx → Option Tx
  | [], _ => none
  | t :: r, seen => if t ∈ seen then some t else firstTw r (seen ++ [t])
def seenK (seen : List Tx) : List (Key × DL.D) := seen.map fun t => (.inr (tx t), .bool true)
theorem seen_any (seen : List Tx) (t : Tx) : ((seenK seen).any fun p => decide (p.1 = .inr (tx t))) = decide (t ∈ seen) := by
  unfold seenK
  rw [List.any_map, Bool.eq_iff_iff]
  simp
theorem seen_get (seen : List Tx) (t : Tx) : (getK (seenK seen) (.inr (tx t))).isSome = decide (t ∈ seen) := by
  rw [← seen_any]
  unfold getK
  rw [Option.isSome_map, Bool.eq_iff_iff, List.find?_isSome, List.any_eq_true]
theorem tw_loop (l : DL.D) : ∀ (r seen : List Tx), seen.length + r.length ≤ 10000 → forRun (setN 2) b_first_twice_0 (r.map strD) [.d l, .own false (.dct (seenK seen)), .un] =
    match firstTw r seen with
    | none => .nx [.d l, .own false (.dct (seenK (seen ++ r))), .un]
    | some t => .rt (strD t) (blankE [.d l, .own false (.dct (seenK seen)), .un])
  | [], seen, _ => by simp [firstTw, forRun]
  | t :: r, seen, hl => by
    have hg := seen_get seen t
    have ha := seen_any seen t
    have hz : (seenK seen).length < sizeLine := by
      unfold seenK
      rw [List.length_map]
      exact lt_line (by simp at hl; omega)
    rw [List.map_cons]
    unfold forRun firstTw
    by_cases h : t ∈ seen
    · simp [b_first_twice_0, strD, hg, h]
    · have hp : putKD (seenK seen) (.inr (tx t)) (.bool true) = seenK (seen ++ [t]) := by
        unfold putKD
        rw [ha]
        simp [h, seenK]
      have e : b_first_twice_0 [.d l, .own false (.dct (seenK seen)), .d (strD t)] = .nx [.d l, .own false (.dct (seenK (seen ++ [t]))), .un] := by
        simp [b_first_twice_0, strD, hg, h, hz, hp]
      have ih := tw_loop l r (seen ++ [t]) (by simp at hl ⊢; omega)
      rw [if_neg h]
      simp [e]
      rw [ih]
      cases firstTw r (seen ++ [t]) <;> simp
theorem first_ok (l : List Tx) (hl : l.length ≤ 10000) : m_first_twice [.list (l.map strD)] = .ret (match firstTw l [] with
    | none => .none
    | some t => strD t) := by
  have e := tw_loop (.list (l.map strD)) l [] (by simpa using hl)
  have e0 : seenK [] = [] := rfl
  rw [e0] at e
  cases h : firstTw l [] with
  | none =>
    rw [h] at e
    simp [m_first_twice, c_first_twice, L_first_twice_0, fnP, e]
  | some t =>
    rw [h] at e
    simp [m_first_twice, c_first_twice, L_first_twice_0, fnP, e]
def twP (l : List Tx) (j : Nat) : Option Tx := if (l[j]?.getD []) ∈ l.take j then some (l[j]?.getD []) else none
theorem tw_find (l : List Tx) : ∀ (r seen : List Tx), l = seen ++ r → (List.range' seen.length r.length).findSome? (twP l) = firstTw r seen
  | [], seen, _ => rfl
  | t :: r, seen, h => by
    have ih := tw_find l r (seen ++ [t]) (by simp [h])
    have hj : l[seen.length]?.getD [] = t := by simp [h]
    have ht : l.take seen.length = seen := by simp [h]
    rw [List.length_cons, List.range'_succ, List.findSome?_cons, firstTw]
    unfold twP
    rw [hj, ht]
    by_cases hm : t ∈ seen
    · simp [hm]
    · simp only [hm, if_false]
      rw [List.length_append] at ih
      exact ih
theorem tw_range (l : List Tx) : (List.range l.length).findSome? (twP l) = firstTw l [] := by
  rw [List.range_eq_range']
  exact tw_find l l [] rfl
def twD (t : Tx) : DL.D := .tuple [.str (tx [116, 119, 105, 99, 101]), strD t]
theorem due_inner (V a b : DL.D) (l : List Tx) (hl : l.length ≤ 10000) : L__law_due_0 [.d V, .d a, .d b, .d (.list (l.map strD)), .un, .un] = match firstTw l [] with
    | none => .nx [.d V, .d a, .d b, .d (.list (l.map strD)), .un, .un]
    | some t => .rt (twD t) (blankE [.d V, .d a, .d b, .d (.list (l.map strD)), .un, .un]) := by
  have hr : eRng1 (aCons (eCallB dLen (aCons (eVar 3) aNil)) aNil) [.d V, .d a, .d b, .d (.list (l.map strD)), .un, .un] = .ok ((List.range l.length).map fun (i : Nat) => .int (i : Int)) [.d V, .d a, .d b, .d (.list (l.map strD)), .un, .un] := by
    rw [← rng_map]
    exact range_ok (by simp) (by omega)
  have hf := for_first (set := setN 5) (body := b__law_due_0) (fun (i : Nat) => PyData.int (i : Int)) [.d V, .d a, .d b, .d (.list (l.map strD)), .un, .un] (fun j => (twP l j).map twD) (blankE [.d V, .d a, .d b, .d (.list (l.map strD)), .un, .un]) (List.range l.length) fun j hj => ⟨[.d V, .d a, .d b, .d (.list (l.map strD)), .un, .d (.int j)], by simp, by
    have hj' : j < l.length := List.mem_range.mp hj
    have a1 := atI_nat l j hj'
    have a2 := cutG_to (l.map strD) j
    have a4 : dIn (.str (tx l[j])) (.list ((l.take j).map strD)) = some (.bool (decide (l[j] ∈ l.take j))) := coTx.inL l[j] (l.take j)
    rw [List.map_take] at a4
    unfold twP
    rw [List.getElem?_eq_getElem hj']
    by_cases hm : l[j] ∈ l.take j
    · simp [b__law_due_0, a1, a2, strD, twD, hm] at a4 ⊢
      simp [a1, a4, strD, twD]
    · simp [b__law_due_0, a1, a2, strD, hm] at a4 ⊢
      simp [a1, a4, strD, twD]⟩
  have h2 : (List.range l.length).findSome? (fun j => (twP l j).map twD) = (firstTw l []).map twD := by
    rw [← tw_range, List.map_findSome?]
    rfl
  rw [h2] at hf
  unfold L__law_due_0
  cases h : firstTw l [] with
  | none =>
    rw [h] at hf
    simp only [Option.map_none] at hf
    simp [-eRng1, hr, hf]
  | some t =>
    rw [h] at hf
    simp only [Option.map_some] at hf
    simp [-eRng1, hr, hf]
theorem srt_PD (pl : List (Tx × List Int)) : srtOk (pl.map PD) = true := srtOk_of (fun x hx => by
    obtain ⟨i, _, rfl⟩ := List.mem_map.mp hx
    have h1 := ordd_tx pat
    have h2 := ordd_tx i.1
    have h3 := orddL_ints i.2
    simp only [PD, ordd, orddL] at h1 h2 h3 ⊢
    simp [h1, h2, h3]) (fun x hx y hy => by
    obtain ⟨i, _, rfl⟩ := List.mem_map.mp hx
    obtain ⟨j, _, rfl⟩ := List.mem_map.mp hy
    have := cmpL_ints i.2 j.2
    simp [PD, cmpOk, cmpL, this]) (fun x hx => by
    obtain ⟨i, _, rfl⟩ := List.mem_map.mp hx
    rfl) (fun x hx => by
    obtain ⟨i, _, rfl⟩ := List.mem_map.mp hx
    have := dep_ints i.2
    simp [PD, PyData.depth, PyData.depthAll, this])
theorem srt_ED (pl : List (Tx × List Int)) : srtOk (pl.map ED) = true := srtOk_of (fun x hx => by
    obtain ⟨i, _, rfl⟩ := List.mem_map.mp hx
    have h2 := ordd_tx i.1
    have h3 := orddL_ints i.2
    simp only [ED, ordd, orddL] at h2 h3 ⊢
    simp [h2, h3]) (fun x hx y hy => by
    obtain ⟨i, _, rfl⟩ := List.mem_map.mp hx
    obtain ⟨j, _, rfl⟩ := List.mem_map.mp hy
    have := cmpL_ints i.2 j.2
    simp [ED, cmpOk, cmpL, this]) (fun x hx => by
    obtain ⟨i, _, rfl⟩ := List.mem_map.mp hx
    rfl) (fun x hx => by
    obtain ⟨i, _, rfl⟩ := List.mem_map.mp hx
    have := dep_ints i.2
    simp [ED, PyData.depth, PyData.depthAll, this])
def tongV (a b : Int) (pl el : List (Tx × List Int)) : DL.D := .tuple [.str (tx tong), .int a, .int b, .tuple (pl.map PD), .tuple (el.map ED)]
theorem fm_typed {L n : Nat} {v : DL.D} (hn : n ≤ 60) (hL : L ≤ 5000) (h : Nc L n v) (hf : isFm v = true) : ∃ a b pl el, v = tongV a b pl el ∧ pl.length ≤ L ∧ el.length ≤ L ∧ (∀ p ∈ pl, Nc L n (PD p)) ∧ (∀ p ∈ el, Nc L n (ED p)) := by
  obtain ⟨a, b, ps, es, e⟩ := (formed_any hn hL h).2.2 hf
  obtain ⟨pl, rfl, hpl⟩ := lift_all (f := PD) (Q := fun p => Nc L n (PD p)) (l := ps) fun d hd => by
    obtain ⟨h1, h2⟩ := e.hp d hd
    obtain ⟨t, ls, o⟩ := (pattern_any hn (by omega) h1).2.2 h2
    exact ⟨(t, ls), o.e, by rw [← show d = PD (t, ls) from o.e]; exact h1⟩
  obtain ⟨el, rfl, hel⟩ := lift_all (f := ED) (Q := fun p => Nc L n (ED p)) (l := es) fun d hd => by
    obtain ⟨h1, h2⟩ := e.he d hd
    obtain ⟨t, ls, o, _⟩ := (pair_any (by omega) h1).2.2 h2
    exact ⟨(t, ls), o, by rw [← show d = ED (t, ls) from o]; exact h1⟩
  exact ⟨a, b, pl, el, e.e, by simpa using e.lp, by simpa using e.le, hpl, hel⟩
theorem due_lc {α : Type} (V : DL.D) (f : α → DL.D) (g : α → Tx) (k : Int) (xs : List α) (hl : xs.length ≤ 10000) (hg : ∀ x, dIx (f x) (.int k) = some (strD (g x))) : lc__law_due_0 [.d V, .d (.tuple (xs.map f)), .d (.int k), .un, .un, .un] = .ok ((xs.map g).map strD) [.d V, .d (.tuple (xs.map f)), .d (.int k), .un, .un, .un] := by
  rw [List.map_map]
  exact nlc_map xs f _ (by simp) (by simp) (by simp; rfl) (by simp) hl fun x hx => ⟨[.d V, .d (.tuple (xs.map f)), .d (.int k), .un, .d (f x), .un], by simp, by simp [e__law_due_0, hg x], by simp, by simp⟩
def manyD (p : Bool) : DL.D := .tuple [.str (tx [109, 97, 110, 121]), .str (tx (if p = true then [112, 97, 116, 116, 101, 114, 110, 115] else [101, 120, 99, 101, 112, 116, 105, 111, 110, 115]))]
def wholeD (a b : Int) (pl el : List (Tx × List Int)) : DL.D := .tuple [.str (tx tong), .int a, .int b, .tuple (srtB (pl.map PD)), .tuple (srtB (el.map ED))]
def dueD (a b : Int) (pl el : List (Tx × List Int)) : DL.D :=
  if 400 < pl.length ∨ 200 < el.length then manyD (decide (400 < pl.length)) else match firstTw (pl.map (·.1)) [] with
    | some t => twD t
    | none => match firstTw (el.map (·.1)) [] with
      | some t => twD t
      | none => wholeD a b pl el
theorem PD_1 (p : Tx × List Int) : dIx (PD p) (.int 1) = some (strD p.1) := by simp [PD, strD]
theorem ED_0 (p : Tx × List Int) : dIx (ED p) (.int 0) = some (strD p.1) := by simp [ED, strD]
theorem due_loop (a b : Int) (pl el : List (Tx × List Int)) (h1 : pl.length ≤ 400) (h2 : el.length ≤ 200) : ∃ ρ, L__law_due_1 [.d (tongV a b pl el), .un, .un, .un, .un, .un] = match firstTw (pl.map (·.1)) [] with
    | some t => .rt (twD t) ρ
    | none => match firstTw (el.map (·.1)) [] with
      | some t => .rt (twD t) ρ
      | none => .nx [.d (tongV a b pl el), .un, .un, .un, .un, .un] := by
  have c1 := due_lc (tongV a b pl el) PD (·.1) 1 pl (by omega) PD_1
  have c2 := due_lc (tongV a b pl el) ED (·.1) 0 el (by omega) ED_0
  have d1 := due_inner (tongV a b pl el) (.tuple (pl.map PD)) (.int 1) (pl.map (·.1)) (by rw [List.length_map]; omega)
  have d2 := due_inner (tongV a b pl el) (.tuple (el.map ED)) (.int 0) (el.map (·.1)) (by rw [List.length_map]; omega)
  cases f1 : firstTw (pl.map (·.1)) [] with
  | some t =>
    rw [f1] at d1
    exact ⟨_, by simp [L__law_due_1, forRun, b__law_due_1, tongV] at c1 d1 ⊢; simp [c1, d1]; rfl⟩
  | none =>
    rw [f1] at d1
    cases f2 : firstTw (el.map (·.1)) [] with
    | some t =>
      rw [f2] at d2
      exact ⟨_, by simp [L__law_due_1, forRun, b__law_due_1, tongV] at c1 d1 c2 d2 ⊢; simp [c1, d1, c2, d2]; rfl⟩
    | none =>
      rw [f2] at d2
      exact ⟨[], by simp [L__law_due_1, forRun, b__law_due_1, tongV] at c1 d1 c2 d2 ⊢; simp [c1, d1, c2, d2]⟩
theorem srtB_len (l : List DL.D) : (srtB l).length = l.length := (srtB_perm l).length_eq
theorem due_ok (a b : Int) (pl el : List (Tx × List Int)) {L n : Nat} (hn : n ≤ 60) (hL : L ≤ 5000) (h : Nc L n (tongV a b pl el)) (hf : isFm (tongV a b pl el) = true) : m__law_due [tongV a b pl el] = .ret (dueD a b pl el) := by
  have e := (formed_any hn hL h).2.1
  rw [hf] at e
  unfold dueD
  by_cases h1 : 400 < pl.length
  · have h1' : (400 : Int) < pl.length := by omega
    simp only [h1, true_or, if_true]
    simp [m__law_due, c__law_due, fnP, e]
    simp [tongV, h1', manyD]
  · have h1' : ¬ (400 : Int) < pl.length := by omega
    by_cases h2 : 200 < el.length
    · have h2' : (200 : Int) < el.length := by omega
      simp only [h1, h2, or_true, if_true]
      simp [m__law_due, c__law_due, fnP, e]
      simp [tongV, h1', h2', manyD]
    · have h2' : ¬ (200 : Int) < el.length := by omega
      simp only [h1, h2, or_self, if_false]
      obtain ⟨ρ, hl⟩ := due_loop a b pl el (by omega) (by omega)
      have s1 := srt_PD pl
      have s2 := srt_ED el
      cases f1 : firstTw (pl.map (·.1)) [] with
      | some t =>
        rw [f1] at hl
        simp [m__law_due, c__law_due, fnP, e]
        simp [tongV, h1', h2', hl] at hl ⊢
        first | done | simp [hl]
      | none =>
        rw [f1] at hl
        cases f2 : firstTw (el.map (·.1)) [] with
        | some t =>
          rw [f2] at hl
          simp [m__law_due, c__law_due, fnP, e]
          simp [tongV, h1', h2', hl] at hl ⊢
          first | done | simp [hl]
        | none =>
          rw [f2] at hl
          have c3 := cutG_to [PyData.str (tx tong), .int a, .int b, .tuple (pl.map PD), .tuple (el.map ED)] 3
          simp at c3
          have z5 : (5 : Nat) ≤ sizeLine := le_line (by decide)
          simp [m__law_due, c__law_due, fnP, e]
          simp [tongV, h1', h2', hl, s1, s2, c3, z5, wholeD] at hl ⊢
          first | done | simp [hl, s1, s2, c3, z5, wholeD]
theorem lk_kind (x y : DL.D) : List.lookup (Str.ofString "kind") [(Str.ofString "name", x), (Str.ofString "kind", y)] = some y := by kernel_rfl
theorem due_form {v : DL.D} {L n : Nat} (hn : n ≤ 60) (hL : L ≤ 5000) (h : Nc L n v) (hf : isFm v = false) : m__law_due [v] = .ret (.tuple [.str (tx [102, 111, 114, 109]), .str (tx [])]) ∧ m__law_told [v] = .ret (.tuple [.str (tx [102, 111, 114, 109]), .str (tx [])]) := by
  have e := (formed_any hn hL h)
  rw [hf] at e
  have e1 : m_check_tongue [v] = .exc ⟨"BadTongue", [("name", .str (tx [])), ("kind", .str (tx [102, 111, 114, 109]))]⟩ := by simp [m_check_tongue, c_check_tongue, fnP, e.1]
  exact ⟨by simp [m__law_due, c__law_due, fnP, e.2.1], by simp [m__law_told, c__law_told, fnP, e1, sub_, lk_kind]⟩
theorem ck_lc1 (V s1 s2 s3 s5 s6 s8 : SV) (pl : List (Tx × List Int)) (hl : pl.length ≤ 10000) : lc_check_tongue_1 [V, s1, s2, s3, .d (.tuple (pl.map PD)), s5, s6, .un, s8] = .ok ((pl.map (·.1)).map strD) [V, s1, s2, s3, .d (.tuple (pl.map PD)), s5, s6, .un, s8] := by
  rw [List.map_map]
  exact nlc_map pl PD _ (by simp) (by simp) (by simp; rfl) (by simp) hl fun x hx => ⟨[V, s1, s2, s3, .d (.tuple (pl.map PD)), s5, s6, .d (PD x), s8], by simp, by
    have := PD_1 x
    simp [e_check_tongue_1, this], by simp, by simp⟩
theorem ck_lc0 (V s1 s2 s3 s4 s6 s8 : SV) (pl : List (Tx × List Int)) (hl : pl.length ≤ 10000) : lc_check_tongue_0 [V, s1, s2, s3, s4, .d (.tuple (pl.map ED)), s6, .un, s8] = .ok ((pl.map (·.1)).map strD) [V, s1, s2, s3, s4, .d (.tuple (pl.map ED)), s6, .un, s8] := by
  rw [List.map_map]
  exact nlc_map pl ED _ (by simp) (by simp) (by simp; rfl) (by simp) hl fun x hx => ⟨[V, s1, s2, s3, s4, .d (.tuple (pl.map ED)), s6, .d (ED x), s8], by simp, by
    have := ED_0 x
    simp [e_check_tongue_0, this], by simp, by simp⟩
def badT (t : Tx) : EV := ⟨"BadTongue", [("name", strD t), ("kind", .str (tx [116, 119, 105, 99, 101]))]⟩
theorem ck_loop (a b : Int) (pl el : List (Tx × List Int)) (h1 : pl.length ≤ 400) (h2 : el.length ≤ 200) : ∃ ρ, L_check_tongue_0 [.d (tongV a b pl el), .d (.str (tx tong)), .d (.int a), .d (.int b), .d (.tuple (pl.map PD)), .d (.tuple (el.map ED)), .un, .un, .un] = match firstTw (pl.map (·.1)) [] with
    | some t => .exc (badT t) ρ
    | none => match firstTw (el.map (·.1)) [] with
      | some t => .exc (badT t) ρ
      | none => .nx [.d (tongV a b pl el), .d (.str (tx tong)), .d (.int a), .d (.int b), .d (.tuple (pl.map PD)), .d (.tuple (el.map ED)), .un, .un, .un] := by
  have c1 := ck_lc1 (.d (tongV a b pl el)) (.d (.str (tx tong))) (.d (.int a)) (.d (.int b)) (.d (.tuple (el.map ED))) .un .un pl (by omega)
  have c2 := ck_lc0 (.d (tongV a b pl el)) (.d (.str (tx tong))) (.d (.int a)) (.d (.int b)) (.d (.tuple (pl.map PD))) .un .un el (by omega)
  have d1 := first_ok (pl.map (·.1)) (by rw [List.length_map]; omega)
  have d2 := first_ok (el.map (·.1)) (by rw [List.length_map]; omega)
  have z2 : (2 : Nat) ≤ sizeLine := le_line (by decide)
  generalize hV : tongV a b pl el = V at *
  cases f1 : firstTw (pl.map (·.1)) [] with
  | some t =>
    rw [f1] at d1
    exact ⟨_, by simp [L_check_tongue_0, forRun, b_check_tongue_0, strD, badT, z2, isNone] at c1 d1 c2 d2 ⊢; simp [c1, d1, c2, d2, z2, forRun, b_check_tongue_0, isNone, badT, strD]; rfl⟩
  | none =>
    rw [f1] at d1
    cases f2 : firstTw (el.map (·.1)) [] with
    | some t =>
      rw [f2] at d2
      exact ⟨_, by simp [L_check_tongue_0, forRun, b_check_tongue_0, strD, badT, z2, isNone] at c1 d1 c2 d2 ⊢; simp [c1, d1, c2, d2, z2, forRun, b_check_tongue_0, isNone, badT, strD]; rfl⟩
    | none =>
      rw [f2] at d2
      exact ⟨[], by simp [L_check_tongue_0, forRun, b_check_tongue_0, strD, badT, z2, isNone] at c1 d1 c2 d2 ⊢; simp [c1, d1, c2, d2, z2, forRun, b_check_tongue_0, isNone]⟩
theorem told_ok (a b : Int) (pl el : List (Tx × List Int)) {L n : Nat} (hn : n ≤ 60) (hL : L ≤ 5000) (h : Nc L n (tongV a b pl el)) (hf : isFm (tongV a b pl el) = true) : m__law_told [tongV a b pl el] = .ret (dueD a b pl el) := by
  have e := (formed_any hn hL h).1
  rw [hf] at e
  unfold dueD
  by_cases h1 : 400 < pl.length
  · have h1' : (400 : Int) < pl.length := by omega
    simp only [h1, true_or, if_true]
    have ec : m_check_tongue [tongV a b pl el] = .exc ⟨"BadTongue", [("name", .str (tx [112, 97, 116, 116, 101, 114, 110, 115])), ("kind", .str (tx [109, 97, 110, 121]))]⟩ := by
      simp [m_check_tongue, c_check_tongue, fnP, e]
      simp [tongV, h1', d_MOST_PATTERNS]
    simp [m__law_told, c__law_told, fnP, ec, sub_, lk_kind, manyD]
  · have h1' : ¬ (400 : Int) < pl.length := by omega
    by_cases h2 : 200 < el.length
    · have h2' : (200 : Int) < el.length := by omega
      simp only [h1, h2, or_true, if_true]
      have ec : m_check_tongue [tongV a b pl el] = .exc ⟨"BadTongue", [("name", .str (tx [101, 120, 99, 101, 112, 116, 105, 111, 110, 115])), ("kind", .str (tx [109, 97, 110, 121]))]⟩ := by
        simp [m_check_tongue, c_check_tongue, fnP, e]
        simp [tongV, h1', h2', d_MOST_PATTERNS, d_MOST_EXCEPTIONS]
      simp [m__law_told, c__law_told, fnP, ec, sub_, lk_kind, manyD]
    · have h2' : ¬ (200 : Int) < el.length := by omega
      simp only [h1, h2, or_self, if_false]
      obtain ⟨ρ, hl⟩ := ck_loop a b pl el (by omega) (by omega)
      have s1 := srt_PD pl
      have s2 := srt_ED el
      have z5 : (5 : Nat) ≤ sizeLine := le_line (by decide)
      cases f1 : firstTw (pl.map (·.1)) [] with
      | some t =>
        rw [f1] at hl
        have ec : m_check_tongue [tongV a b pl el] = .exc (badT t) := by
          simp [m_check_tongue, c_check_tongue, fnP, e]
          simp [tongV, h1', h2', d_MOST_PATTERNS, d_MOST_EXCEPTIONS] at hl ⊢
          simp [hl]
        simp [m__law_told, c__law_told, fnP, ec, badT, sub_, lk_kind, twD]
      | none =>
        rw [f1] at hl
        cases f2 : firstTw (el.map (·.1)) [] with
        | some t =>
          rw [f2] at hl
          have ec : m_check_tongue [tongV a b pl el] = .exc (badT t) := by
            simp [m_check_tongue, c_check_tongue, fnP, e]
            simp [tongV, h1', h2', d_MOST_PATTERNS, d_MOST_EXCEPTIONS] at hl ⊢
            simp [hl]
          simp [m__law_told, c__law_told, fnP, ec, badT, sub_, lk_kind, twD]
        | none =>
          rw [f2] at hl
          have ec : m_check_tongue [tongV a b pl el] = .ret (wholeD a b pl el) := by
            simp [m_check_tongue, c_check_tongue, fnP, e]
            simp [tongV, h1', h2', d_MOST_PATTERNS, d_MOST_EXCEPTIONS] at hl ⊢
            simp [hl, s1, s2, z5, wholeD]
            first | done | rfl
          simp [m__law_told, c__law_told, fnP, ec]
theorem tx_tr {a b c : Tx} (h1 : a < b) (h2 : b < c) : a < c := (vals_lt a c).mp (natL_tr ((vals_lt a b).mpr h1) ((vals_lt b c).mpr h2))
theorem tx_irr (a : Tx) : ¬ a < a := fun h => natL_irr _ ((vals_lt a a).mpr h)
theorem ascT_cons (p q : Tx) (r : List Tx) : ascT (p :: q :: r) = (decide (p < q) && ascT (q :: r)) := rfl
theorem ascT_lt : ∀ (p : Tx) (r : List Tx), ascT (p :: r) = true → (∀ x ∈ r, p < x) ∧ ascT r = true
  | p, [], _ => ⟨by simp, rfl⟩
  | p, q :: r, h => by
    rw [ascT_cons, Bool.and_eq_true, decide_eq_true_iff] at h
    refine ⟨fun x hx => ?_, h.2⟩
    rcases List.mem_cons.mp hx with rfl | hx
    · exact h.1
    · exact tx_tr h.1 ((ascT_lt q r h.2).1 x hx)
theorem asc_first : ∀ (r seen : List Tx), ascT r = true → (∀ x ∈ seen, ∀ y ∈ r, x < y) → firstTw r seen = none
  | [], _, _, _ => rfl
  | t :: r, seen, h, hs => by
    obtain ⟨h1, h2⟩ := ascT_lt t r h
    have ht : t ∉ seen := fun hm => tx_irr t (hs t hm t (by simp))
    rw [firstTw, if_neg ht]
    refine asc_first r (seen ++ [t]) h2 fun x hx y hy => ?_
    rcases List.mem_append.mp hx with hx | hx
    · exact hs x hx y (List.mem_cons_of_mem _ hy)
    · rw [List.mem_singleton.mp hx]
      exact h1 y hy
def tonB (pl el : List (Tx × List Int)) : Bool := decide (pl.length ≤ 400) && decide (el.length ≤ 200) && (ascT (pl.map (·.1)) && ascT (el.map (·.1)))
theorem tongue_no {v : DL.D} {L n : Nat} (hn : n ≤ 60) (hL : L ≤ 5000) (h : Nc L n v) (hf : isFm v = false) : m_is_tongue [v] = .ret (.bool false) := by
  have e := (formed_any hn hL h).1
  rw [hf] at e
  simp [m_is_tongue, c_is_tongue, fnP, e]
theorem tongue_ok (a b : Int) (pl el : List (Tx × List Int)) {L n : Nat} (hn : n ≤ 60) (hL : L ≤ 5000) (h : Nc L n (tongV a b pl el)) (hf : isFm (tongV a b pl el) = true) : m_is_tongue [tongV a b pl el] = .ret (.bool (tonB pl el)) := by
  have e := (formed_any hn hL h).1
  rw [hf] at e
  unfold tonB
  by_cases h1 : pl.length ≤ 400
  · have h1' : ¬ (400 : Int) < pl.length := by omega
    by_cases h2 : el.length ≤ 200
    · have h2' : ¬ (200 : Int) < el.length := by omega
      have c1 : lc_is_tongue_0 [.d (tongV a b pl el), .un] = .ok ((pl.map (·.1)).map strD) [.d (tongV a b pl el), .un] := by
        rw [List.map_map]
        exact nlc_map pl PD _ (by simp [tongV]) (by simp) (by simp; rfl) (by simp) (by omega) fun x hx => ⟨[.d (tongV a b pl el), .d (PD x)], by simp, by
          have := PD_1 x
          simp [e_is_tongue_0, this], by simp, by simp⟩
      have c2 : lc_is_tongue_1 [.d (tongV a b pl el), .un] = .ok ((el.map (·.1)).map strD) [.d (tongV a b pl el), .un] := by
        rw [List.map_map]
        exact nlc_map el ED _ (by simp [tongV]) (by simp) (by simp; rfl) (by simp) (by omega) fun x hx => ⟨[.d (tongV a b pl el), .d (ED x)], by simp, by
          have := ED_0 x
          simp [e_is_tongue_1, this], by simp, by simp⟩
      have a1 := asc_ok (pl.map (·.1)) (by rw [List.length_map]; omega)
      have a2 := asc_ok (el.map (·.1)) (by rw [List.length_map]; omega)
      have i3 : dIx (tongV a b pl el) (.int 3) = some (.tuple (pl.map PD)) := by simp [tongV]
      have i4 : dIx (tongV a b pl el) (.int 4) = some (.tuple (el.map ED)) := by simp [tongV]
      generalize tongV a b pl el = V at *
      generalize pl.map (·.1) = pn at *
      generalize el.map (·.1) = en at *
      cases hp : ascT pn <;> rw [hp] at a1 <;> simp [m_is_tongue, c_is_tongue, fnP, e, i3, i4, h1, h2, h1', h2', c1, c2, d_MOST_PATTERNS, d_MOST_EXCEPTIONS] at a1 a2 ⊢ <;> simp [a1, a2, c1, c2]
    · have h2' : (200 : Int) < el.length := by omega
      simp [m_is_tongue, c_is_tongue, fnP, e, h2]
      simp [tongV, h1', h2', d_MOST_PATTERNS, d_MOST_EXCEPTIONS]
  · have h1' : (400 : Int) < pl.length := by omega
    simp [m_is_tongue, c_is_tongue, fnP, e, h1]
    simp [tongV, h1', d_MOST_PATTERNS, d_MOST_EXCEPTIONS]
def isLs (v : DL.D) : Bool := match m_is_list [v] with
  | .ret (.bool b) => b
  | _ => false
theorem list_lc0 {L n : Nat} (hL : L ≤ 10000) (xs : List DL.D) (hl : xs.length ≤ L) (hx : ∀ z ∈ xs, Nc L n z) : lc_is_list_0 [.d (.tuple xs), .un, .un, .un] = .ok (xs.map fun z => .bool (isPr z)) [.d (.tuple xs), .un, .un, .un] :=
  nlc_map xs id _ (by simp) (by simp) (by simp; rfl) (by simp) (by omega) fun z hz => ⟨[.d (.tuple xs), .d z, .un, .un], by simp, by simp [e_is_list_0, (pair_any hL (hx z hz)).1], by simp, by simp⟩
theorem list_lc1 (el : List (Tx × List Int)) (hl : el.length ≤ 10000) : lc_is_list_1 [.d (.tuple (el.map ED)), .un, .un, .un] = .ok ((el.map (·.1)).map strD) [.d (.tuple (el.map ED)), .un, .un, .un] := by
  rw [List.map_map]
  exact nlc_map el ED _ (by simp) (by simp) (by simp; rfl) (by simp) hl fun x hx => ⟨[.d (.tuple (el.map ED)), .un, .d (strD x.1), .d (.tuple (x.2.map .int))], by simp [ED, strD], by simp [e_is_list_1, strD], by simp, by simp⟩
theorem list_no {v : DL.D} {L n : Nat} (h : Nc L n v) (ht : isTp v = false) : m_is_list [v] = .ret (.bool false) := by
  have := ty_tup h
  rw [ht] at this
  simp [m_is_list, c_is_list, fnP, this]
theorem list_bad {L n : Nat} (hL : L ≤ 10000) (xs : List DL.D) (hl : xs.length ≤ L) (hx : ∀ z ∈ xs, Nc L n z) (h : (decide (1 ≤ xs.length) && (decide (xs.length ≤ 200) && xs.all isPr)) = false) : m_is_list [.tuple xs] = .ret (.bool false) := by
  have c := list_lc0 hL xs hl hx
  have d := dAll_bools xs isPr
  by_cases h1 : 1 ≤ xs.length
  · have h1' : (1 : Int) ≤ xs.length := by omega
    by_cases h2 : xs.length ≤ 200
    · have h2' : (xs.length : Int) ≤ 200 := by omega
      have h3 : xs.all isPr = false := by simpa only [h1, h2, decide_true, Bool.true_and] using h
      rw [h3] at d
      simp [m_is_list, c_is_list, fnP, h1', h2', c, d, d_MOST_LIST]
    · have h2' : ¬ (xs.length : Int) ≤ 200 := by omega
      simp [m_is_list, c_is_list, fnP, h1', h2', d_MOST_LIST]
  · have h1' : ¬ (1 : Int) ≤ xs.length := by omega
    simp [m_is_list, c_is_list, fnP, h1', d_MOST_LIST]
theorem list_ok {L n : Nat} (hL : L ≤ 10000) (el : List (Tx × List Int)) (hl : el.length ≤ L) (hx : ∀ p ∈ el, Nc L n (ED p)) (h : (decide (1 ≤ el.length) && (decide (el.length ≤ 200) && (el.map ED).all isPr)) = true) : m_is_list [.tuple (el.map ED)] = .ret (.bool (ascT (el.map (·.1)))) := by
  have c := list_lc0 hL (el.map ED) (by simpa using hl) (by
    intro z hz
    obtain ⟨p, hp, rfl⟩ := List.mem_map.mp hz
    exact hx p hp)
  have d := dAll_bools (el.map ED) isPr
  have c1 := list_lc1 el (by omega)
  have a1 := asc_ok (el.map (·.1)) (by rw [List.length_map]; omega)
  simp only [Bool.and_eq_true, decide_eq_true_eq] at h
  rw [h.2.2] at d
  have h1' : (1 : Int) ≤ el.length := by omega
  have h2' : (el.length : Int) ≤ 200 := by omega
  generalize el.map (·.1) = en at *
  simp [m_is_list, c_is_list, fnP, h1', h2', c, d, c1, d_MOST_LIST, -List.map_map] at c d c1 a1 ⊢
  simp [c, d, c1, a1]
/-! draws of values -/
theorem places_go (w : Tx) (h0 : 1 ≤ w.length) (hw : w.length ≤ 100) {o : Own} (ho : Bag o) : ∃ (ps : List Int) (o' : Own), m__law_places o [.str (tx w)] = .ret (.tuple (ps.map .int)) o' ∧ Bag o' ∧ ps.length ≤ w.length := by
  have hz : w.length ≤ sizeLine := le_line (by omega)
  have er : eRng2 (aCons (eC (.int 1)) (aCons (eCallB dLen (aCons (eVar 1) aNil)) aNil)) [.own true o, .d (.str (tx w)), .un] = .ok ((List.range' 1 (w.length - 1)).map fun (i : Nat) => PyData.int (i : Int)) [.own true o, .d (.str (tx w)), .un] := by
    refine (eRng2_ok (m := 1) (n := (w.length : Nat)) (ρ1 := [.own true o, .d (.str (tx w)), .un]) (by simp [hz]) (by omega) (by omega)).trans ?_
    rw [show (1 : Int) = ((1 : Nat) : Int) by rfl, rng_from, List.range'_eq_map_range]
  obtain ⟨ys, outs, o', e2, ho', sub, ha⟩ := nlc_run (S := Own) (vs := [2]) (set := setN 2) (t := t__law_places_0) (fe := e__law_places_0) (List.range' 1 (w.length - 1)) (fun (i : Nat) => PyData.int (i : Int)) (fun o => [.own true o, .d (.str (tx w)), .un]) Bag (fun i v => v = .int (i : Int)) o
    (fun o => [.own true o, .d (.str (tx w)), .un]) er (by simp) (by simp) ho (by intro s _; simp) (by simp; omega) (by
      intro x hx s hs
      obtain ⟨i, o', e, ho', i0, i1⟩ := bag_draw hs 3 (by omega) (by omega)
      refine ⟨_, [.own true o', .d (.str (tx w)), .d (.int x)], o', rfl, ho', ?_⟩
      by_cases hi : i = 0
      · exact .inr ⟨[.own true o', .d (.str (tx w)), .d (.int x)], .int x, by simp [t__law_places_0, e, hi], by simp [e__law_places_0], rfl, by simp, by simp⟩
      · exact .inl ⟨by simp [t__law_places_0, e, hi], by simp, by simp⟩)
  have hy : outs = (ys.map fun (i : Nat) => (i : Int)).map PyData.int := by
    obtain ⟨bs, rfl, hb⟩ := all2_dec (fun i : Int => PyData.int i) (P := fun (x : Nat) (b : Int) => b = (x : Int)) (fun x v h => ⟨(x : Int), h, rfl⟩) ha
    congr 1
    exact all2_map hb
  have e2 : lc__law_places_0 [.own true o, .d (.str (tx w)), .un] = .ok outs [.own true o', .d (.str (tx w)), .un] := e2
  refine ⟨ys.map fun (i : Nat) => (i : Int), o', ?_, ho', by have h1 := sub.length_le; rw [List.length_range'] at h1; simp; omega⟩
  rw [← hy]
  simp [m__law_places, c__law_places, fnO, e2]

theorem ixN_nat (n k : Nat) (h : k < n) : ixN n (k : Int) = some k := by
  unfold ixN
  rw [if_pos (by omega), if_pos (by omega)]
  simp
theorem max_ints (l : List Int) (h : l ≠ []) : dMax [.list (l.map .int)] = some (.int (maxL l)) := by
  show (match intsD (l.map PyData.int) with
    | some l => if l ≠ [] then some (PyData.int (maxL l)) else none
    | none => none) = _
  rw [DL.ints_map]
  simp [h]
theorem pick3 (i : Int) (h0 : 0 ≤ i) (h1 : i < 3) : ∃ p : Tx, atI [PyData.str (tx []), .str (tx []), .str (tx [46])] i = some (.str (tx p)) ∧ p.length ≤ 1 ∧ (p = [] ∨ p = [46]) := by
  have : i = 0 ∨ i = 1 ∨ i = 2 := by omega
  rcases this with rfl | rfl | rfl
  · exact ⟨[], by simp, by simp, .inl rfl⟩
  · exact ⟨[], by simp, by simp, .inl rfl⟩
  · exact ⟨[46], by simp, by simp, .inr rfl⟩
theorem mul_b (p : Tx) (h : p = [] ∨ p = [46]) (b : Bool) : dMul (.str (tx p)) (.int (if b = true then 1 else 0)) = some (.str (tx (if b = true then p else []))) := by
  rcases h with rfl | rfl <;> cases b <;> kernel_rfl
theorem pick9 (i : Int) (h0 : 0 ≤ i) (h1 : i < 3) : ∃ m : Int, atI [PyData.int 2, .int 4, .int 9] i = some (.int m) ∧ 0 < m ∧ m < 100 := by
  have : i = 0 ∨ i = 1 ∨ i = 2 := by omega
  rcases this with rfl | rfl | rfl
  · exact ⟨2, by simp, by omega, by omega⟩
  · exact ⟨4, by simp, by omega, by omega⟩
  · exact ⟨9, by simp, by omega, by omega⟩
abbrev PE (L m : DL.D) (t : Tx) (s : Own × List Int) : DL.Env := [.own true s.1, .d L, .d m, .d (.str (tx t)), .own false (.lst (s.2.map .int)), .un, .un]
theorem pat_body (L m : DL.D) (t : Tx) (h1 : 1 ≤ t.length) (h2 : t.length ≤ 12) (s : Own × List Int) (x : DL.D) (hs : Bag s.1 ∧ s.2.length = t.length + 1) : ∃ s' : Own × List Int, b__law_pattern_0 [.own true s.1, .d L, .d m, .d (.str (tx t)), .own false (.lst (s.2.map .int)), .d x, .un] = .nx (PE L m t s') ∧ Bag s'.1 ∧ s'.2.length = t.length + 1 := by
  obtain ⟨o, ls⟩ := s
  obtain ⟨ho, hl⟩ := hs
  simp only at ho hl
  obtain ⟨i, o1, e1, ho1, i0, i1⟩ := bag_draw ho (ls.length : Nat) (by omega) (by omega)
  have ix : ixN ls.length i = some i.toNat := by
    have := ixN_nat ls.length i.toNat (by omega)
    rwa [show ((i.toNat : Nat) : Int) = i by omega] at this
  obtain ⟨c, r, rfl⟩ : ∃ c r, t = c :: r := by
    cases t with
    | nil => simp at h1
    | cons c r => exact ⟨c, r, rfl⟩
  have x0 := headx c r (by omega)
  have x1 := lastx (c :: r) (by simp) (by omega)
  generalize (c :: r).getLast (by simp) = cz at *
  have hz : (c :: r).length ≤ sizeLine := le_line (by omega)
  generalize c :: r = t at *
  obtain ⟨j, o2, e2, ho2, j0, j1⟩ := bag_draw ho1 3 (by omega) (by omega)
  obtain ⟨q, eq, q0, q1⟩ := pick9 j j0 j1
  obtain ⟨w, o3, e3, ho3, w0, w1⟩ := bag_draw ho2 q (by omega) (by omega)
  have hset : (ls.map PyData.int).set i.toNat (.int (1 + w)) = (ls.set i.toNat (1 + w)).map PyData.int := by rw [List.map_set]
  have yes : ∀ p : Prop, p → p = True := fun p h => eq_true h
  have no : ∀ p : Prop, ¬ p → p = False := fun p h => eq_false h
  by_cases hc : (i = 0 ∧ c = 46) ∨ (i = t.length ∧ cz = 46)
  · refine ⟨(o1, ls), ?_, ho1, hl⟩
    by_cases a1 : i = 0
    · by_cases a2 : c = 46
      · have b1 := yes _ a1
        have b2 := yes _ a2
        simp [b__law_pattern_0, e1, -dIx_s, x0, x1, hz, b1, b2]
      · have a3 : i = t.length ∧ cz = 46 := by
          rcases hc with ⟨_, h⟩ | h
          · exact absurd h a2
          · exact h
        exfalso
        omega
    · have a3 : i = t.length ∧ cz = 46 := by
        rcases hc with ⟨h, _⟩ | h
        · exact absurd h a1
        · exact h
      have b1 := no _ a1
      have b2 := yes _ a3.1
      have b3 := yes _ a3.2
      simp [b__law_pattern_0, e1, -dIx_s, x0, x1, hz, b1, b2, b3]
  · refine ⟨(o3, ls.set i.toNat (1 + w)), ?_, ho3, by simpa using hl⟩
    by_cases a1 : i = 0
    · have a2 : ¬ c = 46 := fun h => hc (.inl ⟨a1, h⟩)
      have a3 : ¬ i = t.length := by omega
      have b1 := yes _ a1
      have b2 := no _ a2
      have b3 := no _ a3
      simp [b__law_pattern_0, e1, e2, e3, eq, ix, -dIx_s, x0, x1, hz, b1, b2, b3]
    · have b1 := no _ a1
      by_cases a3 : i = t.length
      · have a4 : ¬ cz = 46 := fun h => hc (.inr ⟨a3, h⟩)
        have b3 := yes _ a3
        have b4 := no _ a4
        simp [b__law_pattern_0, e1, e2, e3, eq, ix, -dIx_s, x0, x1, hz, b1, b3, b4]
      · have b3 := no _ a3
        simp [b__law_pattern_0, e1, e2, e3, eq, ix, -dIx_s, x0, x1, hz, b1, b3]
theorem pattern_go (L : Tx) (h0 : 1 ≤ L.length) (hL : L.length ≤ 1000) (most : Int) (h1 : 1 ≤ most) (h2 : most ≤ 12) {o : Own} (ho : Bag o) :
    ∃ (t : Tx) (ls : List Int) (o' : Own), m__law_pattern o [.str (tx L), .int most] = .ret (PD (t, ls)) o' ∧ Bag o' ∧ 1 ≤ t.length ∧ t.length ≤ 12 ∧ ls.length = t.length + 1 := by
  obtain ⟨w, o1, e1, ho1, _, w1, w2⟩ := word_go L h0 hL most h1 (by omega) ho
  obtain ⟨i, o2, e2, ho2, i0, i1⟩ := bag_draw ho1 3 (by omega) (by omega)
  obtain ⟨p, ep, pl, pp⟩ := pick3 i i0 i1
  obtain ⟨j, o3, e3, ho3, j0, j1⟩ := bag_draw ho2 3 (by omega) (by omega)
  obtain ⟨q, eq, ql, qq⟩ := pick3 j j0 j1
  have za : p.length + w.length ≤ sizeLine := le_line (by omega)
  have hm : ∀ b : Bool, dMul (.str (tx q)) (.int (if b = true then 1 else 0)) = some (.str (tx (if b = true then q else []))) := mul_b q qq
  have hm1 := hm (decide (((p ++ w).length : Int) < 12))
  obtain ⟨s, hs⟩ : ∃ s : Tx, s = if (decide (((p ++ w).length : Int) < 12)) = true then q else [] := ⟨_, rfl⟩
  have sl : s.length ≤ 1 := by
    rw [hs]
    split
    · exact ql
    · simp
  rw [← hs] at hm1
  have zb : p.length + w.length + s.length ≤ sizeLine := le_line (by omega)
  obtain ⟨t, ht⟩ : ∃ t : Tx, t = (p ++ (w ++ s)).take 12 := ⟨_, rfl⟩
  have t1 : 1 ≤ t.length := by rw [ht]; simp; omega
  have t2 : t.length ≤ 12 := by rw [ht]; simp; omega
  have c12 : cutG (p ++ (w ++ s)) none (some 12) = t := by
    rw [ht]
    exact cutG_to (p ++ (w ++ s)) 12
  have zc : p.length + (w.length + s.length) ≤ sizeLine := le_line (by omega)
  have zt : t.length ≤ sizeLine := le_line (by omega)
  have zt1 : t.length + 1 ≤ sizeLine := le_line (by omega)
  have fz : fitZ (2 ^ 63) ((t.length : Int) + 1) = true := fitZ_of (by omega)
  have hrep : (List.replicate ((t.length : Int) + 1).toNat [PyData.int 0]).flatten = (List.replicate (t.length + 1) 0).map PyData.int := by
    rw [show ((t.length : Int) + 1).toNat = t.length + 1 by omega]
    generalize t.length + 1 = n
    induction n with
    | zero => rfl
    | succ n ih => rw [List.replicate_succ, List.flatten_cons, ih, List.replicate_succ]; rfl
  obtain ⟨z, o4, e4, ho4, z0, z1⟩ := bag_draw ho3 3 (by omega) (by omega)
  have lp := for_inv (set := setN 5) (body := b__law_pattern_0) (fun (i : Nat) => PyData.int (i : Int)) (PE (.str (tx L)) (.int most) t) (fun _ s => Bag s.1 ∧ s.2.length = t.length + 1) (List.range (1 + z.toNat)) (List.range (1 + z.toNat)) [] (o4, List.replicate (t.length + 1) 0) rfl ⟨ho4, by simp⟩ fun pre x post s _ hI => by
    obtain ⟨s', e, hB⟩ := pat_body (.str (tx L)) (.int most) t t1 t2 s (.int (x : Nat)) hI
    exact ⟨[.own true s.1, .d (.str (tx L)), .d (.int most), .d (.str (tx t)), .own false (.lst (s.2.map .int)), .d (.int (x : Nat)), .un], s', by simp, .inl e, hB⟩
  obtain ⟨⟨o5, ls⟩, e5, ho5, hll⟩ := lp
  simp only at ho5 hll
  have er : eRng1 (aCons (eBin dAdd (eC (.int 1)) (eCallO 0 1 m__law_draw (aCons (eC (.int 3)) aNil))) aNil) (PE (.str (tx L)) (.int most) t (o3, List.replicate (t.length + 1) 0)) = .ok ((List.range (1 + z.toNat)).map fun (i : Nat) => .int (i : Int)) (PE (.str (tx L)) (.int most) t (o4, List.replicate (t.length + 1) 0)) := by
    rw [← rng_map]
    refine range_ok ?_ (by omega)
    have : ((1 + z.toNat : Nat) : Int) = 1 + z := by omega
    rw [this]
    simp [e4]
  have hne : ls ≠ [] := by
    intro e
    rw [e] at hll
    simp at hll
  have hmx := max_ints ls hne
  have hlp : L__law_pattern_0 (PE (.str (tx L)) (.int most) t (o3, List.replicate (t.length + 1) 0)) = .nx (PE (.str (tx L)) (.int most) t (o5, ls)) := by
    unfold L__law_pattern_0
    simp [-eRng1, PE, er] at er e5 ⊢
    simp [-eRng1, er, e5]
  obtain ⟨c, r, hcr⟩ : ∃ c r, t = c :: r := by
    cases t with
    | nil => simp at t1
    | cons c r => exact ⟨c, r, rfl⟩
  have x0 : dIx (.str (tx t)) (.int 0) = some (.str (tx [c])) := by
    rw [hcr]
    exact headx c r (by rw [hcr] at t2; omega)
  have ix0 : ixN ls.length 0 = some 0 := ixN_nat ls.length 0 (by omega)
  have ix1 : ixN ls.length 1 = some 1 := ixN_nat ls.length 1 (by omega)
  by_cases hz0 : maxL ls = 0
  · by_cases hc : c = 46
    · refine ⟨t, ls.set 1 1, o5, ?_, ho5, t1, t2, by simpa using hll⟩
      simp [PE] at hlp hm1
      simp [-eRng1, -dIx_s, m__law_pattern, c__law_pattern, fnO, PD, pat, e1, e2, ep, e3, eq, za, zb, zc, hm1, c12, zt, zt1, fz, hrep, hlp, hmx, hz0, x0, hc, ix1]
    · refine ⟨t, ls.set 0 1, o5, ?_, ho5, t1, t2, by simpa using hll⟩
      simp [PE] at hlp hm1
      simp [-eRng1, -dIx_s, m__law_pattern, c__law_pattern, fnO, PD, pat, e1, e2, ep, e3, eq, za, zb, zc, hm1, c12, zt, zt1, fz, hrep, hlp, hmx, hz0, x0, hc, ix0]
  · refine ⟨t, ls, o5, ?_, ho5, t1, t2, hll⟩
    simp [PE] at hlp hm1
    simp [-eRng1, -dIx_s, m__law_pattern, c__law_pattern, fnO, PD, pat, e1, e2, ep, e3, eq, za, zb, zc, hm1, c12, zt, zt1, fz, hrep, hlp, hmx, hz0, x0]
/-! dicts whose keys are texts -/
def Kt (R : DL.D → Prop) (kvs : List (Key × DL.D)) : Prop := ∀ e ∈ kvs, (∃ t : Tx, e.1 = .inr (tx t) ∧ t.length ≤ 12) ∧ R e.2
theorem Kt.put {R : DL.D → Prop} {kvs : List (Key × DL.D)} (h : Kt R kvs) (t : Tx) (ht : t.length ≤ 12) {v : DL.D} (hv : R v) : Kt R (putKD kvs (.inr (tx t)) v) ∧ (putKD kvs (.inr (tx t)) v).length ≤ kvs.length + 1 := by
  unfold putKD
  split
  · refine ⟨fun e he => ?_, by simp⟩
    obtain ⟨p, hp, rfl⟩ := List.mem_map.mp he
    split
    · exact ⟨(h p hp).1, hv⟩
    · exact h p hp
  · refine ⟨fun e he => ?_, by simp⟩
    rcases List.mem_append.mp he with he | he
    · exact h e he
    · rw [List.mem_singleton.mp he]
      exact ⟨⟨t, rfl, ht⟩, hv⟩
theorem Kt.keys {R : DL.D → Prop} {kvs : List (Key × DL.D)} (h : Kt R kvs) : ∃ m : List Tx, srtOk (kvs.map fun p => keyD p.1) = true ∧ srtB (kvs.map fun p => keyD p.1) = m.map strD ∧ m.length = kvs.length ∧ ∀ t ∈ m, t.length ≤ 12 ∧ ∃ v, getK kvs (.inr (tx t)) = some v ∧ R v := by
  obtain ⟨ts, e1, _⟩ := lift_all (f := strD) (Q := fun _ => True) (l := kvs.map fun p => keyD p.1) fun d hd => by
    obtain ⟨p, hp, rfl⟩ := List.mem_map.mp hd
    obtain ⟨t, ht, _⟩ := (h p hp).1
    exact ⟨t, by rw [ht]; rfl, trivial⟩
  obtain ⟨m, hm, e2⟩ := srtB_map strD ts
  have hl : ts.length = kvs.length := by
    have := congrArg List.length e1
    simpa using this.symm
  refine ⟨m, ?_, ?_, by rw [hm.length_eq, hl], fun t ht => ?_⟩
  · rw [e1]
    exact srtOk_txs ts
  · rw [e1]
    exact e2
  · have h1 : t ∈ ts := hm.mem_iff.mp ht
    have h2 : strD t ∈ kvs.map fun p => keyD p.1 := by
      rw [e1]
      exact List.mem_map_of_mem h1
    obtain ⟨p, hp, ep⟩ := List.mem_map.mp h2
    obtain ⟨t', ht', hl'⟩ := (h p hp).1
    have hk : p.1 = .inr (tx t) := by
      rw [ht'] at ep ⊢
      have : PyData.str (tx t') = PyData.str (tx t) := ep
      injection this with this
      rw [this]
    have htl : t.length ≤ 12 := by
      have h3 := hk
      rw [ht'] at h3
      injection h3 with h3
      rw [← (tx_inj t' t).mp h3]
      exact hl'
    refine ⟨htl, ?_⟩
    unfold getK
    cases hf : kvs.find? fun p => decide (p.1 = .inr (tx t)) with
    | none =>
      have := List.find?_eq_none.mp hf p hp
      simp [hk] at this
    | some q => exact ⟨q.2, rfl, (h q (List.mem_of_find?_eq_some hf)).2⟩
theorem nc_ints (n : Nat) (ls : List Int) {L : Nat} (h : ls.length ≤ L) : Nc L (n + 1) (.tuple (ls.map .int)) := .tup n _ (by simpa using h) fun x hx => by
  obtain ⟨i, _, rfl⟩ := List.mem_map.mp hx
  exact .int _ i
theorem nc_PD (t : Tx) (ls : List Int) (h1 : t.length ≤ 12) (h2 : ls.length = t.length + 1) : Nc 100 2 (PD (t, ls)) := .tup 1 _ (by simp) fun x hx => by
  simp only [List.mem_cons, List.not_mem_nil, or_false] at hx
  rcases hx with rfl | rfl | rfl
  · exact .str _ pat (by decide)
  · exact .str _ t (by omega)
  · exact nc_ints 0 ls (by omega)
theorem nc_ED (t : Tx) (ls : List Int) (h1 : t.length ≤ 12) (h2 : ls.length ≤ t.length) : Nc 100 2 (ED (t, ls)) := .tup 1 _ (by simp) fun x hx => by
  simp only [List.mem_cons, List.not_mem_nil, or_false] at hx
  rcases hx with rfl | rfl
  · exact .str _ t (by omega)
  · exact nc_ints 0 ls (by omega)
abbrev TE (L a b : DL.D) (s : Own × List (Key × DL.D)) : DL.Env := [.own true s.1, .d L, .d a, .d b, .own false (.dct s.2), .un, .un, .un, .un, .un, .un, .un, .un]
theorem ton_loop0 (L : Tx) (h0 : 1 ≤ L.length) (hL : L.length ≤ 1000) (a : DL.D) (most : Int) (h1 : 1 ≤ most) (h2 : most ≤ 12) (n : Nat) (hn : n ≤ 100) {o : Own} (ho : Bag o) :
    ∃ s : Own × List (Key × DL.D), forRun (setN 5) b__law_tongue_0 ((List.range n).map fun (i : Nat) => .int (i : Int)) (TE (.str (tx L)) a (.int most) (o, [])) = .nx (TE (.str (tx L)) a (.int most) s) ∧ Bag s.1 ∧ Kt (fun d => Nc 100 2 d) s.2 ∧ s.2.length ≤ n := by
  obtain ⟨s, e, hI⟩ := for_inv (set := setN 5) (body := b__law_tongue_0) (fun (i : Nat) => PyData.int (i : Int)) (TE (.str (tx L)) a (.int most)) (fun pre s => Bag s.1 ∧ Kt (fun d => Nc 100 2 d) s.2 ∧ s.2.length ≤ pre.length) (List.range n) (List.range n) [] (o, []) rfl ⟨ho, (by intro e he; cases he), (by simp)⟩ fun pre x post s ha hI => by
    obtain ⟨o, kvs⟩ := s
    obtain ⟨ho, hk, hl⟩ := hI
    simp only at ho hk hl
    obtain ⟨t, ls, o', e, ho', t1, t2, hll⟩ := pattern_go L h0 hL most h1 h2 ho
    have hp := hk.put t t2 (nc_PD t ls t2 hll)
    have hlen : pre.length + 1 ≤ n := by
      have := congrArg List.length ha
      simp at this
      omega
    have hz : kvs.length < sizeLine := lt_line (by omega)
    refine ⟨[.own true o, .d (.str (tx L)), .d a, .d (.int most), .own false (.dct kvs), .d (.int (x : Nat)), .un, .un, .un, .un, .un, .un, .un], (o', putKD kvs (.inr (tx t)) (PD (t, ls))), by simp, .inl ?_, ho', hp.1, ?_⟩
    · simp [b__law_tongue_0, e, PD, hz]
    · have := hp.2
      simp
      omega
  exact ⟨s, e, hI.1, hI.2.1, by simpa using hI.2.2⟩
def sv : Option DL.D → SV
  | none => .un
  | some d => .d d
abbrev TF (L a b : DL.D) (kv : List (Key × DL.D)) (s : Own × List (Key × DL.D) × Option DL.D) : DL.Env := [.own true s.1, .d L, .d a, .d b, .own false (.dct kv), .un, .un, .own false (.dct s.2.1), sv s.2.2, .un, .un, .un, .un]
theorem ton_loop1 (L : Tx) (h0 : 1 ≤ L.length) (hL : L.length ≤ 1000) (a b : DL.D) (kv : List (Key × DL.D)) (n : Nat) (hn : n ≤ 100) {o : Own} (ho : Bag o) :
    ∃ s : Own × List (Key × DL.D) × Option DL.D, forRun (setN 5) b__law_tongue_1 ((List.range n).map fun (i : Nat) => .int (i : Int)) (TF (.str (tx L)) a b kv (o, [], none)) = .nx (TF (.str (tx L)) a b kv s) ∧ Bag s.1 ∧ Kt (fun d => Nc 100 1 d) s.2.1 ∧ s.2.1.length ≤ n := by
  obtain ⟨s, e, hI⟩ := for_inv (set := setN 5) (body := b__law_tongue_1) (fun (i : Nat) => PyData.int (i : Int)) (TF (.str (tx L)) a b kv) (fun pre s => Bag s.1 ∧ Kt (fun d => Nc 100 1 d) s.2.1 ∧ s.2.1.length ≤ pre.length) (List.range n) (List.range n) [] (o, [], none) rfl ⟨ho, (by intro e he; cases he), (by simp)⟩ fun pre x post s ha hI => by
    obtain ⟨o, kvs, w8⟩ := s
    obtain ⟨ho, hk, hl⟩ := hI
    simp only at ho hk hl
    obtain ⟨w, o1, e1, ho1, _, w1, w2⟩ := word_go L h0 hL 6 (by omega) (by omega) ho
    obtain ⟨ps, o2, e2, ho2, hps⟩ := places_go w w1 (by omega) ho1
    have hp := hk.put w (by omega) (nc_ints (L := 100) 0 ps (by omega))
    have hlen : pre.length + 1 ≤ n := by
      have := congrArg List.length ha
      simp at this
      omega
    have hz : kvs.length < sizeLine := lt_line (by omega)
    refine ⟨[.own true o, .d (.str (tx L)), .d a, .d b, .own false (.dct kv), .d (.int (x : Nat)), .un, .own false (.dct kvs), sv w8, .un, .un, .un, .un], (o2, putKD kvs (.inr (tx w)) (.tuple (ps.map .int)), some (strD w)), by simp, .inl ?_, ho2, hp.1, ?_⟩
    · cases w8 <;> simp [b__law_tongue_1, e1, e2, strD, hz, sv]
    · have := hp.2
      simp
      omega
  exact ⟨s, e, hI.1, hI.2.1, by simpa using hI.2.2⟩
theorem tongue_go (L : Tx) (h0 : 1 ≤ L.length) (hL : L.length ≤ 1000) (many : Nat) (hm : many ≤ 100) (most : Int) (h1 : 1 ≤ most) (h2 : most ≤ 12) {o : Own} (ho : Bag o) :
    ∃ (a b : Int) (ps es : List DL.D) (o' : Own), m__law_tongue o [.str (tx L), .int many, .int most] = .ret (.tuple [.str (tx tong), .int a, .int b, .tuple ps, .tuple es]) o' ∧ Bag o' ∧ ps.length ≤ 100 ∧ es.length ≤ 100 ∧ (∀ p ∈ ps, Nc 100 2 p) ∧ (∀ p ∈ es, Nc 100 2 p) := by
  obtain ⟨⟨o1, kv⟩, e1, ho1, hk, hkl⟩ := ton_loop0 L h0 hL (.int many) most h1 h2 many hm ho
  simp only at ho1 hk hkl
  obtain ⟨i, o2, e2, ho2, i0, i1⟩ := bag_draw ho1 4 (by omega) (by omega)
  obtain ⟨⟨o3, kw, w8⟩, e3, ho3, hw, hwl⟩ := ton_loop1 L h0 hL (.int many) (.int most) kv i.toNat (by omega) ho2
  simp only at ho3 hw hwl
  obtain ⟨x, o4, e4, ho4, _, _⟩ := bag_draw ho3 3 (by omega) (by omega)
  obtain ⟨y, o5, e5, ho5, _, _⟩ := bag_draw ho4 3 (by omega) (by omega)
  obtain ⟨ks, k1, k2, k3, k4⟩ := hk.keys
  obtain ⟨ws, v1, v2, v3, v4⟩ := hw.keys
  have er0 : eRng1 (aCons (eVar 2) aNil) (TE (.str (tx L)) (.int many) (.int most) (o, [])) = .ok ((List.range many).map fun (i : Nat) => .int (i : Int)) (TE (.str (tx L)) (.int many) (.int most) (o, [])) := by
    rw [← rng_map]
    exact range_ok (by simp) (by omega)
  have hl0 : L__law_tongue_0 (TE (.str (tx L)) (.int many) (.int most) (o, [])) = .nx (TE (.str (tx L)) (.int many) (.int most) (o1, kv)) := by
    unfold L__law_tongue_0
    simp [-eRng1, TE] at er0 e1 ⊢
    simp [-eRng1, er0, e1]
  have er1 : eRng1 (aCons (eCallO 0 1 m__law_draw (aCons (eC (.int 4)) aNil)) aNil) (TF (.str (tx L)) (.int many) (.int most) kv (o1, [], none)) = .ok ((List.range i.toNat).map fun (i : Nat) => .int (i : Int)) (TF (.str (tx L)) (.int many) (.int most) kv (o2, [], none)) := by
    rw [← rng_map]
    refine range_ok ?_ (by omega)
    have : ((i.toNat : Nat) : Int) = i := by omega
    rw [this]
    simp [e2]
  have hl1 : L__law_tongue_1 (TF (.str (tx L)) (.int many) (.int most) kv (o1, [], none)) = .nx (TF (.str (tx L)) (.int many) (.int most) kv (o3, kw, w8)) := by
    unfold L__law_tongue_1
    simp [-eRng1, TF, sv] at er1 e3 ⊢
    simp [-eRng1, er1, e3]
  have c1 : lc__law_tongue_0 [.own true o5, .d (.str (tx L)), .d (.int many), .d (.int most), .own false (.dct kv), .un, .un, .own false (.dct kw), sv w8, .d (.int (1 + x)), .d (.int (1 + y)), .un, .un] = .ok (ks.map fun t => (getK kv (.inr (tx t))).getD .none) [.own true o5, .d (.str (tx L)), .d (.int many), .d (.int most), .own false (.dct kv), .un, .un, .own false (.dct kw), sv w8, .d (.int (1 + x)), .d (.int (1 + y)), .un, .un] :=
    nlc_map ks strD _ (by simp [k1, k2]) (by cases w8 <;> simp [sv]) (by simp; rfl) (by cases w8 <;> simp [sv]) (by omega) fun t ht => ⟨[.own true o5, .d (.str (tx L)), .d (.int many), .d (.int most), .own false (.dct kv), .un, .un, .own false (.dct kw), sv w8, .d (.int (1 + x)), .d (.int (1 + y)), .un, .d (strD t)], by simp, by
      obtain ⟨_, v, hv, _⟩ := k4 t ht
      simp [e__law_tongue_0, strD, hv], by simp, by simp⟩
  have c2 : ∀ z : DL.D, lc__law_tongue_1 [.own true o5, .d (.str (tx L)), .d (.int many), .d (.int most), .own false (.dct kv), .un, .un, .own false (.dct kw), sv w8, .d (.int (1 + x)), .d (.int (1 + y)), .d z, .un] = .ok (ws.map fun t => .tuple [strD t, (getK kw (.inr (tx t))).getD .none]) [.own true o5, .d (.str (tx L)), .d (.int many), .d (.int most), .own false (.dct kv), .un, .un, .own false (.dct kw), sv w8, .d (.int (1 + x)), .d (.int (1 + y)), .d z, .un] := fun z =>
    nlc_map ws strD _ (by simp [v1, v2]) (by cases w8 <;> simp [sv]) (by simp; rfl) (by cases w8 <;> simp [sv]) (by omega) fun t ht => ⟨[.own true o5, .d (.str (tx L)), .d (.int many), .d (.int most), .own false (.dct kv), .un, .un, .own false (.dct kw), .d (strD t), .d (.int (1 + x)), .d (.int (1 + y)), .d z, .un], by simp, by
      obtain ⟨_, v, hv, _⟩ := v4 t ht
      have z2 : (2 : Nat) ≤ sizeLine := le_line (by decide)
      simp [e__law_tongue_1, strD, hv, z2], by simp, by simp⟩
  have z5 : (5 : Nat) ≤ sizeLine := le_line (by decide)
  refine ⟨1 + x, 1 + y, ks.map fun t => (getK kv (.inr (tx t))).getD .none, ws.map fun t => .tuple [strD t, (getK kw (.inr (tx t))).getD .none], o5, ?_, ho5, by rw [List.length_map]; omega, by rw [List.length_map]; omega, fun p hp => ?_, fun p hp => ?_⟩
  · have hl0 : L__law_tongue_0 [.own true o, .d (.str (tx L)), .d (.int many), .d (.int most), .own false (.dct []), .un, .un, .un, .un, .un, .un, .un, .un] = .nx [.own true o1, .d (.str (tx L)), .d (.int many), .d (.int most), .own false (.dct kv), .un, .un, .un, .un, .un, .un, .un, .un] := hl0
    have hl1 : L__law_tongue_1 [.own true o1, .d (.str (tx L)), .d (.int many), .d (.int most), .own false (.dct kv), .un, .un, .own false (.dct []), .un, .un, .un, .un, .un] = .nx [.own true o3, .d (.str (tx L)), .d (.int many), .d (.int most), .own false (.dct kv), .un, .un, .own false (.dct kw), sv w8, .un, .un, .un, .un] := hl1
    simp [m__law_tongue, c__law_tongue, fnO, hl0, hl1, e4, e5, c1, c2, z5, tong]
  · obtain ⟨t, ht, rfl⟩ := List.mem_map.mp hp
    obtain ⟨_, v, hv, hr⟩ := k4 t ht
    rw [hv]
    exact hr
  · obtain ⟨t, ht, rfl⟩ := List.mem_map.mp hp
    obtain ⟨htl, v, hv, hr⟩ := v4 t ht
    rw [hv]
    exact .tup 1 _ (by simp) fun x hx => by
      simp only [List.mem_cons, List.not_mem_nil, or_false] at hx
      rcases hx with rfl | rfl
      · exact .str _ t (by omega)
      · exact hr
/-! spoilt values -/
theorem nc_tup {L n : Nat} (xs : List DL.D) (h : xs.length ≤ L) (hx : ∀ x ∈ xs, Nc L n x) : Nc L (n + 1) (.tuple xs) := .tup n xs h hx
def spT (rc : Own → List DL.D → OO) : SC :=
    (sSeq (sIf (eTest (eBin dEq (eVar 5) (eC (.int 0))))
    (sRet (eBin dAdd (eSl dSl (eVar 1) oNone (oSome (eVar 4))) (eSl dSl (eVar 1) (oSome (eBin dAdd (eVar 4) (eC (.int 1)))) oNone)))
    sNx)
    (sSeq (sIf (eTest (eBin dEq (eVar 5) (eC (.int 1))))
    (sRet (eBin dAdd (eBin dAdd (eSl dSl (eVar 1) oNone (oSome (eVar 4))) (eTup (aCons (eVar 2) aNil))) (eSl dSl (eVar 1) (oSome (eVar 4)) oNone)))
    sNx)
    (sSeq (sIf (eTest (eBin dEq (eVar 5) (eC (.int 2))))
    (sRet (eBin dAdd (eSl dSl (eVar 1) oNone (oSome (eBin dAdd (eVar 4) (eC (.int 1))))) (eSl dSl (eVar 1) (oSome (eVar 4)) oNone)))
    sNx)
    (sSeq (sIf (eTest (eBin dEq (eVar 5) (eC (.int 3))))
    (sRet (eBin dAdd (eBin dAdd (eBin dAdd (eSl dSl (eVar 1) oNone (oSome (eVar 4))) (eSl dSl (eVar 1) (oSome (eBin dAdd (eVar 4) (eC (.int 1)))) (oSome (eBin dAdd (eVar 4) (eC (.int 2)))))) (eSl dSl (eVar 1) (oSome (eVar 4)) (oSome (eBin dAdd (eVar 4) (eC (.int 1)))))) (eSl dSl (eVar 1) (oSome (eBin dAdd (eVar 4) (eC (.int 2)))) oNone)))
    sNx)
    (sSeq (sIf (eTest (eBin dEq (eVar 5) (eC (.int 4))))
    (sRet (eN (nCallB nList (aCons (eVar 1) aNil))))
    sNx)
    (sRet (eBin dAdd (eBin dAdd (eSl dSl (eVar 1) oNone (oSome (eVar 4))) (eTup (aCons (eCallO 0 3 rc (aCons (eBin dIx (eVar 1) (eVar 4)) (aCons (eVar 2) (aCons (eBin dSub (eVar 3) (eC (.int 1))) aNil)))) aNil))) (eSl dSl (eVar 1) (oSome (eBin dAdd (eVar 4) (eC (.int 1)))) oNone))))))))
theorem c_sp (rc : Own → List DL.D → OO) : c__law_spoilt rc =
    (sSeq (sIf (eOr (eTest (eBin dEq (eVar 3) (eC (.int 0)))) (eOr (eNot (eTruth (eIsi ["tuple"] (eVar 1)))) (eOr (eTest (eBin dEq (eCallB dLen (aCons (eVar 1) aNil)) (eC (.int 0)))) (eTest (eBin dEq (eCallO 0 1 m__law_draw (aCons (eC (.int 4)) aNil)) (eC (.int 0)))))))
    (sRet (eVar 2))
    sNx)
    (sSeq (sAsg (eCallO 0 1 m__law_draw (aCons (eCallB dLen (aCons (eVar 1) aNil)) aNil)) (setN 4))
    (sSeq (sAsg (eCallO 0 1 m__law_draw (aCons (eC (.int 9)) aNil)) (setN 5))
    (spT rc)))) := rfl
abbrev SE (o : Own) (xs : List DL.D) (odd : DL.D) (dn k p : Int) : DL.Env := [.own true o, .d (.tuple xs), .d odd, .d (.int dn), .d (.int k), .d (.int p)]
theorem sp_0 (rc : Own → List DL.D → OO) (o : Own) (xs : List DL.D) (odd : DL.D) (dn k : Int) (a0 b1 : List DL.D) (A0 : cutG xs none (some k) = a0) (B1 : cutG xs (some (k + 1)) none = b1) (z : a0.length + b1.length ≤ sizeLine) : spT rc (SE o xs odd dn k 0) = .rt (.tuple (a0 ++ b1)) (SE o xs odd dn k 0) := by
  simp [spT, A0, B1, z]
theorem sp_1 (rc : Own → List DL.D → OO) (o : Own) (xs : List DL.D) (odd : DL.D) (dn k : Int) (a0 b0 : List DL.D) (A0 : cutG xs none (some k) = a0) (B0 : cutG xs (some k) none = b0) (z : a0.length + 1 ≤ sizeLine) (z2 : a0.length + 1 + b0.length ≤ sizeLine) : spT rc (SE o xs odd dn k 1) = .rt (.tuple (a0 ++ odd :: b0)) (SE o xs odd dn k 1) := by
  simp [spT, A0, B0, z, z2]
theorem sp_2 (rc : Own → List DL.D → OO) (o : Own) (xs : List DL.D) (odd : DL.D) (dn k : Int) (a1 b0 : List DL.D) (A1 : cutG xs none (some (k + 1)) = a1) (B0 : cutG xs (some k) none = b0) (z : a1.length + b0.length ≤ sizeLine) : spT rc (SE o xs odd dn k 2) = .rt (.tuple (a1 ++ b0)) (SE o xs odd dn k 2) := by
  simp [spT, A1, B0, z]
theorem sp_4 (rc : Own → List DL.D → OO) (o : Own) (xs : List DL.D) (odd : DL.D) (dn k : Int) : spT rc (SE o xs odd dn k 4) = .rt (.list xs) (SE o xs odd dn k 4) := by
  simp [spT, nList]
theorem sp_3 (rc : Own → List DL.D → OO) (o : Own) (xs : List DL.D) (odd : DL.D) (dn k : Int) (a0 c1 c0 b2 : List DL.D) (A0 : cutG xs none (some k) = a0) (M1 : cutG xs (some (k + 1)) (some (k + 2)) = c1) (M0 : cutG xs (some k) (some (k + 1)) = c0) (B2 : cutG xs (some (k + 2)) none = b2) (z1 : a0.length + c1.length ≤ sizeLine) (z2 : a0.length + (c1.length + c0.length) ≤ sizeLine) (z3 : a0.length + (c1.length + (c0.length + b2.length)) ≤ sizeLine) : spT rc (SE o xs odd dn k 3) = .rt (.tuple (a0 ++ (c1 ++ (c0 ++ b2)))) (SE o xs odd dn k 3) := by
  have z2' : a0.length + c1.length + c0.length ≤ sizeLine := by omega
  have z3' : a0.length + c1.length + c0.length + b2.length ≤ sizeLine := by omega
  have z4' : a0.length + (c1.length + c0.length) + b2.length ≤ sizeLine := by omega
  simp [spT, A0, M1, M0, B2, z1, z2, z3, z2', z3', z4']
theorem sp_5 (rc : Own → List DL.D → OO) (o o' : Own) (xs : List DL.D) (odd y u : DL.D) (dn k p : Int) (a0 b1 : List DL.D) (h : ¬ p = 0 ∧ ¬ p = 1 ∧ ¬ p = 2 ∧ ¬ p = 3 ∧ ¬ p = 4) (hy : atI xs k = some y) (hr : rc o [y, odd, .int (dn - 1)] = .ret u o') (A0 : cutG xs none (some k) = a0) (B1 : cutG xs (some (k + 1)) none = b1) (z : a0.length + 1 ≤ sizeLine) (z2 : a0.length + 1 + b1.length ≤ sizeLine) : spT rc (SE o xs odd dn k p) = .rt (.tuple (a0 ++ u :: b1)) (SE o' xs odd dn k p) := by
  simp [spT, h.1, h.2.1, h.2.2.1, h.2.2.2.1, h.2.2.2.2, hy, hr, A0, B1, z, z2]
theorem sp_head (fuel : Nat) (o o1 o2 o3 : Own) (xs : List DL.D) (odd : DL.D) (dn : Nat) (q k p : Int) (v' : DL.D) (o' : Own) (hx : ¬ (xs.length : Int) = 0) (hq : ¬ q = 0)
    (e1 : m__law_draw o [.int 4] = .ret (.int q) o1) (e2 : m__law_draw o1 [.int (xs.length : Nat)] = .ret (.int k) o2) (e3 : m__law_draw o2 [.int 9] = .ret (.int p) o3)
    (h : ∃ ρ, spT (m__law_spoilt fuel) (SE o3 xs odd ((dn : Int) + 1) k p) = .rt v' (.own true o' :: ρ)) : m__law_spoilt (fuel + 1) o [.tuple xs, odd, .int ((dn : Int) + 1)] = .ret v' o' := by
  have hd0 : ¬ ((dn : Int) + 1 = 0) := by omega
  have hxn : ¬ xs = [] := fun e => hx (by rw [e]; rfl)
  obtain ⟨ρ, h⟩ := h
  simp [m__law_spoilt, c_sp, fnO, hd0, hx, hxn, hq, e1, e2, e3, h]
theorem spoilt_go {L : Nat} (hL : L ≤ 5000) (odd : DL.D) (hodd : Nc L 1 odd) : ∀ (down fuel m : Nat) (v : DL.D), down < fuel → down ≤ 100 → Nc L m v → ∀ {o : Own}, Bag o → ∃ (v' : DL.D) (o' : Own), m__law_spoilt fuel o [v, odd, .int down] = .ret v' o' ∧ Bag o' ∧ Nc (L + 1) (m + 1) v'
  | down, 0, m, v, hf, _, _, o, ho => by omega
  | down, fuel + 1, m, v, hf, hd, hv, o, ho => by
    have ro : Nc (L + 1) (m + 1) odd := hodd.le (by omega) (by omega)
    have ty := ty_tup hv
    cases ht : isTp v with
    | false =>
      rw [ht] at ty
      refine ⟨odd, o, ?_, ho, ro⟩
      by_cases h0 : (down : Int) = 0 <;> simp [m__law_spoilt, c_sp, fnO, ty, h0, -Int.natCast_eq_zero]
    | true =>
      obtain ⟨m, xs, rfl, rfl, hl, hx⟩ := isTp_of hv ht
      cases hdn : down with
      | zero =>
        refine ⟨odd, o, ?_, ho, ro⟩
        simp [m__law_spoilt, c_sp, fnO]
      | succ dn =>
        subst hdn
        have hd0 : ¬ ((dn : Int) + 1 = 0) := by omega
        by_cases hx0 : xs.length = 0
        · refine ⟨odd, o, ?_, ho, ro⟩
          have : xs = [] := List.length_eq_zero_iff.mp hx0
          subst this
          simp [m__law_spoilt, c_sp, fnO, hd0]
        · have hx0' : ¬ (xs.length : Int) = 0 := by omega
          have hxn : ¬ xs = [] := fun e => hx0 (by rw [e]; rfl)
          obtain ⟨q, o1, e1, ho1, q0, q1⟩ := bag_draw ho 4 (by omega) (by omega)
          by_cases hq : q = 0
          · refine ⟨odd, o1, ?_, ho1, ro⟩
            simp [m__law_spoilt, c_sp, fnO, hd0, hx0', hxn, e1, hq]
          · obtain ⟨i, o2, e2, ho2, i0, i1⟩ := bag_draw ho1 (xs.length : Nat) (by omega) (by omega)
            obtain ⟨k, rfl⟩ : ∃ k : Nat, i = (k : Int) := ⟨i.toNat, by omega⟩
            have hk : k < xs.length := by omega
            obtain ⟨p, o3, e3, ho3, p0, p1⟩ := bag_draw ho2 9 (by omega) (by omega)
            have A0 := cutG_to xs k
            have B0 := cutG_from xs k
            have A1 : cutG xs none (some ((k : Int) + 1)) = xs.take (k + 1) := cutG_to xs (k + 1)
            have B1 : cutG xs (some ((k : Int) + 1)) none = xs.drop (k + 1) := cutG_from xs (k + 1)
            have B2 : cutG xs (some ((k : Int) + 2)) none = xs.drop (k + 2) := cutG_from xs (k + 2)
            have M0 : cutG xs (some (k : Int)) (some ((k : Int) + 1)) = (xs.drop k).take (k + 1 - k) := cutG_mid xs k (k + 1)
            have M1 : cutG xs (some ((k : Int) + 1)) (some ((k : Int) + 2)) = (xs.drop (k + 1)).take (k + 2 - (k + 1)) := cutG_mid xs (k + 1) (k + 2)
            have hw : ∀ x ∈ xs, Nc (L + 1) (m + 1) x := fun x h => (hx x h).le (by omega) (by omega)
            have z0 := fun (a b : List DL.D) (h : a.length + b.length ≤ L + 1) => show a.length + b.length ≤ sizeLine from le_line (by omega)
            have hat := atI_nat xs k hk
            obtain ⟨u, o4, e4, ho4, hu⟩ := spoilt_go hL odd hodd dn fuel m xs[k] (by omega) (by omega) (hx _ (List.getElem_mem _)) ho3
            have l0 : (xs.take k).length = k := by rw [List.length_take]; omega
            have l1 : (xs.take (k + 1)).length = k + 1 := by rw [List.length_take]; omega
            have d0 : (xs.drop k).length = xs.length - k := List.length_drop
            have d1 : (xs.drop (k + 1)).length = xs.length - (k + 1) := List.length_drop
            have d2 : (xs.drop (k + 2)).length = xs.length - (k + 2) := List.length_drop
            have m0 : ((xs.drop k).take (k + 1 - k)).length ≤ 1 := by rw [List.length_take]; omega
            have m1 : ((xs.drop (k + 1)).take (k + 2 - (k + 1))).length ≤ xs.length - (k + 1) := by rw [List.length_take, List.length_drop]; omega
            have m1' : ((xs.drop (k + 1)).take (k + 2 - (k + 1))).length ≤ 1 := by rw [List.length_take]; omega
            have im : ∀ x, x ∈ xs.take k → x ∈ xs := fun x h => List.mem_of_mem_take h
            have im1 : ∀ x, x ∈ xs.take (k + 1) → x ∈ xs := fun x h => List.mem_of_mem_take h
            have jm0 : ∀ x, x ∈ xs.drop k → x ∈ xs := fun x h => List.mem_of_mem_drop h
            have jm1 : ∀ x, x ∈ xs.drop (k + 1) → x ∈ xs := fun x h => List.mem_of_mem_drop h
            have jm2 : ∀ x, x ∈ xs.drop (k + 2) → x ∈ xs := fun x h => List.mem_of_mem_drop h
            have n0 : ∀ x, x ∈ (xs.drop k).take (k + 1 - k) → x ∈ xs := fun x h => jm0 x (List.mem_of_mem_take h)
            have n1 : ∀ x, x ∈ (xs.drop (k + 1)).take (k + 2 - (k + 1)) → x ∈ xs := fun x h => jm1 x (List.mem_of_mem_take h)
            generalize xs.take k = a0 at *
            generalize xs.take (k + 1) = a1 at *
            generalize (xs.drop k).take (k + 1 - k) = c0 at *
            generalize (xs.drop (k + 1)).take (k + 2 - (k + 1)) = c1 at *
            generalize xs.drop k = b0 at *
            generalize xs.drop (k + 1) = b1 at *
            generalize xs.drop (k + 2) = b2 at *
            have p8 : p = 0 ∨ p = 1 ∨ p = 2 ∨ p = 3 ∨ p = 4 ∨ (¬ p = 0 ∧ ¬ p = 1 ∧ ¬ p = 2 ∧ ¬ p = 3 ∧ ¬ p = 4) := by omega
            rcases p8 with rfl | rfl | rfl | rfl | rfl | hp
            · refine ⟨.tuple (a0 ++ b1), o3, sp_head fuel o o1 o2 o3 xs odd dn q k 0 _ _ hx0' hq e1 e2 e3 ⟨_, sp_0 _ o3 xs odd _ k a0 b1 A0 B1 (le_line (by omega))⟩, ho3, nc_tup _ (by rw [List.length_append]; omega) fun x h => ?_⟩
              rcases List.mem_append.mp h with h | h
              · exact hw x (im x h)
              · exact hw x (jm1 x h)
            · refine ⟨.tuple (a0 ++ odd :: b0), o3, sp_head fuel o o1 o2 o3 xs odd dn q k 1 _ _ hx0' hq e1 e2 e3 ⟨_, sp_1 _ o3 xs odd _ k a0 b0 A0 B0 (le_line (by omega)) (le_line (by omega))⟩, ho3, nc_tup _ (by rw [List.length_append, List.length_cons]; omega) fun x h => ?_⟩
              rcases List.mem_append.mp h with h | h
              · exact hw x (im x h)
              · rcases List.mem_cons.mp h with rfl | h
                · exact hodd.le (by omega) (by omega)
                · exact hw x (jm0 x h)
            · refine ⟨.tuple (a1 ++ b0), o3, sp_head fuel o o1 o2 o3 xs odd dn q k 2 _ _ hx0' hq e1 e2 e3 ⟨_, sp_2 _ o3 xs odd _ k a1 b0 A1 B0 (le_line (by omega))⟩, ho3, nc_tup _ (by rw [List.length_append]; omega) fun x h => ?_⟩
              rcases List.mem_append.mp h with h | h
              · exact hw x (im1 x h)
              · exact hw x (jm0 x h)
            · refine ⟨.tuple (a0 ++ (c1 ++ (c0 ++ b2))), o3, sp_head fuel o o1 o2 o3 xs odd dn q k 3 _ _ hx0' hq e1 e2 e3 ⟨_, sp_3 _ o3 xs odd _ k a0 c1 c0 b2 A0 M1 M0 B2 (le_line (by omega)) (le_line (by omega)) (le_line (by omega))⟩, ho3, nc_tup _ (by rw [List.length_append, List.length_append, List.length_append]; omega) fun x h => ?_⟩
              rcases List.mem_append.mp h with h | h
              · exact hw x (im x h)
              · rcases List.mem_append.mp h with h | h
                · exact hw x (n1 x h)
                · rcases List.mem_append.mp h with h | h
                  · exact hw x (n0 x h)
                  · exact hw x (jm2 x h)
            · exact ⟨.list xs, o3, sp_head fuel o o1 o2 o3 xs odd dn q k 4 _ _ hx0' hq e1 e2 e3 ⟨_, sp_4 _ o3 xs odd _ k⟩, ho3, .lst _ xs (by omega) fun x h => hw x h⟩
            · have e4' : m__law_spoilt fuel o3 [xs[k], odd, .int ((dn : Int) + 1 - 1)] = .ret u o4 := by
                rw [show (dn : Int) + 1 - 1 = dn by omega]
                exact e4
              refine ⟨.tuple (a0 ++ u :: b1), o4, sp_head fuel o o1 o2 o3 xs odd dn q k p _ _ hx0' hq e1 e2 e3 ⟨_, sp_5 _ o3 o4 xs odd _ u _ k p a0 b1 hp hat e4' A0 B1 (le_line (by omega)) (le_line (by omega))⟩, ho4, nc_tup _ (by rw [List.length_append, List.length_cons]; omega) fun x h => ?_⟩
              rcases List.mem_append.mp h with h | h
              · exact hw x (im x h)
              · rcases List.mem_cons.mp h with rfl | h
                · exact hu
                · exact hw x (jm1 x h)
/-! what is due is the same as itself -/
theorem ne_ordd {d : DL.D} {n : Nat} (h : ShN n d) (hn : n ≤ 64) (ho : ordd d = true) : dNe d d = some (.bool false) := by
  have h1 := h.sh hn
  have h2 := (eqv_ordd d d ho ho).mpr rfl
  unfold dNe
  rw [if_pos ⟨h1, h1⟩, h2]
  rfl
theorem ordd_PD (p : Tx × List Int) : ordd (PD p) = true := by
  have h1 := ordd_tx pat
  have h2 := ordd_tx p.1
  have h3 := orddL_ints p.2
  simp only [PD, ordd, orddL] at h1 h2 h3 ⊢
  simp [h1, h2, h3]
theorem ordd_ED (p : Tx × List Int) : ordd (ED p) = true := by
  have h2 := ordd_tx p.1
  have h3 := orddL_ints p.2
  simp only [ED, ordd, orddL] at h2 h3 ⊢
  simp [h2, h3]
theorem ordd_two (a b : Tx) : ordd (.tuple [.str (tx a), .str (tx b)]) = true := by
  have h1 := ordd_tx a
  have h2 := ordd_tx b
  simp only [ordd, orddL] at h1 h2 ⊢
  simp [h1, h2]
theorem ne_two (a b : Tx) : dNe (.tuple [.str (tx a), .str (tx b)]) (.tuple [.str (tx a), .str (tx b)]) = some (.bool false) :=
  ne_ordd (n := 1) (Nc.shN (L := a.length + b.length + 2) (nc_tup (n := 0) _ (by simp) fun x hx => by
    simp only [List.mem_cons, List.not_mem_nil, or_false] at hx
    rcases hx with rfl | rfl
    · exact .str _ a (by omega)
    · exact .str _ b (by omega))) (by decide) (ordd_two a b)
theorem ne_due (a b : Int) (pl el : List (Tx × List Int)) {L n : Nat} (hn : n ≤ 60) (hL : L ≤ 5000) (hp : ∀ p ∈ pl, Nc L n (PD p)) (he : ∀ p ∈ el, Nc L n (ED p)) (lp : pl.length ≤ L) (le : el.length ≤ L) : dNe (dueD a b pl el) (dueD a b pl el) = some (.bool false) := by
  unfold dueD
  split
  · exact ne_two _ _
  · split
    · exact ne_two _ _
    · split
      · exact ne_two _ _
      · obtain ⟨pm, p1, p2⟩ := srtB_map PD pl
        obtain ⟨em, q1, q2⟩ := srtB_map ED el
        unfold wholeD
        rw [p2, q2]
        refine ne_ordd (n := n + 2) (Nc.shN (L := L + 6) (nc_tup (n := n + 1) _ (by simp) fun x hx => ?_)) (by omega) ?_
        · simp only [List.mem_cons, List.not_mem_nil, or_false] at hx
          rcases hx with rfl | rfl | rfl | rfl | rfl
          · exact .str _ tong (by simp [tong])
          · exact .int _ _
          · exact .int _ _
          · exact nc_tup _ (by rw [List.length_map, p1.length_eq]; omega) fun y hy => by
              obtain ⟨p, hp', rfl⟩ := List.mem_map.mp hy
              exact (hp p (p1.mem_iff.mp hp')).le (by omega) (by omega)
          · exact nc_tup _ (by rw [List.length_map, q1.length_eq]; omega) fun y hy => by
              obtain ⟨p, hp', rfl⟩ := List.mem_map.mp hy
              exact (he p (q1.mem_iff.mp hp')).le (by omega) (by omega)
        · have h1 := ordd_tx tong
          have h2 : orddL (pm.map PD) = true := orddL_all fun x hx => by
            obtain ⟨p, _, rfl⟩ := List.mem_map.mp hx
            exact ordd_PD p
          have h3 : orddL (em.map ED) = true := orddL_all fun x hx => by
            obtain ⟨p, _, rfl⟩ := List.mem_map.mp hx
            exact ordd_ED p
          simp only [ordd, orddL] at h1 ⊢
          simp [h1, h2, h3]
/-! the law, in pieces -/
def lawT2 : SC := (sSeq (sAsg (eIf (eAnd (eTruth (eIsi ["tuple"] (eVar 3))) (eTest (eBin dGt (eCallB dLen (aCons (eVar 3) aNil)) (eC (.int 3))))) (eBin dIx (eVar 3) (eC (.int 3))) (eVar 3)) (setN 9))
    (sSeq L_law_2
    (sSeq (sAsg (eIf (eAnd (eTruth (eIsi ["tuple"] (eVar 3))) (eTest (eBin dEq (eCallB dLen (aCons (eVar 3) aNil)) (eC (.int 5))))) (eBin dIx (eVar 3) (eC (.int 4))) (eC .none)) (setN 10))
    (sSeq (sAsg (eAndV (eIsi ["tuple"] (eVar 10)) (eAndV (eBin dLe (eC (.int 1)) (eCallB dLen (aCons (eVar 10) aNil))) (eAndV (eBin dLt (eCallB dLen (aCons (eVar 10) aNil)) (eC (.int 201))) (eBin dNotIn (eC (.bool false)) (eN lc_law_2))))) (setN 11))
    (sIf (eTest (eBin dNe (eCallB dRepr (aCons (eCall 1 m_is_list (aCons (eVar 10) aNil)) aNil)) (eCallB dRepr (aCons (eAndV (eVar 11) (eCall 1 m__law_ascending (aCons (eN lc_law_3) aNil))) aNil))))
    (sRet (eC (.bool false)))
    sNx)))))
def lawT1 : SC := (sSeq (sAsg (eCall 1 m__law_due (aCons (eVar 3) aNil)) (setN 6))
    (sSeq (sIf (eTest (eBin dNe (eCall 1 m__law_told (aCons (eVar 3) aNil)) (eVar 6)))
    (sRet (eC (.bool false)))
    sNx)
    (sSeq (sAsg (eAndV (eBin dEq (eCallB dLen (aCons (eVar 6) aNil)) (eC (.int 5))) (eAndV (eCall 1 m__law_ascending (aCons (eN lc_law_0) aNil)) (eCall 1 m__law_ascending (aCons (eN lc_law_1) aNil)))) (setN 7))
    (sSeq (sIf (eTest (eBin dNe (eCallB dRepr (aCons (eCall 1 m_is_tongue (aCons (eVar 3) aNil)) aNil)) (eCallB dRepr (aCons (eVar 7) aNil))))
    (sRet (eC (.bool false)))
    sNx)
    (sSeq (sIf (eTruth (eCall 1 m__law_is_formed (aCons (eVar 3) aNil)))
    L_law_1
    sNx)
    lawT2)))))
def lawB : SC := (sSeq (sCallN 2 2 m__law_bag (aCons (eVar 0) (aCons (eVar 1) aNil)))
    (sSeq (sAsg (eCallO 2 3 m__law_tongue (aCons (eC (.str (tx [97, 98, 99]))) (aCons (eCallO 2 1 m__law_draw (aCons (eC (.int 9)) aNil)) (aCons (eCallO 2 1 m__law_one (aCons (eN (nLst (aCons (eC (.int 2)) (aCons (eC (.int 5)) (aCons (eC (.int 12)) aNil))))) aNil)) aNil)))) (setN 3))
    (sSeq (sIf (eTest (eBin dEq (eCallO 2 1 m__law_draw (aCons (eC (.int 3)) aNil)) (eC (.int 0))))
    (sAsg (eBin dAdd (eSl dSl (eVar 3) oNone (oSome (eC (.int 3)))) (eTup (aCons (eBin dAdd (eRev (eBin dIx (eVar 3) (eC (.int 3)))) (eSl dSl (eBin dIx (eVar 3) (eC (.int 3))) oNone (oSome (eCallO 2 1 m__law_draw (aCons (eC (.int 2)) aNil))))) (aCons (eBin dAdd (eRev (eBin dIx (eVar 3) (eC (.int 4)))) (eSl dSl (eBin dIx (eVar 3) (eC (.int 4))) oNone (oSome (eCallO 2 1 m__law_draw (aCons (eC (.int 2)) aNil))))) aNil)))) (setN 3))
    sNx)
    (sSeq (sIf (eTest (eBin dEq (eCallO 2 1 m__law_draw (aCons (eC (.int 9)) aNil)) (eC (.int 0))))
    (sAsg (eBin dAdd (eSl dSl (eVar 3) oNone (oSome (eC (.int 3)))) (eTup (aCons (eBin dMulA (eTup (aCons (eTup (aCons (eC (.str (tx [112, 97, 116, 116, 101, 114, 110]))) (aCons (eC (.str (tx [97]))) (aCons (eTup (aCons (eC (.int 1)) (aCons (eC (.int 0)) aNil))) aNil)))) aNil)) (eCallO 2 1 m__law_one (aCons (eN (nLst (aCons (eC (.int 400)) (aCons (eC (.int 401)) aNil)))) aNil))) (aCons (eBin dIx (eVar 3) (eC (.int 4))) aNil)))) (setN 3))
    sNx)
    (sSeq (sAsg (eN (nLst (aCons (eC (.int 0)) (aCons (eNeg (eC (.int 1))) (aCons (eC (.int 10)) (aCons (eC (.bool true)) (aCons (eC .none) (aCons (eC (.str (tx [120]))) (aCons (eC (.str (tx []))) (aCons (eC (.str (tx [46]))) (aCons (eC (.str (tx [97, 46, 98]))) (aCons (eC (.str (tx [46, 46]))) (aCons (eTup aNil) (aCons (eN (nLst aNil)) (aCons (eC (.str (tx [65]))) (aCons (eTup (aCons (eC (.int 1)) aNil)) (aCons (eC (.str (tx [116, 111, 110, 103, 117, 101]))) (aCons (eC (.int 1)) aNil)))))))))))))))))) (setN 4))
    (sSeq L_law_0
    lawT1))))))
theorem b_law3_eq : b_law_3 = sFg true [1, 2, 3, 5, 6, 7, 9, 10, 11] lawB := rfl
def formD : DL.D := .tuple [.str (tx [102, 111, 114, 109]), .str (tx [])]
abbrev LE (ns k : DL.D) (o : Own) (v odd : DL.D) (s6 s7 : SV) (w8 : Option DL.D) : DL.Env := [.d ns, .d k, .own false o, .d v, .d odd, .un, s6, s7, sv w8, .un, .un, .un]
theorem t1_no (ns k odd : DL.D) (o : Own) {v : DL.D} {L n : Nat} (hn : n ≤ 60) (hL : L ≤ 5000) (h : Nc L n v) (hf : isFm v = false) (w8 : Option DL.D) : lawT1 (LE ns k o v odd .un .un w8) = lawT2 (LE ns k o v odd (.d formD) (.d (.bool false)) w8) := by
  have e := formed_any hn hL h
  rw [hf] at e
  have e2 := due_form hn hL h hf
  have e3 := tongue_no hn hL h hf
  have e4 := ne_two [102, 111, 114, 109] []
  have r := dRepr_bool false
  cases w8 <;> simp [sv, lawT1, e2.1, e2.2, e3, e4, e.2.1, r, formD] <;> rfl
theorem asc_names_none (l : List Tx) (h : ascT l = true) : firstTw l [] = none := asc_first l [] h (by simp)
theorem whole_eq (a b : Int) (pl el : List (Tx × List Int)) : tonB pl el = true → dueD a b pl el = wholeD a b pl el := by
  intro h
  unfold tonB at h
  simp only [Bool.and_eq_true, decide_eq_true_eq] at h
  unfold dueD
  rw [if_neg (by omega), asc_names_none _ h.2.1, asc_names_none _ h.2.2]
theorem t1_lc0 (ns k odd : DL.D) (o : Own) (a b : Int) (pl el : List (Tx × List Int)) (d6 : DL.D) (w8 : Option DL.D) (hl : pl.length ≤ 10000) : lc_law_0 (LE ns k o (tongV a b pl el) odd (.d d6) .un w8) = .ok ((pl.map (·.1)).map strD) (LE ns k o (tongV a b pl el) odd (.d d6) .un w8) := by
  rw [List.map_map]
  exact nlc_map pl PD _ (by simp [tongV]) (by cases w8 <;> simp [sv]) (by simp; rfl) (by cases w8 <;> simp [sv]) hl fun x hx => ⟨[.d ns, .d k, .own false o, .d (tongV a b pl el), .d odd, .un, .d d6, .un, .d (PD x), .un, .un, .un], by simp, by
    have := PD_1 x
    simp [e_law_0, this], by simp, by simp⟩
theorem t1_lc1 (ns k odd : DL.D) (o : Own) (a b : Int) (pl el : List (Tx × List Int)) (d6 : DL.D) (w8 : Option DL.D) (hl : el.length ≤ 10000) : lc_law_1 (LE ns k o (tongV a b pl el) odd (.d d6) .un w8) = .ok ((el.map (·.1)).map strD) (LE ns k o (tongV a b pl el) odd (.d d6) .un w8) := by
  rw [List.map_map]
  exact nlc_map el ED _ (by simp [tongV]) (by cases w8 <;> simp [sv]) (by simp; rfl) (by cases w8 <;> simp [sv]) hl fun x hx => ⟨[.d ns, .d k, .own false o, .d (tongV a b pl el), .d odd, .un, .d d6, .un, .d (ED x), .un, .un, .un], by simp, by
    have := ED_0 x
    simp [e_law_1, this], by simp, by simp⟩
theorem l1_run (ns k odd v : DL.D) (o : Own) (s6 s7 : SV) : ∀ (xs : List DL.D) (w8 : Option DL.D), (∀ p ∈ xs, m_is_pattern [p] = .ret (.bool true)) → ∃ w : Option DL.D, forRun (setN 8) b_law_1 xs (LE ns k o v odd s6 s7 w8) = .nx (LE ns k o v odd s6 s7 w)
  | [], w8, _ => ⟨w8, rfl⟩
  | x :: xs, w8, h => by
    obtain ⟨w, e⟩ := l1_run ns k odd v o s6 s7 xs (some x) fun p hp => h p (List.mem_cons_of_mem _ hp)
    refine ⟨w, ?_⟩
    have hx := h x (by simp)
    have eb : b_law_1 (LE ns k o v odd s6 s7 (some x)) = .nx (LE ns k o v odd s6 s7 (some x)) := by
      cases s6 <;> cases s7 <;> simp [b_law_1, sv, hx, dIsNot]
    unfold forRun
    have es : setN 8 x (LE ns k o v odd s6 s7 w8) = some (LE ns k o v odd s6 s7 (some x)) := by cases w8 <;> simp [sv]
    rw [es]
    simp only [eb]
    exact e
theorem t1_ok (ns k odd : DL.D) (o : Own) (a b : Int) (pl el : List (Tx × List Int)) {L n : Nat} (hn : n ≤ 60) (hL : L ≤ 5000) (h : Nc L n (tongV a b pl el)) (hf : isFm (tongV a b pl el) = true) (hp : ∀ p ∈ pl, Nc L n (PD p)) (he : ∀ p ∈ el, Nc L n (ED p)) (lp : pl.length ≤ L) (le : el.length ≤ L) (hpt : ∀ p ∈ pl, m_is_pattern [PD p] = .ret (.bool true)) (w8 : Option DL.D) :
    ∃ w, lawT1 (LE ns k o (tongV a b pl el) odd .un .un w8) = lawT2 (LE ns k o (tongV a b pl el) odd (.d (dueD a b pl el)) (.d (.bool (tonB pl el))) w) := by
  have e := formed_any hn hL h
  rw [hf] at e
  have e1 := due_ok a b pl el hn hL h hf
  have e2 := told_ok a b pl el hn hL h hf
  have e3 := tongue_ok a b pl el hn hL h hf
  have e4 := ne_due a b pl el hn hL hp he lp le
  have c1 := t1_lc0 ns k odd o a b pl el (dueD a b pl el) w8 (by omega)
  have c2 := t1_lc1 ns k odd o a b pl el (dueD a b pl el) w8 (by omega)
  have a1 := asc_law (pl.map (·.1)) (by rw [List.length_map]; omega)
  have a2 := asc_law (el.map (·.1)) (by rw [List.length_map]; omega)
  have r1 := dRepr_bool true
  have r0 := dRepr_bool false
  obtain ⟨w, l1⟩ := l1_run ns k odd (tongV a b pl el) o (.d (dueD a b pl el)) (.d (.bool (tonB pl el))) (pl.map PD) w8 fun p hp' => by
    obtain ⟨q, hq, rfl⟩ := List.mem_map.mp hp'
    exact hpt q hq
  refine ⟨w, ?_⟩
  have i3 : dIx (tongV a b pl el) (.int 3) = some (.tuple (pl.map PD)) := by simp [tongV]
  have hd : (dLen [dueD a b pl el] = some (.int 5) ∧ tonB pl el = (ascT (pl.map (·.1)) && ascT (el.map (·.1)))) ∨ (dLen [dueD a b pl el] = some (.int 2) ∧ tonB pl el = false) := by
    by_cases hz : tonB pl el = true
    · rw [whole_eq a b pl el hz]
      refine .inl ⟨rfl, ?_⟩
      unfold tonB at hz ⊢
      simp only [Bool.and_eq_true] at hz
      rw [hz.1.1, hz.1.2]
      simp
    · have hz' : tonB pl el = false := by simpa using hz
      unfold dueD
      split
      · exact .inr ⟨rfl, hz'⟩
      · rename_i hm
        split
        · exact .inr ⟨rfl, hz'⟩
        · split
          · exact .inr ⟨rfl, hz'⟩
          · refine .inl ⟨rfl, ?_⟩
            unfold tonB
            simp
            omega
  have key : ∀ bb : Bool, tonB pl el = bb → lawT1 (LE ns k o (tongV a b pl el) odd .un .un w8) = lawT2 (LE ns k o (tongV a b pl el) odd (.d (dueD a b pl el)) (.d (.bool bb)) w) := by
    intro bb hb
    rw [hb] at e3 l1 hd
    generalize tongV a b pl el = V at *
    generalize dueD a b pl el = U at *
    have hL1 : L_law_1 (LE ns k o V odd (.d U) (.d (.bool bb)) w8) = .nx (LE ns k o V odd (.d U) (.d (.bool bb)) w) := by
      unfold L_law_1
      cases w8 <;> cases w <;> simp [sv, i3] at l1 ⊢ <;> simp [l1]
    simp only [LE] at c1 c2 hL1 ⊢
    rcases hd with ⟨d1, d2⟩ | ⟨d1, d2⟩
    · cases h1 : ascT (pl.map (·.1)) <;> rw [h1] at a1 d2 <;> cases bb <;> cases h2 : ascT (el.map (·.1)) <;> rw [h2] at a2 d2 <;> first
        | (exfalso; revert d2; decide)
        | (cases w8 <;> simp [lawT1, sv, e1, e2, e3, e4, d1, r0, r1, e.2.1, hL1] at c1 c2 a1 a2 hL1 ⊢ <;> simp [c1, c2, a1, a2, e3, r0, r1, e.2.1, hL1])
    · subst d2
      cases w8 <;> simp [lawT1, sv, e1, e2, e3, e4, d1, r0, e.2.1] at hL1 ⊢ <;> simp [e3, r0, e.2.1, hL1]
  exact key _ rfl
theorem l2_run (ns k odd v : DL.D) (o : Own) (s6 s7 s9 : SV) {L n : Nat} (hn : n ≤ 60) (hL : L ≤ 10000) : ∀ (xs : List DL.D) (w8 : Option DL.D), (∀ p ∈ xs, Nc L n p) → ∃ w : Option DL.D, forRun (setN 8) b_law_2 xs [.d ns, .d k, .own false o, .d v, .d odd, .un, s6, s7, sv w8, s9, .un, .un] = .nx [.d ns, .d k, .own false o, .d v, .d odd, .un, s6, s7, sv w, s9, .un, .un]
  | [], w8, _ => ⟨w8, rfl⟩
  | x :: xs, w8, h => by
    obtain ⟨w, e⟩ := l2_run ns k odd v o s6 s7 s9 hn hL xs (some x) fun p hp => h p (List.mem_cons_of_mem _ hp)
    refine ⟨w, ?_⟩
    have hx := pattern_any hn hL (h x (by simp))
    have r := dRepr_bool (isPt x)
    have eb : b_law_2 [.d ns, .d k, .own false o, .d v, .d odd, .un, s6, s7, sv (some x), s9, .un, .un] = .nx [.d ns, .d k, .own false o, .d v, .d odd, .un, s6, s7, sv (some x), s9, .un, .un] := by
      simp [b_law_2, sv, hx.1, hx.2.1, r]
    unfold forRun
    have es : setN 8 x [.d ns, .d k, .own false o, .d v, .d odd, .un, s6, s7, sv w8, s9, .un, .un] = some [.d ns, .d k, .own false o, .d v, .d odd, .un, s6, s7, sv (some x), s9, .un, .un] := by cases w8 <;> simp [sv]
    rw [es]
    simp only [eb]
    exact e
def lawT4 : SC := (sSeq (sAsg (eAndV (eIsi ["tuple"] (eVar 10)) (eAndV (eBin dLe (eC (.int 1)) (eCallB dLen (aCons (eVar 10) aNil))) (eAndV (eBin dLt (eCallB dLen (aCons (eVar 10) aNil)) (eC (.int 201))) (eBin dNotIn (eC (.bool false)) (eN lc_law_2))))) (setN 11))
    (sIf (eTest (eBin dNe (eCallB dRepr (aCons (eCall 1 m_is_list (aCons (eVar 10) aNil)) aNil)) (eCallB dRepr (aCons (eAndV (eVar 11) (eCall 1 m__law_ascending (aCons (eN lc_law_3) aNil))) aNil))))
    (sRet (eC (.bool false)))
    sNx))
def lawT3 : SC := (sSeq (sAsg (eIf (eAnd (eTruth (eIsi ["tuple"] (eVar 3))) (eTest (eBin dEq (eCallB dLen (aCons (eVar 3) aNil)) (eC (.int 5))))) (eBin dIx (eVar 3) (eC (.int 4))) (eC .none)) (setN 10))
    lawT4)
theorem t2_eq : lawT2 = (sSeq (sAsg (eIf (eAnd (eTruth (eIsi ["tuple"] (eVar 3))) (eTest (eBin dGt (eCallB dLen (aCons (eVar 3) aNil)) (eC (.int 3))))) (eBin dIx (eVar 3) (eC (.int 3))) (eVar 3)) (setN 9))
    (sSeq L_law_2
    lawT3)) := rfl
theorem t4_lc2 (ns k odd v : DL.D) (o : Own) (s6 s7 s9 s11 : SV) {L n : Nat} (hL : L ≤ 10000) (xs : List DL.D) (hl : xs.length ≤ L) (hx : ∀ z ∈ xs, Nc L n z) (w8 : Option DL.D) : lc_law_2 [.d ns, .d k, .own false o, .d v, .d odd, .un, s6, s7, sv w8, s9, .d (.tuple xs), s11] = .ok (xs.map fun z => .bool (isPr z)) [.d ns, .d k, .own false o, .d v, .d odd, .un, s6, s7, sv w8, s9, .d (.tuple xs), s11] :=
  nlc_map xs id _ (by simp) (by cases w8 <;> simp [sv]) (by simp; rfl) (by cases w8 <;> simp [sv]) (by omega) fun z hz => ⟨[.d ns, .d k, .own false o, .d v, .d odd, .un, s6, s7, .d z, s9, .d (.tuple xs), s11], by simp, by simp [e_law_2, (pair_any hL (hx z hz)).2.1], by simp, by simp⟩
theorem t4_lc3 (ns k odd v : DL.D) (o : Own) (s6 s7 s9 s11 : SV) (el : List (Tx × List Int)) (hl : el.length ≤ 10000) (w8 : Option DL.D) : lc_law_3 [.d ns, .d k, .own false o, .d v, .d odd, .un, s6, s7, sv w8, s9, .d (.tuple (el.map ED)), s11] = .ok ((el.map (·.1)).map strD) [.d ns, .d k, .own false o, .d v, .d odd, .un, s6, s7, sv w8, s9, .d (.tuple (el.map ED)), s11] := by
  rw [List.map_map]
  exact nlc_map el ED _ (by simp) (by cases w8 <;> simp [sv]) (by simp; rfl) (by cases w8 <;> simp [sv]) hl fun x hx => ⟨[.d ns, .d k, .own false o, .d v, .d odd, .un, s6, s7, .d (ED x), s9, .d (.tuple (el.map ED)), s11], by simp, by
    have := ED_0 x
    simp [e_law_3, this], by simp, by simp⟩
theorem t4_no (ns k odd v : DL.D) (o : Own) (d6 d7 d9 : DL.D) {r : DL.D} {L n : Nat} (h : Nc L n r) (ht : isTp r = false) (w8 : Option DL.D) : lawT4 [.d ns, .d k, .own false o, .d v, .d odd, .un, .d d6, .d d7, sv w8, .d d9, .d r, .un] = .nx [.d ns, .d k, .own false o, .d v, .d odd, .un, .d d6, .d d7, sv w8, .d d9, .d r, .d (.bool false)] := by
  have e1 := ty_tup h
  rw [ht] at e1
  have e2 := list_no h ht
  have r0 := dRepr_bool false
  simp [lawT4, e1, e2, r0]
theorem t4_tup (ns k odd v : DL.D) (o : Own) (d6 d7 d9 : DL.D) {L n : Nat} (hL : L ≤ 5000) (xs : List DL.D) (hl : xs.length ≤ L) (hx : ∀ z ∈ xs, Nc L n z) (w8 : Option DL.D) : ∃ b : Bool, lawT4 [.d ns, .d k, .own false o, .d v, .d odd, .un, .d d6, .d d7, sv w8, .d d9, .d (.tuple xs), .un] = .nx [.d ns, .d k, .own false o, .d v, .d odd, .un, .d d6, .d d7, sv w8, .d d9, .d (.tuple xs), .d (.bool b)] := by
  have c2 := t4_lc2 ns k odd v o (.d d6) (.d d7) (.d d9) .un (by omega) xs hl hx w8
  have n2 := notin_false xs isPr
  have r0 := dRepr_bool false
  have r1 := dRepr_bool true
  by_cases g : (decide (1 ≤ xs.length) && (decide (xs.length ≤ 200) && xs.all isPr)) = true
  · refine ⟨true, ?_⟩
    have hg := g
    simp only [Bool.and_eq_true, decide_eq_true_eq] at g
    obtain ⟨el, rfl, hel⟩ := lift_all (f := ED) (Q := fun p => Nc L n (ED p)) (l := xs) fun d hd => by
      have h1 := hx d hd
      obtain ⟨t, ls, eo, _⟩ := (pair_any (by omega) h1).2.2 (List.all_eq_true.mp g.2.2 d hd)
      exact ⟨(t, ls), eo, by rw [← show d = ED (t, ls) from eo]; exact h1⟩
    rw [List.length_map] at hl
    have eL := list_ok (L := L) (n := n) (by omega) el hl hel (by rw [List.length_map] at hg; exact hg)
    have c3 := t4_lc3 ns k odd v o (.d d6) (.d d7) (.d d9) (.d (.bool true)) el (by omega) w8
    have a1 := asc_law (el.map (·.1)) (by rw [List.length_map]; omega)
    have g1 : (1 : Int) ≤ el.length := by have := g.1; rw [List.length_map] at this; omega
    have g2 : (el.length : Int) < 201 := by have := g.2.1; rw [List.length_map] at this; omega
    rw [g.2.2] at n2
    cases ha : ascT (el.map (·.1)) <;> rw [ha] at eL a1 <;> simp [lawT4, c2, n2, c3, a1, eL, r0, r1, g1, g2, -List.map_map]
  · refine ⟨false, ?_⟩
    have g' : (decide (1 ≤ xs.length) && (decide (xs.length ≤ 200) && xs.all isPr)) = false := by simpa only [Bool.not_eq_true] using g
    have eL := list_bad (by omega) xs hl hx g'
    by_cases g1 : 1 ≤ xs.length
    · have g1' : (1 : Int) ≤ xs.length := by omega
      by_cases g2 : xs.length ≤ 200
      · have g2' : (xs.length : Int) < 201 := by omega
        have g3 : xs.all isPr = false := by simpa only [g1, g2, decide_true, Bool.true_and] using g'
        rw [g3] at n2
        simp [lawT4, c2, n2, eL, r0, g1', g2']
      · have g2' : ¬ (xs.length : Int) < 201 := by omega
        simp [lawT4, eL, r0, g1', g2']
    · have g1' : ¬ (1 : Int) ≤ xs.length := by omega
      simp [lawT4, eL, r0, g1']
theorem t3_ok (ns k odd : DL.D) (o : Own) (d6 d7 d9 : DL.D) {v : DL.D} {L n : Nat} (hL : L ≤ 5000) (h : Nc L n v) (w8 : Option DL.D) : ∃ (d10 d11 : DL.D), lawT3 [.d ns, .d k, .own false o, .d v, .d odd, .un, .d d6, .d d7, sv w8, .d d9, .un, .un] = .nx [.d ns, .d k, .own false o, .d v, .d odd, .un, .d d6, .d d7, sv w8, .d d9, .d d10, .d d11] := by
  have e1 := ty_tup h
  have fin : ∀ r : DL.D, (∃ m, Nc L m r) → ∃ d11 : DL.D, lawT4 [.d ns, .d k, .own false o, .d v, .d odd, .un, .d d6, .d d7, sv w8, .d d9, .d r, .un] = .nx [.d ns, .d k, .own false o, .d v, .d odd, .un, .d d6, .d d7, sv w8, .d d9, .d r, .d d11] := by
    rintro r ⟨m, hr⟩
    cases ht : isTp r with
    | false => exact ⟨_, t4_no ns k odd v o d6 d7 d9 hr ht w8⟩
    | true =>
      obtain ⟨m', xs, rfl, rfl, hl, hx⟩ := isTp_of hr ht
      obtain ⟨b, e⟩ := t4_tup ns k odd v o d6 d7 d9 hL xs hl hx w8
      exact ⟨_, e⟩
  cases ht : isTp v with
  | false =>
    rw [ht] at e1
    obtain ⟨d11, e⟩ := fin .none ⟨0, .none 0⟩
    exact ⟨.none, d11, by simp [lawT3, e1, e]⟩
  | true =>
    obtain ⟨m, xs, rfl, rfl, hl, hx⟩ := isTp_of h ht
    by_cases h5 : xs.length = 5
    · have h5' : (xs.length : Int) = 5 := by omega
      have h4 := atI_nat xs 4 (by omega)
      have h4' : atI xs 4 = some (xs[4]'(by omega)) := h4
      obtain ⟨d11, e⟩ := fin (xs[4]'(by omega)) ⟨m, hx _ (List.getElem_mem _)⟩
      exact ⟨xs[4]'(by omega), d11, by simp [lawT3, h5', h4', e]⟩
    · have h5' : ¬ (xs.length : Int) = 5 := by omega
      obtain ⟨d11, e⟩ := fin .none ⟨0, .none 0⟩
      exact ⟨.none, d11, by simp [lawT3, h5', e]⟩
theorem l2_ok (ns k odd v : DL.D) (o : Own) (d6 d7 d9 : DL.D) {L n : Nat} (hn : n ≤ 60) (hL : L ≤ 5000) (h : Nc L n d9) (w8 : Option DL.D) : ∃ w, L_law_2 [.d ns, .d k, .own false o, .d v, .d odd, .un, .d d6, .d d7, sv w8, .d d9, .un, .un] = .nx [.d ns, .d k, .own false o, .d v, .d odd, .un, .d d6, .d d7, sv w, .d d9, .un, .un] := by
  have e1 := ty_tup h
  have hL10 : L ≤ 10000 := by omega
  have hn60 := hn
  cases ht : isTp d9 with
  | false =>
    rw [ht] at e1
    obtain ⟨w, e⟩ := l2_run ns k odd v o (.d d6) (.d d7) (.d d9) (L := L) hn hL10 [d9] w8 fun p hp => by
      rw [List.mem_singleton.mp hp]
      exact h
    refine ⟨w, ?_⟩
    unfold L_law_2
    cases w8 <;> cases w <;> simp [sv, e1] at e ⊢ <;> simp [e]
  | true =>
    obtain ⟨m, xs, rfl, rfl, hl, hx⟩ := isTp_of h ht
    obtain ⟨w, e⟩ := l2_run ns k odd v o (.d d6) (.d d7) (.d (.tuple xs)) (L := L) (n := m) (by omega) hL10 xs w8 hx
    refine ⟨w, ?_⟩
    unfold L_law_2
    cases w8 <;> cases w <;> simp [sv] at e ⊢ <;> simp [e]
theorem t2_ok (ns k odd : DL.D) (o : Own) (d6 d7 : DL.D) {v : DL.D} {L n : Nat} (hn : n ≤ 60) (hL : L ≤ 5000) (h : Nc L n v) (w8 : Option DL.D) : ∃ (w : Option DL.D) (d9 d10 d11 : DL.D), lawT2 [.d ns, .d k, .own false o, .d v, .d odd, .un, .d d6, .d d7, sv w8, .un, .un, .un] = .nx [.d ns, .d k, .own false o, .d v, .d odd, .un, .d d6, .d d7, sv w, .d d9, .d d10, .d d11] := by
  have e1 := ty_tup h
  rw [t2_eq]
  have fin : ∀ d9 : DL.D, (∃ m, m ≤ 60 ∧ Nc L m d9) → ∃ (w : Option DL.D) (d10 d11 : DL.D), (sSeq L_law_2 lawT3) [.d ns, .d k, .own false o, .d v, .d odd, .un, .d d6, .d d7, sv w8, .d d9, .un, .un] = .nx [.d ns, .d k, .own false o, .d v, .d odd, .un, .d d6, .d d7, sv w, .d d9, .d d10, .d d11] := by
    rintro d9 ⟨m, hm, h9⟩
    obtain ⟨w, e⟩ := l2_ok ns k odd v o d6 d7 d9 hm hL h9 w8
    obtain ⟨d10, d11, e2⟩ := t3_ok ns k odd o d6 d7 d9 hL h w
    exact ⟨w, d10, d11, by simp only [sSeq, e, e2]⟩
  cases ht : isTp v with
  | false =>
    rw [ht] at e1
    obtain ⟨w, d10, d11, e⟩ := fin v ⟨n, hn, h⟩
    refine ⟨w, v, d10, d11, ?_⟩
    simp [e1] at e ⊢
    exact e
  | true =>
    obtain ⟨m, xs, rfl, rfl, hl, hx⟩ := isTp_of h ht
    by_cases h4 : 3 < xs.length
    · have h4' : (3 : Int) < xs.length := by omega
      have h3 : atI xs 3 = some (xs[3]'(by omega)) := atI_nat xs 3 (by omega)
      obtain ⟨w, d10, d11, e⟩ := fin (xs[3]'(by omega)) ⟨m, by omega, hx _ (List.getElem_mem _)⟩
      refine ⟨w, xs[3]'(by omega), d10, d11, ?_⟩
      simp [h4', h3] at e ⊢
      exact e
    · have h4' : ¬ (3 : Int) < xs.length := by omega
      obtain ⟨w, d10, d11, e⟩ := fin (.tuple xs) ⟨m + 1, hn, h⟩
      refine ⟨w, .tuple xs, d10, d11, ?_⟩
      simp [h4'] at e ⊢
      exact e
theorem t1_all (ns k odd : DL.D) (o : Own) {v : DL.D} {L n : Nat} (hn : n ≤ 60) (hL : L ≤ 5000) (h : Nc L n v) (w8 : Option DL.D) : ∃ (w : Option DL.D) (d6 d7 d9 d10 d11 : DL.D), lawT1 (LE ns k o v odd .un .un w8) = .nx [.d ns, .d k, .own false o, .d v, .d odd, .un, .d d6, .d d7, sv w, .d d9, .d d10, .d d11] := by
  cases hf : isFm v with
  | false =>
    obtain ⟨w, d9, d10, d11, e⟩ := t2_ok ns k odd o formD (.bool false) hn hL h w8
    exact ⟨w, formD, .bool false, d9, d10, d11, (t1_no ns k odd o hn hL h hf w8).trans e⟩
  | true =>
    obtain ⟨a, b, pl, el, rfl, lp, le, hp, he⟩ := fm_typed hn hL h hf
    have hpt : ∀ p ∈ pl, m_is_pattern [PD p] = .ret (.bool true) := by
      obtain ⟨a', b', ps, es, F⟩ := (formed_any hn hL h).2.2 hf
      have e := F.e
      unfold tongV at e
      injection e with e
      simp only [List.cons.injEq, PyData.tuple.injEq] at e
      intro p hp'
      have h1 := F.hp (PD p) (by rw [← e.2.2.2.1]; exact List.mem_map_of_mem hp')
      have h2 := (pattern_any hn (by omega) h1.1).1
      rwa [h1.2] at h2
    obtain ⟨w, e⟩ := t1_ok ns k odd o a b pl el hn hL h hf hp he lp le hpt w8
    obtain ⟨w', d9, d10, d11, e'⟩ := t2_ok ns k odd o (dueD a b pl el) (.bool (tonB pl el)) hn hL h w
    exact ⟨w', _, _, d9, d10, d11, e.trans e'⟩
def ODD : List DL.D := [.int 0, .int (-1), .int 10, .bool true, .none, .str (tx [120]), .str (tx []), .str (tx [46]), .str (tx [97, 46, 98]), .str (tx [46, 46]), .tuple [], .list [], .str (tx [65]), .tuple [.int 1], .str (tx tong), .int 1]
theorem odd_nc : ∀ x ∈ ODD, ∀ L, 100 ≤ L → Nc L 1 x := by
  intro x hx L hL
  simp only [ODD, List.mem_cons, List.not_mem_nil, or_false] at hx
  rcases hx with rfl | rfl | rfl | rfl | rfl | rfl | rfl | rfl | rfl | rfl | rfl | rfl | rfl | rfl | rfl | rfl
  · exact .int _ _
  · exact .int _ _
  · exact .int _ _
  · exact .bool _ _
  · exact .none _
  · exact .str _ _ (by simp; omega)
  · exact .str _ _ (by simp)
  · exact .str _ _ (by simp; omega)
  · exact .str _ _ (by simp; omega)
  · exact .str _ _ (by simp; omega)
  · exact .tup 0 _ (by simp) (by simp)
  · exact .lst 0 _ (by simp) (by simp)
  · exact .str _ _ (by simp; omega)
  · exact .tup 0 _ (by simp; omega) (by intro y hy; rw [List.mem_singleton.mp hy]; exact .int _ _)
  · exact .str _ _ (by simp [tong]; omega)
  · exact .int _ _
theorem spoil_loop (ns k : DL.D) (s8 : Option DL.D) (n : Nat) (hn : n ≤ 3) {o : Own} (ho : Bag o) {v : DL.D} (hv : Nc 1000 6 v) :
    ∃ (o' : Own) (v' : DL.D), forRun (setN 5) b_law_0 ((List.range n).map fun (i : Nat) => .int (i : Int)) [.d ns, .d k, .own false o, .d v, .d (.list ODD), .un, .un, .un, sv s8, .un, .un, .un] = .nx [.d ns, .d k, .own false o', .d v', .d (.list ODD), .un, .un, .un, sv s8, .un, .un, .un] ∧ Bag o' ∧ Nc 1003 9 v' := by
  obtain ⟨s, e, hI⟩ := for_inv (set := setN 5) (body := b_law_0) (fun (i : Nat) => PyData.int (i : Int)) (fun s : Own × DL.D => [.d ns, .d k, .own false s.1, .d s.2, .d (.list ODD), .un, .un, .un, sv s8, .un, .un, .un]) (fun pre s => Bag s.1 ∧ Nc (1000 + pre.length) (6 + pre.length) s.2) (List.range n) (List.range n) [] (o, v) rfl ⟨ho, hv⟩ fun pre x post s ha hI => by
    obtain ⟨o, v⟩ := s
    obtain ⟨ho, hv⟩ := hI
    have hlen : pre.length + 1 ≤ n := by
      have := congrArg List.length ha
      simp at this
      omega
    obtain ⟨i, o1, e1, ho1, i0, i1⟩ := bag_draw ho 16 (by omega) (by omega)
    obtain ⟨j, rfl⟩ : ∃ j : Nat, i = (j : Int) := ⟨i.toNat, by omega⟩
    have hj : j < ODD.length := by simp [ODD]; omega
    have hat := atI_nat ODD j hj
    obtain ⟨v', o2, e2, ho2, hv'⟩ := spoilt_go (L := 1000 + pre.length) (by omega) ODD[j] (odd_nc _ (List.getElem_mem _) _ (by omega)) 9 12 (6 + pre.length) v (by omega) (by omega) hv ho1
    have e2 : m__law_spoilt 12 o1 [v, ODD[j], .int 9] = .ret v' o2 := e2
    refine ⟨[.d ns, .d k, .own false o, .d v, .d (.list ODD), .d (.int (x : Nat)), .un, .un, sv s8, .un, .un, .un], (o2, v'), by simp, .inl ?_, ho2, by rw [List.length_append]; exact hv'⟩
    generalize ODD = OD at *
    cases s8 <;> simp [b_law_0, sv, e1, hat, e2]
  obtain ⟨o', v'⟩ := s
  exact ⟨o', v', e, hI.1, hI.2.le (by simp; omega) (by simp; omega)⟩
def hA : SC := (sAsg (eCallO 2 3 m__law_tongue (aCons (eC (.str (tx [97, 98, 99]))) (aCons (eCallO 2 1 m__law_draw (aCons (eC (.int 9)) aNil)) (aCons (eCallO 2 1 m__law_one (aCons (eN (nLst (aCons (eC (.int 2)) (aCons (eC (.int 5)) (aCons (eC (.int 12)) aNil))))) aNil)) aNil)))) (setN 3))
def hB : SC := (sIf (eTest (eBin dEq (eCallO 2 1 m__law_draw (aCons (eC (.int 3)) aNil)) (eC (.int 0))))
    (sAsg (eBin dAdd (eSl dSl (eVar 3) oNone (oSome (eC (.int 3)))) (eTup (aCons (eBin dAdd (eRev (eBin dIx (eVar 3) (eC (.int 3)))) (eSl dSl (eBin dIx (eVar 3) (eC (.int 3))) oNone (oSome (eCallO 2 1 m__law_draw (aCons (eC (.int 2)) aNil))))) (aCons (eBin dAdd (eRev (eBin dIx (eVar 3) (eC (.int 4)))) (eSl dSl (eBin dIx (eVar 3) (eC (.int 4))) oNone (oSome (eCallO 2 1 m__law_draw (aCons (eC (.int 2)) aNil))))) aNil)))) (setN 3))
    sNx)
def hC : SC := (sIf (eTest (eBin dEq (eCallO 2 1 m__law_draw (aCons (eC (.int 9)) aNil)) (eC (.int 0))))
    (sAsg (eBin dAdd (eSl dSl (eVar 3) oNone (oSome (eC (.int 3)))) (eTup (aCons (eBin dMulA (eTup (aCons (eTup (aCons (eC (.str (tx [112, 97, 116, 116, 101, 114, 110]))) (aCons (eC (.str (tx [97]))) (aCons (eTup (aCons (eC (.int 1)) (aCons (eC (.int 0)) aNil))) aNil)))) aNil)) (eCallO 2 1 m__law_one (aCons (eN (nLst (aCons (eC (.int 400)) (aCons (eC (.int 401)) aNil)))) aNil))) (aCons (eBin dIx (eVar 3) (eC (.int 4))) aNil)))) (setN 3))
    sNx)
def hD : SC := (sAsg (eN (nLst (aCons (eC (.int 0)) (aCons (eNeg (eC (.int 1))) (aCons (eC (.int 10)) (aCons (eC (.bool true)) (aCons (eC .none) (aCons (eC (.str (tx [120]))) (aCons (eC (.str (tx []))) (aCons (eC (.str (tx [46]))) (aCons (eC (.str (tx [97, 46, 98]))) (aCons (eC (.str (tx [46, 46]))) (aCons (eTup aNil) (aCons (eN (nLst aNil)) (aCons (eC (.str (tx [65]))) (aCons (eTup (aCons (eC (.int 1)) aNil)) (aCons (eC (.str (tx [116, 111, 110, 103, 117, 101]))) (aCons (eC (.int 1)) aNil)))))))))))))))))) (setN 4))
theorem lawB_eq : lawB = sSeq (sCallN 2 2 m__law_bag (aCons (eVar 0) (aCons (eVar 1) aNil))) (sSeq hA (sSeq hB (sSeq hC (sSeq hD (sSeq L_law_0 lawT1))))) := rfl
abbrev HE (ns k : DL.D) (o : Own) (v4 v3 : SV) (w8 : Option DL.D) : DL.Env := [.d ns, .d k, .own false o, v3, v4, .un, .un, .un, sv w8, .un, .un, .un]
theorem hD_ok (ns k v : DL.D) (o : Own) (w4 w8 : Option DL.D) : hD (HE ns k o (sv w4) (.d v) w8) = .nx (HE ns k o (.d (.list ODD)) (.d v) w8) := by
  cases w4 <;> cases w8 <;> simp [hD, sv, ODD, tong]
abbrev TV (a b : Int) (ps es : List DL.D) : DL.D := .tuple [.str (tx tong), .int a, .int b, .tuple ps, .tuple es]
theorem hA_ok (ns k : DL.D) {o : Own} (ho : Bag o) (w4 w8 : Option DL.D) : ∃ (a b : Int) (ps es : List DL.D) (o' : Own), hA (HE ns k o (sv w4) .un w8) = .nx (HE ns k o' (sv w4) (.d (TV a b ps es)) w8) ∧ Bag o' ∧ ps.length ≤ 100 ∧ es.length ≤ 100 ∧ (∀ p ∈ ps, Nc 100 2 p) ∧ (∀ p ∈ es, Nc 100 2 p) := by
  obtain ⟨i, o1, e1, ho1, i0, i1⟩ := bag_draw ho 9 (by omega) (by omega)
  obtain ⟨j, rfl⟩ : ∃ j : Nat, i = (j : Int) := ⟨i.toNat, by omega⟩
  obtain ⟨x, o2, e2, ho2, hx⟩ := one_go [.int 2, .int 5, .int 12] (by simp) (by simp) ho1
  obtain ⟨m, rfl, m1, m2⟩ : ∃ m : Int, x = .int m ∧ 1 ≤ m ∧ m ≤ 12 := by
    simp only [List.mem_cons, List.not_mem_nil, or_false] at hx
    rcases hx with rfl | rfl | rfl
    · exact ⟨2, rfl, by omega, by omega⟩
    · exact ⟨5, rfl, by omega, by omega⟩
    · exact ⟨12, rfl, by omega, by omega⟩
  obtain ⟨a, b, ps, es, o3, e3, ho3, h1, h2, h3, h4⟩ := tongue_go [97, 98, 99] (by simp) (by simp) j (by omega) m m1 m2 ho2
  refine ⟨a, b, ps, es, o3, ?_, ho3, h1, h2, h3, h4⟩
  cases w4 <;> cases w8 <;> simp [hA, sv, e1, e2, e3]
theorem hB_ok (ns k : DL.D) (a b : Int) (ps es : List DL.D) (h1 : ps.length ≤ 100) (h2 : es.length ≤ 100) (h3 : ∀ p ∈ ps, Nc 100 2 p) (h4 : ∀ p ∈ es, Nc 100 2 p) {o : Own} (ho : Bag o) (w4 w8 : Option DL.D) : ∃ (ps' es' : List DL.D) (o' : Own), hB (HE ns k o (sv w4) (.d (TV a b ps es)) w8) = .nx (HE ns k o' (sv w4) (.d (TV a b ps' es')) w8) ∧ Bag o' ∧ ps'.length ≤ 200 ∧ es'.length ≤ 200 ∧ (∀ p ∈ ps', Nc 100 2 p) ∧ (∀ p ∈ es', Nc 100 2 p) := by
  obtain ⟨i, o1, e1, ho1, i0, i1⟩ := bag_draw ho 3 (by omega) (by omega)
  by_cases hi : i = 0
  · obtain ⟨x, o2, e2, ho2, x0, x1⟩ := bag_draw ho1 2 (by omega) (by omega)
    obtain ⟨y, o3, e3, ho3, y0, y1⟩ := bag_draw ho2 2 (by omega) (by omega)
    have l1 := cutG_le ps none (some x)
    have l2 := cutG_le es none (some y)
    have m1 : ∀ p ∈ cutG ps none (some x), p ∈ ps := fun p hp => List.mem_of_mem_drop (List.mem_of_mem_take hp)
    have m2 : ∀ p ∈ cutG es none (some y), p ∈ es := fun p hp => List.mem_of_mem_drop (List.mem_of_mem_take hp)
    have c3 : cutG [PyData.str (tx tong), .int a, .int b, .tuple ps, .tuple es] none (some 3) = [PyData.str (tx tong), .int a, .int b] := cutG_to _ 3
    generalize hc : cutG ps none (some x) = cp at *
    generalize hd : cutG es none (some y) = ce at *
    have z1 : ps.length + cp.length ≤ sizeLine := le_line (by omega)
    have z2 : es.length + ce.length ≤ sizeLine := le_line (by omega)
    have z5 : (5 : Nat) ≤ sizeLine := le_line (by decide)
    have z2' : (2 : Nat) ≤ sizeLine := le_line (by decide)
    refine ⟨ps.reverse ++ cp, es.reverse ++ ce, o3, ?_, ho3, by rw [List.length_append, List.length_reverse]; omega, by rw [List.length_append, List.length_reverse]; omega, fun p hp => ?_, fun p hp => ?_⟩
    · cases w4 <;> cases w8 <;> simp [hB, sv, e1, hi, e2, e3, hc, hd, c3, z1, z2, z5, z2']
    · rcases List.mem_append.mp hp with hp | hp
      · exact h3 p (List.mem_reverse.mp hp)
      · exact h3 p (m1 p hp)
    · rcases List.mem_append.mp hp with hp | hp
      · exact h4 p (List.mem_reverse.mp hp)
      · exact h4 p (m2 p hp)
  · refine ⟨ps, es, o1, ?_, ho1, by omega, by omega, h3, h4⟩
    cases w4 <;> cases w8 <;> simp [hB, sv, e1, hi]
def ONEP : DL.D := .tuple [.str (tx [112, 97, 116, 116, 101, 114, 110]), .str (tx [97]), .tuple [.int 1, .int 0]]
theorem onep_nc : Nc 100 2 ONEP := by
  refine .tup 1 _ (by simp) fun x hx => ?_
  simp only [List.mem_cons, List.not_mem_nil, or_false] at hx
  rcases hx with rfl | rfl | rfl
  · exact .str _ _ (by simp)
  · exact .str _ _ (by simp)
  · refine .tup 0 _ (by simp) fun x hx => ?_
    simp only [List.mem_cons, List.not_mem_nil, or_false] at hx
    rcases hx with rfl | rfl <;> exact .int _ _
theorem mul_one (n : Nat) (h : n = 400 ∨ n = 401) : dMulA (.tuple [ONEP]) (.int (n : Int)) = some (.tuple (List.replicate n ONEP)) := by
  show (if [ONEP].isEmpty = false ∧ (2 : Int) ≤ (n : Int) ∧ Nat.ble ((n : Int)).natAbs 1000 = true ∧ Nat.ble [ONEP].length 1000 = true then some (PyData.tuple (List.replicate ((n : Int)).toNat [ONEP]).flatten) else none) = _
  rw [if_pos ⟨rfl, by rcases h with rfl | rfl <;> decide, by rcases h with rfl | rfl <;> decide, by decide⟩]
  congr 2
  rw [Int.toNat_natCast]
  clear h
  induction n with
  | zero => rfl
  | succ n ih => rw [List.replicate_succ, List.flatten_cons, ih, List.replicate_succ]; rfl
theorem hC_ok (ns k : DL.D) (a b : Int) (ps es : List DL.D) (h1 : ps.length ≤ 200) (h2 : es.length ≤ 200) (h3 : ∀ p ∈ ps, Nc 100 2 p) {o : Own} (ho : Bag o) (w4 w8 : Option DL.D) : ∃ (ps' : List DL.D) (o' : Own), hC (HE ns k o (sv w4) (.d (TV a b ps es)) w8) = .nx (HE ns k o' (sv w4) (.d (TV a b ps' es)) w8) ∧ Bag o' ∧ ps'.length ≤ 401 ∧ (∀ p ∈ ps', Nc 100 2 p) := by
  obtain ⟨i, o1, e1, ho1, i0, i1⟩ := bag_draw ho 9 (by omega) (by omega)
  by_cases hi : i = 0
  · obtain ⟨x, o2, e2, ho2, hx⟩ := one_go [.int 400, .int 401] (by simp) (by simp) ho1
    obtain ⟨m, rfl, hm⟩ : ∃ m : Nat, x = .int (m : Int) ∧ (m = 400 ∨ m = 401) := by
      simp only [List.mem_cons, List.not_mem_nil, or_false] at hx
      rcases hx with rfl | rfl
      · exact ⟨400, rfl, .inl rfl⟩
      · exact ⟨401, rfl, .inr rfl⟩
    have em := mul_one m hm
    have c3 : cutG [PyData.str (tx tong), .int a, .int b, .tuple ps, .tuple es] none (some 3) = [PyData.str (tx tong), .int a, .int b] := cutG_to _ 3
    have z5 : (5 : Nat) ≤ sizeLine := le_line (by omega)
    have z2' : (2 : Nat) ≤ sizeLine := le_line (by omega)
    have z1 : (1 : Nat) ≤ sizeLine := le_line (by omega)
    have z3 : (3 : Nat) ≤ sizeLine := le_line (by omega)
    refine ⟨List.replicate m ONEP, o2, ?_, ho2, by rw [List.length_replicate]; rcases hm with rfl | rfl <;> decide, fun p hp => ?_⟩
    · generalize hL : List.replicate m ONEP = LL at *
      unfold ONEP at em
      cases w4 <;> cases w8 <;> simp [hC, sv, e1, hi, e2, em, c3, z5, z2', z1, z3]
    · rw [(List.mem_replicate.mp hp).2]
      exact onep_nc
  · refine ⟨ps, o1, ?_, ho1, by omega, h3⟩
    cases w4 <;> cases w8 <;> simp [hC, sv, e1, hi]
theorem tv_nc {a b : Int} {ps es : List DL.D} (h1 : ps.length ≤ 401) (h2 : es.length ≤ 200) (h3 : ∀ p ∈ ps, Nc 100 2 p) (h4 : ∀ p ∈ es, Nc 100 2 p) : Nc 1000 6 (TV a b ps es) := by
  refine .tup 5 _ (by simp) fun x hx => ?_
  simp only [List.mem_cons, List.not_mem_nil, or_false] at hx
  rcases hx with rfl | rfl | rfl | rfl | rfl
  · exact .str _ _ (by simp [tong])
  · exact .int _ _
  · exact .int _ _
  · exact .tup 4 _ (by omega) fun p hp => (h3 p hp).le (by omega) (by omega)
  · exact .tup 4 _ (by omega) fun p hp => (h4 p hp).le (by omega) (by omega)
theorem l0_ok (ns k : DL.D) (s8 : Option DL.D) {o : Own} (ho : Bag o) {v : DL.D} (hv : Nc 1000 6 v) : ∃ (o' : Own) (v' : DL.D), L_law_0 (HE ns k o (.d (.list ODD)) (.d v) s8) = .nx (HE ns k o' (.d (.list ODD)) (.d v') s8) ∧ Bag o' ∧ Nc 1003 9 v' := by
  obtain ⟨i, o1, e1, ho1, i0, i1⟩ := bag_draw ho 3 (by omega) (by omega)
  obtain ⟨n, rfl⟩ : ∃ n : Nat, i = (n : Int) := ⟨i.toNat, by omega⟩
  obtain ⟨o', v', e2, ho', hv'⟩ := spoil_loop ns k s8 n (by omega) ho1 hv
  rw [← rng_map] at e2
  refine ⟨o', v', ?_, ho', hv'⟩
  have er : eRng1 (aCons (eCallO 2 1 m__law_draw (aCons (eC (.int 3)) aNil)) aNil) (HE ns k o (.d (.list ODD)) (.d v) s8) = .ok (rng 0 n) (HE ns k o1 (.d (.list ODD)) (.d v) s8) := range_ok (by simp [e1]) (by omega)
  generalize ODD = OD at *
  cases s8 <;> simp only [HE, sv] at er e2 <;> simp [-eRng1, L_law_0, sv, er, e2]
theorem seq_nx {c d : SC} {ρ ρ' : DL.Env} (h : c ρ = .nx ρ') : sSeq c d ρ = d ρ' := by
  unfold sSeq
  rw [h]
theorem turn_ok (ns : List Int) (k : Nat) (hk : k ≤ 20) (w4 w8 : Option DL.D) : ∃ w' : Option DL.D, b_law_3 [.d (.list (ns.map .int)), .d (.int (k : Nat)), .un, .un, sv w4, .un, .un, .un, sv w8, .un, .un, .un] = .nx [.d (.list (ns.map .int)), .un, .un, .un, .d (.list ODD), .un, .un, .un, sv w', .un, .un, .un] := by
  obtain ⟨o, e0, ho⟩ := bag_go ns k (by omega)
  obtain ⟨a, b, ps, es, o1, e1, ho1, q1, q2, q3, q4⟩ := hA_ok (.list (ns.map .int)) (.int (k : Nat)) ho w4 w8
  obtain ⟨ps', es', o2, e2, ho2, r1, r2, r3, r4⟩ := hB_ok (.list (ns.map .int)) (.int (k : Nat)) a b ps es q1 q2 q3 q4 ho1 w4 w8
  obtain ⟨ps2, o3, e3, ho3, t1, t3⟩ := hC_ok (.list (ns.map .int)) (.int (k : Nat)) a b ps' es' r1 r2 r3 ho2 w4 w8
  have e4 := hD_ok (.list (ns.map .int)) (.int (k : Nat)) (TV a b ps2 es') o3 w4 w8
  obtain ⟨o4, v', e5, ho4, hv'⟩ := l0_ok (.list (ns.map .int)) (.int (k : Nat)) w8 ho3 (tv_nc t1 r2 t3 r4)
  obtain ⟨w, d6, d7, d9, d10, d11, e6⟩ := t1_all (.list (ns.map .int)) (.int (k : Nat)) (.list ODD) o4 (by omega) (by omega) hv' w8
  refine ⟨w, ?_⟩
  rw [b_law3_eq, lawB_eq]
  have e00 : sCallN 2 2 m__law_bag (aCons (eVar 0) (aCons (eVar 1) aNil)) [.d (.list (ns.map .int)), .d (.int (k : Nat)), .un, .un, sv w4, .un, .un, .un, sv w8, .un, .un, .un] = .nx (HE (.list (ns.map .int)) (.int (k : Nat)) o (sv w4) .un w8) := by
    cases w4 <;> cases w8 <;> simp [sv, e0]
  unfold sFg
  rw [seq_nx e00, seq_nx e1, seq_nx e2, seq_nx e3, seq_nx e4, seq_nx e5]
  have e6 : lawT1 (HE (.list (ns.map .int)) (.int (k : Nat)) o4 (.d (.list ODD)) (.d v') w8) = _ := e6
  rw [e6]
  generalize ODD = OD
  cases w <;> simp [sv]
theorem law_loop (ns : List Int) (w : DL.D) : ∀ (r : List Nat) (w4 w8 : Option DL.D), (∀ k ∈ r, k ≤ 20) → ∃ (w4' w8' : Option DL.D), forRun (setN 1) b_law_3 (r.map fun (i : Nat) => .int (i : Int)) [.d (.list (ns.map .int)), .un, .un, .un, sv w4, .un, .un, .un, sv w8, .un, .un, .un] = .nx [.d (.list (ns.map .int)), .un, .un, .un, sv w4', .un, .un, .un, sv w8', .un, .un, .un] ∧ (r ≠ [] ∨ w4 = some (.list ODD) → w4' = some (.list ODD))
  | [], w4, w8, _ => ⟨w4, w8, rfl, fun h => h.elim (fun h => absurd rfl h) id⟩
  | k :: r, w4, w8, h => by
    obtain ⟨w', e⟩ := turn_ok ns k (h k (by simp)) w4 w8
    obtain ⟨w4', w8', e2, h2⟩ := law_loop ns w r (some (.list ODD)) w' fun k hk => h k (by simp [hk])
    refine ⟨w4', w8', ?_, fun _ => h2 (.inr rfl)⟩
    have e2 : forRun (setN 1) b_law_3 (r.map fun (i : Nat) => .int (i : Int)) [.d (.list (ns.map .int)), .un, .un, .un, .d (.list ODD), .un, .un, .un, sv w', .un, .un, .un] = _ := e2
    have es : setN 1 (.int (k : Nat)) [.d (.list (ns.map .int)), .un, .un, .un, sv w4, .un, .un, .un, sv w8, .un, .un, .un] = some [.d (.list (ns.map .int)), .d (.int (k : Nat)), .un, .un, sv w4, .un, .un, .un, sv w8, .un, .un, .un] := by
      cases w4 <;> cases w8 <;> simp [sv]
    rw [List.map_cons]
    unfold forRun
    simp only [es, e, e2]
theorem told_none (v : DL.D) (h : ∀ xs, v ≠ .tuple xs) (h2 : Nc 100 1 v) : m_is_tongue [v] = .ret (.bool false) :=
  tongue_no (L := 100) (n := 1) (by omega) (by omega) h2 (by
    cases hf : isFm v with
    | false => rfl
    | true =>
      obtain ⟨a, b, pl, el, rfl, _⟩ := fm_typed (by omega : (1 : Nat) ≤ 60) (by omega : (100 : Nat) ≤ 5000) h2 hf
      exact absurd rfl (h _))
theorem law_lc4 (ns : List Int) (w8 : Option DL.D) (d : DL.D) : lc_law_4 [.d (.list (ns.map .int)), .un, .un, .un, .d d, .un, .un, .un, sv w8, .un, .un, .un] = .ok (List.replicate 5 (.bool false)) [.d (.list (ns.map .int)), .un, .un, .un, .d d, .un, .un, .un, sv w8, .un, .un, .un] := by
  have h1 := told_none .none (by simp) (.none _)
  have h2 := told_none (.int 5) (by simp) (.int _ _)
  have h3 := told_none (.str (tx tong)) (by simp) (.str _ _ (by simp [tong]))
  have h4 := told_none (.list []) (by simp) (.lst 0 _ (by simp) (by simp))
  have h5 : m_is_tongue [.tuple []] = .ret (.bool false) := tongue_no (L := 100) (n := 1) (by omega) (by omega) (.tup 0 _ (by simp) (by simp)) (by
    cases hf : isFm (.tuple []) with
    | false => rfl
    | true =>
      obtain ⟨a, b, pl, el, h, _⟩ := fm_typed (L := 100) (n := 1) (by omega : (1 : Nat) ≤ 60) (by omega : (100 : Nat) ≤ 5000) (.tup 0 _ (by simp) (by simp)) hf
      cases h)
  unfold tong at h3
  have z5 : (5 : Nat) ≤ sizeLine := le_line (by omega)
  cases w8 <;> simp [lc_law_4, sv, e_law_4, h1, h2, h3, h4, h5, z5, List.replicate, lcRun]
theorem law_true (ns : List Int) (h : ns.length ≤ 63) : m_law [.list (ns.map .int)] = .ret (.bool true) := by
  obtain ⟨n, hn, hn1, er⟩ : ∃ n : Nat, n ≤ 10 ∧ 1 ≤ n ∧ eRng1 (aCons (eCallB dMaxA (aCons (eC (.int 1)) (aCons (eCallB dMin (aCons (eC (.int 10)) (aCons (eCallB dLen (aCons (eVar 0) aNil)) aNil))) aNil))) aNil) [.d (.list (ns.map .int)), .un, .un, .un, .un, .un, .un, .un, .un, .un, .un, .un] = .ok (rng 0 n) [.d (.list (ns.map .int)), .un, .un, .un, .un, .un, .un, .un, .un, .un, .un, .un] := by
    refine ⟨max 1 (min 10 ns.length), by omega, by omega, range_ok ?_ (by omega)⟩
    have e2 : dMin [.int 10, .int (ns.length : Nat)] = some (.int ((min 10 ns.length : Nat) : Int)) := by
      show some (PyData.int (if ((ns.length : Nat) : Int) < (10 : Int) then ((ns.length : Nat) : Int) else 10)) = _
      by_cases h0 : ns.length < 10
      · rw [if_pos (by omega), show min 10 ns.length = ns.length by omega]
      · rw [if_neg (by omega), show min 10 ns.length = 10 by omega]
        rfl
    have e1 : dMaxA [.int 1, .int ((min 10 ns.length : Nat) : Int)] = some (.int ((max 1 (min 10 ns.length) : Nat) : Int)) := by
      show some (PyData.int (if ((min 10 ns.length : Nat) : Int) > (1 : Int) then ((min 10 ns.length : Nat) : Int) else 1)) = _
      by_cases h0 : min 10 ns.length > 1
      · rw [if_pos (by omega), show max 1 (min 10 ns.length) = min 10 ns.length by omega]
      · rw [if_neg (by omega), show max 1 (min 10 ns.length) = 1 by omega]
        rfl
    simp only [eCallB, aCons, aNil, eVar, List.getElem?_cons_zero, Out.bind, derefs, deref, dLen_l, List.length_map, eC, e1, e2]
  obtain ⟨w4, w8, el, hw⟩ := law_loop ns .none (List.range n) none none fun k hk => by
    have := List.mem_range.mp hk
    omega
  have hw := hw (.inl (by
    intro h0
    have := congrArg List.length h0
    simp at this
    omega))
  subst hw
  rw [← rng_map] at el
  simp only [sv] at el
  have eL : ∃ w : Option DL.D, L_law_3 [.d (.list (ns.map .int)), .un, .un, .un, .un, .un, .un, .un, .un, .un, .un, .un] = .nx [.d (.list (ns.map .int)), .un, .un, .un, .d (.list ODD), .un, .un, .un, sv w, .un, .un, .un] := by
    refine ⟨none, ?_⟩
    generalize ODD = OD at *
    cases w8 <;> simp only at el <;> simp [-eRng1, L_law_3, sv, er, el]
  obtain ⟨w, eL⟩ := eL
  have e4 := law_lc4 ns w (.list ODD)
  have e5 : m_is_list [.tuple []] = .ret (.bool false) := list_bad (L := 100) (n := 0) (by omega) [] (by simp) (by simp) rfl
  have e6 : dEq (.list (List.replicate 5 (.bool false))) (.list (List.replicate 5 (.bool false))) = some (.bool true) := by kernel_rfl
  generalize ODD = OD at *
  have z5 : (5 : Nat) ≤ sizeLine := le_line (by omega)
  have f5 : fitZ 9223372036854775808 5 = true := by decide
  simp only [List.replicate] at e6
  simp [f5, m_law, c_law, fnP, eL, e4, e5, e6, z5, List.replicate]
end LW

open PySem PySem.W PyProof.Rows in
set_option maxRecDepth 100000 in
set_option maxHeartbeats 0 in
theorem PySem.Challenge.cw_joinedagain_k02_values_that_are_no_tongu_holds : PySem.Challenge.rw_joinedagain_k02_values_that_are_no_tongu.Holds := by
  w_on; o_law; k_head; (case hw => w_witness2)
  k_fill
  refine DL.walkT (l := PySem.Challenge.rw_joinedagain_k02_values_that_are_no_tongu) (n := 63) (k := 14) (m := LW.m_law) rfl (by decide) rfl ⟨rfl, by decide, by decide⟩ LW.law_true (fun w h Y => PySem.W.kIn_of Y) ?F
  case F =>
    intro w mg fa h KX G hmg
    refine' LW.all_mk KX G hmg ?a_is_integer ?l_is_integer ?c_is_integer ?k_is_integer ?a_is_word ?l_is_word ?c_is_word ?k_is_word ?a_is_places ?l_is_places ?c_is_places ?k_is_places ?a_is_signs ?l_is_signs ?c_is_signs ?k_is_signs ?a_is_pattern ?l_is_pattern ?c_is_pattern ?k_is_pattern ?a_is_pair ?l_is_pair ?c_is_pair ?k_is_pair ?a_is_formed ?l_is_formed ?c_is_formed ?k_is_formed ?a_are_ascending ?l_are_ascending ?c_are_ascending ?k_are_ascending ?a_is_tongue ?l_is_tongue ?c_is_tongue ?k_is_tongue ?a_is_list ?l_is_list ?c_is_list ?k_is_list ?a_first_twice ?l_first_twice ?c_first_twice ?k_first_twice ?a_check_tongue ?l_check_tongue ?c_check_tongue ?k_check_tongue ?a__law_bag ?l__law_bag ?c__law_bag ?k__law_bag ?a__law_draw ?l__law_draw ?c__law_draw ?k__law_draw ?a__law_one ?l__law_one ?c__law_one ?k__law_one ?a__law_word ?l__law_word ?c__law_word ?k__law_word ?a__law_pattern ?l__law_pattern ?c__law_pattern ?k__law_pattern ?a__law_places ?l__law_places ?c__law_places ?k__law_places ?a__law_tongue ?l__law_tongue ?c__law_tongue ?k__law_tongue ?a__law_spoilt ?l__law_spoilt ?c__law_spoilt ?k__law_spoilt ?a__law_is_int ?l__law_is_int ?c__law_is_int ?k__law_is_int ?a__law_is_word ?l__law_is_word ?c__law_is_word ?k__law_is_word ?a__law_is_pair ?l__law_is_pair ?c__law_is_pair ?k__law_is_pair ?a__law_is_pattern ?l__law_is_pattern ?c__law_is_pattern ?k__law_is_pattern ?a__law_is_formed ?l__law_is_formed ?c__law_is_formed ?k__law_is_formed ?a__law_ascending ?l__law_ascending ?c__law_ascending ?k__law_ascending ?a__law_due ?l__law_due ?c__law_due ?k__law_due ?a__law_told ?l__law_told ?c__law_told ?k__law_told ?a_law ?l_law ?c_law ?k_law ?a_BadTongue ?kc_BadTongue ?eC_BadTongue ?tC_BadTongue ?xL_BadTongue ?hb_BadTongue ?sa_BadTongue ?ga_BadTongue ?gg_BadTongue ?hC_BadTongue ?iC_BadTongue ?ti_BadTongue ?li_BadTongue ?ci_BadTongue ?ki_BadTongue ?nf_BadTongue_kind ?nf_BadTongue_name ?a_MOST_LETTERS ?a_MOST_SIGNS ?a_MOST_LEVEL ?a_MOST_PATTERNS ?a_MOST_EXCEPTIONS ?a_MOST_LIST ?a_LETTERS ?z_all ?z_bool ?z_int ?z_isinstance ?z_len ?z_list ?z_max ?z_min ?z_range ?z_repr ?z_sorted ?z_str ?z_tuple ?z_zip ?i_BadTongue ?e_BadTongue_BadTongue
    (case a_is_integer => k_is)
    (case l_is_integer => k_is)
    (case c_is_integer => k_is)
    (case k_is_integer => k_is)
    (case a_is_word => k_is)
    (case l_is_word => k_is)
    (case c_is_word => k_is)
    (case k_is_word => k_is)
    (case a_is_places => k_is)
    (case l_is_places => k_is)
    (case c_is_places => k_is)
    (case k_is_places => k_is)
    (case a_is_signs => k_is)
    (case l_is_signs => k_is)
    (case c_is_signs => k_is)
    (case k_is_signs => k_is)
    (case a_is_pattern => k_is)
    (case l_is_pattern => k_is)
    (case c_is_pattern => k_is)
    (case k_is_pattern => k_is)
    (case a_is_pair => k_is)
    (case l_is_pair => k_is)
    (case c_is_pair => k_is)
    (case k_is_pair => k_is)
    (case a_is_formed => k_is)
    (case l_is_formed => k_is)
    (case c_is_formed => k_is)
    (case k_is_formed => k_is)
    (case a_are_ascending => k_is)
    (case l_are_ascending => k_is)
    (case c_are_ascending => k_is)
    (case k_are_ascending => k_is)
    (case a_is_tongue => k_is)
    (case l_is_tongue => k_is)
    (case c_is_tongue => k_is)
    (case k_is_tongue => k_is)
    (case a_is_list => k_is)
    (case l_is_list => k_is)
    (case c_is_list => k_is)
    (case k_is_list => k_is)
    (case a_first_twice => k_is)
    (case l_first_twice => k_is)
    (case c_first_twice => k_is)
    (case k_first_twice => k_is)
    (case a_check_tongue => k_is)
    (case l_check_tongue => k_is)
    (case c_check_tongue => k_is)
    (case k_check_tongue => k_is)
    (case a__law_bag => k_is)
    (case l__law_bag => k_is)
    (case c__law_bag => k_is)
    (case k__law_bag => k_is)
    (case a__law_draw => k_is)
    (case l__law_draw => k_is)
    (case c__law_draw => k_is)
    (case k__law_draw => k_is)
    (case a__law_one => k_is)
    (case l__law_one => k_is)
    (case c__law_one => k_is)
    (case k__law_one => k_is)
    (case a__law_word => k_is)
    (case l__law_word => k_is)
    (case c__law_word => k_is)
    (case k__law_word => k_is)
    (case a__law_pattern => k_is)
    (case l__law_pattern => k_is)
    (case c__law_pattern => k_is)
    (case k__law_pattern => k_is)
    (case a__law_places => k_is)
    (case l__law_places => k_is)
    (case c__law_places => k_is)
    (case k__law_places => k_is)
    (case a__law_tongue => k_is)
    (case l__law_tongue => k_is)
    (case c__law_tongue => k_is)
    (case k__law_tongue => k_is)
    (case a__law_spoilt => k_is)
    (case l__law_spoilt => k_is)
    (case c__law_spoilt => k_is)
    (case k__law_spoilt => k_is)
    (case a__law_is_int => k_is)
    (case l__law_is_int => k_is)
    (case c__law_is_int => k_is)
    (case k__law_is_int => k_is)
    (case a__law_is_word => k_is)
    (case l__law_is_word => k_is)
    (case c__law_is_word => k_is)
    (case k__law_is_word => k_is)
    (case a__law_is_pair => k_is)
    (case l__law_is_pair => k_is)
    (case c__law_is_pair => k_is)
    (case k__law_is_pair => k_is)
    (case a__law_is_pattern => k_is)
    (case l__law_is_pattern => k_is)
    (case c__law_is_pattern => k_is)
    (case k__law_is_pattern => k_is)
    (case a__law_is_formed => k_is)
    (case l__law_is_formed => k_is)
    (case c__law_is_formed => k_is)
    (case k__law_is_formed => k_is)
    (case a__law_ascending => k_is)
    (case l__law_ascending => k_is)
    (case c__law_ascending => k_is)
    (case k__law_ascending => k_is)
    (case a__law_due => k_is)
    (case l__law_due => k_is)
    (case c__law_due => k_is)
    (case k__law_due => k_is)
    (case a__law_told => k_is)
    (case l__law_told => k_is)
    (case c__law_told => k_is)
    (case k__law_told => k_is)
    (case a_law => k_is)
    (case l_law => k_is)
    (case c_law => k_is)
    (case k_law => k_is)
    (case a_BadTongue => k_is)
    (case kc_BadTongue => k_is)
    (case eC_BadTongue => k_is)
    (case tC_BadTongue => k_is)
    (case xL_BadTongue => k_is)
    (case hb_BadTongue => decide +kernel)
    (case sa_BadTongue => k_is)
    (case ga_BadTongue => k_is)
    (case gg_BadTongue => k_is)
    (case hC_BadTongue => k_is)
    (case iC_BadTongue => k_is)
    (case ti_BadTongue => k_is)
    (case li_BadTongue => k_is)
    (case ci_BadTongue => k_is)
    (case ki_BadTongue => k_is)
    (case nf_BadTongue_kind => k_is)
    (case nf_BadTongue_name => k_is)
    (case a_MOST_LETTERS => k_is)
    (case a_MOST_SIGNS => k_is)
    (case a_MOST_LEVEL => k_is)
    (case a_MOST_PATTERNS => k_is)
    (case a_MOST_EXCEPTIONS => k_is)
    (case a_MOST_LIST => k_is)
    (case a_LETTERS => k_is)
    (case z_all => k_is)
    (case z_bool => k_is)
    (case z_int => k_is)
    (case z_isinstance => k_is)
    (case z_len => k_is)
    (case z_list => k_is)
    (case z_max => k_is)
    (case z_min => k_is)
    (case z_range => k_is)
    (case z_repr => k_is)
    (case z_sorted => k_is)
    (case z_str => k_is)
    (case z_tuple => k_is)
    (case z_zip => k_is)
    (case i_BadTongue => k_is)
    (case e_BadTongue_BadTongue => k_is)
--#print axioms PySem.Challenge.cw_joinedagain_k02_values_that_are_no_tongu_holds
