import PyProof.Rows.All
import Wide.All
import OpenK.AllK
import Wide.FinOn
import HandS.ForMost
import HandS.Exc
import HandS.TryOnly
import HandS.ExcOwn
import HandS.WordsExc
import HandS.IsInst
import KE.KDictKeyed
import HandS.TupAny
import HandS.Deep
import HandS.StrMore
import HandS.RaiseMore
import HandS.TupLe
import HandS.CallLocal
import HandS.ExcInit
import HandS.ExcField
import HandS.TryMany
import HandS.Iter
import HandS.Zip
import HandS.Style
import KE.GoesEnum
import HandS.TupMul
import HandS.SortOrd
import KE.KDictSum
import HandS.Dict
import HandS.ExcValue
import HandS.Conv
import KE.DataMinMax
import HandS.DictTup
import KE.KDictCopyH
import KE.KDictDisplayH
import HandS.Replace
import PyProof.ListStr
import PyProof.CollectStr
import PyProof.SliceStr2
import HandS.DictComp
import PySem.Challenge.RW_joinedagain_k43_all_words_with_places
set_option Elab.async false
set_option linter.all false
set_option maxRecDepth 100000
set_option maxHeartbeats 8000000
set_option autoImplicit false
namespace DL
open PySem PySem.Spec L2
abbrev D := PyData
structure Fg where
  k : PySem.W.Frag
  w : World
instance : Coe Fg PySem.W.Frag := ⟨Fg.k⟩
abbrev _root_.L2.Cx.G (X : L2.Cx) : Fg := ⟨X.K, X.w⟩
def fitZ (b : Nat) (n : Int) : Bool := Nat.blt n.natAbs b
theorem fitZ_ok {b : Nat} {n : Int} (h : fitZ b n = true) : -(b : Int) < n ∧ n < b := by
  unfold fitZ at h
  have h := Nat.le_of_ble_eq_true h
  omega
theorem fitZ_of {b : Nat} {n : Int} (h : n.natAbs < b) : fitZ b n = true := Nat.ble_eq_true_of_le h
theorem same_rd {H H' : Hp} {a : Addr} {u : HO} (e : Same H H') (h : Rd H a u) : Rd H' a u := by
  rcases h with h | ⟨o, h⟩
  · exact .inl (e a _ h)
  · exact .inr ⟨o, e a _ h⟩
theorem same_l {K : Fg} {H H' : Hp} {a : Addr} {xs : List V} (e : Same H H') (h : SqL K H a xs) : SqL K H' a xs := by
  rcases h with h | h
  · exact .inl (same_rd e h)
  · exact .inr h
theorem same_t {K : Fg} {H H' : Hp} {a : Addr} {xs : List V} (e : Same H H') (h : SqT K H a xs) : SqT K H' a xs := by
  rcases h with h | h
  · exact .inl (same_rd e h)
  · exact .inr h
def IsCls (K : Fg) (x : Str) (C : Addr) : Prop := PySem.W.nsIn K mainGlobals x = some (some (.ref C))
mutual
def nkOf : D → Option NestedKey
  | .none => some .none
  | .bool b => some (.num (if b = true then 1 else 0))
  | .int i => some (.num i)
  | .str x => some (.text x)
  | .tuple ds => (nksOf ds).map .tup
  | .list _ => none
  | .dict _ => none
def nksOf : List D → Option (List NestedKey)
  | [] => some []
  | d :: ds => match nkOf d, nksOf ds with
    | some k, some ks => some (k :: ks)
    | _, _ => none
end
def keyD : Key → D
  | .inl i => .int i
  | .inr x => .str x
abbrev Raw3 := List (NestedKey × Addr × V)
def RawOk (w : World) (h : Heap) (a : Addr) (raw : Raw3) : Prop := raw.length ≤ sizeLine ∧ (a == sysModules) = false ∧
  ∃ xs : List (NestedKey × Addr × Value), Paired (fun (p : NestedKey × Addr × V) (q : NestedKey × Addr × Value) => p.1 = q.1 ∧ p.2.1 = q.2.1 ∧ RelV p.2.2 q.2.2) raw xs ∧
    ∃ o es ep, h.get? a = some o ∧ o.ExactDict ∧ o.data = .dict es ep ∧ es.toList = xs.map (fun x => ⟨x.1.hash w, .ref x.2.1, x.2.2⟩) ∧ (xs.map (·.1)).Nodup
def hoN (w : World) (a : Addr) (raw : Raw3) : HO := .ext fun h => RawOk w h a raw
mutual
inductive Rp (K : Fg) (H : Hp) : V → D → Prop
  | non : Rp K H .non .none
  | bl (b : Bool) : Rp K H (.bl b) (.bool b)
  | int (i : Int) : Rp K H (.int i) (.int i)
  | str (x : Str) : Rp K H (.str x) (.str x)
  | lst {a : Addr} {xs : List V} {ds : List D} : SqL K H a xs → RpAll K H xs ds → Rp K H (.ref a) (.list ds)
  | tup {a : Addr} {xs : List V} {ds : List D} : SqT K H a xs → RpAll K H xs ds → Rp K H (.ref a) (.tuple ds)
  | fn {a : Addr} {x : Str} : IsCls K x a → Rp K H (.ref a) (.dict [(.dict [], .str x)])
  | adr (a : Addr) : Rp K H (.ref a) (.dict [(.dict [], .int (a : Nat))])
  | dctK {a : Addr} {o : Obj} {kvs : List (Key × V)} {l : List (D × D)} : H a = some (.frz o (.dK kvs)) → l.map (·.1) = kvs.map (fun p => keyD p.1) → RpAll K H (kvs.map (·.2)) (l.map (·.2)) → Rp K H (.ref a) (.dict l)
  | dctN {a : Addr} {o : Obj} {raw : Raw3} {l : List (D × D)} : raw ≠ [] → H a = some (.frz o (hoN K.w a raw)) → RpAll K H (raw.map fun p => V.ref p.2.1) (l.map (·.1)) → l.map (fun p => nkOf p.1) = raw.map (fun p => some p.1) →
      (∀ p ∈ raw, p.1.depth ≤ 8) → RpAll K H (raw.map (·.2.2)) (l.map (·.2)) → Rp K H (.ref a) (.dict l)
  | ins {a C dx : Addr} {fs : List (Str × V)} {c : Str} {l : List (D × D)} : IsCls K c C → H a = some (.ins C dx fs) → (fs.map (·.1)).Nodup → l.map (·.1) = fs.map (fun p => PyData.str p.1) → RpAll K H (fs.map (·.2)) (l.map (·.2)) → Rp K H (.ref a) (.dict ((.list [], .str c) :: l))
inductive RpAll (K : Fg) (H : Hp) : List V → List D → Prop
  | nil : RpAll K H [] []
  | cons {v : V} {vs : List V} {d : D} {ds : List D} : Rp K H v d → RpAll K H vs ds → RpAll K H (v :: vs) (d :: ds)
end
section
variable {K : Fg} {H H' : Hp}
theorem dp_mono' (e : Same H H') {v : V} {d : D} (h : Rp K H v d) : Rp K H' v d :=
  Rp.rec (motive_1 := fun v d _ => Rp K H' v d) (motive_2 := fun vs ds _ => RpAll K H' vs ds) .non .bl .int .str
    (fun hs _ ih => .lst (same_l e hs) ih) (fun hs _ ih => .tup (same_t e hs) ih) (fun h => .fn h) (fun a => .adr a) (fun h1 h2 _ ih => .dctK (e _ _ h1) h2 ih) (fun h0 h1 _ h3 h4 _ i1 i2 => .dctN h0 (e _ _ h1) i1 h3 h4 i2)
    (fun h1 h2 h0 h3 _ ih => .ins h1 (e _ _ h2) h0 h3 ih) .nil (fun _ _ i1 i2 => .cons i1 i2) h
theorem dps_mono' (e : Same H H') {vs : List V} {ds : List D} (h : RpAll K H vs ds) : RpAll K H' vs ds :=
  RpAll.rec (motive_1 := fun v d _ => Rp K H' v d) (motive_2 := fun vs ds _ => RpAll K H' vs ds) .non .bl .int .str
    (fun hs _ ih => .lst (same_l e hs) ih) (fun hs _ ih => .tup (same_t e hs) ih) (fun h => .fn h) (fun a => .adr a) (fun h1 h2 _ ih => .dctK (e _ _ h1) h2 ih) (fun h0 h1 _ h3 h4 _ i1 i2 => .dctN h0 (e _ _ h1) i1 h3 h4 i2)
    (fun h1 h2 h0 h3 _ ih => .ins h1 (e _ _ h2) h0 h3 ih) .nil (fun _ _ i1 i2 => .cons i1 i2) h
end
theorem dp_mono {K : Fg} {H H' : Hp} (e : Same H H') : ∀ (d : D) (v : V), Rp K H v d → Rp K H' v d := fun _ _ h => dp_mono' e h
theorem dps_mono {K : Fg} {H H' : Hp} (e : Same H H') : ∀ (ds : List D) (vs : List V), RpAll K H vs ds → RpAll K H' vs ds := fun _ _ h => dps_mono' e h
mutual
theorem rp_dp {K : Fg} {H : Hp} : ∀ (d : D) (v : V), PyData.canLay0 d = true → Rp K H v d → Dp K H v d
  | .none, _, _, h => by cases h; exact .non
  | .bool b, _, _, h => by cases h; exact .bl b
  | .int i, _, _, h => by cases h; exact .int i
  | .str x, _, _, h => by cases h; exact .str x
  | .list ds, _, c, h => by
    cases h with
    | lst hs ha => exact .lst hs (rps_dp ds _ (by simpa [PyData.canLay0] using c) ha)
  | .tuple ds, _, c, h => by
    cases h with
    | tup hs ha => exact .tup hs (rps_dp ds _ (by simpa [PyData.canLay0] using c) ha)
  | .dict _, _, c, h => by simp [PyData.canLay0] at c
theorem rps_dp {K : Fg} {H : Hp} : ∀ (ds : List D) (vs : List V), PyData.canLayAll0 ds = true → RpAll K H vs ds → DpAll K H vs ds
  | [], _, _, h => by cases h; exact .nil
  | d :: ds, _, c, h => by
    have c : PyData.canLay0 d = true ∧ PyData.canLayAll0 ds = true := by simpa [PyData.canLayAll0] using c
    cases h with
    | cons h1 h2 => exact .cons (rp_dp d _ c.1 h1) (rps_dp ds _ c.2 h2)
end
section
variable {K : Fg} {J H : Hp}
theorem dps_len : ∀ {vs : List V} {ds : List D}, RpAll K H vs ds → vs.length = ds.length
  | _, _, .nil => rfl
  | _, _, .cons _ t => congrArg (· + 1) (dps_len t)
theorem dps_get : ∀ {vs : List V} {ds : List D} {i : Nat} {d : D}, RpAll K H vs ds → ds[i]? = some d → ∃ v, vs[i]? = some v ∧ Rp K H v d
  | _, _, _, _, .nil, e => by simp at e
  | _, _, 0, _, .cons r _, e => by simp at e; subst e; exact ⟨_, rfl, r⟩
  | _, _, i + 1, d, .cons _ t, e => by
    obtain ⟨u, h1, h2⟩ := dps_get (i := i) (d := d) t (by simpa using e)
    exact ⟨u, by simpa using h1, h2⟩
theorem dps_get' {vs : List V} {ds : List D} {i : Nat} {v : V} (h : RpAll K H vs ds) (e : vs[i]? = some v) : ∃ d, ds[i]? = some d ∧ Rp K H v d := by
  have hi := (List.getElem?_eq_some_iff.mp e).1
  rw [dps_len h] at hi
  obtain ⟨u, h1, h2⟩ := dps_get h (List.getElem?_eq_getElem hi)
  rw [e] at h1
  cases h1
  exact ⟨_, List.getElem?_eq_getElem hi, h2⟩
theorem dps_append : ∀ {xs ys : List V} {ds es : List D}, RpAll K H xs ds → RpAll K H ys es → RpAll K H (xs ++ ys) (ds ++ es)
  | _, _, _, _, .nil, s => s
  | _, _, _, _, .cons r t, s => .cons r (dps_append t s)
theorem dps_take : ∀ {xs : List V} {ds : List D} (n : Nat), RpAll K H xs ds → RpAll K H (xs.take n) (ds.take n)
  | _, _, 0, _ => .nil
  | _, _, _ + 1, .nil => .nil
  | _, _, n + 1, .cons r t => .cons r (dps_take n t)
theorem dps_drop : ∀ {xs : List V} {ds : List D} (n : Nat), RpAll K H xs ds → RpAll K H (xs.drop n) (ds.drop n)
  | _, _, 0, r => r
  | _, _, _ + 1, .nil => .nil
  | _, _, n + 1, .cons _ t => dps_drop n t
theorem dps_rep {xs : List V} {ds : List D} (h : RpAll K H xs ds) : ∀ k : Nat, RpAll K H (List.replicate k xs).flatten (List.replicate k ds).flatten
  | 0 => .nil
  | k + 1 => by
    rw [List.replicate_succ, List.replicate_succ, List.flatten_cons, List.flatten_cons]
    exact dps_append h (dps_rep h k)
theorem dps_ints : ∀ (ns : List Int), RpAll K H (ns.map V.int) (ns.map PyData.int)
  | [] => .nil
  | n :: ns => .cons (.int n) (dps_ints ns)
theorem dps_strs : ∀ (ns : List Str), RpAll K H (ns.map V.str) (ns.map PyData.str)
  | [] => .nil
  | n :: ns => .cons (.str n) (dps_strs ns)
end
structure Grow (J H J' H' : Hp) : Prop where
  j : Same J J'
  jh : Same J' H'
  old : ∀ a o, H a = some o → H' a = some o ∧ J' a = J a
theorem Grow.refl {J H : Hp} (e : Same J H) : Grow J H J H := ⟨.refl _, e, fun _ _ h => ⟨h, rfl⟩⟩
theorem Grow.h {J H J' H' : Hp} (g : Grow J H J' H') : Same H H' := fun a o h => (g.old a o h).1
theorem Grow.trans {J H J1 H1 J2 H2 : Hp} (a : Grow J H J1 H1) (b : Grow J1 H1 J2 H2) : Grow J H J2 H2 :=
  ⟨a.j.trans b.j, b.jh, fun x o h => by
    obtain ⟨h1, h2⟩ := a.old x o h
    obtain ⟨h3, h4⟩ := b.old x o h1
    exact ⟨h3, h4.trans h2⟩⟩
theorem same_new {H : Hp} {p : Addr} {o : HO} (h : H p = none) : Same H (upd H p o) := fun b x e => by
  rw [upd_ne (ne_of_none e h)]
  exact e
theorem same_upd2 {J H : Hp} {p : Addr} {o : HO} (e : Same J H) : Same (upd J p o) (upd H p o) := fun b x h => by
  by_cases q : b = p
  · subst q
    rw [upd_same] at h ⊢
    exact h
  · rw [upd_ne q] at h ⊢
    exact e _ _ h
theorem same_free {J H : Hp} {p : Addr} (e : Same J H) (h : H p = none) : J p = none := e.free h
theorem Grow.new {J H : Hp} {p : Addr} {o : HO} (e : Same J H) (h : H p = none) : Grow J H (upd J p o) (upd H p o) :=
  ⟨same_new (same_free e h), same_upd2 e, fun a u q => by
    have ne := ne_of_none q h
    rw [upd_ne ne, upd_ne ne]
    exact ⟨q, rfl⟩⟩
theorem Grow.side {J H : Hp} {p : Addr} {o : HO} (e : Same J H) (h : H p = none) : Grow J H J (upd H p o) :=
  ⟨.refl _, e.trans (same_new h), fun a u q => by
    rw [upd_ne (ne_of_none q h)]
    exact ⟨q, rfl⟩⟩
inductive Tr where
  | dat (d : D)
  | lst (xs : List Tr)
  | tup (xs : List Tr)
  | dct (kvs : List (D × Tr))
  | obj (c : Str) (fs : List (Str × Tr))
inductive Shape (K : Fg) (J : Hp) (a : Addr) : HO → Tr → List V → List Tr → Prop
  | lst (vs : List V) (ts : List Tr) : Shape K J a (.lst vs) (.lst ts) vs ts
  | tup (vs : List V) (ts : List Tr) : Shape K J a (.tup vs) (.tup ts) vs ts
  | dctK (kvs : List (Key × V)) (l : List (D × Tr)) : l.map (·.1) = kvs.map (fun p => keyD p.1) → (kvs.map (·.1)).Nodup → Shape K J a (.dK kvs) (.dct l) (kvs.map (·.2)) (l.map (·.2))
  | dctN (raw : Raw3) (l : List (D × Tr)) : raw ≠ [] → RpAll K J (raw.map fun p => V.ref p.2.1) (l.map (·.1)) → l.map (fun p => nkOf p.1) = raw.map (fun p => some p.1) → (∀ p ∈ raw, p.1.depth ≤ 8) → (raw.map (·.1)).Nodup → Shape K J a (hoN K.w a raw) (.dct l) (raw.map (·.2.2)) (l.map (·.2))
  | obj (C dx : Addr) (fs : List (Str × V)) (c : Str) (l : List (Str × Tr)) : IsCls K c C → l.map (·.1) = fs.map (·.1) → (fs.map (·.1)).Nodup → Shape K J a (.ins C dx fs) (.obj c l) (fs.map (·.2)) (l.map (·.2))
mutual
inductive TrAt (K : Fg) (J H : Hp) : V → Tr → List Addr → Prop
  | dat {v : V} {d : D} : Rp K J v d → TrAt K J H v (.dat d) []
  | nod {a : Addr} {o : HO} {t : Tr} {vs : List V} {ts : List Tr} {f : List Addr} : H a = some o → Shape K J a o t vs ts → TrAts K J H vs ts f → TrAt K J H (.ref a) t (a :: f)
inductive TrAts (K : Fg) (J H : Hp) : List V → List Tr → List Addr → Prop
  | nil : TrAts K J H [] [] []
  | cons {v : V} {vs : List V} {t : Tr} {ts : List Tr} {f g : List Addr} : TrAt K J H v t f → TrAts K J H vs ts g → TrAts K J H (v :: vs) (t :: ts) (f ++ g)
end
theorem Shape.mono {K : Fg} {J J' : Hp} (e : Same J J') {a : Addr} {o : HO} {t : Tr} {vs : List V} {ts : List Tr} (h : Shape K J a o t vs ts) : Shape K J' a o t vs ts := by
  cases h with
  | lst => exact .lst _ _
  | tup => exact .tup _ _
  | dctK kvs l h n => exact .dctK kvs l h n
  | dctN raw l h0 h1 h2 h3 n => exact .dctN raw l h0 (dps_mono' e h1) h2 h3 n
  | obj C dx fs c l h1 h2 n => exact .obj C dx fs c l h1 h2 n
theorem TrAt.known {K : Fg} {J H : Hp} {v : V} {t : Tr} {f : List Addr} (h : TrAt K J H v t f) : ∀ a ∈ f, ∃ u, H a = some u :=
  TrAt.rec (motive_1 := fun v t f _ => ∀ a ∈ f, ∃ u, H a = some u) (motive_2 := fun vs ts f _ => ∀ a ∈ f, ∃ u, H a = some u) (fun _ a h => (nomatch h))
    (fun h1 _ _ ih a h => by
      rcases List.mem_cons.mp h with rfl | h
      · exact ⟨_, h1⟩
      · exact ih a h) (fun a h => (nomatch h)) (fun _ _ i1 i2 a h => by
      rcases List.mem_append.mp h with h | h
      · exact i1 a h
      · exact i2 a h) h
theorem TrAt.keep {K : Fg} {J H J' H' : Hp} (hj : Same J J') {v : V} {t : Tr} {f : List Addr} (h : TrAt K J H v t f) : (∀ a ∈ f, ∀ u, H a = some u → H' a = some u) → TrAt K J' H' v t f :=
  TrAt.rec (motive_1 := fun v t f _ => (∀ a ∈ f, ∀ u, H a = some u → H' a = some u) → TrAt K J' H' v t f) (motive_2 := fun vs ts f _ => (∀ a ∈ f, ∀ u, H a = some u → H' a = some u) → TrAts K J' H' vs ts f)
    (fun h _ => .dat (dp_mono' hj h)) (fun h1 h2 _ ih k => .nod (k _ (by simp) _ h1) (h2.mono hj) (ih fun a ha => k a (by simp [ha]))) (fun _ => .nil)
    (fun _ _ i1 i2 k => .cons (i1 fun a ha => k a (by simp [ha])) (i2 fun a ha => k a (by simp [ha]))) h
theorem TrAts.keep {K : Fg} {J H J' H' : Hp} (hj : Same J J') {vs : List V} {ts : List Tr} {f : List Addr} (h : TrAts K J H vs ts f) : (∀ a ∈ f, ∀ u, H a = some u → H' a = some u) → TrAts K J' H' vs ts f :=
  TrAts.rec (motive_1 := fun v t f _ => (∀ a ∈ f, ∀ u, H a = some u → H' a = some u) → TrAt K J' H' v t f) (motive_2 := fun vs ts f _ => (∀ a ∈ f, ∀ u, H a = some u → H' a = some u) → TrAts K J' H' vs ts f)
    (fun h _ => .dat (dp_mono' hj h)) (fun h1 h2 _ ih k => .nod (k _ (by simp) _ h1) (h2.mono hj) (ih fun a ha => k a (by simp [ha]))) (fun _ => .nil)
    (fun _ _ i1 i2 k => .cons (i1 fun a ha => k a (by simp [ha])) (i2 fun a ha => k a (by simp [ha]))) h
inductive Own where
  | tr (t : Tr)
  | lst (xs : List D)
  | tape (cells : List Int) (seed : Int)
  | tapB (b : Addr) (cells : List Int) (seed : Int)
  | dct (kvs : List (Key × D))
  | dctT (kvs : List (List Key × D))
  | obj (c : Str) (fs : List (Str × D))
inductive SV where
  | un
  | d (x : D)
  | own (fx : Bool) (o : Own)
  | rf (a : Addr)
  | lk (o : Option (Str × List (Str × D)))
abbrev Env := List SV
def Own.flat : Own → Bool
  | .tr _ => false
  | _ => true
inductive KvAll {κ : Type} (K : Fg) (J : Hp) : List (κ × V) → List (κ × D) → Prop
  | nil : KvAll K J [] []
  | cons {k : κ} {v : V} {d : D} {vs : List (κ × V)} {ds : List (κ × D)} : Rp K J v d → KvAll K J vs ds → KvAll K J ((k, v) :: vs) ((k, d) :: ds)
theorem kv_mono {κ : Type} {K : Fg} {J J' : Hp} (e : Same J J') {vs : List (κ × V)} {ds : List (κ × D)} (h : KvAll K J vs ds) : KvAll K J' vs ds := by
  induction h with
  | nil => exact .nil
  | cons r _ ih => exact .cons (dp_mono e _ _ r) ih
def OwnAt (K : Fg) (J H : Hp) : Own → List Addr → Prop
  | .tr t, f => ∃ a r, f = a :: r ∧ TrAt K J H (.ref a) t (a :: r) ∧ (a :: r).Nodup
  | .dct kvs, f => ∃ a vs, f = [a] ∧ H a = some (.dK vs) ∧ KvAll K J vs kvs
  | .dctT kvs, f => ∃ a vs, f = [a] ∧ H a = some (.dT vs) ∧ KvAll K J vs kvs
  | .obj c fs, f => ∃ a C dx vs, f = [a] ∧ IsCls K c C ∧ H a = some (.ins C dx vs) ∧ KvAll K J vs fs
  | .lst xs, f => ∃ a vs, f = [a] ∧ H a = some (.lst vs) ∧ RpAll K J vs xs
  | .tape cs sd, f => ∃ a b, f = [a, b] ∧ a ≠ b ∧ H a = some (.lst [.ref b, .int sd]) ∧ H b = some (.lst (cs.map V.int))
  | .tapB b cs sd, f => ∃ a, f = [a, b] ∧ a ≠ b ∧ H a = some (.lst [.ref b, .int sd]) ∧ H b = some (.lst (cs.map V.int))
theorem OwnAt.known {K : Fg} {J H : Hp} {o : Own} {f : List Addr} (h : OwnAt K J H o f) : ∀ a ∈ f, ∃ u, H a = some u := by
  cases o with
  | tr t =>
    obtain ⟨a, r, rfl, h, _⟩ := h
    exact h.known
  | dct kvs =>
    obtain ⟨a, vs, rfl, e, _⟩ := h
    intro b hb
    have : b = a := by simpa using hb
    subst this
    exact ⟨_, e⟩
  | dctT kvs =>
    obtain ⟨a, vs, rfl, e, _⟩ := h
    intro b hb
    have : b = a := by simpa using hb
    subst this
    exact ⟨_, e⟩
  | obj c fs =>
    obtain ⟨a, C, dx, vs, rfl, _, e, _⟩ := h
    intro b hb
    have : b = a := by simpa using hb
    subst this
    exact ⟨_, e⟩
  | lst xs =>
    obtain ⟨a, vs, rfl, e, _⟩ := h
    intro b hb
    have : b = a := by simpa using hb
    subst this
    exact ⟨_, e⟩
  | tape cs sd =>
    obtain ⟨a, b, rfl, _, e, e'⟩ := h
    intro c hc
    rcases (by simpa using hc : c = a ∨ c = b) with rfl | rfl
    · exact ⟨_, e⟩
    · exact ⟨_, e'⟩
  | tapB b cs sd =>
    obtain ⟨a, rfl, _, e, e'⟩ := h
    intro c hc
    rcases (by simpa using hc : c = a ∨ c = b) with rfl | rfl
    · exact ⟨_, e⟩
    · exact ⟨_, e'⟩
theorem OwnAt.keep {K : Fg} {J H J' H' : Hp} {o : Own} {f : List Addr} (h : OwnAt K J H o f) (hj : Same J J') (hk : ∀ a ∈ f, ∀ u, H a = some u → H' a = some u) : OwnAt K J' H' o f := by
  cases o with
  | tr t =>
    obtain ⟨a, r, rfl, h, n⟩ := h
    exact ⟨a, r, rfl, h.keep hj hk, n⟩
  | dct kvs =>
    obtain ⟨a, vs, rfl, e, r⟩ := h
    exact ⟨a, vs, rfl, hk a (by simp) _ e, kv_mono hj r⟩
  | dctT kvs =>
    obtain ⟨a, vs, rfl, e, r⟩ := h
    exact ⟨a, vs, rfl, hk a (by simp) _ e, kv_mono hj r⟩
  | obj c fs =>
    obtain ⟨a, C, dx, vs, rfl, hc, e, r⟩ := h
    exact ⟨a, C, dx, vs, rfl, hc, hk a (by simp) _ e, kv_mono hj r⟩
  | lst xs =>
    obtain ⟨a, vs, rfl, e, r⟩ := h
    exact ⟨a, vs, rfl, hk a (by simp) _ e, dps_mono hj _ _ r⟩
  | tape cs sd =>
    obtain ⟨a, b, rfl, n, e, e'⟩ := h
    exact ⟨a, b, rfl, n, hk a (by simp) _ e, hk b (by simp) _ e'⟩
  | tapB b cs sd =>
    obtain ⟨a, rfl, n, e, e'⟩ := h
    exact ⟨a, rfl, n, hk a (by simp) _ e, hk b (by simp) _ e'⟩
inductive SlOk (K : Fg) (J H : Hp) : Option V → SV → List Addr → Prop where
  | un (x : Option V) : SlOk K J H x .un []
  | d {v : V} {x : D} (h : Rp K J v x) : SlOk K J H (some v) (.d x) []
  | own {a : Addr} {r : List Addr} {fx : Bool} {o : Own} (h : OwnAt K J H o (a :: r)) : SlOk K J H (some (.ref a)) (.own fx o) (a :: r)
  | rf (a : Addr) : SlOk K J H (some (.ref a)) (.rf a) []
  | lk (x : Option V) (o : Option (Str × List (Str × D))) : SlOk K J H x (.lk o) []
inductive SlsOk (K : Fg) (J H : Hp) : List (Option V) → List SV → List (List Addr) → Prop where
  | nil : SlsOk K J H [] [] []
  | cons {x : Option V} {s : SV} {f : List Addr} {xs : List (Option V)} {ss : List SV} {fs : List (List Addr)} : SlOk K J H x s f → SlsOk K J H xs ss fs → SlsOk K J H (x :: xs) (s :: ss) (f :: fs)
section
variable {K : Fg} {J H J' H' : Hp}
theorem SlOk.known {x : Option V} {s : SV} {f : List Addr} (h : SlOk K J H x s f) : ∀ a ∈ f, ∃ u, H a = some u := by
  cases h with
  | un => intro a h; cases h
  | d => intro a h; cases h
  | rf => intro a h; cases h
  | lk => intro a h; cases h
  | own h => exact h.known
theorem SlOk.keep {x : Option V} {s : SV} {f : List Addr} (h : SlOk K J H x s f) (hj : Same J J') (hk : ∀ a ∈ f, ∀ u, H a = some u → H' a = some u) : SlOk K J' H' x s f := by
  cases h with
  | un => exact .un _
  | d h => exact .d (dp_mono hj _ _ h)
  | rf a => exact .rf a
  | lk x o => exact .lk x o
  | own h => exact .own (h.keep hj hk)
theorem SlsOk.keep {xs : List (Option V)} {ss : List SV} {fs : List (List Addr)} (h : SlsOk K J H xs ss fs) (hj : Same J J') (hk : ∀ f ∈ fs, ∀ a ∈ f, ∀ u, H a = some u → H' a = some u) : SlsOk K J' H' xs ss fs := by
  induction h with
  | nil => exact .nil
  | cons h t ih => exact .cons (h.keep hj (hk _ (List.mem_cons_self))) (ih fun f hf => hk f (List.mem_cons_of_mem _ hf))
theorem SlsOk.known {xs : List (Option V)} {ss : List SV} {fs : List (List Addr)} (h : SlsOk K J H xs ss fs) : ∀ f ∈ fs, ∀ a ∈ f, ∃ u, H a = some u := by
  induction h with
  | nil => intro f hf; cases hf
  | cons h t ih =>
    intro f hf
    rcases List.mem_cons.mp hf with rfl | hf
    · exact h.known
    · exact ih f hf
theorem SlsOk.len {xs : List (Option V)} {ss : List SV} {fs : List (List Addr)} (h : SlsOk K J H xs ss fs) : xs.length = ss.length ∧ fs.length = ss.length := by
  induction h with
  | nil => exact ⟨rfl, rfl⟩
  | cons h t ih => exact ⟨congrArg (· + 1) ih.1, congrArg (· + 1) ih.2⟩
theorem SlsOk.get : ∀ {xs : List (Option V)} {ss : List SV} {fs : List (List Addr)} {i : Nat} {s : SV}, SlsOk K J H xs ss fs → ss[i]? = some s → ∃ x f, xs[i]? = some x ∧ fs[i]? = some f ∧ SlOk K J H x s f
  | _, _, _, _, _, .nil, e => by simp at e
  | _, _, _, 0, _, .cons h _, e => by simp at e; subst e; exact ⟨_, _, rfl, rfl, h⟩
  | _, _, _, i + 1, s, .cons _ t, e => by
    obtain ⟨x, f, h1, h2, h3⟩ := SlsOk.get (i := i) (s := s) t (by simpa using e)
    exact ⟨x, f, by simpa using h1, by simpa using h2, h3⟩
theorem SlsOk.set {x : Option V} {s : SV} {f : List Addr} (h : SlOk K J H x s f) : ∀ {xs : List (Option V)} {ss : List SV} {fs : List (List Addr)} (i : Nat), SlsOk K J H xs ss fs → SlsOk K J H (xs.set i x) (ss.set i s) (fs.set i f)
  | _, _, _, _, .nil => .nil
  | _, _, _, 0, .cons _ t => .cons h t
  | _, _, _, i + 1, .cons q t => .cons q (SlsOk.set h i t)
theorem SlsOk.setS {s : SV} {f : List Addr} : ∀ {xs : List (Option V)} {ss : List SV} {fs : List (List Addr)} (i : Nat) (x : Option V), xs[i]? = some x → SlOk K J H x s f → SlsOk K J H xs ss fs → SlsOk K J H xs (ss.set i s) (fs.set i f)
  | _, _, _, _, _, e, _, .nil => .nil
  | _, _, _, 0, _, e, h, .cons _ t => by
    simp at e
    subst e
    exact .cons h t
  | _, _, _, i + 1, x, e, h, .cons q t => .cons q (SlsOk.setS i x (by simpa using e) h t)
end
def Apart (fs : List (List Addr)) : Prop := ∀ (i j : Nat) (f g : List Addr) (a : Addr), fs[i]? = some f → fs[j]? = some g → a ∈ f → a ∈ g → i = j
theorem Apart.set {fs : List (List Addr)} (h : Apart fs) (i : Nat) {f : List Addr} (hf : ∀ j g, j ≠ i → fs[j]? = some g → ∀ a ∈ f, a ∉ g) : Apart (fs.set i f) := by
  intro j k g1 g2 a e1 e2 h1 h2
  by_cases hj : j = i
  · by_cases hk : k = i
    · exact hj.trans hk.symm
    · subst hj
      rw [List.getElem?_set_ne (Ne.symm hk)] at e2
      by_cases hl : j < fs.length
      · rw [List.getElem?_set_self hl] at e1
        cases e1
        exact absurd h2 (hf k _ hk e2 a h1)
      · rw [List.getElem?_eq_none (by simpa using hl)] at e1
        cases e1
  · rw [List.getElem?_set_ne (Ne.symm hj)] at e1
    by_cases hk : k = i
    · subst hk
      by_cases hl : k < fs.length
      · rw [List.getElem?_set_self hl] at e2
        cases e2
        exact absurd h1 (hf j _ hj e1 a h2)
      · rw [List.getElem?_eq_none (by simpa using hl)] at e2
        cases e2
    · rw [List.getElem?_set_ne (Ne.symm hk)] at e2
      exact h j k _ _ a e1 e2 h1 h2
theorem Apart.nilSet {fs : List (List Addr)} (h : Apart fs) (i : Nat) : Apart (fs.set i []) := h.set i (by intro _ _ _ _ a ha; cases ha)
theorem mem_set_of {fs : List (List Addr)} {i : Nat} {f g : List Addr} (h : g ∈ fs.set i f) : g = f ∨ g ∈ fs := by
  rcases List.mem_or_eq_of_mem_set h with h | h
  · exact .inr h
  · exact .inl h
structure Gd where
  P : Addr → Prop
  H0 : Hp
  J0 : Hp
  fx : List (Nat × Addr)
def SV.fixed : SV → Bool
  | .own true _ => true
  | .lk _ => true
  | _ => false
def LkOk (K : Fg) (G : Gd) (J H : Hp) (σ : L2.St) (i : Nat) (c : Str) (fs : List (Str × D)) : Prop := ∃ a C dx vs, σ[i]? = some (some (.ref a)) ∧ G.P a ∧ IsCls K c C ∧ H a = some (.ins C dx vs) ∧ ∀ x d, (x, d) ∈ fs → ∃ v, vs.lookup x = some v ∧ Rp K J v d
structure ER (K : Fg) (G : Gd) (J H : Hp) (σ : L2.St) (ρ : Env) : Prop where
  ex : Same J H
  j0 : Same G.J0 J
  keep : ∀ a, G.P a → H a = G.H0 a ∧ J a = G.J0 a
  pn : ∀ a, G.P a → ∃ o, G.H0 a = some o
  ft : ∃ fs, SlsOk K J H σ ρ fs ∧ Apart fs ∧ ∀ f ∈ fs, ∀ a ∈ f, J a = none ∧ ¬ G.P a
  fx : ∀ i a, (i, a) ∈ G.fx → σ[i]? = some (some (.ref a)) ∧ ∃ s, ρ[i]? = some s ∧ s.fixed = true
  lk : ∀ i c fs, ρ[i]? = some (.lk (some (c, fs))) → LkOk K G J H σ i c fs
section
variable {K : Fg} {G : Gd} {J H J' H' : Hp} {σ : L2.St} {ρ : Env}
theorem LkOk.grow {i : Nat} {c : Str} {fs : List (Str × D)} (h : LkOk K G J H σ i c fs) (hk : ∀ a, G.P a → H' a = H a) (hj : Same J J') : LkOk K G J' H' σ i c fs := by
  obtain ⟨a, C, dx, vs, h1, h2, h3, h4, h5⟩ := h
  refine ⟨a, C, dx, vs, h1, h2, h3, (hk a h2).trans h4, fun x d hx => ?_⟩
  obtain ⟨v, e, r⟩ := h5 x d hx
  exact ⟨v, e, dp_mono' hj r⟩
theorem LkOk.set {i j : Nat} {c : Str} {fs : List (Str × D)} {x : Option V} (h : LkOk K G J H σ j c fs) (hn : j ≠ i) : LkOk K G J H (σ.set i x) j c fs := by
  obtain ⟨a, C, dx, vs, h1, h⟩ := h
  exact ⟨a, C, dx, vs, by rw [List.getElem?_set_ne hn.symm]; exact h1, h⟩
theorem ER.len (e : ER K G J H σ ρ) : σ.length = ρ.length := by
  obtain ⟨fs, h, _⟩ := e.ft
  exact h.len.1
theorem ER.grow (e : ER K G J H σ ρ) (g : Grow J H J' H') : ER K G J' H' σ ρ := by
  obtain ⟨fs, h, ap, q⟩ := e.ft
  refine ⟨g.jh, e.j0.trans g.j, fun a p => ?_, e.pn, ⟨fs, h.keep g.j fun f hf a ha u hu => (g.old a u hu).1, ap, fun f hf a ha => ⟨?_, (q f hf a ha).2⟩⟩, e.fx, fun i c fs hi => (e.lk i c fs hi).grow (fun a p => ?_) g.j⟩
  · obtain ⟨o, ho⟩ := e.pn a p
    obtain ⟨k1, k2⟩ := e.keep a p
    obtain ⟨g1, g2⟩ := g.old a o (k1.trans ho)
    exact ⟨g1.trans ho.symm, g2.trans k2⟩
  · obtain ⟨u, hu⟩ := h.known f hf a ha
    rw [(g.old a u hu).2]
    exact (q f hf a ha).1
  · obtain ⟨o, ho⟩ := e.pn a p
    obtain ⟨k1, k2⟩ := e.keep a p
    rw [(g.old a o (k1.trans ho)).1, k1, ho]
def loose (ρ : Env) (i : Nat) : Bool := match ρ[i]? with
  | some (.own true _) => false
  | some (.lk _) => false
  | some _ => true
  | none => false
theorem ER.fx_ne (e : ER K G J H σ ρ) {i : Nat} (hl : loose ρ i = true) {j : Nat} {a : Addr} (h : (j, a) ∈ G.fx) : j ≠ i := by
  rintro rfl
  obtain ⟨_, o, ho, hf⟩ := e.fx j a h
  unfold loose at hl
  rw [ho] at hl
  unfold SV.fixed at hf
  split at hf
  · cases hl
  · cases hl
  · cases hf
theorem ER.lkSet (e : ER K G J H σ ρ) {i : Nat} {x : Option V} {s : SV} (hs : ∀ o, s ≠ .lk o) : ∀ j c fs, (ρ.set i s)[j]? = some (.lk (some (c, fs))) → LkOk K G J H (σ.set i x) j c fs := by
  intro j c fs h
  by_cases z : j = i
  · subst z
    by_cases hl : j < ρ.length
    · rw [List.getElem?_set_self hl] at h
      exact absurd (Option.some.inj h) (hs _)
    · rw [List.getElem?_eq_none (by rw [List.length_set]; omega)] at h
      cases h
  · rw [List.getElem?_set_ne (Ne.symm z)] at h
    exact (e.lk j c fs h).set z
theorem ER.lkOwn (e : ER K G J H σ ρ) {i : Nat} {s : SV} (hs : ∀ o, s ≠ .lk o) (hk : ∀ a, G.P a → H' a = H a) (hj : Same J J') : ∀ j c fs, (ρ.set i s)[j]? = some (.lk (some (c, fs))) → LkOk K G J' H' σ j c fs := by
  intro j c fs h
  by_cases z : j = i
  · subst z
    by_cases hl : j < ρ.length
    · rw [List.getElem?_set_self hl] at h
      exact absurd (Option.some.inj h) (hs _)
    · rw [List.getElem?_eq_none (by rw [List.length_set]; omega)] at h
      cases h
  · rw [List.getElem?_set_ne (Ne.symm z)] at h
    exact (e.lk j c fs h).grow hk hj
theorem ER.setD {i : Nat} {v : V} {d : D} (e : ER K G J H σ ρ) (hv : Rp K J v d) (hl : loose ρ i = true) : ER K G J H (σ.set i (some v)) (ρ.set i (.d d)) := by
  obtain ⟨fs, h, ap, q⟩ := e.ft
  refine ⟨e.ex, e.j0, e.keep, e.pn, ⟨fs.set i [], SlsOk.set (.d hv) i h, ap.nilSet i, fun f hf a ha => ?_⟩, fun j a hj => ?_, e.lkSet (by intro o h; cases h)⟩
  · rcases mem_set_of hf with rfl | hf
    · cases ha
    · exact q f hf a ha
  · have ne := e.fx_ne hl hj
    rw [List.getElem?_set_ne ne.symm, List.getElem?_set_ne ne.symm]
    exact e.fx j a hj
theorem ER.setU {i : Nat} {x : Option V} (e : ER K G J H σ ρ) (hl : loose ρ i = true) : ER K G J H (σ.set i x) (ρ.set i .un) := by
  obtain ⟨fs, h, ap, q⟩ := e.ft
  refine ⟨e.ex, e.j0, e.keep, e.pn, ⟨fs.set i [], SlsOk.set (.un x) i h, ap.nilSet i, fun f hf a ha => ?_⟩, fun j a hj => ?_, e.lkSet (by intro o h; cases h)⟩
  · rcases mem_set_of hf with rfl | hf
    · cases ha
    · exact q f hf a ha
  · have ne := e.fx_ne hl hj
    rw [List.getElem?_set_ne ne.symm, List.getElem?_set_ne ne.symm]
    exact e.fx j a hj
theorem ER.dropS {i : Nat} (e : ER K G J H σ ρ) (hl : loose ρ i = true) : ER K G J H σ (ρ.set i .un) := by
  obtain ⟨fs, h, ap, q⟩ := e.ft
  have hi : i < ρ.length := by
    unfold loose at hl
    split at hl
    · cases hl
    · cases hl
    · rename_i h1
      exact (List.getElem?_eq_some_iff.mp h1).1
    · cases hl
  have hs : i < σ.length := by rw [e.len]; exact hi
  have eq : σ.set i σ[i] = σ := List.set_getElem_self hs
  have := e.setU (x := σ[i]) hl
  rw [eq] at this
  exact this
theorem ER.setO {i : Nat} {p : Addr} {u : HO} {o : Own} (e : ER K G J H σ ρ) (hp : H p = none) (hl : loose ρ i = true) (ho : OwnAt K J (upd H p u) o [p]) : ER K G J (upd H p u) (σ.set i (some (.ref p))) (ρ.set i (.own false o)) := by
  have g := Grow.side (o := u) e.ex hp
  have e1 := e.grow g
  obtain ⟨fs, h, ap, q⟩ := e1.ft
  obtain ⟨fs0, h0, ap0, q0⟩ := e.ft
  have fresh : ∀ f ∈ fs0, p ∉ f := fun f hf hm => by
    obtain ⟨u, hu⟩ := h0.known f hf p hm
    rw [hp] at hu
    cases hu
  have h1 : SlsOk K J (upd H p u) σ ρ fs0 := h0.keep (.refl _) fun f hf a ha w hw => (g.old a w hw).1
  refine ⟨g.jh, e.j0, e1.keep, e.pn, ⟨fs0.set i [p], SlsOk.set (.own ho) i h1, ap0.set i fun j f hj ef a ha => ?_, fun f hf a ha => ?_⟩, fun j a hj => ?_, e1.lkSet (by intro o h; cases h)⟩
  · have : a = p := by simpa using ha
    subst this
    exact fresh f (List.mem_of_getElem? ef)
  · rcases mem_set_of hf with rfl | hf
    · have : a = p := by simpa using ha
      subst this
      refine ⟨same_free e.ex hp, fun hP => ?_⟩
      obtain ⟨o, ho⟩ := e.pn _ hP
      rw [(e.keep _ hP).1, ho] at hp
      cases hp
    · exact q0 f hf a ha
  · have ne := e.fx_ne hl hj
    rw [List.getElem?_set_ne ne.symm, List.getElem?_set_ne ne.symm]
    exact e.fx j a hj
theorem ER.mutL {i : Nat} {a : Addr} {fx : Bool} {xs xs' : List D} {vs' : List V} (e : ER K G J H σ ρ) (hi : ρ[i]? = some (.own fx (.lst xs))) (hs : σ[i]? = some (some (.ref a))) (hv : RpAll K J vs' xs') :
    ER K G J (upd H a (.lst vs')) σ (ρ.set i (.own fx (.lst xs'))) := by
  obtain ⟨fs, h, ap, q⟩ := e.ft
  obtain ⟨x, f, e1, e2, r⟩ := h.get hi
  rw [hs] at e1
  cases e1
  cases r with
  | own ho =>
  obtain ⟨a', vs, ef, ha, hd⟩ := ho
  injection ef with ea er
  subst ea er
  have qa := q _ (List.mem_of_getElem? e2) a (by simp)
  have other : ∀ j f, j ≠ i → fs[j]? = some f → a ∉ f := fun j f hj ef hm => hj (ap j i f [a] a ef e2 hm (by simp))
  refine ⟨fun b u hu => ?_, e.j0, fun b hb => ?_, e.pn, ⟨fs, ?_, ap, q⟩, fun j b hj => ?_, e.lkOwn (by intro o h; cases h) (fun b hb => upd_ne fun z => qa.2 (z ▸ hb)) (.refl _)⟩
  · have ne : b ≠ a := ne_of_none hu qa.1
    rw [upd_ne ne]
    exact e.ex _ _ hu
  · have ne : b ≠ a := fun z => qa.2 (z ▸ hb)
    rw [upd_ne ne]
    exact e.keep b hb
  · -- the slots
    have key : ∀ (σ : List (Option V)) (ρ : List SV) (fs : List (List Addr)) (i : Nat), SlsOk K J H σ ρ fs → ρ[i]? = some (.own fx (.lst xs)) → σ[i]? = some (some (.ref a)) → fs[i]? = some [a] → (∀ j f, j ≠ i → fs[j]? = some f → a ∉ f) →
        SlsOk K J (upd H a (.lst vs')) σ (ρ.set i (.own fx (.lst xs'))) fs := by
      intro σ ρ fs i h
      induction h generalizing i with
      | nil => intro e; simp at e
      | @cons x s f xs ss fs h t ih =>
        intro e1 e2 e3 e4
        cases i with
        | zero =>
          simp at e1 e2 e3
          subst e1 e2 e3
          refine .cons (.own ⟨a, vs', rfl, upd_same, hv⟩) (t.keep (.refl _) fun g hg b hb u hu => ?_)
          obtain ⟨k, hk, hk2⟩ := List.getElem_of_mem hg
          have : a ∉ g := e4 (k + 1) g (by omega) (by simp [hk, hk2])
          rw [upd_ne (show b ≠ a from fun z => this (z ▸ hb))]
          exact hu
        | succ i =>
          refine .cons (h.keep (.refl _) fun b hb u hu => ?_) (ih i (by simpa using e1) (by simpa using e2) (by simpa using e3) fun j g hj hg => e4 (j + 1) g (by omega) (by simpa using hg))
          have : a ∉ f := e4 0 f (by omega) rfl
          rw [upd_ne (show b ≠ a from fun z => this (z ▸ hb))]
          exact hu
    exact key σ ρ fs i h hi hs e2 other
  · obtain ⟨f1, o, f2, f3⟩ := e.fx j b hj
    refine ⟨f1, ?_⟩
    by_cases hij : i = j
    · subst hij
      rw [hi] at f2
      cases f2
      refine ⟨.own fx (.lst xs'), ?_, ?_⟩
      · rw [List.getElem?_set_self (List.getElem?_eq_some_iff.mp hi).1]
      · cases fx <;> first | rfl | cases f3
    · rw [List.getElem?_set_ne hij]
      exact ⟨o, f2, f3⟩
theorem ER.freeze {i : Nat} {xs : List D} (e : ER K G J H σ ρ) (hi : ρ[i]? = some (.own false (.lst xs))) : ∃ a J', σ[i]? = some (some (.ref a)) ∧ Same J J' ∧ Rp K J' (.ref a) (.list xs) ∧ ER K G J' H σ (ρ.set i .un) := by
  obtain ⟨fs, h, ap, q⟩ := e.ft
  obtain ⟨x, f, e1, e2, r⟩ := h.get hi
  have hl : loose ρ i = true := by unfold loose; rw [hi]
  cases r with
  | own ho =>
  rename_i a r
  obtain ⟨a', vs, ef, ha, hd⟩ := ho
  injection ef with ea er
  subst ea er
  have qa := q _ (List.mem_of_getElem? e2) a (by simp)
  have sj : Same J (upd J a (.lst vs)) := same_new qa.1
  refine ⟨a, upd J a (.lst vs), e1, sj, .lst (.of upd_same) (dps_mono sj _ _ hd), ?_⟩
  have hs : SlsOk K (upd J a (.lst vs)) H σ (ρ.set i .un) (fs.set i []) := SlsOk.setS i _ e1 (.un _) (h.keep sj fun _ _ _ _ _ hu => hu)
  refine ⟨fun b u hu => ?_, e.j0.trans sj, fun b hb => ?_, e.pn, ⟨fs.set i [], hs, ap.nilSet i, fun f hf b hb => ?_⟩, fun j b hj => ?_, e.lkOwn (by intro o h; cases h) (fun _ _ => rfl) sj⟩
  · by_cases z : b = a
    · subst z
      rw [upd_same] at hu
      cases hu
      exact ha
    · rw [upd_ne z] at hu
      exact e.ex _ _ hu
  · have ne : b ≠ a := fun z => qa.2 (z ▸ hb)
    rw [upd_ne ne]
    exact e.keep b hb
  · obtain ⟨k, hk, hk2⟩ := List.getElem_of_mem hf
    by_cases z : k = i
    · subst z
      have : f = [] := by
        rw [← hk2, List.getElem_set_self]
      subst this
      cases hb
    · rw [List.length_set] at hk
      rw [List.getElem_set_ne (Ne.symm z)] at hk2
      have hfk : fs[k]? = some f := by rw [List.getElem?_eq_getElem hk, hk2]
      have ne : b ≠ a := fun w => z (ap k i f [a] a hfk e2 (w ▸ hb) (by simp))
      rw [upd_ne ne]
      exact q f (List.mem_of_getElem? hfk) b hb
  · have ne := e.fx_ne hl hj
    rw [List.getElem?_set_ne ne.symm]
    exact e.fx j b hj
end
end DL
namespace DL
open PySem PySem.Spec L2
structure EV where
  cls : String
  fs : List (Str × D)
inductive VV where
  | val (d : D)
  | slot (i : Nat)
inductive Out (α : Type) where
  | ok (a : α) (ρ : Env)
  | exc (e : EV) (ρ : Env)
  | bad
@[reducible, simp] def Out.bind {α β : Type} (x : Out α) (k : α → Env → Out β) : Out β := match x with
  | .ok a ρ => k a ρ
  | .exc e ρ => .exc e ρ
  | .bad => .bad
structure Yx where
  ct : String → Option Value
  W : WX
def FsOk (K : Fg) (J : Hp) : List (Str × V) → List (Str × D) → Prop
  | [], [] => True
  | (f, v) :: vs, (g, d) :: ds => f = g ∧ Rp K J v d ∧ FsOk K J vs ds
  | _, _ => False
def ExcAt (Y : Yx) (K : Fg) (J H : Hp) (e : EV) (c : Value) (dx : Option Addr) : Prop :=
  Y.ct e.cls = some c ∧ ((e.fs = [] ∧ dx = none) ∨ ∃ a vs, dx = some a ∧ J a = none ∧ H a = some (.xd vs) ∧ FsOk K J vs e.fs)
def RV (K : Fg) (σ : L2.St) (J : Hp) (v : V) : VV → Prop
  | .val d => Rp K J v d
  | .slot i => σ[i]? = some (some v)
def RVs (K : Fg) (σ : L2.St) (J : Hp) : List V → List VV → Prop
  | [], [] => True
  | v :: vs, x :: xs => RV K σ J v x ∧ RVs K σ J vs xs
  | _, _ => False
theorem RV.mono {K : Fg} {σ : L2.St} {J J' : Hp} (s : Same J J') {v : V} : ∀ {x : VV}, RV K σ J v x → RV K σ J' v x
  | .val _, h => dp_mono s _ _ h
  | .slot _, h => h
theorem RVs.mono {K : Fg} {σ : L2.St} {J J' : Hp} (s : Same J J') : ∀ {vs : List V} {xs : List VV}, RVs K σ J vs xs → RVs K σ J' vs xs
  | [], [], _ => trivial
  | _ :: _, _ :: _, h => ⟨h.1.mono s, RVs.mono s h.2⟩
  | [], _ :: _, h => h.elim
  | _ :: _, [], h => h.elim
@[simp] def deref (ρ : Env) : VV → Option D
  | .val d => some d
  | .slot i => match ρ[i]? with
    | some (.own _ (.lst xs)) => some (.list xs)
    | _ => none
@[simp] def derefs (ρ : Env) : List VV → Option (List D)
  | [] => some []
  | x :: xs => match deref ρ x with
    | some d => match derefs ρ xs with
      | some ds => some (d :: ds)
      | none => none
    | none => none
def Wk (K : Fg) (J H : Hp) (v : V) (d : D) : Prop := Rp K J v d ∨ ∃ a vs xs, v = .ref a ∧ d = .list xs ∧ H a = some (.lst vs) ∧ RpAll K J vs xs
def Wks (K : Fg) (J H : Hp) : List V → List D → Prop
  | [], [] => True
  | v :: vs, x :: xs => Wk K J H v x ∧ Wks K J H vs xs
  | _, _ => False
section
variable {K : Fg} {G : Gd} {J H J' H' : Hp} {σ : L2.St} {ρ : Env} {Y : Yx}
theorem deref_ok (e : ER K G J H σ ρ) {v : V} {x : VV} {d : D} (r : RV K σ J v x) (h : deref ρ x = some d) : Wk K J H v d := by
  cases x with
  | val d' =>
    cases h
    exact .inl r
  | slot i =>
    have h : (match ρ[i]? with
      | some (.own _ (.lst xs)) => some (PyData.list xs)
      | _ => none) = some d := h
    split at h
    · rename_i fx xs hi
      cases h
      obtain ⟨fs, hs, _⟩ := e.ft
      obtain ⟨y, f, e1, _, so⟩ := hs.get hi
      have e2 : σ[i]? = some (some v) := r
      rw [e2] at e1
      cases e1
      cases so with
      | own ho =>
        obtain ⟨a, vs, ef, ha, hd⟩ := ho
        injection ef with ea er
        subst ea er
        exact .inr ⟨_, vs, xs, rfl, rfl, ha, hd⟩
    · cases h
theorem derefs_ok (e : ER K G J H σ ρ) : ∀ {vs : List V} {xs : List VV} {ds : List D}, RVs K σ J vs xs → derefs ρ xs = some ds → Wks K J H vs ds
  | [], [], ds, _, h => by
    cases h
    trivial
  | v :: vs, x :: xs, ds, r, h => by
    unfold derefs at h
    split at h
    · rename_i d hd
      split at h
      · rename_i ds' hds
        cases h
        exact ⟨deref_ok e r.1 hd, derefs_ok e r.2 hds⟩
      · cases h
    · cases h
  | [], _ :: _, _, r, _ => r.elim
  | _ :: _, [], _, r, _ => r.elim
theorem Wk.rp {v : V} {d : D} (s : Same J H) (h : Wk K J H v d) : Rp K H v d := by
  rcases h with h | ⟨a, vs, xs, rfl, rfl, ha, r⟩
  · exact dp_mono s _ _ h
  · exact .lst (.of ha) (dps_mono s _ _ r)
theorem Wk.dp {v : V} {d : D} (s : Same J H) (c : SeqAt.shaped d = true) (h : Wk K J H v d) : Dp K H v d := rp_dp _ _ (by
  unfold SeqAt.shaped at c
  rw [Bool.and_eq_true] at c
  exact c.1) (h.rp s)
theorem Wk.list {v : V} {xs : List D} (s : Same J H) (h : Wk K J H v (.list xs)) : ∃ a vs, v = .ref a ∧ SqL K H a vs ∧ RpAll K J vs xs := by
  rcases h with h | ⟨a, vs, xs', rfl, e, ha, r⟩
  · cases h with
    | lst hs ha => exact ⟨_, _, rfl, same_l s hs, ha⟩
  · cases e
    exact ⟨_, _, rfl, .of ha, r⟩
theorem Wk.tup {v : V} {xs : List D} (s : Same J H) (h : Wk K J H v (.tuple xs)) : ∃ a vs, v = .ref a ∧ SqT K H a vs ∧ RpAll K J vs xs ∧ Rp K J v (.tuple xs) := by
  rcases h with h | ⟨a, vs, xs', rfl, e, ha, r⟩
  · have h' := h
    cases h with
    | tup hs ha => exact ⟨_, _, rfl, same_t s hs, ha, h'⟩
  · cases e
theorem Wk.int {v : V} {i : Int} (h : Wk K J H v (.int i)) : v = .int i := by
  rcases h with h | ⟨_, _, _, _, e, _⟩
  · cases h; rfl
  · cases e
theorem Wk.str {v : V} {i : Str} (h : Wk K J H v (.str i)) : v = .str i := by
  rcases h with h | ⟨_, _, _, _, e, _⟩
  · cases h; rfl
  · cases e
theorem Wk.bl {v : V} {i : Bool} (h : Wk K J H v (.bool i)) : v = .bl i := by
  rcases h with h | ⟨_, _, _, _, e, _⟩
  · cases h; rfl
  · cases e
theorem Wk.non {v : V} (h : Wk K J H v .none) : v = .non := by
  rcases h with h | ⟨_, _, _, _, e, _⟩
  · cases h; rfl
  · cases e
def Post {α β : Type} (K : Fg) (Y : Yx) (G : Gd) (J : Hp) (σ : L2.St) (R : Hp → β → α → Prop) (o : Out α) (Q : β → Hp → Prop) : Prop := match o with
  | .ok x ρ => ∀ v J' H', Same J J' → R J' v x → ER K G J' H' σ ρ → Q v H'
  | .exc e ρ => ∀ c dx J' H', Same J J' → ExcAt Y K J' H' e c dx → ER K G J' H' σ ρ → Y.W c dx σ H'
  | .bad => False
theorem Post.mono {α β : Type} {R : Hp → β → α → Prop} {o : Out α} {Q : β → Hp → Prop} (s : Same J J') (h : Post K Y G J σ R o Q) : Post K Y G J' σ R o Q := by
  cases o with
  | ok x ρ => exact fun v J1 H1 s1 r e => h v J1 H1 (s.trans s1) r e
  | exc e ρ => exact fun c dx J1 H1 s1 r e => h c dx J1 H1 (s.trans s1) r e
  | bad => exact h
theorem Post.bind {α β α' β' : Type} {R : Hp → β → α → Prop} {R' : Hp → β' → α' → Prop} {o : Out α} {k : α → Env → Out α'} {Q : β' → Hp → Prop} (h : Post K Y G J σ R' (o.bind k) Q) {Q' : β → Hp → Prop}
    (hk : ∀ x ρ v J' H', Same J J' → R J' v x → ER K G J' H' σ ρ → Post K Y G J' σ R' (k x ρ) Q → Q' v H') : Post K Y G J σ R o Q' := by
  cases o with
  | ok x ρ => exact fun v J1 H1 s1 r e => hk x ρ v J1 H1 s1 r e (Post.mono s1 h)
  | exc e ρ => exact h
  | bad => exact h
theorem Post.now {α β : Type} {R : Hp → β → α → Prop} {x : α} {Q : β → Hp → Prop} {v : β} (h : Post K Y G J σ R (.ok x ρ) Q) (r : R J v x) (e : ER K G J H σ ρ) : Q v H := h v J H (.refl J) r e
theorem Post.grow {α β : Type} {R : Hp → β → α → Prop} {x : α} {Q : β → Hp → Prop} {v : β} (h : Post K Y G J σ R (.ok x ρ) Q) (e : ER K G J H σ ρ) (g : Grow J H J' H') (r : R J' v x) : Q v H' := h v J' H' g.j r (e.grow g)
end
abbrev EC := Env → Out VV
abbrev TC := Env → Out Bool
def tE (K : Fg) (Y : Yx) (f : EC) : TE := fun σ H Q => ∃ G J ρ, ER K G J H σ ρ ∧ Post K Y G J σ (RV K σ) (f ρ) Q
def tT (K : Fg) (Y : Yx) (f : TC) : TT := fun σ H Q => ∃ G J ρ, ER K G J H σ ρ ∧ Post K Y G J σ (fun _ v x => v = x) (f ρ) Q
def tA (K : Fg) (Y : Yx) (f : Env → Out (List VV)) : TA := fun σ H Q => ∃ G J ρ, ER K G J H σ ρ ∧ Post K Y G J σ (RVs K σ) (f ρ) Q
def PostN (K : Fg) (Y : Yx) (G : Gd) (J : Hp) (σ : L2.St) (o : Out (List D)) (Q : VK) : Prop := match o with
  | .ok xs ρ => ∀ p vs J' H', Same J J' → H' p = none → RpAll K J' vs xs → ER K G J' H' σ ρ → Q (.ref p) (upd H' p (.lst vs))
  | .exc e ρ => ∀ c dx J' H', Same J J' → ExcAt Y K J' H' e c dx → ER K G J' H' σ ρ → Y.W c dx σ H'
  | .bad => False
def tN (K : Fg) (Y : Yx) (f : Env → Out (List D)) : TE := fun σ H Q => ∃ G J ρ, ER K G J H σ ρ ∧ PostN K Y G J σ (f ρ) Q
theorem PE.imp {X : Cx} {e : Expr} {t t' : TE} (h : PE X e t) (i : ∀ σ H Q, t' σ H Q → t σ H Q) : PE X e t' := ⟨fun pins s σ H Q I hw => h.run pins s σ H Q I (i _ _ _ hw)⟩
theorem PT.imp {X : Cx} {e : Expr} {t t' : TT} (h : PT X e t) (i : ∀ σ H Q, t' σ H Q → t σ H Q) : PT X e t' := ⟨fun pins s σ H Q I hw => h.run pins s σ H Q I (i _ _ _ hw)⟩
theorem PW.imp {X : Cx} {e : Expr} {t t' : TT} (h : PW X e t) (i : ∀ σ H Q, t' σ H Q → t σ H Q) : PW X e t' := ⟨fun wh pins s σ H Q I hw => h.run wh pins s σ H Q I (i _ _ _ hw)⟩
theorem PA.imp {X : Cx} {e : List Expr} {t t' : TA} (h : PA X e t) (i : ∀ σ H Q, t' σ H Q → t σ H Q) : PA X e t' := ⟨fun pos pins s σ H Q I hw => h.run pos pins s σ H Q I (i _ _ _ hw)⟩
abbrev DE (X : Cx) (Y : Yx) (e : Expr) (f : EC) : Prop := PE X e (tE X.G Y f)
abbrev DT (X : Cx) (Y : Yx) (e : Expr) (f : TC) : Prop := PT X e (tT X.G Y f)
abbrev DW (X : Cx) (Y : Yx) (e : Expr) (f : TC) : Prop := PW X e (tT X.G Y f)
abbrev DA (X : Cx) (Y : Yx) (es : List Expr) (f : Env → Out (List VV)) : Prop := PA X es (tA X.G Y f)
abbrev DN (X : Cx) (Y : Yx) (e : Expr) (f : Env → Out (List D)) : Prop := PE X e (tN X.G Y f)
@[simp] def eVar (i : Nat) (ρ : Env) : Out VV := match ρ[i]? with
  | some (.d d) => .ok (.val d) ρ
  | some (.own _ (.lst _)) => .ok (.slot i) ρ
  | _ => .bad
@[simp] def eC (d : D) (ρ : Env) : Out VV := .ok (.val d) ρ
section
variable {X : Cx} {Y : Yx} {a b c : Expr} {pos : Pos}
theorem de_var (i : Nat) {x : Str} (hN : X.N[i]? = some x := by rfl) (hv : Vis X.env.scope x := by first | exact Or.inl rfl | exact Or.inr (Or.inl rfl) | exact Or.inr (Or.inr rfl)) (hd : (x == ("__debug__" : Str)) = false := by decide)
    (hcd : (x == ("__classdict__" : Str)) = false := by decide) : DE X Y (.Name x pos) (eVar i) := by
  refine PE.imp (pe_var (i := i) hN hv hd hcd) fun σ H Q ⟨G, J, ρ, er, h⟩ => ?_
  unfold eVar at h
  split at h
  · rename_i d hi
    obtain ⟨fs, hs, _⟩ := er.ft
    obtain ⟨y, f, e1, _, so⟩ := hs.get hi
    cases so with
    | d hd => exact ⟨_, e1, h.now hd er⟩
  · rename_i fx xs hi
    obtain ⟨fs, hs, _⟩ := er.ft
    obtain ⟨y, f, e1, _, so⟩ := hs.get hi
    cases so with
    | own ho => exact ⟨_, e1, h.now (v := .ref _) (show RV X.G σ J (.ref _) (.slot i) from e1) er⟩
  · exact h.elim
theorem de_of_c {v : V} {d : D} (h : PE X a (tC v)) (r : ∀ J, Rp X.G J v d) : DE X Y a (eC d) := PE.imp h fun σ H Q ⟨G, J, ρ, er, h⟩ => Post.now h (r J) er
theorem de_int {i : Int} {j} : DE X Y (.Constant (.int i) j pos) (eC (.int i)) := de_of_c pe_int fun _ => .int i
theorem de_bl {i : Bool} {j} : DE X Y (.Constant (.bool i) j pos) (eC (.bool i)) := de_of_c pe_bl fun _ => .bl i
theorem de_str {i : Str} {j} : DE X Y (.Constant (.str i) j pos) (eC (.str i)) := de_of_c pe_str fun _ => .str i
theorem de_non {j} : DE X Y (.Constant .none j pos) (eC .none) := de_of_c pe_non fun _ => .non
structure GlD (K : Fg) (mg : Str → Option Value) (x : Str) (d : D) : Prop where
  ex : ∃ v u, mg x = some u ∧ RelV v u ∧ ∀ J, Rp K J v d
theorem de_glob {x : Str} {d : D} (g : GlD X.G X.mg x d) (hg : Gl X x := by rfl) (hd : (x == ("__debug__" : Str)) = false := by decide) : DE X Y (.Name x pos) (eC d) := by
  obtain ⟨v, u, h1, h2, h3⟩ := g.ex
  exact de_of_c (pe_glob hg h1 h2 hd) h3
def rD (K : Fg) (g : D → D → Option D) : R2 := fun x y H Q => ∃ J dx dy d, Same J H ∧ Wk K J H x dx ∧ Wk K J H y dy ∧ g dx dy = some d ∧ ∀ v J' H', Grow J H J' H' → Rp K J' v d → Q v H'
abbrev OpD (X : Cx) (f : Value → Value → Sem Value) (g : D → D → Option D) : Prop := OpR X f (rD X.G g)
@[simp] def eBin (g : D → D → Option D) (fa fb : EC) (ρ : Env) : Out VV := (fa ρ).bind fun x ρ1 => (fb ρ1).bind fun y ρ2 => match deref ρ2 x, deref ρ2 y with
  | some dx, some dy => match g dx dy with
    | some d => .ok (.val d) ρ2
    | none => .bad
  | _, _ => .bad
theorem bin_end {K : Fg} {Y : Yx} {G : Gd} {J H : Hp} {σ : L2.St} {ρ : Env} {g : D → D → Option D} {x y : VV} {v w : V} {Q : VK} (er : ER K G J H σ ρ) (rx : RV K σ J v x) (ry : RV K σ J w y)
    (h : Post K Y G J σ (RV K σ) (match deref ρ x, deref ρ y with
      | some dx, some dy => match g dx dy with
        | some d => Out.ok (.val d) ρ
        | none => .bad
      | _, _ => .bad) Q) : rD K g v w H Q := by
  split at h
  · rename_i dx dy h1 h2
    split at h
    · rename_i d h3
      exact ⟨J, dx, dy, d, er.ex, deref_ok er rx h1, deref_ok er ry h2, h3, fun v J' H' gr r => h.grow er gr r⟩
    · exact h.elim
  · exact h.elim
theorem bin_imp {K : Fg} {Y : Yx} {g : D → D → Option D} {fa fb : EC} : ∀ σ H Q, tE K Y (eBin g fa fb) σ H Q → tOp (rD K g) (tE K Y fa) (tE K Y fb) σ H Q := fun σ H Q ⟨G, J, ρ, er, h⟩ =>
  ⟨G, J, ρ, er, Post.bind h fun x ρ1 v J1 H1 s1 r1 e1 h1 => ⟨G, J1, ρ1, e1, Post.bind h1 fun y ρ2 w J2 H2 s2 r2 e2 h2 => bin_end e2 (r1.mono s2) r2 h2⟩⟩
theorem de_op {op : Operator} {g : D → D → Option D} {fa fb : EC} (ho : OpD X (binaryOp op) g) (ha : DE X Y a fa) (hb : DE X Y b fb) : DE X Y (.BinOp a op b pos) (eBin g fa fb) := PE.imp (pe_op ho ha hb) bin_imp
theorem de_cmp {op : CmpOp} {g : D → D → Option D} {fa fb : EC} (ho : OpD X (compareOp op) g) (ha : DE X Y a fa) (hb : DE X Y b fb) (hm : behindInMarks op b = false := by first | exact nomark _ | rfl) : DE X Y (.Compare a [op] [b] pos) (eBin g fa fb) :=
  PE.imp (pe_cmpR ho ha hb hm) bin_imp
@[simp] def eTest (f : EC) (ρ : Env) : Out Bool := (f ρ).bind fun x ρ1 => match x with
  | .val (.bool b) => .ok b ρ1
  | _ => .bad
theorem dt_cmp {op : CmpOp} {g : D → D → Option D} {fa fb : EC} (ho : OpD X (compareOp op) g) (ha : DE X Y a fa) (hb : DE X Y b fb) (hm : behindInMarks op b = false := by first | exact nomark _ | rfl) : DT X Y (.Compare a [op] [b] pos) (eTest (eBin g fa fb)) := by
  refine PT.imp (pt_cmpR ho ha hb hm) fun σ H Q ⟨G, J, ρ, er, h⟩ => ?_
  refine bin_imp (Y := Y) σ H _ ⟨G, J, ρ, er, Post.bind h fun x ρ1 v J1 H1 s1 r1 e1 h1 => ?_⟩
  split at h1
  · cases r1
    exact ⟨_, rfl, h1.now rfl e1⟩
  · exact h1.elim
def truth : D → Option Bool
  | .none => some false
  | .bool b => some b
  | .int i => some (i != 0)
  | .str x => if x.length ≤ sizeLine then some ((x.length : Int) != 0) else none
  | .list xs => some (!xs.isEmpty)
  | .tuple xs => some (!xs.isEmpty)
  | .dict _ => none
@[simp] theorem truth_n : truth .none = some false := rfl
@[simp] theorem truth_b (b : Bool) : truth (.bool b) = some b := rfl
@[simp] theorem truth_i (i : Int) : truth (.int i) = some (i != 0) := rfl
@[simp] theorem truth_s (x : Str) : truth (.str x) = if x.length ≤ sizeLine then some ((x.length : Int) != 0) else none := rfl
@[simp] theorem truth_l (xs : List D) : truth (.list xs) = some (!xs.isEmpty) := rfl
@[simp] theorem truth_t (xs : List D) : truth (.tuple xs) = some (!xs.isEmpty) := rfl
@[simp] def eTruth (f : EC) (ρ : Env) : Out Bool := (f ρ).bind fun x ρ1 => match deref ρ1 x with
  | some d => match truth d with
    | some b => .ok b ρ1
    | none => .bad
  | none => .bad
theorem rps_empty {K : Fg} {J : Hp} {vs : List V} {xs : List D} (h : RpAll K J vs xs) : (!xs.isEmpty) = !vs.isEmpty := by
  cases h <;> rfl
theorem truth_ok {K : Fg} {J H : Hp} {v : V} {d : D} {b : Bool} (s : Same J H) (h : Wk K J H v d) (t : truth d = some b) : TruV K v H b := by
  cases d with
  | none =>
    cases h.non
    exact (Option.some.inj t).symm
  | bool i =>
    cases h.bl
    exact (Option.some.inj t).symm
  | int i =>
    cases h.int
    exact (Option.some.inj t).symm
  | str i =>
    cases h.str
    have t : (if i.length ≤ sizeLine then some ((i.length : Int) != 0) else none) = some b := t
    split at t
    · rename_i hl
      exact ⟨hl, (Option.some.inj t).symm⟩
    · cases t
  | list xs =>
    obtain ⟨a, vs, rfl, hr, hd⟩ := h.list s
    exact .inl ⟨vs, hr, ((Option.some.inj t).symm.trans (rps_empty hd))⟩
  | tuple xs =>
    obtain ⟨a, vs, rfl, hr, hd, _⟩ := h.tup s
    exact .inr (.inl ⟨vs, hr, ((Option.some.inj t).symm.trans (rps_empty hd))⟩)
  | dict _ => cases t
theorem dt_truth {f : EC} (ha : DE X Y a f) (he : ∀ whole, isTrue a X.env whole = (do let v ← whole; standAt a.pos; holding [v] (truthy v)) := by intro _; rfl) : DT X Y a (eTruth f) := by
  refine PT.imp (pt_truth ha he) fun σ H Q ⟨G, J, ρ, er, h⟩ => ⟨G, J, ρ, er, Post.bind h fun x ρ1 v J1 H1 s1 r1 e1 h1 => ?_⟩
  split at h1
  · rename_i d hd
    split at h1
    · rename_i b hb
      exact ⟨b, truth_ok e1.ex (deref_ok e1 r1 hd) hb, h1.now rfl e1⟩
    · exact h1.elim
  · exact h1.elim
@[simp] def eAnd (f g : TC) (ρ : Env) : Out Bool := (f ρ).bind fun x ρ1 => if x = true then g ρ1 else .ok false ρ1
@[simp] def eOr (f g : TC) (ρ : Env) : Out Bool := (f ρ).bind fun x ρ1 => if x = true then .ok true ρ1 else g ρ1
@[simp] def eNot (f : TC) (ρ : Env) : Out Bool := (f ρ).bind fun x ρ1 => .ok (!x) ρ1
variable {rest : List Expr} {f g : TC}
theorem dw_and1 (ha : DT X Y a f) : DW X Y (.BoolOp .And [a] pos) f := pw_and1 ha
theorem dw_or1 (ha : DT X Y a f) : DW X Y (.BoolOp .Or [a] pos) f := pw_or1 ha
theorem dw_and (ha : DT X Y a f) (hb : DW X Y (.BoolOp .And (b :: rest) pos) g) : DW X Y (.BoolOp .And (a :: b :: rest) pos) (eAnd f g) := by
  refine PW.imp (pw_and ha hb) fun σ H Q ⟨G, J, ρ, er, h⟩ => ⟨G, J, ρ, er, Post.bind h fun x ρ1 v J1 H1 s1 r1 e1 h1 => ?_⟩
  cases r1
  cases x with
  | true => exact ⟨G, J1, ρ1, e1, h1⟩
  | false => exact h1.now rfl e1
theorem dw_or (ha : DT X Y a f) (hb : DW X Y (.BoolOp .Or (b :: rest) pos) g) : DW X Y (.BoolOp .Or (a :: b :: rest) pos) (eOr f g) := by
  refine PW.imp (pw_or ha hb) fun σ H Q ⟨G, J, ρ, er, h⟩ => ⟨G, J, ρ, er, Post.bind h fun x ρ1 v J1 H1 s1 r1 e1 h1 => ?_⟩
  cases r1
  cases x with
  | true => exact h1.now rfl e1
  | false => exact ⟨G, J1, ρ1, e1, h1⟩
theorem dt_not (ha : DT X Y a f) : DT X Y (.UnaryOp .Not a pos) (eNot f) := by
  refine PT.imp (pt_not ha) fun σ H Q ⟨G, J, ρ, er, h⟩ => ⟨G, J, ρ, er, Post.bind h fun x ρ1 v J1 H1 s1 r1 e1 h1 => ?_⟩
  cases r1
  exact h1.now rfl e1
@[simp] def eAndV (f g : EC) (ρ : Env) : Out VV := (f ρ).bind fun x ρ1 => match x with
  | .val (.bool true) => g ρ1
  | .val (.bool false) => .ok (.val (.bool false)) ρ1
  | _ => .bad
@[simp] def eOrV (f g : EC) (ρ : Env) : Out VV := (f ρ).bind fun x ρ1 => match x with
  | .val (.bool true) => .ok (.val (.bool true)) ρ1
  | .val (.bool false) => g ρ1
  | _ => .bad
@[simp] def eNotV (f : EC) (ρ : Env) : Out VV := (f ρ).bind fun x ρ1 => match x with
  | .val (.bool c) => .ok (.val (.bool (!c))) ρ1
  | _ => .bad
theorem de_one {op} {f : EC} (h : DE X Y a f) : DE X Y (.BoolOp op [a] pos) f := pe_one h
theorem de_and {f g : EC} (ha : DE X Y a f) (hb : DE X Y (.BoolOp .And (b :: rest) pos) g) : DE X Y (.BoolOp .And (a :: b :: rest) pos) (eAndV f g) := by
  refine PE.imp (pe_and ha hb) fun σ H Q ⟨G, J, ρ, er, h⟩ => ⟨G, J, ρ, er, Post.bind h fun x ρ1 v J1 H1 s1 r1 e1 h1 => ?_⟩
  split at h1
  · cases r1
    exact ⟨true, rfl, G, J1, ρ1, e1, h1⟩
  · cases r1
    exact ⟨false, rfl, h1.now (.bl false) e1⟩
  · exact h1.elim
theorem de_not {f : EC} (ha : DE X Y a f) : DE X Y (.UnaryOp .Not a pos) (eNotV f) := by
  refine PE.imp (pe_not ha) fun σ H Q ⟨G, J, ρ, er, h⟩ => ⟨G, J, ρ, er, Post.bind h fun x ρ1 v J1 H1 s1 r1 e1 h1 => ?_⟩
  split at h1
  · cases r1
    exact ⟨_, rfl, h1.now (.bl _) e1⟩
  · exact h1.elim
@[simp] def eIf (t : TC) (f g : EC) (ρ : Env) : Out VV := (t ρ).bind fun x ρ1 => if x = true then f ρ1 else g ρ1
theorem de_if {t : TC} {f g : EC} (hc : DT X Y c t) (ha : DE X Y a f) (hb : DE X Y b g) : DE X Y (.IfExp c a b pos) (eIf t f g) := by
  refine PE.imp (pe_ifExp hc ha hb) fun σ H Q ⟨G, J, ρ, er, h⟩ => ⟨G, J, ρ, er, Post.bind h fun x ρ1 v J1 H1 s1 r1 e1 h1 => ?_⟩
  cases r1
  cases x with
  | true => exact ⟨G, J1, ρ1, e1, h1⟩
  | false => exact ⟨G, J1, ρ1, e1, h1⟩
@[simp] def eChain (g g' : D → D → Option D) (fa fb fc : EC) (ρ : Env) : Out VV := (fa ρ).bind fun x ρ1 => (fb ρ1).bind fun y ρ2 => match deref ρ2 x, deref ρ2 y with
  | some dx, some dy => match g dx dy with
    | some (.bool true) => (fc ρ2).bind fun z ρ3 => match deref ρ3 y, deref ρ3 z with
      | some dy', some dz => match g' dy' dz with
        | some d => .ok (.val d) ρ3
        | none => .bad
      | _, _ => .bad
    | some (.bool false) => .ok (.val (.bool false)) ρ2
    | _ => .bad
  | _, _ => .bad
theorem chain_imp {K : Fg} {Y : Yx} {g g' : D → D → Option D} {fa fb fc : EC} : ∀ σ H Q, tE K Y (eChain g g' fa fb fc) σ H Q → tChain (rD K g) (rD K g') (tE K Y fa) (tE K Y fb) (tE K Y fc) σ H Q := fun σ H Q ⟨G, J, ρ, er, h⟩ =>
  ⟨G, J, ρ, er, Post.bind h fun x ρ1 v J1 H1 s1 r1 e1 h1 => ⟨G, J1, ρ1, e1, Post.bind h1 fun y ρ2 w J2 H2 s2 r2 e2 h2 => by
    split at h2
    · rename_i dx dy d1 d2
      split at h2
      · rename_i h3
        refine ⟨J2, dx, dy, _, e2.ex, deref_ok e2 (r1.mono s2) d1, deref_ok e2 r2 d2, h3, fun k J' H' gr r => ?_⟩
        cases r
        refine ⟨true, rfl, ?_⟩
        rw [if_pos rfl]
        exact ⟨G, J', ρ2, e2.grow gr, Post.bind (h2.mono gr.j) fun z ρ3 u J3 H3 s3 r3 e3 h4 => bin_end e3 ((r2.mono gr.j).mono s3) r3 h4⟩
      · rename_i h3
        refine ⟨J2, dx, dy, _, e2.ex, deref_ok e2 (r1.mono s2) d1, deref_ok e2 r2 d2, h3, fun k J' H' gr r => ?_⟩
        cases r
        refine ⟨false, rfl, ?_⟩
        rw [if_neg Bool.false_ne_true]
        exact h2.grow e2 gr (.bl false)
      · exact h2.elim
    · exact h2.elim⟩⟩
theorem de_chain {op op' : CmpOp} {g g' : D → D → Option D} {fa fb fc : EC} (ho : OpD X (compareOp op) g) (ho' : OpD X (compareOp op') g') (ha : DE X Y a fa) (hb : DE X Y b fb) (hc : DE X Y c fc) (hm : lastMarks [op, op'] [b, c] = false := by with_unfolding_all rfl) :
    DE X Y (.Compare a [op, op'] [b, c] pos) (eChain g g' fa fb fc) := PE.imp (pe_chain ho ho' ha hb hc hm) chain_imp
@[simp] def aNil (ρ : Env) : Out (List VV) := .ok [] ρ
@[simp] def aCons (f : EC) (g : Env → Out (List VV)) (ρ : Env) : Out (List VV) := (f ρ).bind fun x ρ1 => (g ρ1).bind fun xs ρ2 => .ok (x :: xs) ρ2
variable {es : List Expr} {fa : Env → Out (List VV)}
theorem da_nil : DA X Y [] aNil := PA.imp pa_nil fun σ H Q ⟨G, J, ρ, er, h⟩ => Post.now h (v := []) trivial er
theorem da_cons {f : EC} (ha : DE X Y a f) (hr : DA X Y es fa) (hs : starEach (a :: es) X.env = (false, eval a X.env) :: starEach es X.env := by rfl) : DA X Y (a :: es) (aCons f fa) := by
  refine PA.imp (pa_cons ha hr hs) fun σ H Q ⟨G, J, ρ, er, h⟩ => ⟨G, J, ρ, er, Post.bind h fun x ρ1 v J1 H1 s1 r1 e1 h1 => ⟨G, J1, ρ1, e1, Post.bind h1 fun xs ρ2 vs J2 H2 s2 r2 e2 h2 => ?_⟩⟩
  exact h2.now (v := v :: vs) ⟨r1.mono s2, r2⟩ e2
@[simp] def vals : List VV → Option (List D)
  | [] => some []
  | .val d :: xs => match vals xs with
    | some ds => some (d :: ds)
    | none => none
  | .slot _ :: _ => none
theorem vals_ok {K : Fg} {σ : L2.St} {J : Hp} : ∀ {vs : List V} {xs : List VV} {ds : List D}, RVs K σ J vs xs → vals xs = some ds → RpAll K J vs ds
  | [], [], ds, _, h => by
    cases h
    exact .nil
  | v :: vs, .val d :: xs, ds, r, h => by
    unfold vals at h
    split at h
    · rename_i ds' hds
      cases h
      exact .cons r.1 (vals_ok r.2 hds)
    · cases h
  | v :: vs, .slot _ :: xs, ds, r, h => by cases h
  | [], _ :: _, _, r, _ => r.elim
  | _ :: _, [], _, r, _ => r.elim
@[simp] def eTup (fa : Env → Out (List VV)) (ρ : Env) : Out VV := (fa ρ).bind fun xs ρ1 => match vals xs with
  | some ds => if ds.length ≤ sizeLine then .ok (.val (.tuple ds)) ρ1 else .bad
  | none => .bad
theorem de_tup {k} (h : DA X Y es fa) : DE X Y (.Tuple es k pos) (eTup fa) := by
  refine PE.imp (pe_tup h) fun σ H Q ⟨G, J, ρ, er, h⟩ => ⟨G, J, ρ, er, Post.bind h fun xs ρ1 vs J1 H1 s1 r1 e1 h1 => ?_⟩
  split at h1
  · rename_i ds hds
    split at h1
    · rename_i hl
      have r := vals_ok r1 hds
      refine ⟨by rw [dps_len r]; exact hl, fun p hp => ?_⟩
      have gr := Grow.new (o := .tup vs) e1.ex hp
      exact h1.grow e1 gr (.tup (.of upd_same) (dps_mono gr.j _ _ r))
    · exact h1.elim
  · exact h1.elim
@[simp] def nLst (fa : Env → Out (List VV)) (ρ : Env) : Out (List D) := (fa ρ).bind fun xs ρ1 => match vals xs with
  | some ds => if ds.length ≤ sizeLine then .ok ds ρ1 else .bad
  | none => .bad
theorem PostN.of {α β : Type} {K : Fg} {Y : Yx} {G : Gd} {J : Hp} {σ : L2.St} {R : Hp → β → α → Prop} {o : Out α} {k : α → Env → Out (List D)} {Q : VK} (h : PostN K Y G J σ (o.bind k) Q) {Q' : β → Hp → Prop}
    (hk : ∀ x ρ v J' H', Same J J' → R J' v x → ER K G J' H' σ ρ → PostN K Y G J' σ (k x ρ) Q → Q' v H') : Post K Y G J σ R o Q' := by
  cases o with
  | ok x ρ =>
    refine fun v J1 H1 s1 r e => hk x ρ v J1 H1 s1 r e ?_
    have h : PostN K Y G J σ (k x ρ) Q := h
    show PostN K Y G J1 σ (k x ρ) Q
    cases hkx : k x ρ with
    | ok y ρ' =>
      rw [hkx] at h
      exact fun p vs J2 H2 s2 => h p vs J2 H2 (s1.trans s2)
    | exc e ρ' =>
      rw [hkx] at h
      exact fun c dx J2 H2 s2 => h c dx J2 H2 (s1.trans s2)
    | bad =>
      rw [hkx] at h
      exact h
  | exc e ρ => exact h
  | bad => exact h
theorem PostN.now {K : Fg} {Y : Yx} {G : Gd} {J H : Hp} {σ : L2.St} {ρ : Env} {xs : List D} {vs : List V} {Q : VK} {p : Addr} (h : PostN K Y G J σ (.ok xs ρ) Q) (e : ER K G J H σ ρ) (hp : H p = none) (r : RpAll K J vs xs) : Q (.ref p) (upd H p (.lst vs)) :=
  h p vs J H (.refl J) hp r e
theorem dn_lst (h : DA X Y es fa) : DN X Y (.List es pos) (nLst fa) := by
  refine PE.imp (pe_lst h) fun σ H Q ⟨G, J, ρ, er, h⟩ => ⟨G, J, ρ, er, PostN.of h fun xs ρ1 vs J1 H1 s1 r1 e1 h1 => ?_⟩
  split at h1
  · rename_i ds hds
    split at h1
    · rename_i hl
      have r := vals_ok r1 hds
      exact ⟨by rw [dps_len r]; exact hl, fun p hp => h1.now e1 hp r⟩
    · exact h1.elim
  · exact h1.elim
@[simp] def eN (fn : Env → Out (List D)) (ρ : Env) : Out VV := (fn ρ).bind fun xs ρ1 => .ok (.val (.list xs)) ρ1
theorem de_n {fn : Env → Out (List D)} (h : DN X Y a fn) : DE X Y a (eN fn) := by
  refine PE.imp h fun σ H Q ⟨G, J, ρ, er, h⟩ => ⟨G, J, ρ, er, ?_⟩
  unfold eN at h
  cases hf : fn ρ with
  | ok xs ρ1 =>
    rw [hf] at h
    intro p vs J' H' s hp r e
    have gr := Grow.new (o := .lst vs) e.ex hp
    exact h _ _ _ (s.trans gr.j) (.lst (.of upd_same) (dps_mono gr.j _ _ r)) (e.grow gr)
  | exc e ρ1 =>
    rw [hf] at h
    exact h
  | bad =>
    rw [hf] at h
    exact h
def rCD (K : Fg) (g : List D → Option D) : List V → Hp → VK → Prop := fun vs H Q => ∃ J ds d, Same J H ∧ Wks K J H vs ds ∧ g ds = some d ∧ ∀ v J' H', Grow J H J' H' → Rp K J' v d → Q v H'
abbrev CallD (X : Cx) (f : Value) (g : List D → Option D) : Prop := CallR X f (rCD X.G g)
@[simp] def eCallB (g : List D → Option D) (fa : Env → Out (List VV)) (ρ : Env) : Out VV := (fa ρ).bind fun xs ρ1 => match derefs ρ1 xs with
  | some ds => match g ds with
    | some d => .ok (.val d) ρ1
    | none => .bad
  | none => .bad
theorem callB_imp {K : Fg} {Y : Yx} {g : List D → Option D} {fa : Env → Out (List VV)} : ∀ σ H Q, tE K Y (eCallB g fa) σ H Q → tCB (rCD K g) (tA K Y fa) σ H Q := fun σ H Q ⟨G, J, ρ, er, h⟩ =>
  ⟨G, J, ρ, er, Post.bind h fun xs ρ1 vs J1 H1 s1 r1 e1 h1 => by
    split at h1
    · rename_i ds hds
      split at h1
      · rename_i d hd
        exact ⟨J1, ds, d, e1.ex, derefs_ok e1 r1 hds, hd, fun v J' H' gr r => h1.grow e1 gr r⟩
      · exact h1.elim
    · exact h1.elim⟩
theorem de_callB {x : Str} {e : Expr} {id : String} {p : Pos} {g : List D → Option D} (hc : CallD X (.builtin id) g) (hm : X.mg x = none) (hv : bootBuiltins x = some (.builtin id)) (ha : DA X Y (e :: es) fa) (hg : Gl X x := by rfl) (hn : x ≠ "__name__" := by decide)
    (hdb : (x == ("__debug__" : Str)) = false := by decide) (he : starEach (e :: es) X.env = (false, eval e X.env) :: starEach es X.env := by rfl) (hpl : (backTo pos (starEach es X.env)).any (·.1) = false := by rfl) : DE X Y (.Call (.Name x p) (e :: es) [] pos) (eCallB g fa) :=
  PE.imp (pe_callB hc hg hm hv ha hn hdb he hpl) callB_imp
theorem de_callTy {x : Str} {e : Expr} {T : String} {p : Pos} {g : List D → Option D} (hc : CallD X (.type T) g) (hm : X.mg x = none) (hv : bootBuiltins x = some (.type T)) (ha : DA X Y (e :: es) fa) (hg : Gl X x := by rfl) (hn : x ≠ "__name__" := by decide)
    (hdb : (x == ("__debug__" : Str)) = false := by decide) (he : starEach (e :: es) X.env = (false, eval e X.env) :: starEach es X.env := by rfl) (hpl : (backTo pos (starEach es X.env)).any (·.1) = false := by rfl) : DE X Y (.Call (.Name x p) (e :: es) [] pos) (eCallB g fa) :=
  PE.imp (pe_callTy hc hg hm hv ha hn hdb he hpl) callB_imp
@[simp] def nCallB (g : List D → Option (List D)) (fa : Env → Out (List VV)) (ρ : Env) : Out (List D) := (fa ρ).bind fun xs ρ1 => match derefs ρ1 xs with
  | some ds => match g ds with
    | some d => .ok d ρ1
    | none => .bad
  | none => .bad
def rN (K : Fg) (g : D → D → Option (List D)) : R2 := fun x y H Q => ∃ J dx dy xs, Same J H ∧ Wk K J H x dx ∧ Wk K J H y dy ∧ g dx dy = some xs ∧ ∀ p us, H p = none → RpAll K J us xs → Q (.ref p) (upd H p (.lst us))
abbrev OpN (X : Cx) (f : Value → Value → Sem Value) (g : D → D → Option (List D)) : Prop := OpR X f (rN X.G g)
@[simp] def nBin (g : D → D → Option (List D)) (fa fb : EC) (ρ : Env) : Out (List D) := (fa ρ).bind fun x ρ1 => (fb ρ1).bind fun y ρ2 => match deref ρ2 x, deref ρ2 y with
  | some dx, some dy => match g dx dy with
    | some d => .ok d ρ2
    | none => .bad
  | _, _ => .bad
theorem dn_op {op : Operator} {g : D → D → Option (List D)} {fa fb : EC} (ho : OpN X (binaryOp op) g) (ha : DE X Y a fa) (hb : DE X Y b fb) : DN X Y (.BinOp a op b pos) (nBin g fa fb) := by
  refine PE.imp (pe_op ho ha hb) fun σ H Q ⟨G, J, ρ, er, h⟩ => ⟨G, J, ρ, er, PostN.of h fun x ρ1 v J1 H1 s1 r1 e1 h1 => ⟨G, J1, ρ1, e1, PostN.of h1 fun y ρ2 w J2 H2 s2 r2 e2 h2 => ?_⟩⟩
  split at h2
  · rename_i dx dy d1 d2
    split at h2
    · rename_i d h3
      exact ⟨J2, dx, dy, d, e2.ex, deref_ok e2 (r1.mono s2) d1, deref_ok e2 r2 d2, h3, fun p us hp r => h2.now e2 hp r⟩
    · exact h2.elim
  · exact h2.elim
def rMD (K : Fg) (g : D → List D → Option D) : V → List V → Hp → VK → Prop := fun x xs H Q => ∃ J dx ds d, Same J H ∧ Wk K J H x dx ∧ Wks K J H xs ds ∧ g dx ds = some d ∧ ∀ v J' H', Grow J H J' H' → Rp K J' v d → Q v H'
abbrev MtD (X : Cx) (id : String) (g : D → List D → Option D) : Prop := MtR X id (rMD X.G g)
def dTy (T : String) : D → Bool
  | .str _ => T == "str"
  | .int _ => T == "int"
  | .list _ => T == "list"
  | _ => false
@[simp] def eMeth (T : String) (g : D → List D → Option D) (fo : EC) (fa : Env → Out (List VV)) (ρ : Env) : Out VV := (fo ρ).bind fun o ρ1 => match deref ρ1 o with
  | some d0 => if dTy T d0 = true then (fa ρ1).bind fun xs ρ2 => match deref ρ2 o, derefs ρ2 xs with
      | some dx, some ds => match g dx ds with
        | some d => .ok (.val d) ρ2
        | none => .bad
      | _, _ => .bad
    else .bad
  | none => .bad
theorem dTy_ok {K : Fg} {J H : Hp} {T : String} {v : V} {d : D} (s : Same J H) (h : Wk K J H v d) (t : dTy T d = true) : tyV K T v H := by
  cases d with
  | str x =>
    cases h.str
    exact eq_of_beq t
  | int x =>
    cases h.int
    exact eq_of_beq t
  | list xs =>
    obtain ⟨a, vs, rfl, hr, _⟩ := h.list s
    exact .inl ⟨eq_of_beq t, vs, hr⟩
  | _ => cases t
theorem de_meth {o e : Expr} {T id : String} {name : Str} {apos : Pos} {g : D → List D → Option D} {fo : EC} (pa : PlainAttrs T) (slot : Slot T name id) (hty : typeOf (.builtin id) = pure (.type "method_descriptor")) (hm : MtD X id g) (ho : DE X Y o fo) (ha : DA X Y (e :: es) fa)
    (hbase : attributeBase o name X.env (eval o X.env) = eval o X.env := by rfl)
    (hfew : ((backTo pos (starEach (e :: es) X.env)).all (fun x => !x.1) && (backToKw pos (keywordEach [] X.env)).all (fun x => x.1.isSome)
      && decide ((e :: es).length + ([] : List Keyword).length + (if ([] : List Keyword).isEmpty then 0 else 1) < 30)) = true := by rfl)
    (hline : (apos.endLine == pos.line) = true := by rfl) (hs : starEach (e :: es) X.env = (false, eval e X.env) :: starEach es X.env := by rfl) (hplain : (backTo pos (starEach es X.env)).any (·.1) = false := by rfl) :
    DE X Y (.Call (.Attribute o name apos) (e :: es) [] pos) (eMeth T g fo fa) := by
  refine PE.imp (pe_bm pa slot hty hm ho ha hbase hfew hline hs hplain) fun σ H Q ⟨G, J, ρ, er, h⟩ => ⟨G, J, ρ, er, Post.bind h fun x ρ1 v J1 H1 s1 r1 e1 h1 => ?_⟩
  split at h1
  · rename_i d0 h0
    split at h1
    · rename_i ht
      refine ⟨dTy_ok e1.ex (deref_ok e1 r1 h0) ht, G, J1, ρ1, e1, Post.bind h1 fun xs ρ2 vs J2 H2 s2 r2 e2 h2 => ?_⟩
      split at h2
      · rename_i dx ds d1 d2
        split at h2
        · rename_i d h3
          exact ⟨J2, dx, ds, d, e2.ex, deref_ok e2 (r1.mono s2) d1, derefs_ok e2 r2 d2, h3, fun v J' H' gr r => h2.grow e2 gr r⟩
        · exact h2.elim
      · exact h2.elim
    · exact h1.elim
  · exact h1.elim
abbrev IxD (X : Cx) (g : D → D → Option D) : Prop := IxR X (rD X.G g)
theorem de_ix {g : D → D → Option D} {fa fb : EC} (hr : IxD X g) (ha : DE X Y a fa) (hb : DE X Y b fb) (hs : PlainIx b := by exact fun _ _ => rfl) : DE X Y (.Subscript a b pos) (eBin g fa fb) := PE.imp (pe_ix hr ha hb hs) bin_imp
def tOp1 (K : Fg) (Y : Yx) (f : Env → Out (Option Int)) : TO := fun σ H Q => ∃ G J ρ, ER K G J H σ ρ ∧ Post K Y G J σ (fun _ v x => v = x) (f ρ) Q
abbrev DO (X : Cx) (Y : Yx) (e : Option Expr) (f : Env → Out (Option Int)) : Prop := PO X e (tOp1 X.G Y f)
@[simp] def oNone (ρ : Env) : Out (Option Int) := .ok none ρ
@[simp] def oSome (f : EC) (ρ : Env) : Out (Option Int) := (f ρ).bind fun x ρ1 => match x with
  | .val (.int i) => .ok (some i) ρ1
  | _ => .bad
theorem PO.imp {X : Cx} {e : Option Expr} {t t' : TO} (h : PO X e t) (i : ∀ σ H Q, t' σ H Q → t σ H Q) : PO X e t' := ⟨fun pins s σ H Q I hw => h.run pins s σ H Q I (i _ _ _ hw)⟩
theorem do_none : DO X Y none oNone := PO.imp po_none fun σ H Q ⟨G, J, ρ, er, h⟩ => Post.now h rfl er
theorem do_some {f : EC} (h : DE X Y a f) : DO X Y (some a) (oSome f) := by
  refine PO.imp (po_some h) fun σ H Q ⟨G, J, ρ, er, h⟩ => ⟨G, J, ρ, er, Post.bind h fun x ρ1 v J1 H1 s1 r1 e1 h1 => ?_⟩
  split at h1
  · cases r1
    exact ⟨_, rfl, h1.now rfl e1⟩
  · exact h1.elim
def rSD (K : Fg) (g : D → Option Int → Option Int → Option D) : V → Option Int → Option Int → Hp → VK → Prop := fun x lo hi H Q => ∃ J dx d, Same J H ∧ Wk K J H x dx ∧ g dx lo hi = some d ∧ ∀ v J' H', Grow J H J' H' → Rp K J' v d → Q v H'
abbrev SlD (X : Cx) (g : D → Option Int → Option Int → Option D) : Prop := SlR X (rSD X.G g)
@[simp] def eSl (g : D → Option Int → Option Int → Option D) (fa : EC) (fl fh : Env → Out (Option Int)) (ρ : Env) : Out VV := (fa ρ).bind fun x ρ1 => (fl ρ1).bind fun lo ρ2 => (fh ρ2).bind fun hi ρ3 => match deref ρ3 x with
  | some dx => match g dx lo hi with
    | some d => .ok (.val d) ρ3
    | none => .bad
  | none => .bad
theorem de_sl {g : D → Option Int → Option Int → Option D} {fo : EC} {lo hi : Option Expr} {fl fh : Env → Out (Option Int)} {p2 : Pos} (hr : SlD X g) (ha : DE X Y a fo) (hl : DO X Y lo fl) (hu : DO X Y hi fh) : DE X Y (.Subscript a (.Slice lo hi none p2) pos) (eSl g fo fl fh) := by
  refine PE.imp (pe_slice hr ha hl hu) fun σ H Q ⟨G, J, ρ, er, h⟩ => ⟨G, J, ρ, er, Post.bind h fun x ρ1 v J1 H1 s1 r1 e1 h1 => ⟨G, J1, ρ1, e1, Post.bind h1 fun l ρ2 w J2 H2 s2 r2 e2 h2 => ⟨G, J2, ρ2, e2, Post.bind h2 fun u ρ3 w3 J3 H3 s3 r3 e3 h3 => ?_⟩⟩⟩
  cases r2
  cases r3
  split at h3
  · rename_i dx d1
    split at h3
    · rename_i d h4
      exact ⟨J3, dx, d, e3.ex, deref_ok e3 ((r1.mono s2).mono s3) d1, h4, fun v J' H' gr r => h3.grow e3 gr r⟩
    · exact h3.elim
  · exact h3.elim
end
end DL
namespace DL
open PySem PySem.Spec L2
def mulOk (i j : Int) : Bool := fitZ (2 ^ 64) i || fitZ (2 ^ 64) j
def dAdd : D → D → Option D
  | .int i, .int j => some (.int (i + j))
  | .str a, .str b => if a.length + b.length ≤ sizeLine then some (.str (a ++ b)) else none
  | .list xs, .list ys => if xs.length + ys.length ≤ sizeLine then some (.list (xs ++ ys)) else none
  | .tuple xs, .tuple ys => if xs.length + ys.length ≤ sizeLine then some (.tuple (xs ++ ys)) else none
  | _, _ => none
def nAdd : D → D → Option (List D)
  | .list xs, .list ys => if xs.length + ys.length ≤ sizeLine then some (xs ++ ys) else none
  | _, _ => none
def dSub : D → D → Option D
  | .int i, .int j => some (.int (i - j))
  | _, _ => none
def repS (a : Str) (n : Nat) : Str := ⟨(List.replicate n a.cps).foldl (· ++ ·) #[]⟩
def dMul : D → D → Option D
  | .int i, .int j => if mulOk i j = true then some (.int (i * j)) else none
  | .str a, .int n => if n < 1 then (if fitZ (2 ^ 63) n = true then some (.str Str.empty) else none) else if n = 1 then some (.str a) else if Nat.ble n.natAbs 1000 = true ∧ Nat.ble (a.length * n.toNat) 100000 = true then some (.str (repS a n.toNat)) else none
  | _, _ => none
def nMul : D → D → Option (List D)
  | .list xs, .int k => if fitZ (2 ^ 63) k = true ∧ xs.length * k.toNat ≤ sizeLine then some (List.replicate k.toNat xs).flatten else none
  | _, _ => none
def dFdiv : D → D → Option D
  | .int i, .int j => if 0 < j ∧ fitZ 1073741824 j = true then some (.int (i / j)) else none
  | _, _ => none
def dMod : D → D → Option D
  | .int i, .int j => if 0 < j then some (.int (i % j)) else none
  | _, _ => none
def dEq (d e : D) : Option D := if SeqAt.shaped d = true ∧ SeqAt.shaped e = true then some (.bool (PyData.eqv d e)) else none
def dNe (d e : D) : Option D := if SeqAt.shaped d = true ∧ SeqAt.shaped e = true then some (.bool (!PyData.eqv d e)) else none
def dLt : D → D → Option D
  | .int i, .int j => some (.bool (decide (i < j)))
  | .str a, .str b => some (.bool (decide (a.cps.toList < b.cps.toList)))
  | _, _ => none
def dLe : D → D → Option D
  | .int i, .int j => some (.bool (decide (i ≤ j)))
  | .str a, .str b => some (.bool (!decide (b.cps.toList < a.cps.toList)))
  | _, _ => none
def dGt : D → D → Option D
  | .int i, .int j => some (.bool (decide (j < i)))
  | .str a, .str b => some (.bool (decide (b.cps.toList < a.cps.toList)))
  | _, _ => none
def dGe : D → D → Option D
  | .int i, .int j => some (.bool (decide (j ≤ i)))
  | .str a, .str b => some (.bool (!decide (a.cps.toList < b.cps.toList)))
  | _, _ => none
def strIn (a b : Str) : Bool := !(Builtin.Str.occurrences b a 0 b.length 1).isEmpty
def dIn : D → D → Option D
  | .str a, .str b => some (.bool (strIn a b))
  | x, .list ys => if SeqAt.shaped x = true ∧ SeqAt.shaped (.list ys) = true then some (.bool (ys.any fun z => PyData.eqv z x)) else none
  | x, .tuple ys => if SeqAt.shaped x = true ∧ SeqAt.shaped (.tuple ys) = true then some (.bool (ys.any fun z => PyData.eqv z x)) else none
  | _, _ => none
def dNotIn : D → D → Option D
  | .str a, .str b => some (.bool (!strIn a b))
  | x, .list ys => if SeqAt.shaped x = true ∧ SeqAt.shaped (.list ys) = true then some (.bool (!ys.any fun z => PyData.eqv z x)) else none
  | x, .tuple ys => if SeqAt.shaped x = true ∧ SeqAt.shaped (.tuple ys) = true then some (.bool (!ys.any fun z => PyData.eqv z x)) else none
  | _, _ => none
def isNone : D → Bool
  | .none => true
  | _ => false
def dIs : D → D → Option D
  | .bool a, .bool b => some (.bool (decide (a = b)))
  | x, .none => some (.bool (isNone x))
  | _, _ => none
def dIsNot : D → D → Option D
  | .bool a, .bool b => some (.bool (!decide (a = b)))
  | x, .none => some (.bool (!isNone x))
  | _, _ => none
@[simp] theorem dAdd_i (i j : Int) : dAdd (.int i) (.int j) = some (.int (i + j)) := rfl
@[simp] theorem dAdd_s (a b : Str) : dAdd (.str a) (.str b) = if a.length + b.length ≤ sizeLine then some (.str (a ++ b)) else none := rfl
@[simp] theorem dAdd_l (a b : List D) : dAdd (.list a) (.list b) = if a.length + b.length ≤ sizeLine then some (.list (a ++ b)) else none := rfl
@[simp] theorem dAdd_t (a b : List D) : dAdd (.tuple a) (.tuple b) = if a.length + b.length ≤ sizeLine then some (.tuple (a ++ b)) else none := rfl
@[simp] theorem nAdd_l (a b : List D) : nAdd (.list a) (.list b) = if a.length + b.length ≤ sizeLine then some (a ++ b) else none := rfl
@[simp] theorem dSub_i (i j : Int) : dSub (.int i) (.int j) = some (.int (i - j)) := rfl
@[simp] theorem nMul_l (xs : List D) (k : Int) : nMul (.list xs) (.int k) = if fitZ (2 ^ 63) k = true ∧ xs.length * k.toNat ≤ sizeLine then some (List.replicate k.toNat xs).flatten else none := rfl
@[simp] theorem dFdiv_i (i j : Int) : dFdiv (.int i) (.int j) = if 0 < j ∧ fitZ 1073741824 j = true then some (.int (i / j)) else none := rfl
@[simp] theorem dMod_i (i j : Int) : dMod (.int i) (.int j) = if 0 < j then some (.int (i % j)) else none := rfl
@[simp] theorem dLt_i (i j : Int) : dLt (.int i) (.int j) = some (.bool (decide (i < j))) := rfl
@[simp] theorem dLt_s (a b : Str) : dLt (.str a) (.str b) = some (.bool (decide (a.cps.toList < b.cps.toList))) := rfl
@[simp] theorem dLe_i (i j : Int) : dLe (.int i) (.int j) = some (.bool (decide (i ≤ j))) := rfl
@[simp] theorem dLe_s (a b : Str) : dLe (.str a) (.str b) = some (.bool (!decide (b.cps.toList < a.cps.toList))) := rfl
@[simp] theorem dGt_i (i j : Int) : dGt (.int i) (.int j) = some (.bool (decide (j < i))) := rfl
@[simp] theorem dGt_s (a b : Str) : dGt (.str a) (.str b) = some (.bool (decide (b.cps.toList < a.cps.toList))) := rfl
@[simp] theorem dGe_i (i j : Int) : dGe (.int i) (.int j) = some (.bool (decide (j ≤ i))) := rfl
@[simp] theorem dGe_s (a b : Str) : dGe (.str a) (.str b) = some (.bool (!decide (a.cps.toList < b.cps.toList))) := rfl
@[simp] theorem isNone_n : isNone .none = true := rfl
@[simp] theorem isNone_b (b : Bool) : isNone (.bool b) = false := rfl
@[simp] theorem isNone_i (b : Int) : isNone (.int b) = false := rfl
@[simp] theorem isNone_s (b : Str) : isNone (.str b) = false := rfl
@[simp] theorem isNone_l (b : List D) : isNone (.list b) = false := rfl
@[simp] theorem isNone_t (b : List D) : isNone (.tuple b) = false := rfl
@[simp] theorem isNone_d (b : List (D × D)) : isNone (.dict b) = false := rfl
@[simp] theorem dIs_b (a b : Bool) : dIs (.bool a) (.bool b) = some (.bool (decide (a = b))) := rfl
@[simp] theorem dIs_n (x : D) : dIs x .none = some (.bool (isNone x)) := by cases x <;> rfl
@[simp] theorem dIsNot_b (a b : Bool) : dIsNot (.bool a) (.bool b) = some (.bool (!decide (a = b))) := rfl
@[simp] theorem dIsNot_n (x : D) : dIsNot x .none = some (.bool (!isNone x)) := by cases x <;> rfl
section
variable {K : Fg} {J H : Hp}
end
section
variable {X : Cx}
theorem opd_of {f : Value → Value → Sem Value} {r : R2} {g : D → D → Option D} (h : OpR X f r) (i : ∀ x y H Q, rD X.G g x y H Q → r x y H Q) : OpD X f g := fun pins s σ H x y v u Q I rx ry q => h pins s σ H x y v u Q I rx ry (i _ _ _ _ q)
def rCatL (K : Fg) : R2 := fun x y H Q => ∃ l b xs zs, x = .ref l ∧ y = .ref b ∧ SqL K H l xs ∧ SqL K H b zs ∧ xs.length + zs.length ≤ sizeLine ∧ ∀ p, H p = none → Q (.ref p) (upd H p (.lst (xs ++ zs)))
theorem op_catL : OpR X (binaryOp .Add) (rCatL X.G) := by
  intro pins s σ H x y v u Q I rx ry h
  obtain ⟨l, b, xs, zs, rfl, rfl, hH, hB, hz, q⟩ := h
  cases rx
  cases ry
  obtain ⟨its, r, ⟨⟨cls, dd, data, sl⟩, n, ho, hc, hd0, hd⟩, hl⟩ := I.list hH
  obtain ⟨its2, r2, ⟨⟨cls2, dd2, data2, sl2⟩, n2, ho2, hc2, hd02, hd2⟩, hl2⟩ := I.list hB
  simp only at hc hd hc2 hd2
  subst hc hd hc2 hd2
  have e : its.toArray ++ its2.toArray = (its ++ its2).toArray := by simp
  have n1 := r.length
  have n2' := r2.length
  refine concat_meets ⟨_, ho, rfl⟩ ⟨_, ho2, rfl⟩ noFill_list_add seq_list_add PySem.F.slot_list_add PySem.F.entry_list_add (PySem.F.args_list_add_2 _ _) (PyProof.Rows.list_addW l b its.toArray its2.toArray n n2 dd dd2 sl sl2 (by simp; omega)) ⟨ho, ho2, ?_⟩
  rw [e]
  exact ⟨.ref _, _, I.lnew (t' := s.toks) (r.append r2) (by rw [List.length_append]; omega), rfl, q _ I.fresh⟩
theorem od_add : OpD X (binaryOp .Add) dAdd := by
  refine opd_of (op_add.or (op_add_str.or (op_catL.or op_catA))) fun x y H Q ⟨J, dx, dy, d, s, wx, wy, e, q⟩ => ?_
  unfold dAdd at e
  split at e
  · cases e
    cases wx.int
    cases wy.int
    exact .inl ⟨_, _, rfl, rfl, q _ J H (.refl s) (.int _)⟩
  · split at e
    · rename_i hl
      cases e
      cases wx.str
      cases wy.str
      exact .inr (.inl ⟨_, _, rfl, rfl, hl, q _ J H (.refl s) (.str _)⟩)
    · cases e
  · split at e
    · rename_i hl
      cases e
      obtain ⟨a, vs, rfl, h1, r1⟩ := wx.list s
      obtain ⟨b, ws, rfl, h2, r2⟩ := wy.list s
      refine .inr (.inr (.inl ⟨a, b, vs, ws, rfl, rfl, h1, h2, by rw [dps_len r1, dps_len r2]; exact hl, fun p hp => ?_⟩))
      have gr := Grow.new (o := .lst (vs ++ ws)) s hp
      exact q _ _ _ gr (.lst (.of upd_same) (dps_mono gr.j _ _ (dps_append r1 r2)))
    · cases e
  · split at e
    · rename_i hl
      cases e
      obtain ⟨a, vs, rfl, h1, r1, p1⟩ := wx.tup s
      obtain ⟨b, ws, rfl, h2, r2, p2⟩ := wy.tup s
      refine .inr (.inr (.inr ⟨a, b, vs, ws, rfl, rfl, h1, h2, by rw [dps_len r1, dps_len r2]; exact hl, fun e => ?_, fun _ e => ?_, fun _ _ p hp => ?_⟩))
      · subst e
        cases r1
        exact q _ J H (.refl s) p2
      · subst e
        cases r2
        rw [List.append_nil] at q
        exact q _ J H (.refl s) p1
      · have gr := Grow.new (o := .tup (vs ++ ws)) s hp
        exact q _ _ _ gr (.tup (.of upd_same) (dps_mono gr.j _ _ (dps_append r1 r2)))
    · cases e
  · cases e
theorem opn_of {f : Value → Value → Sem Value} {r : R2} {g : D → D → Option (List D)} (h : OpR X f r) (i : ∀ x y H Q, rN X.G g x y H Q → r x y H Q) : OpN X f g := fun pins s σ H x y v u Q I rx ry q => h pins s σ H x y v u Q I rx ry (i _ _ _ _ q)
theorem on_add : OpN X (binaryOp .Add) nAdd := by
  refine opn_of op_catL fun x y H Q ⟨J, dx, dy, d, s, wx, wy, e, q⟩ => ?_
  unfold nAdd at e
  split at e
  · split at e
    · rename_i hl
      cases e
      obtain ⟨a, vs, rfl, h1, r1⟩ := wx.list s
      obtain ⟨b, ws, rfl, h2, r2⟩ := wy.list s
      exact ⟨a, b, vs, ws, rfl, rfl, h1, h2, by rw [dps_len r1, dps_len r2]; exact hl, fun p hp => q p _ hp (dps_append r1 r2)⟩
    · cases e
  · cases e
theorem PostN.mono {K : Fg} {Y : Yx} {G : Gd} {J J' : Hp} {σ : L2.St} {o : Out (List D)} {Q : VK} (s : Same J J') (h : PostN K Y G J σ o Q) : PostN K Y G J' σ o Q := by
  cases o with
  | ok xs ρ => exact fun p vs J2 H2 s2 => h p vs J2 H2 (s.trans s2)
  | exc e ρ => exact fun c dx J2 H2 s2 => h c dx J2 H2 (s.trans s2)
  | bad => exact h
@[simp] def nRep (fn : Env → Out (List D)) (fb : EC) (ρ : Env) : Out (List D) := (fn ρ).bind fun xs ρ1 => (fb ρ1).bind fun y ρ2 => match deref ρ2 y with
  | some dy => match nMul (.list xs) dy with
    | some d => .ok d ρ2
    | none => .bad
  | none => .bad
theorem od_sub : OpD X (binaryOp .Sub) dSub := by
  refine opd_of op_sub fun x y H Q ⟨J, dx, dy, d, s, wx, wy, e, q⟩ => ?_
  unfold dSub at e
  split at e
  · cases e
    cases wx.int
    cases wy.int
    exact ⟨_, _, rfl, rfl, q _ J H (.refl s) (.int _)⟩
  · cases e
theorem op_repS : OpR X (binaryOp .Mult) (fun x y H Q => ∃ a n, x = .str a ∧ y = .int n ∧ ((n < 1 ∧ -(2 ^ 63) ≤ n ∧ Q (.str Str.empty) H) ∨ (n = 1 ∧ Q (.str a) H) ∨ (1 < n ∧ n ≤ 1000 ∧ a.length * n.toNat ≤ 100000 ∧ Q (.str (repS a n.toNat)) H))) := by
  intro pins s σ H x y v u Q I rx ry h
  obtain ⟨a, n, rfl, rfl, h⟩ := h
  obtain ⟨t, rfl⟩ := rx
  obtain ⟨t', rfl⟩ := ry
  rcases h with ⟨h1, h2, q⟩ | ⟨rfl, q⟩ | ⟨h1, h2, h3, q⟩
  · exact PySem.P.mul_str_none h1 (by omega) ⟨.str _, H, I.tok _, ⟨_, rfl⟩, q⟩
  · refine PySem.P.mul_str (by decide) (fun _ z => ?_) (fun _ z => ?_) ?_
    · cases z
    · cases z
    · rw [if_neg (by decide), if_pos (show ((1 : Int) == 1 || a.length == 0) = true from rfl)]
      exact ⟨.str a, H, I, ⟨_, rfl⟩, q⟩
  · have hsz : (repS a n.toNat).length = a.length * n.toNat := by
      have key : ∀ (k : Nat) (acc : Array Nat), ((List.replicate k a.cps).foldl (· ++ ·) acc).size = acc.size + a.cps.size * k := by
        intro k
        induction k with
        | zero => intro acc; simp
        | succ k ih =>
          intro acc
          rw [List.replicate_succ, List.foldl_cons, ih, Array.size_append, Nat.mul_succ]
          omega
      have := key n.toNat #[]
      simpa [repS, Str.length] using this
    by_cases h0 : a.length = 0
    · refine PySem.P.mul_str (by rw [decide_eq_false (by omega), decide_eq_false (by omega)]; rfl) (fun _ z => ?_) (fun _ z => ?_) ?_
      · rw [show (a.length == 0) = true from by simp [h0], Bool.or_true] at z
        cases z
      · rw [show (a.length == 0) = true from by simp [h0], Bool.or_true] at z
        cases z
      · rw [if_neg (by omega), if_pos (by rw [show (a.length == 0) = true from by simp [h0], Bool.or_true])]
        have e : repS a n.toNat = a := by
          have e1 : (repS a n.toNat).cps = #[] := Array.eq_empty_of_size_eq_zero (by have : (repS a n.toNat).cps.size = a.length * n.toNat := hsz; rw [this, h0]; omega)
          have e2 : a.cps = #[] := Array.eq_empty_of_size_eq_zero h0
          cases a
          simp at e2
          subst e2
          show (⟨(repS ⟨#[]⟩ n.toNat).cps⟩ : Str) = _
          rw [e1]
        rw [e] at q
        exact ⟨.str a, H, I, ⟨_, rfl⟩, q⟩
    · refine PySem.P.mul_str (by rw [decide_eq_false (by omega), decide_eq_false (by omega)]; rfl) (fun _ z => ?_) (fun _ z => ?_) ?_
      · have : (a.length : Int) ≤ 100000 := by
          have : a.length * 1 ≤ a.length * n.toNat := Nat.mul_le_mul_left _ (by omega)
          omega
        have h5 : (9223372036854775807 : Int) / 1000 ≤ (2 ^ 63 - 1) / n := by
          rw [Int.le_ediv_iff_mul_le (by omega)]
          have : (9223372036854775807 : Int) / 1000 * n ≤ 9223372036854775807 / 1000 * 1000 := Int.mul_le_mul_of_nonneg_left h2 (by decide)
          omega
        omega
      · have hl : a.length * n.toNat ≤ sizeLine := Nat.le_trans h3 (by decide)
        unfold Builtin.Str.tooLong
        exact decide_eq_false (by omega)
      · rw [if_neg (by omega), if_neg (by
          rw [Bool.or_eq_true]
          rintro (z | z)
          · have := eq_of_beq z
            omega
          · exact h0 (eq_of_beq z))]
        exact ⟨by have := hsz; show (repS a n.toNat).length ≤ sizeLine; rw [this]; exact Nat.le_trans h3 (by decide), .str _, H, I.tok _, ⟨_, rfl⟩, q⟩
theorem od_mul : OpD X (binaryOp .Mult) dMul := by
  refine opd_of (op_mul.or op_repS) fun x y H Q ⟨J, dx, dy, d, s, wx, wy, e, q⟩ => ?_
  unfold dMul at e
  split at e
  · split at e
    · rename_i hm
      cases e
      cases wx.int
      cases wy.int
      refine .inl ⟨_, _, rfl, rfl, ?_, q _ J H (.refl s) (.int _)⟩
      unfold mulOk at hm
      rcases Bool.or_eq_true_iff.mp hm with hm | hm
      · have := fitZ_ok hm
        exact .inl ⟨by omega, by omega⟩
      · have := fitZ_ok hm
        exact .inr ⟨by omega, by omega⟩
    · cases e
  · cases wx.str
    cases wy.int
    split at e
    · split at e
      · cases e
        exact .inr ⟨_, _, rfl, rfl, .inl ⟨by assumption, by rename_i hf; have := fitZ_ok hf; omega, q _ J H (.refl s) (.str _)⟩⟩
      · cases e
    · split at e
      · cases e
        exact .inr ⟨_, _, rfl, rfl, .inr (.inl ⟨by assumption, q _ J H (.refl s) (.str _)⟩)⟩
      · split at e
        · rename_i hn0 hn1 hf
          cases e
          have f1 := Nat.le_of_ble_eq_true hf.1
          have f2 := Nat.le_of_ble_eq_true hf.2
          exact .inr ⟨_, _, rfl, rfl, .inr (.inr ⟨by omega, by omega, f2, q _ J H (.refl s) (.str _)⟩)⟩
        · cases e
  · cases e
theorem od_fdiv : OpD X (binaryOp .FloorDiv) dFdiv := by
  refine opd_of op_fdiv fun x y H Q ⟨J, dx, dy, d, s, wx, wy, e, q⟩ => ?_
  unfold dFdiv at e
  split at e
  · split at e
    · rename_i hm
      cases e
      cases wx.int
      cases wy.int
      exact ⟨_, _, rfl, rfl, ⟨hm.1, by have := fitZ_ok hm.2; omega⟩, q _ J H (.refl s) (.int _)⟩
    · cases e
  · cases e
theorem od_mod : OpD X (binaryOp .Mod) dMod := by
  refine opd_of op_mod fun x y H Q ⟨J, dx, dy, d, s, wx, wy, e, q⟩ => ?_
  unfold dMod at e
  split at e
  · split at e
    · rename_i hm
      cases e
      cases wx.int
      cases wy.int
      exact ⟨_, _, rfl, rfl, hm, q _ J H (.refl s) (.int _)⟩
    · cases e
  · cases e
theorem od_eq (hu : X.A.units + 64 < cLine) : OpD X (compareOp .Eq) dEq := by
  refine opd_of (op_eqD hu) fun x y H Q ⟨J, dx, dy, d, s, wx, wy, e, q⟩ => ?_
  unfold dEq at e
  split at e
  · rename_i h
    cases e
    exact ⟨dx, dy, wx.dp s h.1, wy.dp s h.2, h.1, h.2, q _ J H (.refl s) (.bl _)⟩
  · cases e
theorem od_ne (hu : X.A.units + 64 < cLine) : OpD X (compareOp .NotEq) dNe := by
  refine opd_of (op_neD hu) fun x y H Q ⟨J, dx, dy, d, s, wx, wy, e, q⟩ => ?_
  unfold dNe at e
  split at e
  · rename_i h
    cases e
    exact ⟨dx, dy, wx.dp s h.1, wy.dp s h.2, h.1, h.2, q _ J H (.refl s) (.bl _)⟩
  · cases e
theorem od_lt : OpD X (compareOp .Lt) dLt := by
  refine opd_of (op_lt.or op_lt_str) fun x y H Q ⟨J, dx, dy, d, s, wx, wy, e, q⟩ => ?_
  unfold dLt at e
  split at e
  · cases e
    cases wx.int
    cases wy.int
    exact .inl ⟨_, _, rfl, rfl, q _ J H (.refl s) (.bl _)⟩
  · cases e
    cases wx.str
    cases wy.str
    exact .inr ⟨_, _, rfl, rfl, q _ J H (.refl s) (.bl _)⟩
  · cases e
theorem od_le : OpD X (compareOp .LtE) dLe := by
  refine opd_of (op_le.or op_le_str) fun x y H Q ⟨J, dx, dy, d, s, wx, wy, e, q⟩ => ?_
  unfold dLe at e
  split at e
  · cases e
    cases wx.int
    cases wy.int
    exact .inl ⟨_, _, rfl, rfl, q _ J H (.refl s) (.bl _)⟩
  · cases e
    cases wx.str
    cases wy.str
    exact .inr ⟨_, _, rfl, rfl, q _ J H (.refl s) (.bl _)⟩
  · cases e
theorem od_gt : OpD X (compareOp .Gt) dGt := by
  refine opd_of (op_gt.or op_gt_str) fun x y H Q ⟨J, dx, dy, d, s, wx, wy, e, q⟩ => ?_
  unfold dGt at e
  split at e
  · cases e
    cases wx.int
    cases wy.int
    exact .inl ⟨_, _, rfl, rfl, q _ J H (.refl s) (.bl _)⟩
  · cases e
    cases wx.str
    cases wy.str
    exact .inr ⟨_, _, rfl, rfl, q _ J H (.refl s) (.bl _)⟩
  · cases e
theorem od_ge : OpD X (compareOp .GtE) dGe := by
  refine opd_of (op_ge.or op_ge_str) fun x y H Q ⟨J, dx, dy, d, s, wx, wy, e, q⟩ => ?_
  unfold dGe at e
  split at e
  · cases e
    cases wx.int
    cases wy.int
    exact .inl ⟨_, _, rfl, rfl, q _ J H (.refl s) (.bl _)⟩
  · cases e
    cases wx.str
    cases wy.str
    exact .inr ⟨_, _, rfl, rfl, q _ J H (.refl s) (.bl _)⟩
  · cases e
def rInT (K : Fg) : R2 := fun x y H Q => ∃ d ds, Dp K H x d ∧ Dp K H y (.tuple ds) ∧ SeqAt.shaped d = true ∧ SeqAt.shaped (.tuple ds) = true ∧ Q (.bl (ds.any fun z => PyData.eqv z d)) H
def rNotInT (K : Fg) : R2 := fun x y H Q => ∃ d ds, Dp K H x d ∧ Dp K H y (.tuple ds) ∧ SeqAt.shaped d = true ∧ SeqAt.shaped (.tuple ds) = true ∧ Q (.bl (!ds.any fun z => PyData.eqv z d)) H
theorem op_inT (hu : X.A.units + 65 < cLine) : OpR X (compareOp .In) (rInT X.G) := by
  intro pins s σ H x y v u Q I rx ry h
  obtain ⟨d, ds, hd, he, sd, se, q⟩ := h
  obtain ⟨as, r1⟩ := Dp.reads I d x v hd rx
  obtain ⟨bs, r2⟩ := Dp.reads I (.tuple ds) y u he ry
  exact SeqAt.in_tuple_reads r2 r1 (SeqAt.canLay_of_shaped se) (SeqAt.canLay_of_shaped sd) (PyProof.Rows.room_in_shaped sd hu) ⟨.bl _, H, I, rfl, q⟩
theorem op_notInT (hu : X.A.units + 65 < cLine) : OpR X (compareOp .NotIn) (rNotInT X.G) := by
  intro pins s σ H x y v u Q I rx ry h
  obtain ⟨d, ds, hd, he, sd, se, q⟩ := h
  obtain ⟨as, r1⟩ := Dp.reads I d x v hd rx
  obtain ⟨bs, r2⟩ := Dp.reads I (.tuple ds) y u he ry
  exact SeqAt.notIn_tuple_reads r2 r1 (SeqAt.canLay_of_shaped se) (SeqAt.canLay_of_shaped sd) (PyProof.Rows.room_in_shaped sd hu) ⟨.bl _, H, I, rfl, q⟩
theorem od_in (hu : X.A.units + 65 < cLine) : OpD X (compareOp .In) dIn := by
  refine opd_of (op_in_str.or ((op_inD hu).or (op_inT hu))) fun x y H Q ⟨J, dx, dy, d, s, wx, wy, e, q⟩ => ?_
  unfold dIn at e
  split at e
  · cases e
    cases wx.str
    cases wy.str
    exact .inl ⟨_, _, rfl, rfl, q _ J H (.refl s) (.bl _)⟩
  · split at e
    · rename_i h
      cases e
      exact .inr (.inl ⟨_, _, wx.dp s h.1, wy.dp s h.2, h.1, h.2, q _ J H (.refl s) (.bl _)⟩)
    · cases e
  · split at e
    · rename_i h
      cases e
      exact .inr (.inr ⟨_, _, wx.dp s h.1, wy.dp s h.2, h.1, h.2, q _ J H (.refl s) (.bl _)⟩)
    · cases e
  · cases e
theorem od_notIn (hu : X.A.units + 65 < cLine) : OpD X (compareOp .NotIn) dNotIn := by
  refine opd_of (op_notin_str.or ((op_notInD hu).or (op_notInT hu))) fun x y H Q ⟨J, dx, dy, d, s, wx, wy, e, q⟩ => ?_
  unfold dNotIn at e
  split at e
  · cases e
    cases wx.str
    cases wy.str
    exact .inl ⟨_, _, rfl, rfl, q _ J H (.refl s) (.bl _)⟩
  · split at e
    · rename_i h
      cases e
      exact .inr (.inl ⟨_, _, wx.dp s h.1, wy.dp s h.2, h.1, h.2, q _ J H (.refl s) (.bl _)⟩)
    · cases e
  · split at e
    · rename_i h
      cases e
      exact .inr (.inr ⟨_, _, wx.dp s h.1, wy.dp s h.2, h.1, h.2, q _ J H (.refl s) (.bl _)⟩)
    · cases e
  · cases e
end
end DL
namespace DL
open PySem PySem.Spec L2
def dIx : D → D → Option D
  | .list xs, .int i => atI xs i
  | .tuple xs, .int i => atI xs i
  | .str z, .int i => if z.length ≤ sizeLine then (match atI z.cps.toList i with
    | some c => some (.str ⟨#[c]⟩)
    | none => none) else none
  | _, _ => none
def cutD (xs : List D) (lo hi : Option Int) : List D := (xs.drop (HT.sIx xs.length 0 lo)).take (HT.sIx xs.length xs.length hi - HT.sIx xs.length 0 lo)
def dSl : D → Option Int → Option Int → Option D
  | .list xs, lo, hi => some (.list (cutD xs lo hi))
  | .tuple xs, lo, hi => some (.tuple (cutD xs lo hi))
  | .str z, lo, hi => if z.length ≤ sizeLine then some (.str (cutS z lo hi)) else none
  | _, _, _ => none
@[simp] theorem dIx_l (xs : List D) (i : Int) : dIx (.list xs) (.int i) = atI xs i := rfl
@[simp] theorem dIx_t (xs : List D) (i : Int) : dIx (.tuple xs) (.int i) = atI xs i := rfl
@[simp] theorem dIx_s (z : Str) (i : Int) : dIx (.str z) (.int i) = if z.length ≤ sizeLine then (match atI z.cps.toList i with
    | some c => some (.str ⟨#[c]⟩)
    | none => none) else none := rfl
@[simp] theorem dSl_l (xs : List D) (lo hi : Option Int) : dSl (.list xs) lo hi = some (.list (cutD xs lo hi)) := rfl
@[simp] theorem dSl_t (xs : List D) (lo hi : Option Int) : dSl (.tuple xs) lo hi = some (.tuple (cutD xs lo hi)) := rfl
@[simp] theorem dSl_s (z : Str) (lo hi : Option Int) : dSl (.str z) lo hi = if z.length ≤ sizeLine then some (.str (cutS z lo hi)) else none := rfl
section
variable {X : Cx} {K : Fg} {J H : Hp}
theorem atI_dps {vs : List V} {ds : List D} {i : Int} {d : D} (r : RpAll K J vs ds) (h : atI ds i = some d) : ∃ v, atI vs i = some v ∧ Rp K J v d := by
  unfold atI at h ⊢
  rw [dps_len r]
  cases e : ixN ds.length i with
  | none =>
    rw [e] at h
    cases h
  | some j =>
    rw [e] at h
    exact dps_get r h
theorem cut_dps {vs : List V} {ds : List D} (lo hi : Option Int) (r : RpAll K J vs ds) : RpAll K J (cutV vs lo hi) (cutD ds lo hi) := by
  unfold cutV cutD
  rw [dps_len r]
  exact dps_take _ (dps_drop _ r)
theorem ixd_of {r : R2} {g : D → D → Option D} (h : IxR X r) (i : ∀ x y H Q, rD X.G g x y H Q → r x y H Q) : IxD X g := fun a b pins s σ H x y v u Q I rx ry q hs => h a b pins s σ H x y v u Q I rx ry (i _ _ _ _ q) hs
theorem od_ix : IxD X dIx := by
  refine ixd_of ix_seq fun x y H Q ⟨J, dx, dy, d, s, wx, wy, e, q⟩ => ?_
  unfold dIx at e
  split at e
  · obtain ⟨a, vs, rfl, h1, r1⟩ := wx.list s
    cases wy.int
    obtain ⟨v, h2, r2⟩ := atI_dps r1 e
    exact .inl ⟨a, vs, _, v, rfl, rfl, h1, h2, q _ J H (.refl s) r2⟩
  · obtain ⟨a, vs, rfl, h1, r1, _⟩ := wx.tup s
    cases wy.int
    obtain ⟨v, h2, r2⟩ := atI_dps r1 e
    exact .inr (.inl ⟨a, vs, _, v, rfl, rfl, h1, h2, q _ J H (.refl s) r2⟩)
  · split at e
    · rename_i hl
      cases wx.str
      cases wy.int
      split at e
      · rename_i c hc
        cases e
        exact .inr (.inr ⟨_, _, c, rfl, rfl, hl, hc, q _ J H (.refl s) (.str _)⟩)
      · cases e
    · cases e
  · cases e
theorem sld_of {r : V → Option Int → Option Int → Hp → VK → Prop} {g : D → Option Int → Option Int → Option D} (h : SlR X r) (i : ∀ x lo hi H Q, rSD X.G g x lo hi H Q → r x lo hi H Q) : SlD X g :=
  fun pins s σ H x v vl vu lo hi sl Q I rx hs pl pu q => h pins s σ H x v vl vu lo hi sl Q I rx hs pl pu (i _ _ _ _ _ q)
theorem od_sl : SlD X dSl := by
  refine sld_of (sl_list.or (sl_tupA.or sl_str)) fun x lo hi H Q ⟨J, dx, d, s, wx, e, q⟩ => ?_
  cases dx with
  | list xs =>
    cases (show some (PyData.list (cutD xs lo hi)) = some d from e)
    obtain ⟨a, vs, rfl, h1, r1⟩ := wx.list s
    refine .inl ⟨a, vs, rfl, h1, fun p hp => ?_⟩
    have gr := Grow.new (o := .lst (cutV vs lo hi)) s hp
    exact q _ _ _ gr (.lst (.of upd_same) (dps_mono gr.j _ _ (cut_dps lo hi r1)))
  | tuple xs =>
    cases (show some (PyData.tuple (cutD xs lo hi)) = some d from e)
    obtain ⟨a, vs, rfl, h1, r1, p1⟩ := wx.tup s
    refine .inr (.inl ⟨a, vs, rfl, h1, fun hw => ?_, fun _ p hp => ?_⟩)
    · have e : cutD xs lo hi = xs := by
        unfold cutD
        rw [← dps_len r1, hw.1, hw.2, List.drop_zero, Nat.sub_zero, dps_len r1, List.take_length]
      rw [e] at q
      exact q _ J H (.refl s) p1
    · have gr := Grow.new (o := .tup (cutV vs lo hi)) s hp
      exact q _ _ _ gr (.tup (.of upd_same) (dps_mono gr.j _ _ (cut_dps lo hi r1)))
  | str z =>
    have e : (if z.length ≤ sizeLine then some (PyData.str (cutS z lo hi)) else none) = some d := e
    split at e
    · rename_i hl
      cases e
      cases wx.str
      exact .inr (.inr ⟨_, rfl, hl, q _ J H (.refl s) (.str _)⟩)
    · cases e
  | _ => cases e
end
def intsD : List D → Option (List Int)
  | [] => some []
  | .int i :: r => match intsD r with
    | some l => some (i :: l)
    | none => none
  | _ => none
def strsD : List D → Option (List Str)
  | [] => some []
  | .str i :: r => match strsD r with
    | some l => some (i :: l)
    | none => none
  | _ => none
theorem ints_map (l : List Int) : intsD (l.map PyData.int) = some l := by
  induction l with
  | nil => rfl
  | cons a l ih => simp [intsD, ih]
theorem strs_map (l : List Str) : strsD (l.map PyData.str) = some l := by
  induction l with
  | nil => rfl
  | cons a l ih => simp [strsD, ih]
theorem ints_inv : ∀ {ds : List D} {l : List Int}, intsD ds = some l → ds = l.map PyData.int
  | [], l, h => by cases h; rfl
  | .int i :: r, l, h => by
    unfold intsD at h
    split at h
    · rename_i l' e
      cases h
      rw [ints_inv e]
      rfl
    · cases h
  | .none :: _, _, h => by cases h
  | .bool _ :: _, _, h => by cases h
  | .str _ :: _, _, h => by cases h
  | .list _ :: _, _, h => by cases h
  | .tuple _ :: _, _, h => by cases h
  | .dict _ :: _, _, h => by cases h
theorem strs_inv : ∀ {ds : List D} {l : List Str}, strsD ds = some l → ds = l.map PyData.str
  | [], l, h => by cases h; rfl
  | .str i :: r, l, h => by
    unfold strsD at h
    split at h
    · rename_i l' e
      cases h
      rw [strs_inv e]
      rfl
    · cases h
  | .none :: _, _, h => by cases h
  | .bool _ :: _, _, h => by cases h
  | .int _ :: _, _, h => by cases h
  | .list _ :: _, _, h => by cases h
  | .tuple _ :: _, _, h => by cases h
  | .dict _ :: _, _, h => by cases h
theorem dps_ints_inv {K : Fg} {J : Hp} : ∀ {vs : List V} {l : List Int}, RpAll K J vs (l.map PyData.int) → vs = l.map V.int
  | [], [], _ => rfl
  | [], _ :: _, h => by cases h
  | _ :: _, [], h => by cases h
  | v :: vs, i :: l, h => by
    cases h with
    | cons h1 h2 =>
      cases h1
      rw [dps_ints_inv h2]
      rfl
theorem dps_strs_inv {K : Fg} {J : Hp} : ∀ {vs : List V} {l : List Str}, RpAll K J vs (l.map PyData.str) → vs = l.map V.str
  | [], [], _ => rfl
  | [], _ :: _, h => by cases h
  | _ :: _, [], h => by cases h
  | v :: vs, i :: l, h => by
    cases h with
    | cons h1 h2 =>
      cases h1
      rw [dps_strs_inv h2]
      rfl
def dLen : List D → Option D
  | [.list xs] => some (.int xs.length)
  | [.tuple xs] => some (.int xs.length)
  | [.str z] => if z.length ≤ sizeLine then some (.int z.length) else none
  | _ => none
@[simp] theorem dLen_l (xs : List D) : dLen [.list xs] = some (.int xs.length) := rfl
@[simp] theorem dLen_t (xs : List D) : dLen [.tuple xs] = some (.int xs.length) := rfl
@[simp] theorem dLen_s (z : Str) : dLen [.str z] = if z.length ≤ sizeLine then some (.int z.length) else none := rfl
def maxL : List Int → Int
  | [] => 0
  | [a] => a
  | a :: r => max a (maxL r)
def minL : List Int → Int
  | [] => 0
  | [a] => a
  | a :: r => min a (minL r)
theorem maxL_mem : ∀ (l : List Int), l ≠ [] → maxL l ∈ l ∧ ∀ y ∈ l, y ≤ maxL l
  | [], h => (h rfl).elim
  | [a], _ => ⟨by simp [maxL], by simp [maxL]⟩
  | a :: b :: r, _ => by
    obtain ⟨h1, h2⟩ := maxL_mem (b :: r) (by simp)
    show max a (maxL (b :: r)) ∈ a :: b :: r ∧ ∀ y ∈ a :: b :: r, y ≤ max a (maxL (b :: r))
    refine ⟨?_, fun y hy => ?_⟩
    · by_cases h : a ≤ maxL (b :: r)
      · rw [Int.max_eq_right h]
        exact List.mem_cons_of_mem _ h1
      · rw [Int.max_eq_left (by omega)]
        exact List.mem_cons_self
    · rcases List.mem_cons.mp hy with rfl | hy
      · omega
      · have := h2 y hy
        omega
theorem minL_mem : ∀ (l : List Int), l ≠ [] → minL l ∈ l ∧ ∀ y ∈ l, minL l ≤ y
  | [], h => (h rfl).elim
  | [a], _ => ⟨by simp [minL], by simp [minL]⟩
  | a :: b :: r, _ => by
    obtain ⟨h1, h2⟩ := minL_mem (b :: r) (by simp)
    show min a (minL (b :: r)) ∈ a :: b :: r ∧ ∀ y ∈ a :: b :: r, min a (minL (b :: r)) ≤ y
    refine ⟨?_, fun y hy => ?_⟩
    · by_cases h : a ≤ minL (b :: r)
      · rw [Int.min_eq_left h]
        exact List.mem_cons_self
      · rw [Int.min_eq_right (by omega)]
        exact List.mem_cons_of_mem _ h1
    · rcases List.mem_cons.mp hy with rfl | hy
      · omega
      · have := h2 y hy
        omega
def dMax : List D → Option D
  | [.list xs] => match intsD xs with
    | some l => if l ≠ [] then some (.int (maxL l)) else none
    | none => none
  | [.int i, .int j] => some (.int (if j > i then j else i))
  | _ => none
def dMin : List D → Option D
  | [.list xs] => match intsD xs with
    | some l => if l ≠ [] then some (.int (minL l)) else none
    | none => none
  | [.int i, .int j] => some (.int (if j < i then j else i))
  | _ => none
def dAbs : List D → Option D
  | [.int i] => some (.int (if i < 0 then -i else i))
  | _ => none
def dInt : List D → Option D
  | [.int i] => some (.int i)
  | [.bool b] => some (.int (if b then 1 else 0))
  | [.str a] => if a.length ≤ 640 then (match PySem.intText? a with
    | some n => some (.int n)
    | none => none) else none
  | _ => none
def dTuple : List D → Option D
  | [.list xs] => some (.tuple xs)
  | [.tuple xs] => some (.tuple xs)
  | _ => none
def nList : List D → Option (List D)
  | [.list xs] => some xs
  | [.tuple xs] => some xs
  | _ => none
@[simp] theorem dAbs_i (i : Int) : dAbs [.int i] = some (.int (if i < 0 then -i else i)) := rfl
@[simp] theorem dInt_i (i : Int) : dInt [.int i] = some (.int i) := rfl
@[simp] theorem dInt_b (b : Bool) : dInt [.bool b] = some (.int (if b then 1 else 0)) := rfl
@[simp] theorem dTuple_l (xs : List D) : dTuple [.list xs] = some (.tuple xs) := rfl
@[simp] theorem dTuple_t (xs : List D) : dTuple [.tuple xs] = some (.tuple xs) := rfl
@[simp] theorem nList_l (xs : List D) : nList [.list xs] = some xs := rfl
@[simp] theorem nList_t (xs : List D) : nList [.tuple xs] = some xs := rfl
section
variable {X : Cx} {K : Fg} {J H : Hp}
theorem cd_of {f : Value} {r : List V → Hp → VK → Prop} {g : List D → Option D} (h : CallR X f r) (i : ∀ xs H Q, rCD X.G g xs H Q → r xs H Q) : CallD X f g := fun pins s σ H xs us Q I r q => h pins s σ H xs us Q I r (i _ _ _ q)
theorem wks1 {vs : List V} {d : D} (h : Wks K J H vs [d]) : ∃ v, vs = [v] ∧ Wk K J H v d := by
  cases vs with
  | nil => exact h.elim
  | cons v vs =>
    cases vs with
    | nil => exact ⟨v, rfl, h.1⟩
    | cons _ _ => exact h.2.elim
theorem wks2 {vs : List V} {d e : D} (h : Wks K J H vs [d, e]) : ∃ v w, vs = [v, w] ∧ Wk K J H v d ∧ Wk K J H w e := by
  cases vs with
  | nil => exact h.elim
  | cons v vs =>
    obtain ⟨w, rfl, h2⟩ := wks1 h.2
    exact ⟨v, w, rfl, h.1, h2⟩
theorem cd_len : CallD X (.builtin "len") dLen := by
  refine cd_of call_len fun xs H Q ⟨J, ds, d, s, w, e, q⟩ => ?_
  unfold dLen at e
  split at e
  · cases e
    obtain ⟨v, rfl, wv⟩ := wks1 w
    obtain ⟨a, vs, rfl, h1, r1⟩ := wv.list s
    exact ⟨_, vs.length, rfl, .inl ⟨vs, h1, rfl⟩, by rw [dps_len r1]; exact q _ J H (.refl s) (.int _)⟩
  · cases e
    obtain ⟨v, rfl, wv⟩ := wks1 w
    obtain ⟨a, vs, rfl, h1, r1, _⟩ := wv.tup s
    exact ⟨_, vs.length, rfl, .inr ⟨vs, h1, rfl⟩, by rw [dps_len r1]; exact q _ J H (.refl s) (.int _)⟩
  · split at e
    · rename_i hl
      cases e
      obtain ⟨v, rfl, wv⟩ := wks1 w
      cases wv.str
      exact ⟨_, _, rfl, ⟨hl, rfl⟩, q _ J H (.refl s) (.int _)⟩
    · cases e
  · cases e
theorem cd_max (hc : X.calm = true) : CallD X (.builtin "max") dMax := by
  refine cd_of ((cr_max hc).or (call_max2 hc)) fun xs H Q ⟨J, ds, d, s, w, e, q⟩ => ?_
  unfold dMax at e
  split at e
  · split at e
    · rename_i l hl
      split at e
      · rename_i hne
        cases e
        obtain ⟨v, rfl, wv⟩ := wks1 w
        obtain ⟨a, vs, rfl, h1, r1⟩ := wv.list s
        rw [ints_inv hl] at r1
        have := dps_ints_inv r1
        subst this
        refine .inl ⟨a, l, rfl, h1, List.length_pos_iff.mpr hne, fun m hm hy => ?_⟩
        obtain ⟨k1, k2⟩ := maxL_mem l hne
        have e : m = maxL l := by
          have a1 := k2 m hm
          have a2 := hy _ k1
          omega
        subst e
        exact q _ J H (.refl s) (.int _)
      · cases e
    · cases e
  · cases e
    obtain ⟨v, u, rfl, wv, wu⟩ := wks2 w
    cases wv.int
    cases wu.int
    exact .inr ⟨_, _, rfl, q _ J H (.refl s) (.int _)⟩
  · cases e
theorem cd_min (hc : X.calm = true) : CallD X (.builtin "min") dMin := by
  refine cd_of ((cr_min hc).or (call_min2 hc)) fun xs H Q ⟨J, ds, d, s, w, e, q⟩ => ?_
  unfold dMin at e
  split at e
  · split at e
    · rename_i l hl
      split at e
      · rename_i hne
        cases e
        obtain ⟨v, rfl, wv⟩ := wks1 w
        obtain ⟨a, vs, rfl, h1, r1⟩ := wv.list s
        rw [ints_inv hl] at r1
        have := dps_ints_inv r1
        subst this
        refine .inl ⟨a, l, rfl, h1, List.length_pos_iff.mpr hne, fun m hm hy => ?_⟩
        obtain ⟨k1, k2⟩ := minL_mem l hne
        have e : m = minL l := by
          have a1 := k2 m hm
          have a2 := hy _ k1
          omega
        subst e
        exact q _ J H (.refl s) (.int _)
      · cases e
    · cases e
  · cases e
    obtain ⟨v, u, rfl, wv, wu⟩ := wks2 w
    cases wv.int
    cases wu.int
    exact .inr ⟨_, _, rfl, q _ J H (.refl s) (.int _)⟩
  · cases e
theorem cd_abs : CallD X (.builtin "abs") dAbs := by
  refine cd_of call_abs fun xs H Q ⟨J, ds, d, s, w, e, q⟩ => ?_
  unfold dAbs at e
  split at e
  · cases e
    obtain ⟨v, rfl, wv⟩ := wks1 w
    cases wv.int
    exact ⟨_, rfl, q _ J H (.refl s) (.int _)⟩
  · cases e
theorem cd_int : CallD X (.type "int") dInt := by
  refine cd_of (call_int1.or call_int_str) fun xs H Q ⟨J, ds, d, s, w, e, q⟩ => ?_
  unfold dInt at e
  split at e
  · cases e
    obtain ⟨v, rfl, wv⟩ := wks1 w
    cases wv.int
    exact .inl (.inl ⟨_, rfl, q _ J H (.refl s) (.int _)⟩)
  · cases e
    obtain ⟨v, rfl, wv⟩ := wks1 w
    cases wv.bl
    exact .inl (.inr ⟨_, rfl, q _ J H (.refl s) (.int _)⟩)
  · obtain ⟨v, rfl, wv⟩ := wks1 w
    cases wv.str
    split at e
    · rename_i hl
      split at e
      · rename_i n hn
        cases e
        exact .inr ⟨_, n, rfl, hn, hl, q _ J H (.refl s) (.int _)⟩
      · cases e
    · cases e
  · cases e
theorem cd_tuple : CallD X (.type "tuple") dTuple := by
  refine cd_of call_tuple_of fun xs H Q ⟨J, ds, d, s, w, e, q⟩ => ?_
  unfold dTuple at e
  split at e
  · cases e
    obtain ⟨v, rfl, wv⟩ := wks1 w
    obtain ⟨a, vs, rfl, h1, r1⟩ := wv.list s
    refine ⟨a, vs, rfl, .inl ⟨h1, fun p hp => ?_⟩⟩
    have gr := Grow.new (o := .tup vs) s hp
    exact q _ _ _ gr (.tup (.of upd_same) (dps_mono gr.j _ _ r1))
  · cases e
    obtain ⟨v, rfl, wv⟩ := wks1 w
    obtain ⟨a, vs, rfl, h1, r1, p1⟩ := wv.tup s
    exact ⟨a, vs, rfl, .inr ⟨h1, q _ J H (.refl s) p1⟩⟩
  · cases e
end
def tyOf : D → String
  | .none => "NoneType"
  | .bool _ => "bool"
  | .int _ => "int"
  | .str _ => "str"
  | .list _ => "list"
  | .tuple _ => "tuple"
  | .dict _ => "dict"
def isTy (t : String) : D → Option Bool
  | .dict _ => none
  | d => kitB (tyOf d) t
theorem isTy_kit {t : String} {d : D} {b : Bool} (h : isTy t d = some b) : kitB (tyOf d) t = some b ∧ ∀ kvs, d ≠ .dict kvs := by
  cases d <;> first | (cases h; done) | exact ⟨h, fun _ z => nomatch z⟩
def anyTy : List String → D → Option Bool
  | [], _ => some false
  | t :: ts, d => match isTy t d with
    | some true => some true
    | some false => anyTy ts d
    | none => none
@[simp] def eIsi (ts : List String) (f : EC) (ρ : Env) : Out VV := (f ρ).bind fun x ρ1 => match deref ρ1 x with
  | some d => match anyTy ts d with
    | some b => .ok (.val (.bool b)) ρ1
    | none => .bad
  | none => .bad
section
variable {X : Cx} {Y : Yx} {K : Fg} {J H : Hp} {a : Expr} {pos : Pos}
theorem wk_ty {v : V} {d : D} (s : Same J H) (h : Wk K J H v d) (hd : ∀ kvs, d ≠ .dict kvs) : TyX K H v (.type (tyOf d)) := by
  cases d with
  | none => cases h.non; exact .base .non
  | bool i => cases h.bl; exact .base (.bl _)
  | int i => cases h.int; exact .base (.int _)
  | str i => cases h.str; exact .base (.str _)
  | list xs =>
    obtain ⟨a, vs, rfl, h1, _⟩ := h.list s
    rcases h1 with (h1 | ⟨o, h1⟩) | ⟨o, its, n, h1, h2, _⟩
    · exact .base (.lst h1)
    · exact .base (.frz h1)
    · exact .kList h1 h2
  | tuple xs =>
    obtain ⟨a, vs, rfl, h1, _⟩ := h.tup s
    rcases h1 with (h1 | ⟨o, h1⟩) | ⟨o, its, n, h1, h2, _⟩
    · exact .base (.tup h1)
    · exact .fTuple h1
    · exact .kTuple h1 h2
  | dict kvs => exact absurd rfl (hd kvs)
theorem any_nodict {t : String} {ts : List String} {d : D} {b : Bool} (h : anyTy (t :: ts) d = some b) : ∀ kvs, d ≠ .dict kvs := by
  unfold anyTy at h
  split at h
  · rename_i e
    exact (isTy_kit e).2
  · rename_i e
    exact (isTy_kit e).2
  · cases h
theorem de_isi {t : String} {x : Str} {f : EC} {p p2 : Pos} (ha : DE X Y a f) (hm : X.mg "isinstance" = none) (hm2 : X.mg x = none) (hv2 : bootBuiltins x = some (.type t)) (hg : Gl X "isinstance" := by rfl) (hg2 : Gl X x := by rfl)
    (hv : bootBuiltins "isinstance" = some (.builtin "isinstance") := by decide +kernel) (hn2 : x ≠ "__name__" := by decide) (hd2 : (x == ("__debug__" : Str)) = false := by decide)
    (he : starEach [a, .Name x p2] X.env = (false, eval a X.env) :: starEach [.Name x p2] X.env := by rfl) (he2 : starEach [.Name x p2] X.env = (false, eval (.Name x p2) X.env) :: starEach [] X.env := by rfl) (hpl : (backTo pos (starEach [.Name x p2] X.env)).any (·.1) = false := by rfl) :
    DE X Y (.Call (.Name "isinstance" p) [a, .Name x p2] [] pos) (eIsi [t] f) := by
  have h2 : PE X (.Name x p2) (tC (.ty t)) := pe_bltn hg2 hm2 hv2 rfl hn2 hd2
  refine PE.imp (pe_callB call_isi hg hm hv (pa_cons ha (pa_cons h2 pa_nil he2) he) (by decide) (by decide) he hpl) fun σ H Q ⟨G, J, ρ, er, h⟩ => ⟨G, J, ρ, er, Post.bind h fun y ρ1 v J1 H1 s1 r1 e1 h1 => ?_⟩
  split at h1
  · rename_i d hd
    split at h1
    · rename_i b hb
      have wv := deref_ok e1 r1 hd
      have hb' : kitB (tyOf d) t = some b := by
        unfold anyTy at hb
        split at hb
        · rename_i e
          cases hb
          exact (isTy_kit e).1
        · rename_i e
          cases hb
          exact (isTy_kit e).1
        · cases hb
      exact ⟨v, .ty t, _, _, b, rfl, .ty t, wk_ty e1.ex wv (any_nodict hb), kit_ty hb', h1.now (.bl b) e1⟩
    · exact h1.elim
  · exact h1.elim
end
def dJoin : D → List D → Option D
  | .str a, [.list xs] => match strsD xs with
    | some ys => if (ys.map (·.length)).sum + ys.length * a.length ≤ 16777216 then some (.str (Txt.join a ys)) else none
    | none => none
  | .str a, [.tuple xs] => match strsD xs with
    | some ys => if (ys.map (·.length)).sum + ys.length * a.length ≤ 16777216 then some (.str (Txt.join a ys)) else none
    | none => none
  | _, _ => none
def dSplit : D → List D → Option D
  | .str a, [.str b] => if (b.length == 0) = false ∧ a.length + 2 ≤ sizeLine then some (.list ((Txt.split a b).map PyData.str)) else none
  | _, _ => none
def dStarts : D → List D → Option D
  | .str a, [.str b] => some (.bool (Txt.startswith a b))
  | _, _ => none
def dEnds : D → List D → Option D
  | .str a, [.str b] => some (.bool (Txt.endswith a b))
  | _, _ => none
def dSIndex : D → List D → Option D
  | .str a, [.str b] => match Builtin.Str.occurrences a b 0 a.length 1 with
    | i :: _ => some (.int (i : Nat))
    | [] => none
  | _, _ => none
@[simp] theorem dStarts_s (a b : Str) : dStarts (.str a) [.str b] = some (.bool (Txt.startswith a b)) := rfl
@[simp] theorem dEnds_s (a b : Str) : dEnds (.str a) [.str b] = some (.bool (Txt.endswith a b)) := rfl
section
variable {X : Cx} {K : Fg} {J H : Hp}
theorem md_of {id : String} {r : V → List V → Hp → VK → Prop} {g : D → List D → Option D} (h : MtR X id r) (i : ∀ x xs H Q, rMD X.G g x xs H Q → r x xs H Q) : MtD X id g := fun pins s σ H x xs v us Q I rx r q => h pins s σ H x xs v us Q I rx r (i _ _ _ _ q)
theorem md_join : MtD X "str.join" dJoin := by
  refine md_of mt_join fun x xs H Q ⟨J, dx, ds, d, s, wx, w, e, q⟩ => ?_
  unfold dJoin at e
  split at e
  · split at e
    · rename_i ys hy
      split at e
      · rename_i hl
        cases e
        cases wx.str
        obtain ⟨v, rfl, wv⟩ := wks1 w
        obtain ⟨a, vs, rfl, h1, r1⟩ := wv.list s
        rw [strs_inv hy] at r1
        have := dps_strs_inv r1
        subst this
        exact ⟨_, a, ys, rfl, rfl, .inl h1, hl, q _ J H (.refl s) (.str _)⟩
      · cases e
    · cases e
  · split at e
    · rename_i ys hy
      split at e
      · rename_i hl
        cases e
        cases wx.str
        obtain ⟨v, rfl, wv⟩ := wks1 w
        obtain ⟨a, vs, rfl, h1, r1, _⟩ := wv.tup s
        rw [strs_inv hy] at r1
        have := dps_strs_inv r1
        subst this
        exact ⟨_, a, ys, rfl, rfl, .inr h1, hl, q _ J H (.refl s) (.str _)⟩
      · cases e
    · cases e
  · cases e
theorem md_split : MtD X "str.split" dSplit := by
  refine md_of mt_split fun x xs H Q ⟨J, dx, ds, d, s, wx, w, e, q⟩ => ?_
  unfold dSplit at e
  split at e
  · rename_i a b
    split at e
    · rename_i hl
      cases e
      cases wx.str
      obtain ⟨v, rfl, wv⟩ := wks1 w
      cases wv.str
      refine ⟨_, _, rfl, rfl, hl.1, hl.2, fun p hp => ?_⟩
      have gr := Grow.new (o := .lst ((Txt.split a b).map V.str)) s hp
      exact q _ _ _ gr (.lst (.of upd_same) (dps_strs _))
    · cases e
  · cases e
end
end DL
namespace DL
open PySem PySem.Spec L2
structure ItOk (K : Fg) (J : Hp) (It : It) (ds : List D) : Prop where
  go : ∀ i J1 H, Same J J1 → Same J1 H → i < ds.length → It.go i H
  yld : ∀ i J1 H x H', Same J J1 → Same J1 H → i < ds.length → It.yld i H x H' → ∃ J2 d, Grow J1 H J2 H' ∧ ds[i]? = some d ∧ Rp K J2 x d
  stop : ∀ J1 H, Same J J1 → Same J1 H → It.stop ds.length H
theorem ItOk.mono {K : Fg} {J J' : Hp} {It : It} {ds : List D} (h : ItOk K J It ds) (s : Same J J') : ItOk K J' It ds :=
  ⟨fun i J1 H a b c => h.go i J1 H (s.trans a) b c, fun i J1 H x H' a b c d => h.yld i J1 H x H' (s.trans a) b c d, fun J1 H a b => h.stop J1 H (s.trans a) b⟩
def tI (K : Fg) (Y : Yx) (f : Env → Out (List D)) : TI := fun σ H R => ∃ G J ρ, ER K G J H σ ρ ∧ Post K Y G J σ (fun J' It ds => ItOk K J' It ds) (f ρ) R
abbrev DI (X : Cx) (Y : Yx) (tg e : Expr) (f : Env → Out (List D)) : Prop := PI X tg e (tI X.G Y f)
theorem PI.imp {X : Cx} {tg e : Expr} {t t' : TI} (h : PI X tg e t) (i : ∀ σ H Q, t' σ H Q → t σ H Q) : PI X tg e t' := ⟨fun pins s σ H R I hw => h.run pins s σ H R I (i _ _ _ hw)⟩
theorem PI.or {X : Cx} {tg e : Expr} {t t' : TI} (h : PI X tg e t) (h' : PI X tg e t') : PI X tg e (fun σ H Q => t σ H Q ∨ t' σ H Q) := ⟨fun pins s σ H R I hw => by
  rcases hw with hw | hw
  · exact h.run pins s σ H R I hw
  · exact h'.run pins s σ H R I hw⟩
def itemsOf : D → Option (List D)
  | .list xs => some xs
  | .tuple xs => some xs
  | .str z => some (z.cps.toList.map fun c => .str ⟨#[c]⟩)
  | _ => none
@[simp] theorem itemsOf_l (xs : List D) : itemsOf (.list xs) = some xs := rfl
@[simp] theorem itemsOf_t (xs : List D) : itemsOf (.tuple xs) = some xs := rfl
@[simp] theorem itemsOf_s (z : Str) : itemsOf (.str z) = some (z.cps.toList.map fun c => .str ⟨#[c]⟩) := rfl
@[simp] def eIter (f : EC) (ρ : Env) : Out (List D) := (f ρ).bind fun x ρ1 => match x with
  | .val d => match itemsOf d with
    | some ds => .ok ds ρ1
    | none => .bad
  | .slot _ => .bad
theorem it_list {K : Fg} {J : Hp} {a : Addr} {vs : List V} {ds : List D} (h : SqL K J a vs) (r : RpAll K J vs ds) : ItOk K J (Itl K a) ds := by
  refine ⟨fun i J1 H s1 s2 hi => ?_, fun i J1 H x H' s1 s2 hi y => ?_, fun J1 H s1 s2 => ⟨vs, same_l s2 (same_l s1 h), by rw [dps_len r]; exact Nat.le_refl _⟩⟩
  · rw [← dps_len r] at hi
    exact ⟨vs, vs[i], same_l s2 (same_l s1 h), by simp [hi]⟩
  · obtain ⟨rfl, y⟩ := y
    obtain ⟨d, h1, h2⟩ := dps_get' r (y vs (same_l s2 (same_l s1 h)))
    exact ⟨J1, d, .refl s2, h1, dp_mono s1 _ _ h2⟩
theorem it_tup {K : Fg} {J : Hp} {a : Addr} {vs : List V} {ds : List D} (h : SqT K J a vs) (r : RpAll K J vs ds) : ItOk K J (Itt K a) ds := by
  refine ⟨fun i J1 H s1 s2 hi => ?_, fun i J1 H x H' s1 s2 hi y => ?_, fun J1 H s1 s2 => ⟨vs, same_t s2 (same_t s1 h), by rw [dps_len r]; exact Nat.le_refl _⟩⟩
  · rw [← dps_len r] at hi
    exact ⟨vs, vs[i], same_t s2 (same_t s1 h), by simp [hi]⟩
  · obtain ⟨rfl, y⟩ := y
    obtain ⟨d, h1, h2⟩ := dps_get' r (y vs (same_t s2 (same_t s1 h)))
    exact ⟨J1, d, .refl s2, h1, dp_mono s1 _ _ h2⟩
theorem it_str {K : Fg} {J : Hp} {z : Str} : ItOk K J (Its z) (z.cps.toList.map fun c => .str ⟨#[c]⟩) := by
  refine ⟨fun i J1 H s1 s2 hi => ?_, fun i J1 H x H' s1 s2 hi y => ?_, fun J1 H s1 s2 => ?_⟩
  · show i < z.cps.size
    simpa using hi
  · obtain ⟨rfl, c, h1, rfl⟩ := y
    refine ⟨J1, .str ⟨#[c]⟩, .refl s2, ?_, .str _⟩
    rw [List.getElem?_map, Array.getElem?_toList, h1]
    rfl
  · show z.cps.size ≤ _
    simp
section
variable {X : Cx} {Y : Yx} {tg a b c : Expr} {pos : Pos}
theorem di_seq {f : EC} (h : DE X Y a f) : DI X Y tg a (eIter f) := by
  refine PI.imp (DL.PI.or (pi_list h) (DL.PI.or (pi_tup h) (pi_str h))) fun σ H R ⟨G, J, ρ, er, hp⟩ => ?_
  unfold eIter at hp
  cases hf : f ρ with
  | exc e ρ1 =>
    rw [hf] at hp
    exact .inl ⟨G, J, ρ, er, by rw [hf]; exact hp⟩
  | bad =>
    rw [hf] at hp
    exact hp.elim
  | ok x ρ1 =>
    rw [hf] at hp
    cases x with
    | slot i => exact hp.elim
    | val d =>
      have hp : Post X.G Y G J σ (fun J' It ds => ItOk X.G J' It ds) (match itemsOf d with
        | some ds => .ok ds ρ1
        | none => .bad) R := hp
      cases d with
      | list xs =>
        refine .inl ⟨G, J, ρ, er, ?_⟩
        rw [hf]
        intro v J' H' s r e
        cases r with
        | lst h1 h2 => exact ⟨_, rfl, ⟨_, same_l e.ex h1⟩, hp _ J' H' s (it_list h1 h2) e⟩
      | tuple xs =>
        refine .inr (.inl ⟨G, J, ρ, er, ?_⟩)
        rw [hf]
        intro v J' H' s r e
        cases r with
        | tup h1 h2 => exact ⟨_, rfl, ⟨_, same_t e.ex h1⟩, hp _ J' H' s (it_tup h1 h2) e⟩
      | str z =>
        refine .inr (.inr ⟨G, J, ρ, er, ?_⟩)
        rw [hf]
        intro v J' H' s r e
        cases r
        exact ⟨_, rfl, hp _ J' H' s it_str e⟩
      | _ => exact hp.elim
def rng (lo : Int) (n : Nat) : List D := (List.range n).map fun (i : Nat) => .int (lo + (i : Int))
theorem it_rng {K : Fg} {J : Hp} {lo : Int} {n : Nat} : ItOk K J (Itr lo n) (rng lo n) := by
  refine ⟨fun i J1 H s1 s2 hi => by
    show i < n
    simpa [rng] using hi, fun i J1 H x H' s1 s2 hi y => ?_, fun J1 H s1 s2 => by show n ≤ _; simp [rng]⟩
  obtain ⟨rfl, rfl⟩ := y
  have hi : i < n := by simpa [rng] using hi
  exact ⟨J1, _, .refl s2, by simp [rng, hi], .int _⟩
@[simp] def eRng1 (fa : Env → Out (List VV)) (ρ : Env) : Out (List D) := (fa ρ).bind fun xs ρ1 => match xs with
  | [.val (.int n)] => if fitZ (2 ^ 62) n = true then .ok (rng 0 n.toNat) ρ1 else .bad
  | _ => .bad
@[simp] def eRng2 (fa : Env → Out (List VV)) (ρ : Env) : Out (List D) := (fa ρ).bind fun xs ρ1 => match xs with
  | [.val (.int m), .val (.int n)] => if fitZ (2 ^ 62) m = true ∧ fitZ (2 ^ 62) n = true then .ok (rng m (n - m).toNat) ρ1 else .bad
  | _ => .bad
theorem rvs1 {K : Fg} {σ : L2.St} {J : Hp} {vs : List V} {x : VV} (h : RVs K σ J vs [x]) : ∃ v, vs = [v] ∧ RV K σ J v x := by
  cases vs with
  | nil => exact h.elim
  | cons v vs =>
    cases vs with
    | nil => exact ⟨v, rfl, h.1⟩
    | cons _ _ => exact h.2.elim
theorem di_range1 {fa : Env → Out (List VV)} {p : Pos} (hm : X.mg "range" = none) (ha : DA X Y [a] fa) (hg : Gl X "range" := by rfl) (hs : starEach [a] X.env = [(false, eval a X.env)] := by rfl) : DI X Y tg (.Call (.Name "range" p) [a] [] pos) (eRng1 fa) := by
  refine PI.imp (pi_range1 hg hm ha hs) fun σ H R ⟨G, J, ρ, er, hp⟩ => ⟨G, J, ρ, er, Post.bind hp fun xs ρ1 vs J1 H1 s1 r1 e1 h1 => ?_⟩
  split at h1
  · rename_i n
    split at h1
    · rename_i hn
      obtain ⟨v, rfl, rv⟩ := rvs1 r1
      cases rv
      exact ⟨n, rfl, by have := fitZ_ok hn; omega, by have := fitZ_ok hn; omega, h1.now it_rng e1⟩
    · exact h1.elim
  · exact h1.elim
def Upd (is : List Nat) (σ σ' : L2.St) : Prop := σ'.length = σ.length ∧ ∀ k : Nat, k ∉ is → σ'[k]? = σ[k]?
def tG (K : Fg) (is : List Nat) (set : D → Env → Option Env) : TG := fun v σ H Q => ∃ G J ρ d ρ', ER K G J H σ ρ ∧ Rp K J v d ∧ set d ρ = some ρ' ∧ ∀ σ' J' H', Same J J' → Upd is σ σ' → ER K G J' H' σ' ρ' → Q σ' H'
abbrev DG (X : Cx) (tg : Expr) (is : List Nat) (set : D → Env → Option Env) : Prop := PG X tg (tG X.G is set)
@[simp] def setN (i : Nat) (d : D) (ρ : Env) : Option Env := if loose ρ i = true then some (ρ.set i (.d d)) else none
theorem PG.imp {X : Cx} {tg : Expr} {t t' : TG} (h : PG X tg t) (i : ∀ v σ H Q, t' v σ H Q → t v σ H Q) : PG X tg t' := ⟨fun pins s σ H v u Q I r hw => h.run pins s σ H v u Q I r (i _ _ _ _ hw)⟩
theorem dg_name (i : Nat) {x : Str} (hN : X.N.Nodup) (hi : X.N[i]? = some x := by rfl) (hx : Loc X.env.scope x := by first | exact Or.inl rfl | exact Or.inr rfl) (hf : X.fn x = true ∨ X.env.scope.names.lookup x = some .local := by first | exact .inl rfl | exact .inr rfl | assumption) :
    DG X (.Name x pos) [i] (setN i) := by
  refine PG.imp (pg_name hN hi hx hf) fun v σ H Q ⟨G, J, ρ, d, ρ', er, rv, hs, hq⟩ => ?_
  unfold setN at hs
  split at hs
  · rename_i hl
    cases hs
    refine hq _ J H (.refl J) ⟨List.length_set, fun k hk => ?_⟩ (er.setD rv hl)
    rw [List.getElem?_set_ne (fun e => hk (by simp [e]))]
  · cases hs
def tGs (K : Fg) (is : List Nat) (set : List D → Env → Option Env) : TGs := fun vs σ H Q => ∃ G J ρ ds ρ', ER K G J H σ ρ ∧ RpAll K J vs ds ∧ set ds ρ = some ρ' ∧ ∀ σ' J' H', Same J J' → Upd is σ σ' → ER K G J' H' σ' ρ' → Q σ' H'
abbrev DGs (X : Cx) (tgs : List Expr) (is : List Nat) (set : List D → Env → Option Env) : Prop := PGs X tgs (tGs X.G is set)
theorem PGs.imp {X : Cx} {tg : List Expr} {t t' : TGs} (h : PGs X tg t) (i : ∀ v σ H Q, t' v σ H Q → t v σ H Q) : PGs X tg t' := ⟨fun pins s σ H v u Q I r hw => h.run pins s σ H v u Q I r (i _ _ _ _ hw)⟩
@[simp] def setNil (ds : List D) (ρ : Env) : Option Env := match ds with
  | [] => some ρ
  | _ => none
@[simp] def setCons (s : D → Env → Option Env) (t : List D → Env → Option Env) (ds : List D) (ρ : Env) : Option Env := match ds with
  | d :: r => match s d ρ with
    | some ρ1 => t r ρ1
    | none => none
  | [] => none
theorem dgs_nil : DGs X [] [] setNil := by
  refine PGs.imp pgs_nil fun vs σ H Q ⟨G, J, ρ, ds, ρ', er, rv, hs, hq⟩ => ?_
  cases ds with
  | nil =>
    cases rv
    cases hs
    exact ⟨rfl, hq _ J H (.refl J) ⟨rfl, fun _ _ => rfl⟩ er⟩
  | cons d ds => cases hs
theorem dgs_cons {e : Expr} {es : List Expr} {is js : List Nat} {s : D → Env → Option Env} {t : List D → Env → Option Env} (h1 : DG X e is s) (h2 : DGs X es js t) (hs : (assignEach (e :: es) X.env).map (·.2) = assign e X.env :: (assignEach es X.env).map (·.2) := by rfl) :
    DGs X (e :: es) (is ++ js) (setCons s t) := by
  refine PGs.imp (pgs_cons h1 h2 hs) fun vs σ H Q ⟨G, J, ρ, ds, ρ', er, rv, hs, hq⟩ => ?_
  cases ds with
  | nil => cases hs
  | cons d ds =>
    cases rv with
    | cons r1 r2 =>
      have hs : (match s d ρ with
        | some ρ1 => t ds ρ1
        | none => none) = some ρ' := hs
      split at hs
      · rename_i ρ1 e1
        refine ⟨_, _, rfl, G, J, ρ, d, ρ1, er, r1, e1, fun σ1 J1 H1 s1 u1 er1 => ⟨G, J1, ρ1, ds, ρ', er1, dps_mono s1 _ _ r2, hs, fun σ2 J2 H2 s2 u2 er2 => hq σ2 J2 H2 (s1.trans s2) ⟨u2.1.trans u1.1, fun k hk => ?_⟩ er2⟩⟩
        have hk : k ∉ is ∧ k ∉ js := by simpa using hk
        exact (u2.2 k hk.2).trans (u1.2 k hk.1)
      · cases hs
@[simp] def setTup (n : Nat) (t : List D → Env → Option Env) (d : D) (ρ : Env) : Option Env := match d with
  | .tuple ds => if ds.length = n then t ds ρ else none
  | _ => none
theorem dg_tup {es : List Expr} {k n : Nat} {is : List Nat} {t : List D → Env → Option Env} (hc : X.calm = true) (h : DGs X es is t) (hn : (assignEach es X.env).length = n := by rfl) (hst : (assignEach es X.env).findIdx? (·.1) = none := by rfl) :
    DG X (.Tuple es k pos) is (setTup n t) := by
  refine PG.imp (pg_tup hc h hn hst) fun v σ H Q ⟨G, J, ρ, d, ρ', er, rv, hs, hq⟩ => ?_
  cases d with
  | tuple ds =>
    have hs : (if ds.length = n then t ds ρ else none) = some ρ' := hs
    split at hs
    · rename_i hl
      cases rv with
      | tup h1 h2 => exact ⟨_, _, rfl, same_t er.ex h1, by rw [dps_len h2]; exact hl, G, J, ρ, ds, ρ', er, h2, hs, hq⟩
    · cases hs
  | _ => cases hs
@[simp] def wipeE (ρ : Env) : List Nat → Env
  | [] => ρ
  | v :: vs => (wipeE ρ vs).set v .un
@[simp] def plainAt (ρ : Env) (i : Nat) : Bool := match ρ[i]? with
  | some .un => true
  | some (.d _) => true
  | _ => false
@[simp] def allPlain (ρ : Env) (vs : List Nat) : Bool := vs.all (plainAt ρ)
@[simp] def backE (ρ ρ' : Env) : List Nat → Env
  | [] => ρ'
  | v :: vs => (backE ρ ρ' vs).set v (ρ[v]?.getD .un)
def lcRun (vs : List Nat) (set : D → Env → Option Env) (t : TC) (fe : EC) : List D → Env → List D → Out (List D)
  | [], ρ, acc => .ok acc ρ
  | d :: ds, ρ, acc => match set d ρ with
    | none => .bad
    | some ρ1 => match t ρ1 with
      | .ok true ρ2 => match fe ρ2 with
        | .ok (.val v) ρ3 => if acc.length < sizeLine ∧ allPlain ρ3 vs = true then lcRun vs set t fe ds (wipeE ρ3 vs) (acc ++ [v]) else .bad
        | _ => .bad
      | .ok false ρ2 => if allPlain ρ2 vs = true then lcRun vs set t fe ds (wipeE ρ2 vs) acc else .bad
      | _ => .bad
@[simp] def nLc (vs : List Nat) (fi : Env → Out (List D)) (set : D → Env → Option Env) (t : TC) (fe : EC) (ρ : Env) : Out (List D) := (fi ρ).bind fun ds ρ1 => if allPlain ρ1 vs = true then
    match lcRun vs set t fe ds (wipeE ρ1 vs) [] with
    | .ok xs ρ2 => .ok xs (backE ρ1 ρ2 vs)
    | _ => .bad
  else .bad
end
section
variable {K : Fg} {G : Gd} {J H J' H' : Hp} {σ : L2.St} {ρ : Env}
theorem plain_loose {i : Nat} (h : plainAt ρ i = true) : loose ρ i = true := by
  unfold plainAt at h
  unfold loose
  split at h
  · rename_i e; rw [e]
  · rename_i e; rw [e]
  · cases h
theorem plain_set {i j : Nat} {s : SV} (hs : s = .un ∨ ∃ d, s = .d d) (h : plainAt ρ i = true) : plainAt (ρ.set j s) i = true := by
  unfold plainAt at h ⊢
  by_cases e : j = i
  · subst e
    by_cases hl : j < ρ.length
    · rw [List.getElem?_set_self hl]
      rcases hs with rfl | ⟨d, rfl⟩ <;> rfl
    · rw [List.getElem?_eq_none (by simpa using hl)] at h
      cases h
  · rw [List.getElem?_set_ne e]
    exact h
theorem plain_wipe {i : Nat} (h : plainAt ρ i = true) : ∀ vs, plainAt (wipeE ρ vs) i = true
  | [] => h
  | v :: vs => plain_set (.inl rfl) (plain_wipe h vs)
theorem ER.wipe (e : ER K G J H σ ρ) : ∀ {vs : List Nat}, (∀ i ∈ vs, plainAt ρ i = true) → ER K G J H (wipe σ vs) (wipeE ρ vs)
  | [], _ => e
  | v :: vs, h => (ER.wipe e fun i hi => h i (List.mem_cons_of_mem _ hi)).setU (plain_loose (plain_wipe (h v List.mem_cons_self) vs))
theorem ER.setB {i : Nat} {x : Option V} {s : SV} (e : ER K G J H σ ρ) (hl : loose ρ i = true) (hs : SlOk K J H x s []) (hlk : ∀ o, s ≠ .lk o) : ER K G J H (σ.set i x) (ρ.set i s) := by
  obtain ⟨fs, h, ap, q⟩ := e.ft
  refine ⟨e.ex, e.j0, e.keep, e.pn, ⟨fs.set i [], SlsOk.set hs i h, ap.nilSet i, fun f hf a ha => ?_⟩, fun j a hj => ?_, e.lkSet hlk⟩
  · rcases mem_set_of hf with rfl | hf
    · cases ha
    · exact q f hf a ha
  · have ne := e.fx_ne hl hj
    rw [List.getElem?_set_ne ne.symm, List.getElem?_set_ne ne.symm]
    exact e.fx j a hj
def Gd.add (G : Gd) (p : Addr) (o : HO) : Gd := ⟨fun a => G.P a ∨ a = p, upd G.H0 p o, G.J0, G.fx⟩
theorem LkOk.guard {p : Addr} {o : HO} {i : Nat} {c : Str} {fs : List (Str × D)} (h : LkOk K G J H σ i c fs) (hp : H p = none) : LkOk K (G.add p o) J (upd H p o) σ i c fs := by
  obtain ⟨a, C, dx, vs, h1, h2, h3, h4, h5⟩ := h
  exact ⟨a, C, dx, vs, h1, .inl h2, h3, by rw [upd_ne (ne_of_none h4 hp)]; exact h4, h5⟩
def NoIns (o : HO) : Prop := ∀ C dx fs, o ≠ .ins C dx fs
theorem LkOk.ne {p : Addr} {o : HO} {i : Nat} {c : Str} {fs : List (Str × D)} (h : LkOk K (G.add p o) J H σ i c fs) (hp : H p = some o) (ho : NoIns o) : ∃ a C dx vs, σ[i]? = some (some (.ref a)) ∧ G.P a ∧ a ≠ p ∧ IsCls K c C ∧ H a = some (.ins C dx vs) ∧ ∀ x d, (x, d) ∈ fs → ∃ v, vs.lookup x = some v ∧ Rp K J v d := by
  obtain ⟨a, C, dx, vs, h1, h2, h3, h4, h5⟩ := h
  have ne : a ≠ p := fun z => by
    subst z
    rw [hp] at h4
    exact ho _ _ _ (Option.some.inj h4)
  rcases h2 with h2 | h2
  · exact ⟨a, C, dx, vs, h1, h2, ne, h3, h4, h5⟩
  · exact absurd h2 ne
theorem ER.guard {p : Addr} {o : HO} (e : ER K G J H σ ρ) (hp : H p = none) : ER K (G.add p o) J (upd H p o) σ ρ := by
  have g := Grow.side (o := o) e.ex hp
  have e1 := e.grow g
  obtain ⟨fs, h, ap, q⟩ := e.ft
  have hj := same_free e.ex hp
  refine ⟨e1.ex, e.j0, fun a ha => ?_, fun a ha => ?_, ⟨fs, h.keep (.refl _) fun f hf a ha w hw => (g.old a w hw).1, ap, fun f hf a ha => ⟨(q f hf a ha).1, fun hP => ?_⟩⟩, e.fx, fun i c fs hi => (e.lk i c fs hi).guard hp⟩
  · by_cases z : a = p
    · subst z
      refine ⟨by rw [upd_same]; exact upd_same.symm, hj.trans (same_free e.j0 hj).symm⟩
    · rcases ha with ha | ha
      · show upd H p o a = upd G.H0 p o a ∧ _
        rw [upd_ne z, upd_ne z]
        exact e.keep a ha
      · exact absurd ha z
  · by_cases z : a = p
    · subst z
      exact ⟨o, upd_same⟩
    · rcases ha with ha | ha
      · show ∃ o', upd G.H0 p o a = some o'
        rw [upd_ne z]
        exact e.pn a ha
      · exact absurd ha z
  · rcases hP with hP | rfl
    · exact (q f hf a ha).2 hP
    · obtain ⟨u, hu⟩ := h.known f hf a ha
      rw [hp] at hu
      cases hu
theorem ER.gAt {p : Addr} {o : HO} (e : ER K (G.add p o) J H σ ρ) : H p = some o ∧ J p = G.J0 p := by
  obtain ⟨h1, h2⟩ := e.keep p (.inr rfl)
  exact ⟨h1.trans upd_same, h2⟩
theorem ER.poke {p : Addr} {o o' : HO} (e : ER K (G.add p o) J H σ ρ) (hn : G.J0 p = none) (ho : NoIns o := by intro _ _ _ h; cases h) : ER K (G.add p o') J (upd H p o') σ ρ := by
  obtain ⟨h1, h2⟩ := e.gAt
  have hj : J p = none := h2.trans hn
  obtain ⟨fs, h, ap, q⟩ := e.ft
  refine ⟨fun b u hu => ?_, e.j0, fun a ha => ?_, fun a ha => ?_, ⟨fs, h.keep (.refl _) fun f hf a ha w hw => ?_, ap, fun f hf a ha => ⟨(q f hf a ha).1, (q f hf a ha).2⟩⟩, e.fx, fun i c fs hi => ?_⟩
  · rw [upd_ne (ne_of_none hu hj)]
    exact e.ex _ _ hu
  · by_cases z : a = p
    · subst z
      exact ⟨by rw [upd_same]; exact upd_same.symm, h2⟩
    · rcases ha with ha | ha
      · obtain ⟨k1, k2⟩ := e.keep a (.inl ha)
        refine ⟨?_, k2⟩
        rw [upd_ne z]
        show H a = upd G.H0 p o' a
        rw [upd_ne z]
        have k1 : H a = upd G.H0 p o a := k1
        rw [upd_ne z] at k1
        exact k1
      · exact absurd ha z
  · by_cases z : a = p
    · subst z
      exact ⟨o', upd_same⟩
    · obtain ⟨u, hu⟩ := e.pn a ha
      refine ⟨u, ?_⟩
      show upd G.H0 p o' a = some u
      have hu : upd G.H0 p o a = some u := hu
      rw [upd_ne z] at hu ⊢
      exact hu
  · have : a ≠ p := fun z => (q f hf a ha).2 (.inr z)
    rw [upd_ne this]
    exact hw
  · obtain ⟨a, C, dx, vs, k1, k2, k3, k4, k5, k6⟩ := (e.lk i c fs hi).ne h1 ho
    exact ⟨a, C, dx, vs, k1, .inl k2, k4, by rw [upd_ne k3]; exact k5, k6⟩
def cutOff (H : Hp) (p : Addr) : Hp := fun b => if b = p then none else H b
theorem cutOff_upd {H : Hp} {p : Addr} {o : HO} (h : H p = some o) : upd (cutOff H p) p o = H := by
  funext b
  unfold upd cutOff
  by_cases z : b = p
  · subst z
    rw [if_pos rfl, h]
  · rw [if_neg z, if_neg z]
theorem ER.off {p : Addr} {o : HO} (e : ER K (G.add p o) J H σ ρ) (hn : G.J0 p = none) (hg : ¬ G.P p) (ho : NoIns o := by intro _ _ _ h; cases h) : ER K G J (cutOff H p) σ ρ := by
  obtain ⟨h1, h2⟩ := e.gAt
  have hj : J p = none := h2.trans hn
  have ne : ∀ b, b ≠ p → cutOff H p b = H b := fun b z => if_neg z
  obtain ⟨fs, h, ap, q⟩ := e.ft
  refine ⟨fun b u hu => ?_, e.j0, fun a ha => ?_, fun a ha => ?_, ⟨fs, h.keep (.refl _) fun f hf a ha w hw => ?_, ap, fun f hf a ha => ⟨(q f hf a ha).1, fun z => (q f hf a ha).2 (.inl z)⟩⟩, e.fx, fun i c fs hi => ?_⟩
  · rw [ne b (ne_of_none hu hj)]
    exact e.ex _ _ hu
  · have z : a ≠ p := fun z => hg (z ▸ ha)
    rw [ne a z]
    obtain ⟨k1, k2⟩ := e.keep a (.inl ha)
    have k1 : H a = upd G.H0 p o a := k1
    rw [upd_ne z] at k1
    exact ⟨k1, k2⟩
  · have z : a ≠ p := fun z => hg (z ▸ ha)
    obtain ⟨u, hu⟩ := e.pn a (.inl ha)
    have hu : upd G.H0 p o a = some u := hu
    rw [upd_ne z] at hu
    exact ⟨u, hu⟩
  · have : a ≠ p := fun z => (q f hf a ha).2 (.inr z)
    rw [ne a this]
    exact hw
  · obtain ⟨a, C, dx, vs, k1, k2, k3, k4, k5, k6⟩ := (e.lk i c fs hi).ne h1 ho
    exact ⟨a, C, dx, vs, k1, k2, k4, by rw [ne a k3]; exact k5, k6⟩
end
end DL
namespace DL
open PySem PySem.Spec L2
section
variable {K : Fg} {G : Gd} {J H J' H' : Hp} {σ : L2.St} {ρ : Env}
theorem wipe_at {k : Nat} : ∀ {vs : List Nat}, k ∈ vs → k < σ.length → (wipe σ vs)[k]? = some none
  | [], h, _ => by cases h
  | v :: vs, h, hl => by
    unfold wipe
    by_cases e : v = k
    · subst e
      rw [List.getElem?_set_self (by rw [wipe_length]; exact hl)]
    · rw [List.getElem?_set_ne e]
      exact wipe_at (by simpa [Ne.symm e] using h) hl
theorem wipe_upd {vs is : List Nat} {σ2 : L2.St} (hsub : ∀ i ∈ is, i ∈ vs) (u : Upd is (wipe σ vs) σ2) : wipe σ2 vs = wipe σ vs := by
  apply List.ext_getElem?
  intro k
  have hl : σ2.length = σ.length := u.1.trans (wipe_length _ _)
  by_cases hk : k ∈ vs
  · by_cases hb : k < σ.length
    · rw [wipe_at hk hb, wipe_at hk (by rw [hl]; exact hb)]
    · rw [List.getElem?_eq_none (by rw [wipe_length]; omega), List.getElem?_eq_none (by rw [wipe_length]; omega)]
  · rw [wipe_out hk]
    exact u.2 k fun z => hk (hsub k z)
def backS (σ τ : L2.St) : List Nat → L2.St
  | [] => τ
  | v :: vs => (backS σ τ vs).set v (σ[v]?.getD none)
theorem backS_len {τ : L2.St} : ∀ vs, (backS σ τ vs).length = τ.length
  | [] => rfl
  | v :: vs => by
    unfold backS
    rw [List.length_set, backS_len vs]
theorem backS_get {τ : L2.St} (hl : τ.length = σ.length) {k : Nat} : ∀ vs, (backS σ τ vs)[k]? = if k ∈ vs then σ[k]? else τ[k]?
  | [] => by simp [backS]
  | v :: vs => by
    unfold backS
    by_cases e : v = k
    · subst e
      rw [if_pos List.mem_cons_self]
      by_cases hb : v < σ.length
      · rw [List.getElem?_set_self (by rw [backS_len, hl]; exact hb), List.getElem?_eq_getElem hb]
        rfl
      · rw [List.getElem?_eq_none (by rw [List.length_set, backS_len, hl]; omega), List.getElem?_eq_none (by omega)]
    · rw [List.getElem?_set_ne e, backS_get hl vs]
      have : k ∈ v :: vs ↔ k ∈ vs := by simp [Ne.symm e]
      by_cases h : k ∈ vs
      · rw [if_pos h, if_pos (this.mpr h)]
      · rw [if_neg h, if_neg (fun z => h (this.mp z))]
theorem backS_wipe (vs : List Nat) : backS σ (wipe σ vs) vs = σ := by
  apply List.ext_getElem?
  intro k
  rw [backS_get (wipe_length _ _)]
  by_cases h : k ∈ vs
  · rw [if_pos h]
  · rw [if_neg h, wipe_out h]
theorem backE_plain {ρ1 ρ2 : Env} {i : Nat} (h1 : ∀ i, plainAt ρ1 i = true ∨ ρ1[i]? = none ∨ True) (h : plainAt ρ2 i = true) : ∀ us : List Nat, (∀ u ∈ us, plainAt ρ1 u = true) → plainAt (backE ρ1 ρ2 us) i = true
  | [], _ => h
  | u :: us, hu => by
    unfold backE
    refine plain_set ?_ (backE_plain h1 h us fun x hx => hu x (List.mem_cons_of_mem _ hx))
    have := hu u List.mem_cons_self
    unfold plainAt at this
    split at this
    · rename_i e; rw [e]; exact .inl rfl
    · rename_i e; rw [e]; exact .inr ⟨_, rfl⟩
    · cases this
theorem ER.back {J1 H1 : Hp} {τ : L2.St} {ρ1 ρ2 : Env} (e1 : ER K G J1 H1 σ ρ1) (s : Same J1 J) (e : ER K G J H τ ρ2) : ∀ {us : List Nat}, (∀ u ∈ us, plainAt ρ1 u = true) → (∀ u ∈ us, plainAt ρ2 u = true) → ER K G J H (backS σ τ us) (backE ρ1 ρ2 us)
  | [], _, _ => e
  | u :: us, h1, h2 => by
    have ih := ER.back e1 s e (us := us) (fun x hx => h1 x (List.mem_cons_of_mem _ hx)) (fun x hx => h2 x (List.mem_cons_of_mem _ hx))
    refine ih.setB (plain_loose (backE_plain (fun _ => .inr (.inr trivial)) (h2 u List.mem_cons_self) us fun x hx => h1 x (List.mem_cons_of_mem _ hx))) ?_ ?_
    · have := h1 u List.mem_cons_self
      unfold plainAt at this
      split at this
      · rename_i e
        rw [e]
        exact .un _
      · rename_i d e
        obtain ⟨fs, hs, _⟩ := e1.ft
        obtain ⟨y, f, q1, _, so⟩ := hs.get e
        rw [e, q1]
        cases so with
        | d hd => exact .d (dp_mono s _ _ hd)
      · cases this
    · have := h1 u List.mem_cons_self
      unfold plainAt at this
      intro o
      split at this
      · rename_i e
        rw [e]
        intro h
        cases h
      · rename_i e
        rw [e]
        intro h
        cases h
      · cases this
end
theorem allPlain_at {ρ : Env} {vs : List Nat} (h : allPlain ρ vs = true) : ∀ i ∈ vs, plainAt ρ i = true := fun i hi => List.all_eq_true.mp h i hi
def Yx.no (Y : Yx) : Yx := ⟨Y.ct, fun _ _ _ _ => False⟩
section
variable {X : Cx} {Y : Yx}
theorem lc_imp {K : Fg} {is vs : List Nat} {fi : Env → Out (List D)} {set : D → Env → Option Env} {t : TC} {fe : EC} (hsub : ∀ i ∈ is, i ∈ vs) : ∀ σ H Q, tN K Y (nLc vs fi set t fe) σ H Q → tLc (tI K Y fi) (tG K is set) (tT K Y.no t) (tE K Y.no fe) vs σ H Q := by
  rintro σ H Q ⟨G, J, ρ, er, h⟩
  refine ⟨G, J, ρ, er, PostN.of h fun ds ρ1 It J1 H1 s1 itok e1 h1 => ?_⟩
  split at h1
  · rename_i hpl
    split at h1
    · rename_i xs ρ2 hrun
      intro p hp
      have hj1 : J1 p = none := same_free e1.ex hp
      have hj0 : G.J0 p = none := same_free e1.j0 hj1
      have hgp : ¬ G.P p := fun z => by
        obtain ⟨o, ho⟩ := e1.pn p z
        rw [(e1.keep p z).1, ho] at hp
        cases hp
      let Nx : Nat → Hp → Prop := fun i H => ∃ J' ρ' accv acc, Same J1 J' ∧ ER K (G.add p (.lst accv)) J' H (wipe σ vs) ρ' ∧ (∀ u ∈ vs, plainAt ρ' u = true) ∧ RpAll K J' accv acc ∧ lcRun vs set t fe (ds.drop i) ρ' acc = .ok xs ρ2
      refine ⟨fun i m H => m = ds.length - i ∧ i ≤ ds.length ∧ Nx i H, ⟨ds.length, by simp, Nat.zero_le _, J1, wipeE ρ1 vs, [], [], .refl _, (e1.wipe (allPlain_at hpl)).guard hp, fun u hu => plain_wipe (allPlain_at hpl u hu) vs, .nil, hrun⟩, ?_⟩
      rintro i m H2 ⟨rfl, hi, J', ρ', accv, acc, sJ, eD, pD, rD, hr⟩
      by_cases hlt : i < ds.length
      · refine .inr ⟨itok.go i J' H2 sJ eD.ex hlt, Nx (i + 1), fun H' n => ⟨ds.length - (i + 1), by omega, rfl, hlt, n⟩, fun x H' hy => ?_⟩
        obtain ⟨J2, d, gr, hd, rx⟩ := itok.yld i J' H2 x H' sJ eD.ex hlt hy
        have hdr : ds.drop i = d :: ds.drop (i + 1) := by
          have := List.getElem_cons_drop (h := hlt)
          rw [← this]
          congr 1
          rw [List.getElem?_eq_getElem hlt] at hd
          exact Option.some.inj hd
        rw [hdr] at hr
        have hr : (match set d ρ' with
          | none => .bad
          | some ρ1 => match t ρ1 with
            | .ok true ρ2 => match fe ρ2 with
              | .ok (.val v) ρ3 => if acc.length < sizeLine ∧ allPlain ρ3 vs = true then lcRun vs set t fe (ds.drop (i + 1)) (wipeE ρ3 vs) (acc ++ [v]) else .bad
              | _ => .bad
            | .ok false ρ2 => if allPlain ρ2 vs = true then lcRun vs set t fe (ds.drop (i + 1)) (wipeE ρ2 vs) acc else .bad
            | _ => .bad) = Out.ok xs ρ2 := hr
        split at hr
        · cases hr
        · rename_i ρa hset
          refine ⟨_, J2, ρ', d, ρa, eD.grow gr, rx, hset, fun σ2 J3 H3 s3 u3 e3 => ⟨wipe_upd hsub u3, _, J3, ρa, e3, ?_⟩⟩
          have hw : wipe σ2 vs = wipe σ vs := wipe_upd hsub u3
          split at hr
          · rename_i ρb ht
            rw [ht]
            intro b J4 H4 s4 hb e4
            subst hb
            rw [if_pos rfl]
            refine ⟨_, J4, ρb, e4, ?_⟩
            split at hr
            · rename_i v ρc hfe
              rw [hfe]
              intro y J5 H5 s5 ry e5
              split at hr
              · rename_i hz
                obtain ⟨a1, a2⟩ := e5.gAt
                refine ⟨accv, a1, by rw [dps_len rD]; exact hz.1, J5, wipeE ρc vs, accv ++ [y], acc ++ [v], (((sJ.trans gr.j).trans s3).trans s4).trans s5, ?_, fun u hu => plain_wipe (allPlain_at hz.2 u hu) vs, dps_append (dps_mono (((gr.j).trans s3).trans (s4.trans s5)) _ _ rD) (.cons ry .nil), hr⟩
                have := (e5.poke (o' := .lst (accv ++ [y])) hj0).wipe (allPlain_at hz.2)
                rw [hw] at this
                exact this
              · cases hr
            · cases hr
          · rename_i ρb ht
            rw [ht]
            intro b J4 H4 s4 hb e4
            subst hb
            rw [if_neg Bool.false_ne_true]
            split at hr
            · rename_i hz
              refine ⟨J4, wipeE ρb vs, accv, acc, ((sJ.trans gr.j).trans s3).trans s4, ?_, fun u hu => plain_wipe (allPlain_at hz u hu) vs, dps_mono ((gr.j.trans s3).trans s4) _ _ rD, hr⟩
              have := e4.wipe (allPlain_at hz)
              rw [hw] at this
              exact this
            · cases hr
          · cases hr
      · have hie : i = ds.length := by omega
        subst hie
        refine .inl ⟨itok.stop J' H2 sJ eD.ex, ?_⟩
        rw [List.drop_length] at hr
        have hr : Out.ok acc ρ' = Out.ok xs ρ2 := hr
        cases hr
        obtain ⟨a1, a2⟩ := eD.gAt
        have eo := ER.back e1 sJ (eD.off hj0 hgp) (us := vs) (allPlain_at hpl) pD
        rw [backS_wipe] at eo
        have := h1 p accv J' (cutOff H2 p) sJ (if_pos rfl) rD eo
        rw [cutOff_upd a1] at this
        exact this
    · exact h1.elim
  · exact h1.elim
theorem dn_lc {elt tg iter : Expr} {ifs : List Expr} {scope : Scope} {own : List (Str × Nat)} {pos : Pos} {is : List Nat} {fi : Env → Out (List D)} {set : D → Env → Option Env} {t : TC} {fe : EC} (hc : X.calm = true) (hN : X.N.Nodup) (hi : DI X Y tg iter fi)
    (ok : BlkOk X.N X.env.scope scope own) (hsub : ∀ i ∈ is, i ∈ own.map (·.2))
    (hg : ∀ (s : Shared) (H : Hp) (C : Addr) (cl : List (Str × Addr)) (fp : List Addr), DG (X.blk s H scope (compEnvC scope cl C X.env) fp) tg is set)
    (ht : ∀ (s : Shared) (H : Hp) (C : Addr) (cl : List (Str × Addr)) (fp : List Addr), PTs (X.blk s H scope (compEnvC scope cl C X.env) fp) ifs (tT X.G Y.no t))
    (he : ∀ (s : Shared) (H : Hp) (C : Addr) (cl : List (Str × Addr)) (fp : List Addr), DE (X.blk s H scope (compEnvC scope cl C X.env) fp) Y.no elt fe) (hs : ∀ x, foldedSetIterable iter X.env x = pure x := by intro _; rfl) :
    DN X Y (.ListComp elt [⟨tg, iter, ifs, 0⟩] scope pos) (nLc (own.map (·.2)) fi set t fe) := PE.imp (pe_lc hc hN hi ok hg ht he hs) (lc_imp hsub)
@[simp] def tYesD (ρ : Env) : Out Bool := .ok true ρ
theorem dts_nil : PTs X [] (tT X.G Y tYesD) := ⟨fun pins s σ H Q I ⟨G, J, ρ, er, h⟩ => pts_nil.run pins s σ H Q I (Post.now h rfl er)⟩
end
inductive SO where
  | nx (ρ : Env)
  | rt (d : D) (ρ : Env)
  | ro (o : Own) (ρ : Env)
  | bk (ρ : Env)
  | ct (ρ : Env)
  | exc (e : EV) (ρ : Env)
  | bad
abbrev SC := Env → SO
def SPost (K : Fg) (Y : Yx) (G : Gd) (J : Hp) (o : SO) (D : Ends) : Prop := match o with
  | .nx ρ => ∀ σ J' H', Same J J' → ER K G J' H' σ ρ → D.nx σ H'
  | .bk ρ => ∀ σ J' H', Same J J' → ER K G J' H' σ ρ → D.bk σ H'
  | .ct ρ => ∀ σ J' H', Same J J' → ER K G J' H' σ ρ → D.ct σ H'
  | .rt d ρ => ∀ v σ J' H', Same J J' → Rp K J' v d → ER K G J' H' σ ρ → D.rt v H'
  | .ro o ρ => ∀ a r σ J' H', Same J J' → OwnAt K J' H' o (a :: r) → (∀ b ∈ a :: r, J' b = none ∧ ¬ G.P b) → ER K G J' H' σ ρ → D.rt (.ref a) H'
  | .exc e ρ => ∀ c dx σ J' H', Same J J' → ExcAt Y K J' H' e c dx → ER K G J' H' σ ρ → Y.W c dx σ H'
  | .bad => False
def tS (K : Fg) (Y : Yx) (c : SC) : TS := fun D σ H => ∃ G J ρ, ER K G J H σ ρ ∧ SPost K Y G J (c ρ) D
abbrev DS (X : Cx) (Y : Yx) (st : Stmt) (c : SC) : Prop := PS X st (tS X.G Y c)
abbrev DSs (X : Cx) (Y : Yx) (st : List Stmt) (c : SC) : Prop := PSs X st (tS X.G Y c)
theorem PS.imp {X : Cx} {st : Stmt} {t t' : TS} (h : PS X st t) (i : ∀ D σ H, t' D σ H → t D σ H) : PS X st t' := ⟨fun pins s σ H D I hw => h.run pins s σ H D I (i _ _ _ hw)⟩
theorem PSs.imp {X : Cx} {st : List Stmt} {t t' : TS} (h : PSs X st t) (i : ∀ D σ H, t' D σ H → t D σ H) : PSs X st t' := ⟨fun pins s σ H D I hw => h.run pins s σ H D I (i _ _ _ hw)⟩
section
variable {K : Fg} {G : Gd} {J H J' H' : Hp} {σ : L2.St} {ρ : Env} {Y : Yx}
theorem SPost.mono {o : SO} {D : Ends} (s : Same J J') (h : SPost K Y G J o D) : SPost K Y G J' o D := by
  cases o with
  | nx ρ => exact fun σ J1 H1 s1 e => h σ J1 H1 (s.trans s1) e
  | bk ρ => exact fun σ J1 H1 s1 e => h σ J1 H1 (s.trans s1) e
  | ct ρ => exact fun σ J1 H1 s1 e => h σ J1 H1 (s.trans s1) e
  | rt d ρ => exact fun v σ J1 H1 s1 r e => h v σ J1 H1 (s.trans s1) r e
  | ro o ρ => exact fun a r σ J1 H1 s1 ho hb e => h a r σ J1 H1 (s.trans s1) ho hb e
  | exc e ρ => exact fun c dx σ J1 H1 s1 r e => h c dx σ J1 H1 (s.trans s1) r e
  | bad => exact h
@[reducible, simp] def Out.then {α : Type} (x : Out α) (k : α → Env → SO) : SO := match x with
  | .ok a ρ => k a ρ
  | .exc e ρ => .exc e ρ
  | .bad => .bad
theorem Post.then {α β : Type} {R : Hp → β → α → Prop} {o : Out α} {k : α → Env → SO} {D : Ends} (h : SPost K Y G J (o.then k) D) {Q : β → Hp → Prop}
    (hk : ∀ x ρ v J' H', Same J J' → R J' v x → ER K G J' H' σ ρ → SPost K Y G J' (k x ρ) D → Q v H') : Post K Y G J σ R o Q := by
  cases o with
  | ok x ρ => exact fun v J1 H1 s1 r e => hk x ρ v J1 H1 s1 r e (SPost.mono s1 h)
  | exc e ρ => exact fun c dx J1 H1 s1 r e => h c dx σ J1 H1 s1 r e
  | bad => exact h
theorem PostN.then {o : Out (List D)} {k : List D → Env → SO} {D' : Ends} (h : SPost K Y G J (o.then k) D') {Q : VK}
    (hk : ∀ xs ρ p vs J' H', Same J J' → H' p = none → RpAll K J' vs xs → ER K G J' H' σ ρ → SPost K Y G J' (k xs ρ) D' → Q (.ref p) (upd H' p (.lst vs))) : PostN K Y G J σ o Q := by
  cases o with
  | ok x ρ => exact fun p vs J1 H1 s1 hp r e => hk x ρ p vs J1 H1 s1 hp r e (SPost.mono s1 h)
  | exc e ρ => exact fun c dx J1 H1 s1 r e => h c dx σ J1 H1 s1 r e
  | bad => exact h
end
@[simp] def sSeq (c c' : SC) (ρ : Env) : SO := match c ρ with
  | .nx ρ1 => c' ρ1
  | o => o
@[simp] def sNx (ρ : Env) : SO := .nx ρ
@[simp] def sBk (ρ : Env) : SO := .bk ρ
@[simp] def sCt (ρ : Env) : SO := .ct ρ
section
variable {X : Cx} {Y : Yx} {st : Stmt} {sts : List Stmt} {a b c e : Expr} {pos : Pos}
theorem dss_nil : DSs X Y [] sNx := PSs.imp pss_nil fun D σ H ⟨G, J, ρ, er, h⟩ => h σ J H (.refl J) er
theorem seq_imp {K : Fg} {c c' : SC} : ∀ D σ H, tS K Y (sSeq c c') D σ H → tSeq (tS K Y c) (tS K Y c') D σ H := fun D σ H ⟨G, J, ρ, er, h⟩ => by
  refine ⟨G, J, ρ, er, ?_⟩
  unfold sSeq at h
  cases hc : c ρ with
  | nx ρ1 =>
    rw [hc] at h
    exact fun σ' J' H' s e => ⟨G, J', ρ1, e, SPost.mono s h⟩
  | rt d ρ1 => rw [hc] at h; exact h
  | ro o ρ1 => rw [hc] at h; exact h
  | bk ρ1 => rw [hc] at h; exact h
  | ct ρ1 => rw [hc] at h; exact h
  | exc e ρ1 => rw [hc] at h; exact h
  | bad => rw [hc] at h; exact h
theorem dss_cons {c c' : SC} (h1 : DS X Y st c) (h2 : DSs X Y sts c') : DSs X Y (st :: sts) (sSeq c c') := PSs.imp (pss_cons h1 h2) seq_imp
theorem dss_one {c : SC} (h : DS X Y st c) : DSs X Y [st] c := pss_one h
@[simp] def keepV (ρ : Env) : VV → Option (D × Env)
  | .val d => some (d, ρ)
  | .slot i => match ρ[i]? with
    | some (.own false (.lst xs)) => some (.list xs, ρ.set i .un)
    | _ => none
theorem keep_ok {K : Fg} {G : Gd} {J H : Hp} {σ : L2.St} {ρ ρ' : Env} {v : V} {x : VV} {d : D} (e : ER K G J H σ ρ) (r : RV K σ J v x) (h : keepV ρ x = some (d, ρ')) : ∃ J', Same J J' ∧ Rp K J' v d ∧ ER K G J' H σ ρ' := by
  cases x with
  | val d' =>
    cases h
    exact ⟨J, .refl J, r, e⟩
  | slot i =>
    have h : (match ρ[i]? with
      | some (.own false (.lst xs)) => some (PyData.list xs, ρ.set i .un)
      | _ => none) = some (d, ρ') := h
    split at h
    · rename_i xs hi
      cases h
      obtain ⟨p, J', h1, h2, h3, h4⟩ := e.freeze hi
      have r : σ[i]? = some (some v) := r
      rw [r] at h1
      cases h1
      exact ⟨J', h2, h3, h4⟩
    · cases h
@[simp] def sRet (f : EC) (ρ : Env) : SO := (f ρ).then fun x ρ1 => match keepV ρ1 x with
  | some (d, ρ2) => .rt d ρ2
  | none => .bad
theorem ds_ret {f : EC} (h : DE X Y e f) : DS X Y (.Return (some e) pos) (sRet f) := by
  refine PS.imp (ps_ret h) fun D σ H ⟨G, J, ρ, er, hp⟩ => ⟨G, J, ρ, er, Post.then hp fun x ρ1 v J1 H1 s1 r1 e1 h1 => ?_⟩
  split at h1
  · rename_i d ρ2 hk
    obtain ⟨J2, s2, r2, e2⟩ := keep_ok e1 r1 hk
    exact h1 v σ J2 H1 s2 r2 e2
  · exact h1.elim
@[simp] def sRetNew (fn : Env → Out (List D)) (ρ : Env) : SO := (fn ρ).then fun xs ρ1 => .ro (.lst xs) ρ1
theorem ER.np {K : Fg} {G : Gd} {J H : Hp} {σ : L2.St} {ρ : Env} {p : Addr} (e : ER K G J H σ ρ) (hp : H p = none) : J p = none ∧ ¬ G.P p := ⟨same_free e.ex hp, fun hP => by
  obtain ⟨o, ho⟩ := e.pn _ hP
  rw [(e.keep _ hP).1, ho] at hp
  cases hp⟩
@[simp] def sRetN (ρ : Env) : SO := .rt .none ρ
@[simp] def sDrop (f : EC) (ρ : Env) : SO := (f ρ).then fun _ ρ1 => .nx ρ1
@[simp] def sIf (t : TC) (c c' : SC) (ρ : Env) : SO := (t ρ).then fun b ρ1 => if b = true then c ρ1 else c' ρ1
theorem ds_if {t : TC} {c1 c2 : SC} {s1 s2 : List Stmt} (hc : DT X Y c t) (h1 : DSs X Y s1 c1) (h2 : DSs X Y s2 c2) : DS X Y (.If c s1 s2 pos) (sIf t c1 c2) := by
  refine PS.imp (ps_if hc h1 h2) fun D σ H ⟨G, J, ρ, er, hp⟩ => ⟨G, J, ρ, er, Post.then hp fun x ρ1 v J1 H1 s1 r1 e1 h1 => ?_⟩
  cases r1
  cases x with
  | true => exact ⟨G, J1, ρ1, e1, h1⟩
  | false => exact ⟨G, J1, ρ1, e1, h1⟩
@[simp] def sAsg (f : EC) (set : D → Env → Option Env) (ρ : Env) : SO := (f ρ).then fun x ρ1 => match x with
  | .val d => match set d ρ1 with
    | some ρ2 => .nx ρ2
    | none => .bad
  | .slot _ => .bad
theorem asg_fin {K : Fg} {is : List Nat} {set : D → Env → Option Env} {G : Gd} {J1 H1 : Hp} {σ : L2.St} {ρ1 : Env} {v : V} {d : D} {D' : Ends} (r1 : Rp K J1 v d) (e1 : ER K G J1 H1 σ ρ1) (h1 : SPost K Y G J1 (match set d ρ1 with
    | some ρ2 => .nx ρ2
    | none => .bad) D') : tG K is set v σ H1 D'.nx := by
  split at h1
  · rename_i ρ2 h2
    exact ⟨G, J1, ρ1, d, ρ2, e1, r1, h2, fun σ' J' H' s u e => h1 σ' J' H' s e⟩
  · exact h1.elim
theorem ds_asg {f : EC} {is : List Nat} {set : D → Env → Option Env} {tg : Expr} (h : DE X Y e f) (hg : DG X tg is set) (hs : swapsWithSole [tg] e pos.line X.env = pure false := by rfl) (hw : swappedStores [tg] e X.env = pure none := by rfl)
    (h1 : (assignEach [tg] X.env).map (·.2) = [assign tg X.env] := by rfl) : DS X Y (.Assign [tg] e pos) (sAsg f set) := by
  refine PS.imp (ps_asg h hg hs hw h1) fun D σ H ⟨G, J, ρ, er, hp⟩ => ⟨G, J, ρ, er, Post.then hp fun x ρ1 v J1 H1 s1 r1 e1 h1 => ?_⟩
  cases x with
  | val d => exact asg_fin r1 e1 h1
  | slot i => exact h1.elim
@[simp] def sNew (i : Nat) (fn : Env → Out (List D)) (ρ : Env) : SO := (fn ρ).then fun xs ρ1 => if loose ρ1 i = true then .nx (ρ1.set i (.own false (.lst xs))) else .bad
theorem ds_new (i : Nat) {x : Str} {fn : Env → Out (List D)} {p : Pos} (h : DN X Y e fn) (hN : X.N.Nodup) (hi : X.N[i]? = some x := by rfl) (hx : Loc X.env.scope x := by first | exact Or.inl rfl | exact Or.inr rfl)
    (hf : X.fn x = true ∨ X.env.scope.names.lookup x = some .local := by first | exact .inl rfl | exact .inr rfl | assumption) (hs : swapsWithSole [.Name x p] e pos.line X.env = pure false := by rfl) (hw : swappedStores [.Name x p] e X.env = pure none := by rfl)
    (h1 : (assignEach [.Name x p] X.env).map (·.2) = [assign (.Name x p) X.env] := by rfl) : DS X Y (.Assign [.Name x p] e pos) (sNew i fn) := by
  refine PS.imp (ps_asg h (pg_name hN hi hx hf) hs hw h1) fun D σ H ⟨G, J, ρ, er, hp⟩ => ⟨G, J, ρ, er, PostN.then hp fun xs ρ1 q vs J1 H1 s1 hq r1 e1 h1 => ?_⟩
  split at h1
  · rename_i hl
    exact h1 _ J1 _ (.refl _) (e1.setO hq hl ⟨q, vs, rfl, upd_same, r1⟩)
  · exact h1.elim
end
end DL
namespace DL
open PySem PySem.Spec L2
def forRun (set : D → Env → Option Env) (body : SC) : List D → Env → SO
  | [], ρ => .nx ρ
  | d :: ds, ρ => match set d ρ with
    | none => .bad
    | some ρ1 => match body ρ1 with
      | .nx ρ2 => forRun set body ds ρ2
      | .ct ρ2 => forRun set body ds ρ2
      | .bk ρ2 => .nx ρ2
      | o => o
@[simp] def sFor (fi : Env → Out (List D)) (set : D → Env → Option Env) (body : SC) (ρ : Env) : SO := (fi ρ).then fun ds ρ1 => forRun set body ds ρ1
def whileRun (t : TC) (body : SC) : Nat → Env → SO
  | 0, _ => .bad
  | n + 1, ρ => (t ρ).then fun b ρ1 => if b = true then (match body ρ1 with
      | .nx ρ2 => whileRun t body n ρ2
      | .ct ρ2 => whileRun t body n ρ2
      | .bk ρ2 => .nx ρ2
      | o => o)
    else .nx ρ1
@[simp] def sWhile (n : Env → Nat) (t : TC) (body : SC) (ρ : Env) : SO := whileRun t body (n ρ) ρ
section
variable {X : Cx} {Y : Yx} {a b c e : Expr} {pos : Pos}
theorem ds_for {tg iter : Expr} {body : List Stmt} {fi : Env → Out (List D)} {is : List Nat} {set : D → Env → Option Env} {cb : SC} (hp : PassesOwn (model X.prog X.w) X.A X.env X.xe) (hc : X.calm = true) (hi : DI X Y tg iter fi) (hg : DG X tg is set) (hb : DSs X Y body cb)
    (hs : ∀ x, foldedSetIterable iter X.env x = pure x := by intro _; rfl) : DS X Y (.For tg iter body [] pos) (sFor fi set cb) := by
  refine PS.imp (ps_for hp hc hi hg hb hs) fun D σ H ⟨G, J, ρ, er, h⟩ => ⟨G, J, ρ, er, Post.then h fun ds ρ1 It J1 H1 s1 itok e1 h1 => ?_⟩
  let N : Nat → L2.St → Hp → Prop := fun i σ H => ∃ J' ρ', Same J1 J' ∧ ER X.G G J' H σ ρ' ∧ SPost X.G Y G J' (forRun set cb (ds.drop i) ρ') D
  refine ⟨fun i m σ H => m = ds.length - i ∧ i ≤ ds.length ∧ N i σ H, ⟨ds.length, by simp, Nat.zero_le _, J1, ρ1, .refl _, e1, h1⟩, ?_⟩
  rintro i m σ2 H2 ⟨rfl, hi, J', ρ', sJ, eR, hr⟩
  by_cases hlt : i < ds.length
  · refine .inr ⟨itok.go i J' H2 sJ eR.ex hlt, N (i + 1), fun σ' H' n => ⟨ds.length - (i + 1), by omega, rfl, hlt, n⟩, fun x H' hy => ?_⟩
    obtain ⟨J2, d, gr, hd, rx⟩ := itok.yld i J' H2 x H' sJ eR.ex hlt hy
    have hdr : ds.drop i = d :: ds.drop (i + 1) := by
      have := List.getElem_cons_drop (h := hlt)
      rw [← this]
      congr 1
      rw [List.getElem?_eq_getElem hlt] at hd
      exact Option.some.inj hd
    rw [hdr] at hr
    have hr : SPost X.G Y G J' (match set d ρ' with
      | none => .bad
      | some ρ1 => match cb ρ1 with
        | .nx ρ2 => forRun set cb (ds.drop (i + 1)) ρ2
        | .ct ρ2 => forRun set cb (ds.drop (i + 1)) ρ2
        | .bk ρ2 => .nx ρ2
        | o => o) D := hr
    split at hr
    · exact hr.elim
    · rename_i ρa hset
      refine ⟨G, J2, ρ', d, ρa, eR.grow gr, rx, hset, fun σ3 J3 H3 s3 u3 e3 => ⟨G, J3, ρa, e3, ?_⟩⟩
      have sJ3 : Same J' J3 := gr.j.trans s3
      cases hcb : cb ρa with
      | nx ρb =>
        rw [hcb] at hr
        exact fun σ4 J4 H4 s4 e4 => ⟨J4, ρb, (sJ.trans sJ3).trans s4, e4, SPost.mono (sJ3.trans s4) hr⟩
      | ct ρb =>
        rw [hcb] at hr
        exact fun σ4 J4 H4 s4 e4 => ⟨J4, ρb, (sJ.trans sJ3).trans s4, e4, SPost.mono (sJ3.trans s4) hr⟩
      | bk ρb =>
        rw [hcb] at hr
        exact fun σ4 J4 H4 s4 e4 => hr σ4 J4 H4 (sJ3.trans s4) e4
      | rt d2 ρb =>
        rw [hcb] at hr
        exact fun v σ4 J4 H4 s4 r e4 => hr v σ4 J4 H4 (sJ3.trans s4) r e4
      | ro o ρb =>
        rw [hcb] at hr
        exact fun a r σ4 J4 H4 s4 ho hb e4 => hr a r σ4 J4 H4 (sJ3.trans s4) ho hb e4
      | exc ev ρb =>
        rw [hcb] at hr
        exact fun c dx σ4 J4 H4 s4 r e4 => hr c dx σ4 J4 H4 (sJ3.trans s4) r e4
      | bad =>
        rw [hcb] at hr
        exact hr
  · have hie : i = ds.length := by omega
    subst hie
    refine .inl ⟨itok.stop J' H2 sJ eR.ex, ?_⟩
    rw [List.drop_length] at hr
    exact hr σ2 J' H2 (.refl _) eR
theorem ds_while {body : List Stmt} {t : TC} {cb : SC} (n : Env → Nat) (hp : PassesOwn (model X.prog X.w) X.A X.env X.xe) (hc : DT X Y c t) (hb : DSs X Y body cb) : DS X Y (.While c body [] pos) (sWhile n t cb) := by
  refine PS.imp (ps_while hp hc hb) fun D σ H ⟨G, J, ρ, er, h⟩ => ?_
  let N : Nat → L2.St → Hp → Prop := fun m σ H => ∃ J' ρ', Same J J' ∧ ER X.G G J' H σ ρ' ∧ SPost X.G Y G J' (whileRun t cb m ρ') D
  refine ⟨N, ⟨n ρ, J, ρ, .refl _, er, h⟩, ?_⟩
  rintro m σ2 H2 ⟨J', ρ', sJ, eR, hr⟩
  cases m with
  | zero => exact hr.elim
  | succ m =>
    refine ⟨G, J', ρ', eR, Post.then (k := fun b ρ1 => if b = true then (match cb ρ1 with
      | .nx ρ2 => whileRun t cb m ρ2
      | .ct ρ2 => whileRun t cb m ρ2
      | .bk ρ2 => .nx ρ2
      | o => o)
    else .nx ρ1) hr fun b ρ1 v J3 H3 s3 r3 e3 h3 => ?_⟩
    cases r3
    cases b with
    | false =>
      rw [if_neg Bool.false_ne_true]
      exact h3 σ2 J3 H3 (.refl _) e3
    | true =>
      rw [if_pos rfl]
      rw [if_pos rfl] at h3
      refine ⟨N m, fun σ' H' n => ⟨m, Nat.lt_succ_self m, n⟩, G, J3, ρ1, e3, ?_⟩
      cases hcb : cb ρ1 with
      | nx ρb =>
        rw [hcb] at h3
        exact fun σ4 J4 H4 s4 e4 => ⟨J4, ρb, (sJ.trans s3).trans s4, e4, SPost.mono s4 h3⟩
      | ct ρb =>
        rw [hcb] at h3
        exact fun σ4 J4 H4 s4 e4 => ⟨J4, ρb, (sJ.trans s3).trans s4, e4, SPost.mono s4 h3⟩
      | bk ρb =>
        rw [hcb] at h3
        exact h3
      | rt d2 ρb =>
        rw [hcb] at h3
        exact h3
      | ro o ρb =>
        rw [hcb] at h3
        exact h3
      | exc ev ρb =>
        rw [hcb] at h3
        exact h3
      | bad =>
        rw [hcb] at h3
        exact h3
@[simp] def sAug (i : Nat) (g : D → D → Option D) (f : EC) (ρ : Env) : SO := match ρ[i]? with
  | some (.d dx) => (f ρ).then fun y ρ1 => match deref ρ1 y with
    | some dy => match g dx dy with
      | some d => if loose ρ1 i = true then .nx (ρ1.set i (.d d)) else .bad
      | none => .bad
    | none => .bad
  | _ => .bad
theorem own_at {K : Fg} {G : Gd} {J H : Hp} {σ : L2.St} {ρ : Env} {i : Nat} {fx : Bool} {xs : List D} (e : ER K G J H σ ρ) (hi : ρ[i]? = some (.own fx (.lst xs))) : ∃ a vs, σ[i]? = some (some (.ref a)) ∧ H a = some (.lst vs) ∧ RpAll K J vs xs := by
  obtain ⟨fs, hs, _⟩ := e.ft
  obtain ⟨y, f, e1, _, so⟩ := hs.get hi
  cases so with
  | own ho =>
    obtain ⟨a, vs, ef, ha, hd⟩ := ho
    injection ef with ea er
    subst ea er
    exact ⟨_, vs, e1, ha, hd⟩
@[simp] def sApp (i : Nat) (f : EC) (ρ : Env) : SO := match ρ[i]? with
  | some (.own _ (.lst _)) => (f ρ).then fun y ρ1 => match keepV ρ1 y with
    | some (d, ρ2) => match ρ2[i]? with
      | some (.own fx (.lst xs)) => if xs.length < sizeLine then .nx (ρ2.set i (.own fx (.lst (xs ++ [d])))) else .bad
      | _ => .bad
    | none => .bad
  | _ => .bad
theorem ds_app (i : Nat) {x : Str} {f : EC} {p apos cpos : Pos} (he : DE X Y e f) (hN : X.N[i]? = some x := by rfl) (hv : Vis X.env.scope x := by first | exact Or.inl rfl | exact Or.inr (Or.inl rfl) | exact Or.inr (Or.inr rfl)) (hd : (x == ("__debug__" : Str)) = false := by decide)
    (hcd : (x == ("__classdict__" : Str)) = false := by decide) (hbase : attributeBase (.Name x p) "append" X.env (eval (.Name x p) X.env) = eval (.Name x p) X.env := by rfl)
    (hfew : ((backTo cpos (starEach [e] X.env)).all (fun x => !x.1) && (backToKw cpos (keywordEach [] X.env)).all (fun x => x.1.isSome)
      && decide ([e].length + ([] : List Keyword).length + (if ([] : List Keyword).isEmpty then 0 else 1) < 30)) = true := by rfl)
    (hline : (apos.endLine == cpos.line) = true := by rfl) (hs : starEach [e] X.env = (false, eval e X.env) :: starEach [] X.env := by rfl) (hplain : (backTo cpos (starEach [] X.env)).any (·.1) = false := by rfl)
    (hsw : swapsWith (.Call (.Attribute (.Name x p) "append" apos) [e] [] cpos) none pos.line X.env = pure false := by rfl) :
    DS X Y (.Expr (.Call (.Attribute (.Name x p) "append" apos) [e] [] cpos) pos) (sApp i f) := by
  refine PS.imp (ps_expr (pe_bm PySem.F.plainAttrs_list PySem.F.slot_list_append PySem.F.type_list_append mt_append (pe_var (i := i) hN hv hd hcd) (pa_cons he pa_nil hs) hbase hfew hline hs hplain) hsw) fun D σ H ⟨G, J, ρ, er, h⟩ => ?_
  unfold sApp at h
  split at h
  · rename_i fx xs hi
    obtain ⟨a, vs, h1, h2, h3⟩ := own_at er hi
    refine ⟨_, h1, .inl ⟨rfl, vs, .inl (.inl h2)⟩, G, J, ρ, er, Post.then h fun y ρ1 v J1 H1 s1 r1 e1 hp => ?_⟩
    split at hp
    · rename_i d ρ2 hk
      obtain ⟨J2, s2, r2, e2⟩ := keep_ok e1 r1 hk
      split at hp
      · rename_i fx2 xs2 hi2
        split at hp
        · rename_i hz
          obtain ⟨a2, vs2, q1, q2, q3⟩ := own_at e2 hi2
          rw [h1] at q1
          cases q1
          exact ⟨_, vs2, v, rfl, rfl, q2, by rw [dps_len q3]; exact hz, hp _ _ _ s2 (e2.mutL hi2 h1 (dps_append q3 (.cons r2 .nil)))⟩
        · exact hp.elim
      · exact hp.elim
    · exact hp.elim
  · exact h.elim
@[simp] def sExt (i : Nat) (fn : Env → Out (List D)) (ρ : Env) : SO := match ρ[i]? with
  | some (.own _ (.lst _)) => (fn ρ).then fun ys ρ1 => match ρ1[i]? with
      | some (.own fx (.lst xs)) => if xs.length + ys.length ≤ sizeLine then .nx (ρ1.set i (.own fx (.lst (xs ++ ys)))) else .bad
      | _ => .bad
  | _ => .bad
@[simp] def ePop (i : Nat) (ρ : Env) : Out VV := match ρ[i]? with
  | some (.own fx (.lst xs)) => match xs[xs.length - 1]? with
    | some d => .ok (.val d) (ρ.set i (.own fx (.lst xs.dropLast)))
    | none => .bad
  | _ => .bad
@[simp] def sSetL (i : Nat) (fi fv : EC) (ρ : Env) : SO := (fv ρ).then fun y ρ1 => match keepV ρ1 y with
  | some (d, ρ2) => match ρ2[i]? with
    | some (.own _ (.lst _)) => (fi ρ2).then fun k ρ3 => match k, ρ3[i]? with
      | .val (.int n), some (.own fx (.lst xs)) => match ixN xs.length n with
        | some j => .nx (ρ3.set i (.own fx (.lst (xs.set j d))))
        | none => .bad
      | _, _ => .bad
    | _ => .bad
  | none => .bad
@[simp] def eFrz (i : Nat) (ρ : Env) : Out VV := match ρ[i]? with
  | some (.own false (.lst xs)) => .ok (.val (.list xs)) (ρ.set i (.d (.list xs)))
  | some (.d d) => .ok (.val d) ρ
  | _ => .bad
theorem ER.freeze2 {K : Fg} {G : Gd} {J H : Hp} {σ : L2.St} {ρ : Env} {i : Nat} {xs : List D} (e : ER K G J H σ ρ) (hi : ρ[i]? = some (.own false (.lst xs))) : ∃ a J', σ[i]? = some (some (.ref a)) ∧ Same J J' ∧ Rp K J' (.ref a) (.list xs) ∧ ER K G J' H σ (ρ.set i (.d (.list xs))) := by
  obtain ⟨a, J', h1, h2, h3, h4⟩ := e.freeze hi
  have hl : loose (ρ.set i .un) i = true := by
    unfold loose
    rw [List.getElem?_set_self (List.getElem?_eq_some_iff.mp hi).1]
  have h5 := h4.setD h3 hl
  have e1 : σ.set i (some (.ref a)) = σ := by
    obtain ⟨hb, e⟩ := List.getElem?_eq_some_iff.mp h1
    rw [← e]
    exact List.set_getElem_self hb
  rw [e1, List.set_set] at h5
  exact ⟨a, J', h1, h2, h3, h5⟩
theorem de_frz (i : Nat) {x : Str} (hN : X.N[i]? = some x := by rfl) (hv : Vis X.env.scope x := by first | exact Or.inl rfl | exact Or.inr (Or.inl rfl) | exact Or.inr (Or.inr rfl)) (hd : (x == ("__debug__" : Str)) = false := by decide)
    (hcd : (x == ("__classdict__" : Str)) = false := by decide) : DE X Y (.Name x pos) (eFrz i) := by
  refine PE.imp (pe_var (i := i) hN hv hd hcd) fun σ H Q ⟨G, J, ρ, er, h⟩ => ?_
  unfold eFrz at h
  split at h
  · rename_i xs hi
    obtain ⟨a, J', h1, h2, h3, h4⟩ := er.freeze2 hi
    exact ⟨_, h1, h _ _ _ h2 h3 h4⟩
  · rename_i d hi
    obtain ⟨fs, hs, _⟩ := er.ft
    obtain ⟨y, f, e1, _, so⟩ := hs.get hi
    cases so with
    | d hd => exact ⟨_, e1, h.now hd er⟩
  · exact h.elim
inductive FO where
  | ret (d : D)
  | own (o : Own)
  | exc (e : EV)
  | bad
def FOk (K : Fg) (Y : Yx) (J H : Hp) (o : FO) (Q : VK) (E : XK) : Prop := match o with
  | .ret d => ∀ v J' H', Grow J H J' H' → Rp K J' v d → Q v H'
  | .own o => ∀ a r J' H', Grow J H J' H' → OwnAt K J' H' o (a :: r) → (∀ b ∈ a :: r, J' b = none ∧ H b = none) → Q (.ref a) H'
  | .exc e => ∀ c dx J' H', Grow J H J' H' → ExcAt Y K J' H' e c dx → E c dx H'
  | .bad => False
def spP (K : Fg) (ct : String → Option Value) (n : Nat) (m : List D → FO) : Sp := fun vs H Q E => ∃ J ds, Same J H ∧ RpAll K J vs ds ∧ ds.length = n ∧ FOk K ⟨ct, fun _ _ _ _ => True⟩ J H (m ds) Q E
theorem ExcAt.ct {Y Y' : Yx} {K : Fg} {J H : Hp} {e : EV} {c : Value} {dx : Option Addr} (h : ExcAt Y K J H e c dx) (hc : Y.ct = Y'.ct) : ExcAt Y' K J H e c dx := by
  unfold ExcAt at h ⊢
  rw [← hc]
  exact h
@[simp] def eCall (n : Nat) (m : List D → FO) (fa : Env → Out (List VV)) (ρ : Env) : Out VV := (fa ρ).bind fun xs ρ1 => match vals xs with
  | some ds => if ds.length = n then (match m ds with
    | .ret d => .ok (.val d) ρ1
    | .exc e => .exc e ρ1
    | _ => .bad) else .bad
  | none => .bad
def Takes' (X : Cx) (Y : Yx) : Prop := ∀ σ, PassesAt (L2.CX X.prog X.w) X σ (WE Y.W σ)
theorem takes_at {X : Cx} {Y : Yx} (tk : Takes X Y.W) : Takes' X Y := fun σ => passAt tk σ
theorem takes_no {X : Cx} {Y : Yx} : Takes' X Y.no := fun σ pins H s e s' I h => passL pins σ H s e s' I h
theorem de_call {m : List D → FO} {n k : Nat} {f : Addr} {fd : FuncData} {ps : List Str} {x : Str} {es : List Expr} {fa : Env → Out (List VV)} {p : Pos} (F : FnOk X.prog X.w X.G X.mg X.base (L2.CX X.prog X.w) k f fd ps (spP X.G Y.ct n m)) (hr : Room k X.A) (hm : X.mg x = some (.ref f))
    (hk : PySem.W.keepIn X.G (.ref f) = true) (hb : Binds X.G fd ps []) (tk : Takes' X Y) (ha : DA X Y (e :: es) fa) (hg : Gl X x := by rfl) (hdb : (x == ("__debug__" : Str)) = false := by decide)
    (he : starEach (e :: es) X.env = (false, eval e X.env) :: starEach es X.env := by rfl) (hpl : (backTo pos (starEach es X.env)).any (·.1) = false := by rfl) : DE X Y (.Call (.Name x p) (e :: es) [] pos) (eCall n m fa) := by
  refine PE.imp (pe_callS F hr hg hm hk hb tk ha hdb he hpl) fun σ H Q ⟨G, J, ρ, er, h⟩ => ⟨G, J, ρ, er, ?_⟩
  unfold eCall at h
  cases hf : fa ρ with
  | exc ev ρ1 => rw [hf] at h; exact h
  | bad => rw [hf] at h; exact h
  | ok xs ρ1 =>
    rw [hf] at h
    intro vs J1 H1 s1 r1 e1
    have h1 : Post X.G Y G J1 σ (RV X.G σ) (match vals xs with
      | some ds => if ds.length = n then (match m ds with
        | .ret d => Out.ok (.val d) ρ1
        | .exc e => .exc e ρ1
        | _ => .bad) else .bad
      | none => .bad) Q := Post.mono s1 h
    split at h1
    · rename_i ds hds
      split at h1
      · rename_i hl
        refine ⟨J1, ds, e1.ex, vals_ok r1 hds, hl, ?_⟩
        cases hm : m ds with
        | ret d =>
          rw [hm] at h1
          exact fun v J' H' gr r => h1.grow e1 gr r
        | exc ev =>
          rw [hm] at h1
          exact fun c dx J' H' gr r => h1 c dx J' H' gr.j (r.ct rfl) (e1.grow gr)
        | bad =>
          rw [hm] at h1
          exact h1.elim
        | own o =>
          rw [hm] at h1
          exact h1.elim
      · exact h1.elim
    · exact h1.elim
def fnP (c : SC) (k : Nat) : List D → FO := fun ds => match c (ds.map SV.d ++ List.replicate k .un) with
  | .nx _ => .ret .none
  | .rt d _ => .ret d
  | .ro o _ => .own o
  | .exc e _ => .exc e
  | _ => .bad
end
theorem sls_start {K : Fg} {J H : Hp} : ∀ {vs : List V} {ds : List D} (k : Nat), RpAll K J vs ds → SlsOk K J H (vs.map some ++ List.replicate k none) (ds.map SV.d ++ List.replicate k .un) (List.replicate (ds.length + k) [])
  | [], [], 0, _ => .nil
  | [], [], k + 1, r => by
    have ih := sls_start (H := H) k r
    rw [List.replicate_succ, List.replicate_succ]
    have e : ([] : List D).length + (k + 1) = (([] : List D).length + k) + 1 := rfl
    rw [e, List.replicate_succ]
    exact .cons (.un _) ih
  | v :: vs, d :: ds, k, r => by
    cases r with
    | cons r1 r2 =>
      have ih := sls_start (H := H) k r2
      have e : (d :: ds).length + k = (ds.length + k) + 1 := by
        rw [List.length_cons]
        omega
      rw [e, List.replicate_succ]
      exact .cons (.d r1) ih
  | [], _ :: _, _, r => by cases r
  | _ :: _, [], _, r => by cases r
theorem no_lk {α : Type} {f : α → D} {ds : List α} {k : Nat} {i : Nat} {o : Option (Str × List (Str × D))} (h : (ds.map (fun d => SV.d (f d)) ++ List.replicate k .un)[i]? = some (.lk o)) : False := by
  rcases List.mem_append.mp (List.mem_of_getElem? h) with h | h
  · obtain ⟨d, _, e⟩ := List.mem_map.mp h
    cases e
  · cases (List.mem_replicate.mp h).2
theorem er_start {K : Fg} {J H : Hp} {vs : List V} {ds : List D} (k : Nat) (s : Same J H) (r : RpAll K J vs ds) : ER K ⟨fun a => ∃ o, H a = some o, H, J, []⟩ J H (vs.map some ++ List.replicate k none) (ds.map SV.d ++ List.replicate k .un) := by
  refine ⟨s, .refl J, fun a _ => ⟨rfl, rfl⟩, fun a h => h, ⟨_, sls_start k r, fun i j f g a h1 _ h2 _ => ?_, fun f hf a ha => ?_⟩, fun i a h => (nomatch h), fun i c fs h => (no_lk (f := fun d => d) h).elim⟩
  · rw [List.eq_of_mem_replicate (List.mem_of_getElem? h1)] at h2
    cases h2
  · rw [List.eq_of_mem_replicate hf] at ha
    cases ha
theorem grow_end {K : Fg} {J H J' H' : Hp} {σ : L2.St} {ρ : Env} (e : ER K ⟨fun a => ∃ o, H a = some o, H, J, []⟩ J' H' σ ρ) : Grow J H J' H' :=
  ⟨e.j0, e.ex, fun a o h => by
    obtain ⟨h1, h2⟩ := e.keep a ⟨o, h⟩
    exact ⟨h1.trans h, h2⟩⟩
section
variable {P : Program} {K : Fg} {mg : Str → Option Value} {base : Heap}
theorem fn_p {x qual : Str} {st : Stmt} {f : Addr} {fd : FuncData} {N ps : List Str} {k j n : Nat} {c : SC} {ct : String → Option Value} (F : Fun K x qual st f fd) (S : FnScope N ps (defScope st)) (hn : ps.length = n) (hj : N.length = n + j)
    (hb : ∀ (cdv : Value) (A : Around) (outer : List PySem.Env) (s : Shared) (H : Hp) (E : XK), Room k (A.deeper (PyProof.Rows.envOfC qual (defScope st) s.heap.objs.size f cdv)) →
      DSs (cxOf (L2.CX P K.w) P K.w K mg base N qual (defScope st) f cdv A outer s H E) ⟨ct, fun c dx _ H => E c dx H⟩ (defBody st) c) : FnOk P K.w K mg base (L2.CX P K.w) (k + 1) f fd ps (spP K ct n (fnP c j)) := by
  refine F.okX S (fun vs H Q E h => ?_) (fun cdv A outer s H vs Q E hr h => ?_)
  · obtain ⟨J, ds, _, r, hl, _⟩ := h
    rw [dps_len r, hl, hn]
  · obtain ⟨J, ds, sJ, r, hl, hp⟩ := h
    refine ⟨_, hb cdv A outer s H E hr, ⟨fun a => ∃ o, H a = some o, H, J, []⟩, J, ds.map SV.d ++ List.replicate j .un, ?_, ?_⟩
    · have hst : L2.start N vs = vs.map some ++ List.replicate j none := by
        unfold L2.start
        rw [hj, dps_len r, hl]
        congr 2
        omega
      rw [hst]
      exact er_start j sJ r
    · unfold fnP at hp
      cases hc : c (ds.map SV.d ++ List.replicate j .un) with
      | nx ρ => rw [hc] at hp; exact fun σ J' H' _ e => hp _ J' H' (grow_end e) .non
      | rt d ρ => rw [hc] at hp; exact fun v σ J' H' _ r e => hp v J' H' (grow_end e) r
      | ro o ρ =>
        rw [hc] at hp
        refine fun a r σ J' H' _ ho hb e => hp a r J' H' (grow_end e) ho fun b hb' => ⟨(hb b hb').1, ?_⟩
        cases hH : H b with
        | none => rfl
        | some u => exact absurd ⟨u, hH⟩ (hb b hb').2
      | exc ev ρ => rw [hc] at hp; exact fun c dx σ J' H' _ x e => hp c dx J' H' (grow_end e) (x.ct rfl)
      | bk ρ => rw [hc] at hp; exact hp.elim
      | ct ρ => rw [hc] at hp; exact hp.elim
      | bad => rw [hc] at hp; exact hp.elim
end
end DL
namespace DL
open PySem PySem.Spec L2
inductive OO where
  | ret (d : D) (o : Own)
  | exc (e : EV) (o : Own)
  | bad
structure GrowO (J H J' H' : Hp) (ft : List Addr) : Prop where
  j : Same J J'
  jh : Same J' H'
  old : ∀ a o, a ∉ ft → H a = some o → H' a = some o ∧ J' a = J a
def OOk (K : Fg) (Y : Yx) (J H : Hp) (a : Addr) (r : List Addr) (o : OO) (Q : VK) (E : XK) : Prop := match o with
  | .ret d o' => ∀ v J' H' r', GrowO J H J' H' (a :: r) → OwnAt K J' H' o' (a :: r') → (∀ b ∈ a :: r', J' b = none ∧ (b ∈ a :: r ∨ H b = none)) → Rp K J' v d → Q v H'
  | .exc e o' => ∀ c dx J' H' r', GrowO J H J' H' (a :: r) → OwnAt K J' H' o' (a :: r') → (∀ b ∈ a :: r', J' b = none ∧ (b ∈ a :: r ∨ H b = none)) → ExcAt Y K J' H' e c dx → E c dx H'
  | .bad => False
def spO (K : Fg) (ct : String → Option Value) (n : Nat) (m : Own → List D → OO) : Sp := fun vs H Q E => ∃ J a r us o ds, vs = .ref a :: us ∧ Same J H ∧ OwnAt K J H o (a :: r) ∧ (∀ b ∈ a :: r, J b = none) ∧ RpAll K J us ds ∧ ds.length = n ∧
  OOk K ⟨ct, fun _ _ _ _ => True⟩ J H a r (m o ds) Q E
section
variable {K : Fg} {G : Gd} {J H J' H' : Hp} {σ : L2.St} {ρ : Env}
theorem own_foot {i : Nat} {fx : Bool} {o : Own} (e : ER K G J H σ ρ) (hi : ρ[i]? = some (.own fx o)) : ∃ a r, σ[i]? = some (some (.ref a)) ∧ OwnAt K J H o (a :: r) ∧ ∀ b ∈ a :: r, J b = none := by
  obtain ⟨fs, hs, ap, q⟩ := e.ft
  obtain ⟨y, f, e1, e2, so⟩ := hs.get hi
  cases so with
  | own ho => exact ⟨_, _, e1, ho, fun b hb => (q _ (List.mem_of_getElem? e2) b hb).1⟩
theorem OwnAt.foot {o : Own} {a : Addr} {r r' : List Addr} (h : OwnAt K J H o (a :: r)) (h' : OwnAt K J H o (a :: r')) (hfl : o.flat = true) : r = r' := by
  cases o with
  | tr t => cases hfl
  | dct kvs =>
    obtain ⟨_, _, e, _⟩ := h
    obtain ⟨_, _, e', _⟩ := h'
    injection e with _ e1
    injection e' with _ e2
    rw [e1, e2]
  | dctT kvs =>
    obtain ⟨_, _, e, _⟩ := h
    obtain ⟨_, _, e', _⟩ := h'
    injection e with _ e1
    injection e' with _ e2
    rw [e1, e2]
  | obj c fs =>
    obtain ⟨_, _, _, _, e, _⟩ := h
    obtain ⟨_, _, _, _, e', _⟩ := h'
    injection e with _ e1
    injection e' with _ e2
    rw [e1, e2]
  | lst xs =>
    obtain ⟨_, _, e, _⟩ := h
    obtain ⟨_, _, e', _⟩ := h'
    injection e with _ e1
    injection e' with _ e2
    rw [e1, e2]
  | tape cs sd =>
    obtain ⟨a1, b1, e, _, q1, _⟩ := h
    obtain ⟨a2, b2, e', _, q2, _⟩ := h'
    injection e with x1 e1
    injection e' with x2 e2
    rw [e1, e2]
    subst x1 x2
    rw [q1] at q2
    injection q2 with q2
    injection q2 with q2
    injection q2 with q2
    injection q2 with q2
    rw [q2]
  | tapB b cs sd =>
    obtain ⟨a1, e, _⟩ := h
    obtain ⟨a2, e', _⟩ := h'
    injection e with x1 e1
    injection e' with x2 e2
    rw [e1, e2]
theorem own_foc {i : Nat} {fx : Bool} {o : Own} (e : ER K G J H σ ρ) (hi : ρ[i]? = some (.own fx o)) : ∃ a r, σ[i]? = some (some (.ref a)) ∧ OwnAt K J H o (a :: r) ∧ (∀ b ∈ a :: r, J b = none) ∧
    ∀ {J' H' : Hp} {o' : Own} {r' : List Addr}, GrowO J H J' H' (a :: r) → OwnAt K J' H' o' (a :: r') → (∀ b ∈ a :: r', J' b = none ∧ (b ∈ a :: r ∨ H b = none)) → ER K G J' H' σ (ρ.set i (.own fx o')) := by
  obtain ⟨fs, h, ap, q⟩ := e.ft
  obtain ⟨x, f, e1, e2, so⟩ := h.get hi
  cases so with
  | own ho =>
  rename_i a r1
  refine ⟨a, r1, e1, ho, fun b hb => (q _ (List.mem_of_getElem? e2) b hb).1, fun {J' H' o' r'} g ho' hf => ?_⟩
  have hs := e1
  have qf := q _ (List.mem_of_getElem? e2)
  have other : ∀ j f, j ≠ i → fs[j]? = some f → ∀ b ∈ f, b ∉ a :: r1 := fun j f hj ef b hb hm => hj (ap j i f _ b ef e2 hb hm)
  have key : ∀ (σ : List (Option V)) (ρ : List SV) (fs : List (List Addr)) (i : Nat), SlsOk K J H σ ρ fs → ρ[i]? = some (.own fx o) → σ[i]? = some (some (.ref a)) → (∀ j f, j ≠ i → fs[j]? = some f → ∀ b ∈ f, b ∉ a :: r1) →
      SlsOk K J' H' σ (ρ.set i (.own fx o')) (fs.set i (a :: r')) := by
    intro σ ρ fs i h
    induction h generalizing i with
    | nil => intro e; simp at e
    | @cons x s f xs ss fs h t ih =>
      intro e1 e2 e4
      cases i with
      | zero =>
        simp at e1 e2
        subst e1 e2
        refine .cons (.own ho') (t.keep g.j fun f2 hf2 b hb u hu => (g.old b u ?_ hu).1)
        obtain ⟨k, hk, hk2⟩ := List.getElem_of_mem hf2
        exact e4 (k + 1) f2 (by omega) (by simp [hk, hk2]) b hb
      | succ i =>
        refine .cons (h.keep g.j fun b hb u hu => (g.old b u (e4 0 f (by omega) rfl b hb) hu).1) (ih i (by simpa using e1) (by simpa using e2) fun j f2 hj hf2 => e4 (j + 1) f2 (by omega) (by simpa using hf2))
  refine ⟨g.jh, e.j0.trans g.j, fun b hb => ?_, e.pn, ⟨fs.set i (a :: r'), key σ ρ fs i h hi hs other, ap.set i fun j f2 hj ef b hb hm => ?_, fun f2 hf2 b hb => ?_⟩, fun j b hj => ?_, e.lkOwn (by intro o h; cases h) (fun b hb => by
      obtain ⟨u, hu⟩ := e.pn b hb
      obtain ⟨k1, k2⟩ := e.keep b hb
      rw [(g.old b u (fun z => (qf b z).2 hb) (k1.trans hu)).1, k1, hu]) g.j⟩
  · obtain ⟨u, hu⟩ := e.pn b hb
    obtain ⟨k1, k2⟩ := e.keep b hb
    obtain ⟨g1, g2⟩ := g.old b u (fun z => (qf b z).2 hb) (k1.trans hu)
    exact ⟨g1.trans hu.symm, g2.trans k2⟩
  · rcases (hf b hb).2 with z | z
    · exact other j f2 hj ef b hm z
    · obtain ⟨u, hu⟩ := h.known f2 (List.mem_of_getElem? ef) b hm
      rw [z] at hu
      cases hu
  · obtain ⟨k, hk, hk2⟩ := List.getElem_of_mem hf2
    by_cases z : k = i
    · subst z
      rw [List.getElem_set_self] at hk2
      subst hk2
      refine ⟨(hf b hb).1, fun hP => ?_⟩
      rcases (hf b hb).2 with z | z
      · exact (qf b z).2 hP
      · obtain ⟨u, hu⟩ := e.pn b hP
        rw [(e.keep b hP).1, hu] at z
        cases z
    · rw [List.length_set] at hk
      rw [List.getElem_set_ne (Ne.symm z)] at hk2
      have hfk : fs[k]? = some f2 := by rw [List.getElem?_eq_getElem hk, hk2]
      obtain ⟨u, hu⟩ := h.known f2 (List.mem_of_getElem? hfk) b hb
      exact ⟨(g.old b u (other k f2 z hfk b hb) hu).2.trans (q f2 (List.mem_of_getElem? hfk) b hb).1, (q f2 (List.mem_of_getElem? hfk) b hb).2⟩
  · obtain ⟨f1, o1, f2, f3⟩ := e.fx j b hj
    refine ⟨f1, ?_⟩
    by_cases hij : i = j
    · subst hij
      rw [hi] at f2
      cases f2
      refine ⟨_, by rw [List.getElem?_set_self (List.getElem?_eq_some_iff.mp hi).1], ?_⟩
      cases fx <;> first | rfl | cases f3
    · rw [List.getElem?_set_ne hij]
      exact ⟨o1, f2, f3⟩
theorem ER.callO {i : Nat} {fx : Bool} {o o' : Own} {a : Addr} {r r' : List Addr} (e : ER K G J H σ ρ) (hi : ρ[i]? = some (.own fx o)) (hs : σ[i]? = some (some (.ref a))) (ho : OwnAt K J H o (a :: r)) (g : GrowO J H J' H' (a :: r)) (ho' : OwnAt K J' H' o' (a :: r'))
    (hf : ∀ b ∈ a :: r', J' b = none ∧ (b ∈ a :: r ∨ H b = none)) (hfl : o.flat = true := by rfl) : ER K G J' H' σ (ρ.set i (.own fx o')) := by
  obtain ⟨a2, r2, h1, h2, _, h4⟩ := own_foc e hi
  rw [hs] at h1
  cases h1
  have er := h2.foot ho hfl
  subst er
  exact h4 g ho' hf
end
@[simp] def eCallO (i n : Nat) (m : Own → List D → OO) (fa : Env → Out (List VV)) (ρ : Env) : Out VV := match ρ[i]? with
  | some (.own _ _) => (fa ρ).bind fun xs ρ1 => match vals xs, ρ1[i]? with
    | some ds, some (.own fx o) => if ds.length = n then (match m o ds with
      | .ret d o' => .ok (.val d) (ρ1.set i (.own fx o'))
      | .exc e o' => .exc e (ρ1.set i (.own fx o'))
      | .bad => .bad) else .bad
    | _, _ => .bad
  | _ => .bad
section
variable {X : Cx} {Y : Yx} {a b c e : Expr} {pos : Pos}
theorem de_callO (i : Nat) {m : Own → List D → OO} {n k : Nat} {f : Addr} {fd : FuncData} {ps : List Str} {x y : Str} {es : List Expr} {fa : Env → Out (List VV)} {p py : Pos} (F : FnOk X.prog X.w X.G X.mg X.base (L2.CX X.prog X.w) k f fd ps (spO X.G Y.ct n m)) (hr : Room k X.A)
    (hm : X.mg x = some (.ref f)) (hk : PySem.W.keepIn X.G (.ref f) = true) (hb : Binds X.G fd ps []) (tk : Takes' X Y) (ha : DA X Y es fa) (hg : Gl X x := by rfl) (hN : X.N[i]? = some y := by rfl)
    (hv : Vis X.env.scope y := by first | exact Or.inl rfl | exact Or.inr (Or.inl rfl) | exact Or.inr (Or.inr rfl)) (hd : (y == ("__debug__" : Str)) = false := by decide) (hcd : (y == ("__classdict__" : Str)) = false := by decide) (hdb : (x == ("__debug__" : Str)) = false := by decide)
    (he : starEach (.Name y py :: es) X.env = (false, eval (.Name y py) X.env) :: starEach es X.env := by rfl) (hpl : (backTo pos (starEach es X.env)).any (·.1) = false := by rfl) : DE X Y (.Call (.Name x p) (.Name y py :: es) [] pos) (eCallO i n m fa) := by
  refine PE.imp (pe_callS F hr hg hm hk hb tk (pa_cons (pe_var (i := i) hN hv hd hcd) ha he) hdb he hpl) fun σ H Q ⟨G, J, ρ, er, h⟩ => ?_
  unfold eCallO at h
  split at h
  · rename_i fx0 o0 hi0
    obtain ⟨a0, r0, h1, _, _⟩ := own_foot er hi0
    refine ⟨_, h1, G, J, ρ, er, Post.bind h fun xs ρ1 vs J1 H1 s1 r1 e1 hp => ?_⟩
    split at hp
    · rename_i ds fx o hds hi
      split at hp
      · rename_i hl
        obtain ⟨a, r, k1, k2, k3, k4⟩ := own_foc e1 hi
        rw [h1] at k1
        cases k1
        refine ⟨J1, a0, r, vs, o, ds, rfl, e1.ex, k2, k3, vals_ok r1 hds, hl, ?_⟩
        cases hm : m o ds with
        | ret d o' =>
          rw [hm] at hp
          exact fun v J' H' r' g ho' hf rv => hp v J' H' g.j rv (k4 g ho' hf)
        | exc ev o' =>
          rw [hm] at hp
          exact fun c dx J' H' r' g ho' hf hx => hp c dx J' H' g.j (hx.ct rfl) (k4 g ho' hf)
        | bad =>
          rw [hm] at hp
          exact hp.elim
      · exact hp.elim
    · exact hp.elim
  · exact h.elim
end
def fnO (c : SC) (k : Nat) : Own → List D → OO := fun o ds => match c (.own true o :: (ds.map SV.d ++ List.replicate k .un)) with
  | .nx ρ => match (ρ[0]? : Option SV) with
    | some (SV.own true o') => OO.ret .none o'
    | _ => OO.bad
  | .rt d ρ => match (ρ[0]? : Option SV) with
    | some (SV.own true o') => OO.ret d o'
    | _ => OO.bad
  | .exc e ρ => match (ρ[0]? : Option SV) with
    | some (SV.own true o') => OO.exc e o'
    | _ => OO.bad
  | _ => OO.bad
theorem er_startO {K : Fg} {J H : Hp} {a : Addr} {r : List Addr} {o : Own} {vs : List V} {ds : List D} (k : Nat) (s : Same J H) (ho : OwnAt K J H o (a :: r)) (hn : ∀ b ∈ a :: r, J b = none) (rv : RpAll K J vs ds) :
    ER K ⟨fun b => (∃ u, H b = some u) ∧ b ∉ a :: r, H, J, [(0, a)]⟩ J H (some (.ref a) :: (vs.map some ++ List.replicate k none)) (.own true o :: (ds.map SV.d ++ List.replicate k .un)) := by
  refine ⟨s, .refl J, fun b _ => ⟨rfl, rfl⟩, fun b h => h.1, ⟨_, .cons (.own ho) (sls_start k rv), fun i j f g b h1 h2 hb hb2 => ?_, fun f hf b hb => ?_⟩, fun i b h => ?_, fun i c fs h => ?_⟩
  · cases i with
    | zero =>
      cases j with
      | zero => rfl
      | succ j =>
        rw [List.eq_of_mem_replicate (List.mem_of_getElem? (show (List.replicate (ds.length + k) ([] : List Addr))[j]? = some g from h2))] at hb2
        cases hb2
    | succ i =>
      rw [List.eq_of_mem_replicate (List.mem_of_getElem? (show (List.replicate (ds.length + k) ([] : List Addr))[i]? = some f from h1))] at hb
      cases hb
  · rcases List.mem_cons.mp hf with rfl | hf
    · exact ⟨hn b hb, fun z => z.2 hb⟩
    · rw [List.eq_of_mem_replicate hf] at hb
      cases hb
  · cases List.mem_singleton.mp h
    exact ⟨rfl, _, rfl, rfl⟩
  · cases i with
    | zero => cases h
    | succ i => exact (no_lk (f := fun d => d) h).elim
theorem end_O {K : Fg} {J H J' H' : Hp} {a : Addr} {r : List Addr} {σ : L2.St} {ρ : Env} {o' : Own} (e : ER K ⟨fun b => (∃ u, H b = some u) ∧ b ∉ a :: r, H, J, [(0, a)]⟩ J' H' σ ρ) (h0 : ρ[0]? = some (.own true o')) :
    ∃ r', GrowO J H J' H' (a :: r) ∧ OwnAt K J' H' o' (a :: r') ∧ ∀ b ∈ a :: r', J' b = none ∧ (b ∈ a :: r ∨ H b = none) := by
  obtain ⟨fs, h, ap, q⟩ := e.ft
  obtain ⟨x, f, e1, e2, so⟩ := h.get h0
  obtain ⟨f1, _⟩ := e.fx 0 a (by simp)
  rw [f1] at e1
  cases e1
  cases so with
  | own ho =>
    refine ⟨_, ⟨e.j0, e.ex, fun b u hb hu => ?_⟩, ho, fun b hb => ?_⟩
    · obtain ⟨k1, k2⟩ := e.keep b ⟨⟨u, hu⟩, hb⟩
      exact ⟨k1.trans hu, k2⟩
    · obtain ⟨q1, q2⟩ := q _ (List.mem_of_getElem? e2) b hb
      refine ⟨q1, ?_⟩
      by_cases z : b ∈ a :: r
      · exact .inl z
      · refine .inr ?_
        cases hb2 : H b with
        | none => rfl
        | some u => exact absurd ⟨⟨u, hb2⟩, z⟩ q2
section
variable {P : Program} {K : Fg} {mg : Str → Option Value} {base : Heap}
theorem fn_o {x qual : Str} {st : Stmt} {f : Addr} {fd : FuncData} {N ps : List Str} {k j n : Nat} {c : SC} {ct : String → Option Value} (F : Fun K x qual st f fd) (S : FnScope N ps (defScope st)) (hn : ps.length = n + 1) (hj : N.length = n + 1 + j)
    (hb : ∀ (cdv : Value) (A : Around) (outer : List PySem.Env) (s : Shared) (H : Hp) (E : XK), Room k (A.deeper (PyProof.Rows.envOfC qual (defScope st) s.heap.objs.size f cdv)) →
      DSs (cxOf (L2.CX P K.w) P K.w K mg base N qual (defScope st) f cdv A outer s H E) ⟨ct, fun c dx _ H => E c dx H⟩ (defBody st) c) : FnOk P K.w K mg base (L2.CX P K.w) (k + 1) f fd ps (spO K ct n (fnO c j)) := by
  refine F.okX S (fun vs H Q E h => ?_) (fun cdv A outer s H vs Q E hr h => ?_)
  · obtain ⟨J, a, r, us, o, ds, rfl, _, _, _, rv, hl, _⟩ := h
    rw [List.length_cons, dps_len rv, hl, hn]
  · obtain ⟨J, a, r, us, o, ds, rfl, sJ, ho, hn0, rv, hl, hp⟩ := h
    refine ⟨_, hb cdv A outer s H E hr, ⟨fun b => (∃ u, H b = some u) ∧ b ∉ a :: r, H, J, [(0, a)]⟩, J, .own true o :: (ds.map SV.d ++ List.replicate j .un), ?_, ?_⟩
    · have hst : L2.start N (.ref a :: us) = some (.ref a) :: (us.map some ++ List.replicate j none) := by
        unfold L2.start
        rw [hj, List.length_cons, dps_len rv, hl, List.map_cons, List.cons_append]
        congr 3
        omega
      rw [hst]
      exact er_startO j sJ ho hn0 rv
    · unfold fnO at hp
      cases hc : c (.own true o :: (ds.map SV.d ++ List.replicate j .un)) with
      | nx ρ =>
        rw [hc] at hp
        intro σ J' H' _ e
        dsimp only at hp
        split at hp
        · rename_i o' h0
          obtain ⟨r', g, h1, h2⟩ := end_O e h0
          exact hp _ J' H' r' g h1 h2 .non
        · exact hp.elim
      | rt d ρ =>
        rw [hc] at hp
        intro v σ J' H' _ rv' e
        dsimp only at hp
        split at hp
        · rename_i o' h0
          obtain ⟨r', g, h1, h2⟩ := end_O e h0
          exact hp _ J' H' r' g h1 h2 rv'
        · exact hp.elim
      | exc ev ρ =>
        rw [hc] at hp
        intro c dx σ J' H' _ hx e
        dsimp only at hp
        split at hp
        · rename_i o' h0
          obtain ⟨r', g, h1, h2⟩ := end_O e h0
          exact hp c dx J' H' r' g h1 h2 (hx.ct rfl)
        · exact hp.elim
      | bk ρ => rw [hc] at hp; exact hp.elim
      | ct ρ => rw [hc] at hp; exact hp.elim
      | bad => rw [hc] at hp; exact hp.elim
      | ro o ρ => rw [hc] at hp; exact hp.elim
end
@[simp] def eCallL (i : Nat) (a : Addr) (n : Nat) (m : List D → FO) (fa : Env → Out (List VV)) (ρ : Env) : Out VV := match ρ[i]? with
  | some (.rf a') => if a' = a then eCall n m fa ρ else .bad
  | _ => .bad
section
variable {X : Cx} {Y : Yx} {a b c e : Expr} {pos : Pos}
end
section
variable {P : Program} {K : Fg} {mg : Str → Option Value} {base : Heap}
end
@[simp] def sRaise (x : String) (ρ : Env) : SO := .exc ⟨x, []⟩ ρ
structure ExC (K : Fg) (mg : Str → Option Value) (x : Str) (C : Addr) : Prop where
  g : mg x = some (.ref C)
  q : PySem.W.excIn K C [.type "ValueError", .type "Exception", .type "BaseException", .type "object"] "ValueError.__new__" = true
  k : PySem.W.keepIn K (.ref C) = true
  s : PySem.W.subIn K (.ref C) (.type "BaseException") = some true
  t : PySem.W.typeIn K (.ref C) = some (.type "type")
section
variable {X : Cx} {Y : Yx} {a b c e : Expr} {pos : Pos}
theorem pmk_own0 {C : Addr} {x : Str} {p : Pos} (T : ExC X.G X.mg x C) (hg : Gl X x) (hdb : (x == ("__debug__" : Str)) = false) : PMk X (.Call (.Name x p) [] [] pos) (fun _ H Q => Q (.ref C) none H) := by
  intro pins s σ H Q I h
  refine wpAny_Call_Name_kw (ld_glob I hg T.g (PySem.W.callWith_K0 I.kIn T.k ?_) hdb)
  obtain ⟨bm, N, nm, qn, bs, hdct, sn, sub, ab, col, dd, k0, k1, k2, k3, k5, mN, hC, hN, hni, hT⟩ := exc_obj I.kIn T.q
  exact wpAny_call_exc_subT PySem.F.excBase_ValueError hT hC hN hni (fun h' e hm => mk_of I hm (raises_own T.s T.t) h (I.hok.gone hm.new)) (Nat.zero_le _)
theorem ds_raise0 {C : Addr} {x : String} {p rpos : Pos} (T : ExC X.G X.mg (x : Str) C) (hct : Y.ct x = some (.ref C)) (hc : X.calm = true) (tk : Takes X Y.W) (hg : Gl X (x : Str) := by rfl) (hdb : ((x : Str) == ("__debug__" : Str)) = false := by decide) :
    DS X Y (.Raise (some (.Call (.Name (x : Str) p) [] [] pos)) none rpos) (sRaise x) :=
  PS.imp (ps_raise hc tk (pmk_own0 T hg hdb)) fun D σ H ⟨G, J, ρ, er, h⟩ => h _ _ σ J H (.refl J) ⟨hct, .inl ⟨rfl, rfl⟩⟩ er
structure SubT (K : Fg) (ct : String → Option Value) (sub : String → String → Bool) : Prop where
  ok : ∀ x y c d, ct x = some c → ct y = some d → PySem.W.exmOne K c d = some (sub x y)
@[simp] def noExc : SO → SO
  | .exc _ _ => .bad
  | o => o
@[simp] def sTry (sub : String → String → Bool) (x : String) (cb cs : SC) (ρ : Env) : SO := match cb ρ with
  | .exc e ρ1 => if sub e.cls x = true then noExc (cs ρ1) else .exc e ρ1
  | o => o
end
end DL
namespace PySem
open AutoSeq1 (wpAny_loadPart')
end PySem
namespace DL
open PySem PySem.Spec L2 PyProof.Rows
def enumD (ds : List D) : List D := ds.zipIdx.map fun p => .tuple [.int (p.2 : Nat), p.1]
@[simp] def enumA : List VV → Option (List D)
  | [.val d] => match itemsOf d with
    | some ds => some (enumD ds)
    | none => none
  | _ => none
@[simp] def eEnum (fa : Env → Out (List VV)) (ρ : Env) : Out (List D) := (fa ρ).bind fun xs ρ1 => match enumA xs with
  | some ds => .ok ds ρ1
  | none => .bad
section
variable {X : Cx} {Y : Yx} {a b c : Expr} {pos : Pos}
def zipD : List D → List D → List D
  | x :: xs, y :: ys => .tuple [x, y] :: zipD xs ys
  | _, _ => []
@[simp] def eZip (fa : Env → Out (List VV)) (ρ : Env) : Out (List D) := (fa ρ).bind fun xs ρ1 => match xs with
  | [.val (.list xs), .val (.list ys)] => .ok (zipD xs ys) ρ1
  | [.val (.tuple xs), .val (.tuple ys)] => .ok (zipD xs ys) ρ1
  | _ => .bad
end
end DL
namespace HT
open PySem PySem.Spec PyProof.Rows
end HT
namespace DL
open PySem PySem.Spec L2 PyProof.Rows
@[simp] def dRev : D → Option D
  | .list xs => some (.list xs.reverse)
  | .tuple xs => some (.tuple xs.reverse)
  | _ => none
@[simp] def eRev (f : EC) (ρ : Env) : Out VV := (f ρ).bind fun x ρ1 => match deref ρ1 x with
  | some d => match dRev d with
    | some d' => .ok (.val d') ρ1
    | none => .bad
  | none => .bad
theorem PE.or {X : Cx} {e : Expr} {t t' : TE} (h : PE X e t) (h' : PE X e t') : PE X e (fun σ H Q => t σ H Q ∨ t' σ H Q) := ⟨fun pins s σ H Q I hw => by
  rcases hw with hw | hw
  · exact h.run pins s σ H Q I hw
  · exact h'.run pins s σ H Q I hw⟩
end DL
namespace DL
open PySem PySem.Spec L2 PyProof.Rows
section
variable {X : Cx} {Y : Yx} {a b c e : Expr} {pos : Pos}
end
theorem ER.setF {K : Fg} {G : Gd} {J H J' H' : Hp} {σ : L2.St} {ρ : Env} {i : Nat} {a : Addr} {r : List Addr} {o : Own} (e : ER K G J H σ ρ) (g : Grow J H J' H') (ho : OwnAt K J' H' o (a :: r)) (hf : ∀ b ∈ a :: r, J' b = none ∧ H b = none) (hl : loose ρ i = true) :
    ER K G J' H' (σ.set i (some (.ref a))) (ρ.set i (.own false o)) := by
  have e1 := e.grow g
  obtain ⟨fs0, h0, ap0, q0⟩ := e.ft
  have fresh : ∀ f ∈ fs0, ∀ b ∈ a :: r, b ∉ f := fun f hf' b hb hm => by
    obtain ⟨u, hu⟩ := h0.known f hf' b hm
    rw [(hf b hb).2] at hu
    cases hu
  have h1 : SlsOk K J' H' σ ρ fs0 := h0.keep g.j fun f hf a ha w hw => (g.old a w hw).1
  refine ⟨g.jh, e1.j0, e1.keep, e.pn, ⟨fs0.set i (a :: r), SlsOk.set (.own ho) i h1, ap0.set i fun j f hj ef b hb => fresh f (List.mem_of_getElem? ef) b hb, fun f hf' b hb => ?_⟩, fun j b hj => ?_, e1.lkSet (by intro o h; cases h)⟩
  · rcases mem_set_of hf' with rfl | hf'
    · refine ⟨(hf b hb).1, fun hP => ?_⟩
      obtain ⟨u, hu⟩ := e.pn _ hP
      rw [← (e.keep _ hP).1, (hf b hb).2] at hu
      cases hu
    · obtain ⟨u, hu⟩ := h0.known f hf' b hb
      exact ⟨(g.old b u hu).2.trans (q0 f hf' b hb).1, (q0 f hf' b hb).2⟩
  · have ne := e.fx_ne hl hj
    rw [List.getElem?_set_ne ne.symm, List.getElem?_set_ne ne.symm]
    exact e.fx j b hj
@[simp] def sCallN (i n : Nat) (m : List D → FO) (fa : Env → Out (List VV)) (ρ : Env) : SO := (fa ρ).then fun xs ρ1 => match vals xs with
  | some ds => if ds.length = n then (match m ds with
    | .own o => if loose ρ1 i = true then .nx (ρ1.set i (.own false o)) else .bad
    | .exc e => .exc e ρ1
    | _ => .bad) else .bad
  | none => .bad
section
variable {X : Cx} {Y : Yx} {a b c e : Expr} {pos : Pos}
theorem ds_callN (i : Nat) {y : Str} {py : Pos} {spos : Pos} {m : List D → FO} {n k : Nat} {f : Addr} {fd : FuncData} {ps : List Str} {x : Str} {es : List Expr} {fa : Env → Out (List VV)} {p : Pos} (F : FnOk X.prog X.w X.G X.mg X.base (L2.CX X.prog X.w) k f fd ps (spP X.G Y.ct n m)) (hr : Room k X.A) (hm : X.mg x = some (.ref f))
    (hk : PySem.W.keepIn X.G (.ref f) = true) (hb : Binds X.G fd ps []) (tk : Takes' X Y) (ha : DA X Y (e :: es) fa) (hN : X.N.Nodup) (hg : Gl X x := by rfl) (hdb : (x == ("__debug__" : Str)) = false := by decide)
    (he : starEach (e :: es) X.env = (false, eval e X.env) :: starEach es X.env := by rfl) (hpl : (backTo pos (starEach es X.env)).any (·.1) = false := by rfl)
    (hi : X.N[i]? = some y := by rfl) (hx : Loc X.env.scope y := by first | exact Or.inl rfl | exact Or.inr rfl)
    (hf : X.fn y = true ∨ X.env.scope.names.lookup y = some .local := by first | exact .inl rfl | exact .inr rfl | assumption) (hs : swapsWithSole [.Name y py] (.Call (.Name x p) (e :: es) [] pos) spos.line X.env = pure false := by rfl) (hw : swappedStores [.Name y py] (.Call (.Name x p) (e :: es) [] pos) X.env = pure none := by rfl)
    (h1 : (assignEach [.Name y py] X.env).map (·.2) = [assign (.Name y py) X.env] := by rfl) : DS X Y (.Assign [.Name y py] (.Call (.Name x p) (e :: es) [] pos) spos) (sCallN i n m fa) := by
  refine PS.imp (ps_asg (pe_callS F hr hg hm hk hb tk ha hdb he hpl) (pg_name hN hi hx hf) hs hw h1) fun D σ H ⟨G, J, ρ, er, h⟩ => ⟨G, J, ρ, er, Post.then h fun xs ρ1 vs J1 H1 s1 r1 e1 h1 => ?_⟩
  split at h1
  · rename_i ds hds
    split at h1
    · rename_i hl
      refine ⟨J1, ds, e1.ex, vals_ok r1 hds, hl, ?_⟩
      cases hm : m ds with
      | ret d =>
        rw [hm] at h1
        exact h1.elim
      | own o =>
        rw [hm] at h1
        intro a r J' H' gr ho hb
        dsimp only at h1
        split at h1
        · rename_i hlo
          exact h1 _ J' H' gr.j (e1.setF gr ho hb hlo)
        · exact h1.elim
      | exc ev =>
        rw [hm] at h1
        exact fun c dx J' H' gr r => h1 c dx _ J' H' gr.j (r.ct rfl) (e1.grow gr)
      | bad =>
        rw [hm] at h1
        exact h1.elim
    · exact h1.elim
  · exact h1.elim
end
section
variable {P : Program} {K : Fg} {mg : Str → Option Value} {base : Heap}
end
end DL
namespace DL
open PySem PySem.Spec L2 PyProof.Rows
def spI2 (K : Fg) (C : Addr) (f g : Str) : Sp := fun vs H Q _ => ∃ a v u, vs = [.ref a, v, u] ∧ H a = some (exo a C none) ∧ ∀ d, H d = none → d ≠ a → Q .non (upd (upd (upd H d (exd d [(f, v)])) a (exo a C (some d))) d (exd d [(g, u), (f, v)]))
section
variable {P : Program} {K : Fg} {mg : Str → Option Value} {base : Heap}
theorem fn_i2 {qual : Str} {st : Stmt} {F C : Addr} {fd : FuncData} {f g x y : Str} {p0 p1 p2 p3 q0 q1 q2 q3 : Pos} (T : OexC K C) (hf : PySem.W.findIn K (.ref C) f = some none) (hg : PySem.W.findIn K (.ref C) g = some none) (FF : Fun K "__init__" qual st F fd) (S : FnScope ["self", x, y] ["self", x, y] (defScope st))
    (hb : defBody st = [.Assign [.Attribute (.Name "self" p0) f p1] (.Name x p2) p3, .Assign [.Attribute (.Name "self" q0) g q1] (.Name y q2) q3]) (hx : (defScope st).names.lookup x = some .local) (hy : (defScope st).names.lookup y = some .local) (hs : (defScope st).names.lookup ("self" : Str) = some .local)
    (hd : (x == ("__debug__" : Str)) = false := by decide) (hcd : (x == ("__classdict__" : Str)) = false := by decide) (hd' : (y == ("__debug__" : Str)) = false := by decide) (hcd' : (y == ("__classdict__" : Str)) = false := by decide)
    (hsw : ∀ env : PySem.Env, swapsWith (.Name x p2) (some (.Attribute (.Name "self" p0) f p1)) p3.line env = pure false := by intro _; rfl) (hsw' : ∀ env : PySem.Env, swapsWith (.Name y q2) (some (.Attribute (.Name "self" q0) g q1)) q3.line env = pure false := by intro _; rfl) :
    FnOk P K.w K mg base (L2.CX P K.w) 1 F fd ["self", x, y] (spI2 K C f g) := by
  refine FF.okX S (fun vs H Q E ⟨a, v, u, e, _⟩ => by rw [e] <;> rfl) (fun cdv A outer s H vs Q E hr ⟨a, v, u, e, ha, h⟩ => ?_)
  subst e
  rw [hb]
  refine ⟨_, pss_cons (ps_ost (pe_var (i := 0) rfl (Or.inl (by exact hs)) (by decide) (by decide)) (pe_var (i := 1) rfl (Or.inl (by exact hx)) hd hcd) (hsw _))
    (pss_one (ps_ost (pe_var (i := 0) rfl (Or.inl (by exact hs)) (by decide) (by decide)) (pe_var (i := 2) rfl (Or.inl (by exact hy)) hd' hcd') (hsw' _))), ?_⟩
  exact ⟨_, rfl, _, rfl, a, C, rfl, T, hf, .inl ⟨ha, fun d hd hne => ⟨_, rfl, _, rfl, a, C, rfl, T, hg, .inr ⟨d, [(f, v)], upd_same, by rw [upd_ne hne, upd_same], (show 1 ≤ 900 by decide), h d hd hne⟩⟩⟩⟩
end
structure ExI (K : Fg) (mg : Str → Option Value) (x : Str) (C fI : Addr) (fd : FuncData) (ps : List Str) : Prop where
  o : OexC K C
  g : mg x = some (.ref C)
  i : PySem.W.findIn K (.ref C) "__init__" = some (some (.ref fI))
  t : PySem.W.typeIn K (.ref fI) = some (.type "function")
  b : Binds K fd ps []
@[simp] def sRaiseI (x : String) (fs : List Str) (fa : Env → Out (List VV)) (ρ : Env) : SO := (fa ρ).then fun xs ρ1 => match vals xs with
  | some ds => if ds.length = fs.length then .exc ⟨x, (fs.zip ds).reverse⟩ ρ1 else .bad
  | none => .bad
section
variable {X : Cx} {Y : Yx} {a b c e : Expr} {pos : Pos} {es : List Expr}
theorem rps_1 {K : Fg} {J : Hp} {vs : List V} {ds : List D} (r : RpAll K J vs ds) (h : ds.length = 1) : ∃ v d, vs = [v] ∧ ds = [d] ∧ Rp K J v d := by
  cases r with
  | nil => cases h
  | cons r1 t =>
    cases t with
    | nil => exact ⟨_, _, rfl, rfl, r1⟩
    | cons _ _ => simp at h
theorem rps_2 {K : Fg} {J : Hp} {vs : List V} {ds : List D} (r : RpAll K J vs ds) (h : ds.length = 2) : ∃ v u d e, vs = [v, u] ∧ ds = [d, e] ∧ Rp K J v d ∧ Rp K J u e := by
  cases r with
  | nil => cases h
  | cons r1 t =>
    obtain ⟨u, e, rfl, rfl, r2⟩ := rps_1 t (by simpa using h)
    exact ⟨_, _, _, _, rfl, rfl, r1, r2⟩
theorem ds_raise2 {C fI : Addr} {x : String} {f g : Str} {p rpos : Pos} {fd : FuncData} {ps : List Str} {k : Nat} {fa : Env → Out (List VV)} (T : ExI X.G X.mg (x : Str) C fI fd ps) (F : FnOk X.prog X.w X.G X.mg X.base (L2.CX X.prog X.w) k fI fd ps (spI2 X.G C f g)) (hr : Room (k + 1) X.A) (hct : Y.ct x = some (.ref C)) (hc : X.calm = true) (tk : Takes X Y.W) (ha : DA X Y (e :: es) fa)
    (hg : Gl X (x : Str) := by rfl) (hdb : ((x : Str) == ("__debug__" : Str)) = false := by decide) (he : starEach (e :: es) X.env = (false, eval e X.env) :: starEach es X.env := by rfl) (hpl : (backTo pos (starEach es X.env)).any (·.1) = false := by rfl) :
    DS X Y (.Raise (some (.Call (.Name (x : Str) p) (e :: es) [] pos)) none rpos) (sRaiseI x [f, g] fa) := by
  refine PS.imp (ps_raise hc tk (pmk_oex T.o T.i T.t F hr T.b .nil passL hg T.g ha hdb he hpl)) fun D σ H ⟨G, J, ρ, er, h⟩ => ⟨G, J, ρ, er, Post.then h fun xs ρ1 vs J1 H1 s1 r1 e1 h1 => ?_⟩
  split at h1
  · rename_i ds hds
    split at h1
    · rename_i hl
      obtain ⟨v, u, d, d2, rfl, rfl, rv, ru⟩ := rps_2 (vals_ok r1 hds) hl
      refine ⟨(show 2 ≤ 1000 by decide), fun q hq => ⟨q, v, u, rfl, upd_same, fun dd hdd hne => ⟨rfl, dd, [(g, u), (f, v)], ?_, upd_same, ?_, ?_⟩⟩⟩
      · rw [upd_ne (Ne.symm hne), upd_same]
      · rw [upd_ne hne] at hdd
        exact hdd
      · have hd1 : H1 dd = none := by
          rw [upd_ne hne] at hdd
          exact hdd
        have eH : upd (del (upd (upd (upd (upd H1 q (exo q C none)) dd (exd dd [(f, v)])) q (exo q C (some dd))) dd (exd dd [(g, u), (f, v)])) q) dd (.xd [(g, u), (f, v)]) = upd H1 dd (.xd [(g, u), (f, v)]) := by
          funext b
          by_cases h1 : b = dd
          · subst h1
            rw [upd_same, upd_same]
          · rw [upd_ne h1, upd_ne h1]
            by_cases h2 : b = q
            · subst h2
              rw [del_same, hq]
            · rw [del_ne h2, upd_ne h1, upd_ne h2, upd_ne h1, upd_ne h2]
        show Y.W _ _ _ (upd (del _ q) dd (.xd [(g, u), (f, v)]))
        rw [eH]
        have gr := Grow.side (o := .xd [(g, u), (f, v)]) e1.ex hd1
        exact h1 _ _ σ J1 _ (.refl _) ⟨hct, .inr ⟨dd, _, rfl, same_free e1.ex hd1, upd_same, rfl, ru, rfl, rv, trivial⟩⟩ (e1.grow gr)
    · exact h1.elim
  · exact h1.elim
end
end DL
namespace L2
open PySem PySem.Spec PyProof.Rows
abbrev MixC := Value × Option Nat × (Addr → Value → Option Addr → TS)
def wMix (K : PySem.W.Frag) (Wout : WX) (D : Ends) : List MixC → WX
  | [] => Wout
  | (c, none, ts) :: r => fun cls d σ H => ∃ b, PySem.W.exmOne K cls c = some b ∧ (b = true → ∀ a, H a = none → ts a cls d D σ H) ∧ (b = false → wMix K Wout D r cls d σ H)
  | (c, some i, ts) :: r => fun cls d σ H => ∃ b, PySem.W.exmOne K cls c = some b ∧
      (b = true → ∀ a, H a = none → ts a cls d { nx := fun σ' H' => D.nx (σ'.set i none) H', rt := D.rt, bk := fun σ' H' => D.bk (σ'.set i none) H', ct := fun σ' H' => D.ct (σ'.set i none) H' } (σ.set i (some (.ref a))) H) ∧
      (b = false → wMix K Wout D r cls d σ H)
inductive HdsMix (X : Cx) : List ExceptHandler → List MixC → Prop
  | nil : HdsMix X [] []
  | cons {x : Str} {c : Value} {ts : Addr → Value → Option Addr → TS} {b₀ : Stmt} {suite : List Stmt} {np pos' : Pos} {hds : List ExceptHandler} {l : List MixC} (hc : Names X x c)
      (hsu : ∀ (a : Addr) (oe : Obj) (cls : Value) (d : Option Addr) (pn : List (Addr × Obj)), Zc cls d oe → (∃ vs, oe.data = .fields vs) → PSs (X.suite a ((a, oe) :: pn)) (b₀ :: suite) (ts a cls d)) (r : HdsMix X hds l) :
      HdsMix X (.ExceptHandler (some (.Name x np)) none (b₀ :: suite) pos' :: hds) ((c, none, ts) :: l)
  | named {x n : Str} {i : Nat} {c : Value} {ts : Addr → Value → Option Addr → TS} {b₀ : Stmt} {suite : List Stmt} {np pos' : Pos} {hds : List ExceptHandler} {l : List MixC} (hi : X.N[i]? = some n) (hln : X.env.kindOf n = some .local) (hc : Names X x c)
      (hsu : ∀ (a : Addr) (oe : Obj) (cls : Value) (d : Option Addr) (pn : List (Addr × Obj)), Zc cls d oe → (∃ vs, oe.data = .fields vs) → PSs (X.suite a ((a, oe) :: pn)) (b₀ :: suite) (ts a cls d)) (r : HdsMix X hds l) :
      HdsMix X (.ExceptHandler (some (.Name x np)) (some n) (b₀ :: suite) pos' :: hds) ((c, some i, ts) :: l)
section
variable {X : Cx} {body : List Stmt} {h₀ : ExceptHandler} {hds : List ExceptHandler} {l : List MixC} {pos : Pos} {tb : WX → TS} {Wout : WX}
theorem ps_try_mix (hs : X.stack = X.env :: X.outer) (hf : X.env.frame = some X.env.locals) (hN : X.N.Nodup) (tk : Takes X Wout)
    (hb : ∀ (W : WX) (pn : List (Addr × Obj)) (xe : Value → Shared → Prop), Takes (X.tr pn xe) W → PassesOwn (model X.prog X.w) X.A X.env xe → PSs (X.tr pn xe) body (tb W))
    (hh : HdsMix X (h₀ :: hds) l) : PS X (.Try body (h₀ :: hds) [] [] pos) (fun D σ H => tb (wMix X.G Wout D l) D σ H) := by
  refine ⟨fun pins s σ H D I h => ?_⟩
  have ok := I.ok
  have hfr : X.A.frames = some (X.env :: X.outer) := by rw [ok.frames, hs]
  refine wpAny_Try_except ?_
  refine wpAny_mono ((hb (wMix X.G Wout D l) (X.pn ++ pins) (fun e s₁ => wpAny (model X.prog X.w) X.A (noteFrame e X.env) (fun _ s₂ => wpAny (model X.prog X.w) X.A (setFlight e none) (fun _ s₃ =>
    wpAny (model X.prog X.w) X.A (handleBy e X.env (h₀ :: hds)) (SP X pins D) X.xe s₃) X.xe s₂) X.xe s₁) (fun u s' xx => ?_) PassesOwn.looking).run [] s σ H D (I.toTry _) h) (fun f s1 hsp => ?_) (fun e s1 he => he)
  · -- the catch
    obtain ⟨a, B, sI, pins', σ', H', cls, d, rfl, J', nb, up, sky, na, os, ag, w⟩ := xx
    have J : Inv X pins σ' H' sI := J'.ofTry ok
    have sky' : Sky B (X.env :: X.outer) a (Zc cls d) X.env.locals s'.heap := by rw [← hs]; exact sky
    show wpAny (model X.prog X.w) X.A (noteFrame (.ref a) X.env) _ _ _
    refine Sky.land Zc.steady hfr hf sky' fun h3 fl3 up3 => ?_
    have J3 : Inv X pins σ' H' { s' with heap := h3 } := J.landed nb fl3.1 (up.trans up3) os ag
    obtain ⟨oe3, vs3, he3, hz3, hd3⟩ := fl3.there
    have notFr : ∀ {h : Heap} {o : Obj} {vs : Array Value}, h.FunFrames B (X.env :: X.outer) → h.get? a = some o → o.data = .fields vs → a ∉ frs (X.env :: X.outer) := fun {h o vs} ff e dd hm => by
      obtain ⟨_, o', e', hnf⟩ := ff.mem hm
      rw [e] at e'; cases e'
      exact hnf _ dd
    have nfr := notFr fl3.2.2.1 he3 hd3
    have nL : a ≠ X.env.locals := fun z => nfr (List.mem_filterMap.mpr ⟨X.env, List.mem_cons_self, by rw [hf, z]⟩)
    have nF : a ∉ X.fs := fun hm => by
      obtain ⟨e, he, q⟩ := List.mem_filterMap.mp hm
      exact nfr (List.mem_filterMap.mpr ⟨e, List.mem_cons_of_mem _ he, q⟩)
    have S3 := J3.suite he3 hd3 na nL nF
    have LT : PySem.W.Looks (model X.prog X.w) h3 (typeOf (.ref a)) cls := fun A Q E s k q => wpAny_typeOf_ref (k _ _ he3) (by rw [hz3.1]; exact q)
    have testOf : ∀ {x : Str} {c : Value} {np : Pos} {Q : Value → Shared → Prop} {E : Value → Shared → Prop}, Names X x c → Q c { s' with heap := h3 } → wpAny (model X.prog X.w) (X.A.mark (some (.ref a))) (eval (.Name x np) X.env) Q E { s' with heap := h3 } := fun {x c np Q E} hc q => by
      obtain ⟨hg, hdbg, hm | ⟨hm, hv, hnn⟩⟩ := hc
      · exact ld_glob (X := X.suite a ((a, oe3) :: (X.pn ++ pins))) S3 hg hm q hdbg
      · exact ld_blt (X := X.suite a ((a, oe3) :: (X.pn ++ pins))) S3 hg hm hv q hnn hdbg
    have go : ∀ {hds' : List ExceptHandler} {l' : List MixC}, HdsMix X hds' l' → wMix X.G Wout D l' cls d σ' H' →
        wpAny (model X.prog X.w) X.A (handleBy (.ref a) X.env hds') (SP X pins D) X.xe { s' with heap := h3 } := by
      intro hds' l' hk
      induction hk with
      | nil =>
        intro w
        refine wpAny_handleBy_nil ?_
        obtain ⟨k1, k2, k3, oe, vs, T, oT, ts', he, hz, hd, h1, hr⟩ := id fl3
        unfold PySem.passOn
        refine wpAny_bind (wpAny_field he hd h1 ?_)
        rw [if_neg (show ¬ ((Value.ref T == Value.none) = true) from by simp)]
        have fin : wpAny (model X.prog X.w) X.A (setFlight (.ref a) X.env.frame) (fun _ s4 => wpAny (model X.prog X.w) X.A (throw (.ref a) : Sem Flow) (SP X pins D) X.xe s4) X.xe { s' with heap := h3 } := by
          rw [hf]
          refine HandSPX.setFlight_upZ fl3 fun h4 hh4 up4 => wpAny_throw (tk _ _ ?_)
          exact ⟨a, B, sI, pins, σ', H', cls, d, rfl, J, nb, (up.trans up3).trans up4, .inr (.inr (by rw [hs]; exact hh4)), na, os, ag, w⟩
        first
          | exact wpAny_bind (wpAny_pure (wpAny_bind fin))
          | exact wpAny_bind fin
      | @cons x c ts b₀ suite np pos' hds2 l2 hc hsu r ih =>
        intro w
        obtain ⟨b, hb1, hyes, hno⟩ := w
        refine wpAny_handleBy_cons (codeAny_handlers_test ?_) (by intro q; cases q)
        have LM := PySem.W.exm_one (M := model X.prog X.w) (J3.kIn) LT hb1
        refine testOf hc (LM.here ?_)
        cases b with
        | true =>
          refine codeAny_handlers_suite ?_
          refine HandSPX.lands_againZ fl3 fun h4 fl4 up4 => ?_
          have J4 : Inv X pins σ' H' { s' with heap := h4 } := J.landed nb fl4.1 ((up.trans up3).trans up4) os ag
          obtain ⟨oe4, vs4, he4, hz4, hd4⟩ := fl4.there
          have S4 := J4.suite he4 hd4 na nL nF
          refine wpAny_mono ((hsu a oe4 cls d (X.pn ++ pins) hz4 ⟨_, hd4⟩).run [] _ _ H' _ S4 (hyes rfl a na)) (fun f s6 hsp => ?_) (fun _ _ z => False.elim z)
          cases f with
          | next =>
            obtain ⟨σ6, H6, S6, q6⟩ := hsp
            exact ⟨_, _, S6.unsuite ok, q6⟩
          | brk =>
            obtain ⟨σ6, H6, S6, q6⟩ := hsp
            exact ⟨_, _, S6.unsuite ok, q6⟩
          | cont =>
            obtain ⟨σ6, H6, S6, q6⟩ := hsp
            exact ⟨_, _, S6.unsuite ok, q6⟩
          | ret u =>
            obtain ⟨v6, σ6, H6, S6, r6, q6⟩ := hsp
            exact ⟨_, _, _, S6.unsuite ok, r6, q6⟩
        | false =>
          show wpAny _ X.A (handleBy (.ref a) X.env hds2) _ _ _
          exact ih (hno rfl)
      | @named x n i c ts b₀ suite np pos' hds2 l2 hi hln hc hsu r ih =>
        intro w
        have hloc : Loc X.env.scope n := .inl hln
        obtain ⟨b, hb1, hyes, hno⟩ := w
        refine wpAny_handleBy_cons (codeAny_handlers_test ?_) (by intro q; cases q)
        have LM := PySem.W.exm_one (M := model X.prog X.w) (J3.kIn) LT hb1
        refine testOf hc (LM.here ?_)
        cases b with
        | true =>
          refine codeAny_handlers_suite_as ?_
          refine HandSPX.lands_againZ fl3 fun h4 fl4 up4 => ?_
          have J4 : Inv X pins σ' H' { s' with heap := h4 } := J.landed nb fl4.1 ((up.trans up3).trans up4) os ag
          obtain ⟨oe4, vs4, he4, hz4, hd4⟩ := fl4.there
          have S4 := J4.suite he4 hd4 na nL nF
          refine store_ok (X := X.suite a ((a, oe4) :: (X.pn ++ pins))) (v := .ref a) S4 hN hi hloc rfl (fun s5 S5 => ?_) (.inr hln)
          refine wpAny_mono ((hsu a oe4 cls d (X.pn ++ pins) hz4 ⟨_, hd4⟩).run [] s5 _ H' _ S5 (hyes rfl a na)) (fun f s6 hsp => ?_) (fun _ _ z => False.elim z)
          have end_ : ∀ {σ6 : St} {H6 : Hp} {Q : Shared → Prop}, Inv (X.suite a ((a, oe4) :: (X.pn ++ pins))) [] σ6 H6 s6 → (∀ s7, Inv X pins (σ6.set i none) H6 s7 → Q s7) →
              wpAny (model X.prog X.w) X.A (do bindName X.env n .none; unbindBehindTheSuite X.env n pos') (fun _ s7 => Q s7) X.xe s6 := fun {σ6 H6 Q} S6 hq => gone_ok (S6.unsuite ok) hN hi hln hq
          cases f with
          | next =>
            obtain ⟨σ6, H6, S6, q6⟩ := hsp
            exact end_ S6 fun s7 J7 => ⟨_, _, J7, q6⟩
          | brk =>
            obtain ⟨σ6, H6, S6, q6⟩ := hsp
            exact end_ S6 fun s7 J7 => ⟨_, _, J7, q6⟩
          | cont =>
            obtain ⟨σ6, H6, S6, q6⟩ := hsp
            exact end_ S6 fun s7 J7 => ⟨_, _, J7, q6⟩
          | ret u =>
            obtain ⟨v6, σ6, H6, S6, r6, q6⟩ := hsp
            exact end_ S6 fun s7 J7 => ⟨_, _, _, J7, r6, q6⟩
        | false =>
          show wpAny _ X.A (handleBy (.ref a) X.env hds2) _ _ _
          exact ih (hno rfl)
    exact go hh w
  · cases f with
    | next =>
      obtain ⟨σ', H', J', q⟩ := hsp
      exact wpAny_execs_nil ⟨σ', H', J'.ofTry ok, q⟩
    | brk =>
      obtain ⟨σ', H', J', q⟩ := hsp
      exact ⟨σ', H', J'.ofTry ok, q⟩
    | cont =>
      obtain ⟨σ', H', J', q⟩ := hsp
      exact ⟨σ', H', J'.ofTry ok, q⟩
    | ret u =>
      obtain ⟨v, σ', H', J', r, q⟩ := hsp
      exact ⟨v, σ', H', J'.ofTry ok, r, q⟩
end
end L2
namespace DL
open PySem PySem.Spec L2 PyProof.Rows
def FldAt (K : Fg) (J H : Hp) (d : Option Addr) (ev : EV) : Prop := ev.fs = [] ∨ ∃ dd vs, d = some dd ∧ J dd = none ∧ H dd = some (.xd vs) ∧ FsOk K J vs ev.fs
theorem FsOk.mono {K : Fg} {J J' : Hp} (s : Same J J') : ∀ {vs : List (Str × V)} {fs : List (Str × D)}, FsOk K J vs fs → FsOk K J' vs fs
  | [], [], _ => trivial
  | (_, _) :: _, (_, _) :: _, h => ⟨h.1, dp_mono s _ _ h.2.1, FsOk.mono s h.2.2⟩
  | [], _ :: _, h => h.elim
  | _ :: _, [], h => h.elim
theorem FsOk.get {K : Fg} {J : Hp} {f : Str} : ∀ {vs : List (Str × V)} {fs : List (Str × D)} {x : D}, FsOk K J vs fs → fs.lookup f = some x → ∃ v, vs.lookup f = some v ∧ Rp K J v x
  | [], [], _, _, h => by cases h
  | (g, v) :: vs, (g', y) :: fs, x, h, e => by
    obtain ⟨e1, r, t⟩ := h
    subst e1
    have lp : ((g, y) :: fs).lookup f = if f = g then some y else fs.lookup f := by
      by_cases h : f = g
      · subst h
        simp [List.lookup]
      · have e : (f == g) = false := by simpa using h
        rw [if_neg h]
        simp [List.lookup, e]
    rw [lp] at e
    rw [lookup_put]
    by_cases hg : f = g
    · rw [if_pos hg] at e ⊢
      cases e
      exact ⟨v, rfl, r⟩
    · rw [if_neg hg] at e ⊢
      exact t.get e
  | [], _ :: _, _, h, _ => h.elim
  | _ :: _, [], _, h, _ => h.elim
theorem FldAt.grow {K : Fg} {J H J' H' : Hp} {d : Option Addr} {ev : EV} (h : FldAt K J H d ev) (g : Grow J H J' H') : FldAt K J' H' d ev := by
  rcases h with h | ⟨dd, vs, e, j, a, o⟩
  · exact .inl h
  · exact .inr ⟨dd, vs, e, (g.old dd _ a).2.trans j, (g.old dd _ a).1, o.mono g.j⟩
def tX (K : Fg) (ct : String → Option Value) (i : Nat) (a : Addr) (cls : Value) (d : Option Addr) (ev : EV) (r : Option D) : TE := fun σ H Q => ∃ J, Same J H ∧ σ[i]? = some (some (.ref a)) ∧ ct ev.cls = some cls ∧ FldAt K J H d ev ∧ (match r with
  | some x => ∀ v J' H', Grow J H J' H' → Rp K J' v x → Q v H'
  | none => False)
abbrev DX (X : Cx) (Y : Yx) (i : Nat) (e : Expr) (g : EV → Option D) : Prop := ∀ (a : Addr) (oe : Obj) (cls : Value) (d : Option Addr) (pn : List (Addr × Obj)), Zc cls d oe → (∃ vs, oe.data = .fields vs) → ∀ ev, PE (X.suite a ((a, oe) :: pn)) e (tX X.G Y.ct i a cls d ev (g ev))
section
variable {X : Cx} {Y : Yx} {e e1 e2 : Expr} {pos : Pos} {i : Nat}
@[simp] def xFld (x : String) (f : Str) : EV → Option D := fun ev => if ev.cls = x then ev.fs.lookup f else none
theorem dx_fld {x : String} {C : Addr} {n f : Str} {p : Pos} (T : XfC X.G C) (hct : Y.ct x = some (.ref C)) (hno : PySem.W.findIn X.G (.ref C) f = some none) (hN : X.N[i]? = some n := by rfl) (hv : Vis X.env.scope n := by first | exact Or.inl rfl | exact Or.inr (Or.inl rfl) | exact Or.inr (Or.inr rfl))
    (hd : (n == ("__debug__" : Str)) = false := by decide) (hcd : (n == ("__classdict__" : Str)) = false := by decide) (hb : attributeBase (.Name n p) f X.env (eval (.Name n p) X.env) = eval (.Name n p) X.env := by rfl) : DX X Y i (.Attribute (.Name n p) f pos) (xFld x f) := by
  intro a oe cls d pn hz hf ev
  refine PE.imp (pe_xf (X := X) T hno hz hf (pe_var (X := X.suite a ((a, oe) :: pn)) (i := i) hN hv hd hcd) hb) fun σ H Q ⟨J, s, h1, h2, h3, h⟩ => ?_
  unfold xFld at h
  by_cases hx : ev.cls = x
  · rw [if_pos hx] at h
    cases hl : ev.fs.lookup f with
    | none =>
      rw [hl] at h
      exact h.elim
    | some y =>
      rw [hl] at h
      rw [hx, hct] at h2
      rcases h3 with h3 | ⟨dd, vs, ed, jd, hd, o⟩
      · rw [h3] at hl
        cases hl
      · obtain ⟨v, lv, rv⟩ := o.get hl
        exact ⟨_, h1, rfl, (Option.some.inj h2).symm, dd, vs, v, ed, hd, lv, h v J H (.refl s) rv⟩
  · rw [if_neg hx] at h
    exact h.elim
@[simp] def xBin (g : D → D → Option D) (g1 g2 : EV → Option D) : EV → Option D := fun ev => match g1 ev, g2 ev with
  | some x, some y => g x y
  | _, _ => none
@[simp] def dPair : D → D → Option D := fun x y => some (.tuple [x, y])
@[simp] def xCall (g : List D → Option D) (g1 : EV → Option D) : EV → Option D := fun ev => match g1 ev with
  | some x => g [x]
  | none => none
end
inductive Cl where
  | plain (x : String) (cs : SC)
  | named (x : String) (i : Nat) (g : EV → Option D)
@[simp] def tryC (sub : String → String → Bool) (ev : EV) (ρ : Env) : List Cl → SO
  | [] => .exc ev ρ
  | .plain x cs :: r => if sub ev.cls x = true then noExc (cs ρ) else tryC sub ev ρ r
  | .named x i g :: r => if sub ev.cls x = true then (if i < ρ.length then (match g ev with
    | some d => .rt d ρ
    | none => .bad) else .bad) else tryC sub ev ρ r
@[simp] def sTryM (sub : String → String → Bool) (cb : SC) (cls : List Cl) (ρ : Env) : SO := match cb ρ with
  | .exc e ρ1 => tryC sub e ρ1 cls
  | o => o
def DHs (X : Cx) (Y : Yx) (sub : String → String → Bool) (hds : List ExceptHandler) (cls : List Cl) : Prop := ∃ l, HdsMix X hds l ∧ ∀ (D : Ends) (G : Gd) (J H : Hp) (σ : L2.St) (ρ : Env) (ev : EV) (c : Value) (dx : Option Addr), ER X.G G J H σ ρ → ExcAt Y X.G J H ev c dx →
  SPost X.G Y G J (tryC sub ev ρ cls) D → wMix X.G Y.W D l c dx σ H
section
variable {X : Cx} {Y : Yx} {e : Expr} {pos : Pos} {sub : String → String → Bool} {hds : List ExceptHandler} {cls : List Cl}
theorem dh_nil : DHs X Y sub [] [] := ⟨[], .nil, fun D G J H σ ρ ev c dx er hx h => h c dx σ J H (.refl J) hx er⟩
theorem dh_named (i : Nat) {x : String} {n : Str} {c : Value} {np pos' rpos : Pos} {g : EV → Option D} (T : SubT X.G Y.ct sub) (hct : Y.ct x = some c) (hm : X.mg (x : Str) = some c) (he : DX X Y i e g) (hr : DHs X Y sub hds cls) (hi : X.N[i]? = some n := by rfl) (hln : X.env.kindOf n = some .local := by rfl)
    (hg : Gl X (x : Str) := by rfl) (hdb : ((x : Str) == ("__debug__" : Str)) = false := by decide) : DHs X Y sub (.ExceptHandler (some (.Name (x : Str) np)) (some n) [.Return (some e) rpos] pos' :: hds) (.named x i g :: cls) := by
  obtain ⟨l, hl, hw⟩ := hr
  refine ⟨(c, some i, fun a c' d => fun D σ H => ∃ ev, tX X.G Y.ct i a c' d ev (g ev) σ H D.rt) :: l, .named hi hln ⟨hg, hdb, .inl hm⟩ (fun a oe c' d pn hz hf => ?_) hl, fun D G J H σ ρ ev c1 dx er hx h => ?_⟩
  · refine ⟨fun pins s σ H D I ⟨ev, h⟩ => ?_⟩
    exact (pss_one (ps_ret (he a oe c' d pn hz hf ev))).run pins s σ H D I h
  · have h : SPost X.G Y G J (if sub ev.cls x = true then (if i < ρ.length then (match g ev with
      | some d => .rt d ρ
      | none => .bad) else .bad) else tryC sub ev ρ cls) D := h
    refine ⟨sub ev.cls x, T.ok _ _ _ _ hx.1 hct, fun hy a _ => ?_, fun hn => ?_⟩
    · rw [if_pos hy] at h
      by_cases hlen : i < ρ.length
      case neg =>
        rw [if_neg hlen] at h
        exact h.elim
      rw [if_pos hlen] at h
      cases hge : g ev with
      | none =>
        rw [hge] at h
        exact h.elim
      | some d =>
        rw [hge] at h
        refine ⟨ev, J, er.ex, List.getElem?_set_self (by rw [er.len]; exact hlen), hx.1, ?_, ?_⟩
        · rcases hx.2 with ⟨q, _⟩ | ⟨dd, vs, q1, q2, q3, q4⟩
          · exact .inl q
          · exact .inr ⟨dd, vs, q1, q2, q3, q4⟩
        · rw [hge]
          exact fun v J' H' gr rv => h v σ J' H' gr.j rv (er.grow gr)
    · rw [if_neg (by rw [hn]; exact Bool.false_ne_true)] at h
      exact hw D G J H σ ρ ev c1 dx er hx h
theorem ds_tryM {body : List Stmt} {h₀ : ExceptHandler} {cb : SC} (hs : X.stack = X.env :: X.outer) (hf : X.env.frame = some X.env.locals) (hN : X.N.Nodup) (tk : Takes X Y.W)
    (hb : ∀ (W : WX) (pn : List (Addr × Obj)) (xe : Value → Shared → Prop), Takes (X.tr pn xe) W → PassesOwn (model X.prog X.w) X.A X.env xe → DSs (X.tr pn xe) ⟨Y.ct, W⟩ body cb)
    (hh : DHs X Y sub (h₀ :: hds) cls) : DS X Y (.Try body (h₀ :: hds) [] [] pos) (sTryM sub cb cls) := by
  obtain ⟨l, hl, hw⟩ := hh
  refine PS.imp (ps_try_mix (tb := fun W => tS X.G ⟨Y.ct, W⟩ cb) hs hf hN tk hb hl) fun D σ H ⟨G, J, ρ, er, h⟩ => ⟨G, J, ρ, er, ?_⟩
  unfold sTryM at h
  cases hc : cb ρ with
  | nx ρ1 => rw [hc] at h; exact h
  | rt d ρ1 => rw [hc] at h; exact h
  | ro o ρ1 => rw [hc] at h; exact h
  | bk ρ1 => rw [hc] at h; exact h
  | ct ρ1 => rw [hc] at h; exact h
  | bad => rw [hc] at h; exact h
  | exc ev ρ1 =>
    rw [hc] at h
    intro c1 dx σ1 J1 H1 s1 hx e1
    exact hw D G J1 H1 σ1 ρ1 ev c1 dx e1 (hx.ct rfl) (SPost.mono s1 h)
end
end DL
namespace DL
open PySem PySem.Spec L2 PyProof.Rows
@[simp] def sRetTape (fn : Env → Out (List D)) (fe : EC) (ρ : Env) : SO := match fn ρ with
  | .ok xs ρ1 => match intsD xs with
    | some ns => match fe ρ1 with
      | .ok (.val (.int sd)) ρ2 => .ro (.tape ns sd) ρ2
      | _ => .bad
    | none => .bad
  | _ => .bad
theorem rps_ints {K : Fg} {J : Hp} : ∀ {vs : List V} {xs : List D} {ns : List Int}, RpAll K J vs xs → intsD xs = some ns → vs = ns.map V.int
  | [], [], ns, r, h => by
    cases h
    rfl
  | v :: vs, .int i :: xs, ns, r, h => by
    unfold intsD at h
    split at h
    · rename_i l hl
      cases h
      cases r with
      | cons r1 r2 =>
        cases r1
        rw [rps_ints r2 hl]
        rfl
    · cases h
  | v :: vs, .none :: xs, ns, r, h => by cases h
  | v :: vs, .bool _ :: xs, ns, r, h => by cases h
  | v :: vs, .str _ :: xs, ns, r, h => by cases h
  | v :: vs, .list _ :: xs, ns, r, h => by cases h
  | v :: vs, .tuple _ :: xs, ns, r, h => by cases h
  | v :: vs, .dict _ :: xs, ns, r, h => by cases h
  | [], _ :: _, _, r, _ => by cases r
  | _ :: _, [], _, r, _ => by cases r
section
variable {X : Cx} {Y : Yx} {a b c e : Expr} {pos : Pos}
theorem ds_retTape {fn : Env → Out (List D)} {fe : EC} {lpos : Pos} (ha : DN X Y a fn) (hb : DE X Y b fe) (hs1 : starEach [a, b] X.env = (false, eval a X.env) :: starEach [b] X.env := by rfl) (hs2 : starEach [b] X.env = (false, eval b X.env) :: starEach [] X.env := by rfl) :
    DS X Y (.Return (some (.List [a, b] lpos)) pos) (sRetTape fn fe) := by
  refine PS.imp (ps_ret (pe_lst (pa_cons ha (pa_cons hb pa_nil hs2) hs1))) fun D σ H ⟨G, J, ρ, er, h⟩ => ⟨G, J, ρ, er, ?_⟩
  unfold sRetTape at h
  cases hf : fn ρ with
  | exc ev ρ1 => rw [hf] at h; exact h.elim
  | bad => rw [hf] at h; exact h.elim
  | ok xs ρ1 =>
    rw [hf] at h
    dsimp only at h
    split at h
    · rename_i ns hns
      split at h
      · rename_i sd ρ2 hfe
        intro p vs J1 H1 s1 hp r1 e1
        have hj1 : J1 p = none := same_free e1.ex hp
        obtain ⟨_, hgp⟩ := e1.np hp
        have hj0 : G.J0 p = none := same_free e1.j0 hj1
        refine ⟨_, J1, ρ1, e1.guard (o := .lst vs) hp, ?_⟩
        rw [hfe]
        intro v J2 H2 s2 rv e2
        have rv : Rp X.G J2 v (.int sd) := rv
        cases rv
        refine ⟨(show 2 ≤ sizeLine by decide), fun q hq => ?_⟩
        obtain ⟨a1, a2⟩ := e2.gAt
        have a2 : J2 p = none := a2.trans hj0
        have hpq : q ≠ p := fun z => by
          rw [z, a1] at hq
          cases hq
        have e3 := e2.off hj0 hgp
        have hcp : cutOff H2 p p = none := if_pos rfl
        have g1 := Grow.side (o := .lst vs) e3.ex hcp
        rw [cutOff_upd a1] at g1
        have e4 := e3.grow g1
        have g2 := Grow.side (o := .lst [.ref p, .int sd]) e4.ex hq
        have e5 := e4.grow g2
        refine h q [p] σ J2 _ (s1.trans s2) ⟨q, p, rfl, hpq, upd_same, ?_⟩ (fun b hb => ?_) e5
        · rw [upd_ne (Ne.symm hpq), a1, rps_ints r1 hns]
        · rcases (by simpa using hb : b = q ∨ b = p) with rfl | rfl
          · exact e4.np hq
          · exact ⟨a2, hgp⟩
      · exact h.elim
    · exact h.elim
@[simp] def isTp (ρ : Env) (i : Nat) : Option (Bool × Addr × List Int × Int) := match ρ[i]? with
  | some (.own fx (.tapB b cs sd)) => some (fx, b, cs, sd)
  | _ => none
theorem isTp_some {ρ : Env} {i : Nat} {fx : Bool} {b : Addr} {cs : List Int} {sd : Int} (h : isTp ρ i = some (fx, b, cs, sd)) : ρ[i]? = some (.own fx (.tapB b cs sd)) := by
  unfold isTp at h
  split at h
  · rename_i h1
    cases h
    exact h1
  · cases h
@[simp] def isCe (ρ : Env) (i j : Nat) : Option (Bool × Addr × List Int × Int) := match isTp ρ i, ρ[j]? with
  | some (fx, b, cs, sd), some (.rf b') => if b' = b then some (fx, b, cs, sd) else none
  | _, _ => none
theorem isCe_some {ρ : Env} {i j : Nat} {fx : Bool} {b : Addr} {cs : List Int} {sd : Int} (h : isCe ρ i j = some (fx, b, cs, sd)) : ρ[i]? = some (.own fx (.tapB b cs sd)) ∧ ρ[j]? = some (.rf b) := by
  unfold isCe at h
  split at h
  · rename_i h1 h2
    split at h
    · rename_i e
      subst e
      cases h
      exact ⟨isTp_some h1, h2⟩
    · cases h
  · cases h
theorem rf_at {K : Fg} {G : Gd} {J H : Hp} {σ : L2.St} {ρ : Env} {j : Nat} {b : Addr} (er : ER K G J H σ ρ) (hj : ρ[j]? = some (.rf b)) : σ[j]? = some (some (.ref b)) := by
  obtain ⟨fs, hs, _⟩ := er.ft
  obtain ⟨y, fo, e1, _, so⟩ := hs.get hj
  cases so
  exact e1
theorem tp_at {K : Fg} {G : Gd} {J H : Hp} {σ : L2.St} {ρ : Env} {i : Nat} {fx : Bool} {b : Addr} {cs : List Int} {sd : Int} (er : ER K G J H σ ρ) (hi : ρ[i]? = some (.own fx (.tapB b cs sd))) :
    ∃ a, σ[i]? = some (some (.ref a)) ∧ a ≠ b ∧ H a = some (.lst [.ref b, .int sd]) ∧ H b = some (.lst (cs.map V.int)) ∧ J a = none ∧ J b = none ∧ OwnAt K J H (.tapB b cs sd) [a, b] := by
  obtain ⟨a, r, e1, ho, hn⟩ := own_foot er hi
  obtain ⟨a', ef, n, h1, h2⟩ := id ho
  injection ef with x1 x2
  subst x1 x2
  exact ⟨a, e1, n, h1, h2, hn a (by simp), hn b (by simp), ho⟩
theorem tp_cells {K : Fg} {G : Gd} {J H : Hp} {σ : L2.St} {ρ : Env} {i : Nat} {fx : Bool} {b : Addr} {cs : List Int} {sd : Int} (cs' : List Int) (er : ER K G J H σ ρ) (hi : ρ[i]? = some (.own fx (.tapB b cs sd))) :
    ER K G J (upd H b (.lst (cs'.map V.int))) σ (ρ.set i (.own fx (.tapB b cs' sd))) := by
  obtain ⟨a, e1, n, h1, h2, ja, jb, ho⟩ := tp_at er hi
  refine er.callO (r' := [b]) hi e1 ho ⟨.refl _, fun x o hx => ?_, fun x o hx ho => ⟨?_, rfl⟩⟩ ⟨a, rfl, n, by rw [upd_ne n]; exact h1, upd_same⟩ fun x hx => ⟨?_, .inl hx⟩
  · have : x ≠ b := fun z => by
      rw [z, jb] at hx
      cases hx
    rw [upd_ne this]
    exact er.ex _ _ hx
  · have : x ≠ b := fun z => hx (by rw [z]; simp)
    rw [upd_ne this]
    exact ho
  · rcases (by simpa using hx : x = a ∨ x = b) with rfl | rfl
    · exact ja
    · exact jb
theorem tp_seed {K : Fg} {G : Gd} {J H : Hp} {σ : L2.St} {ρ : Env} {i : Nat} {fx : Bool} {a b : Addr} {cs : List Int} {sd : Int} (sd' : Int) (er : ER K G J H σ ρ) (hi : ρ[i]? = some (.own fx (.tapB b cs sd))) (hs : σ[i]? = some (some (.ref a))) :
    ER K G J (upd H a (.lst [.ref b, .int sd'])) σ (ρ.set i (.own fx (.tapB b cs sd'))) := by
  obtain ⟨a', e1, n, h1, h2, ja, jb, ho⟩ := tp_at er hi
  rw [hs] at e1
  cases e1
  refine er.callO (r' := [b]) hi hs ho ⟨.refl _, fun x o hx => ?_, fun x o hx ho => ⟨?_, rfl⟩⟩ ⟨a, rfl, n, upd_same, by rw [upd_ne (Ne.symm n)]; exact h2⟩ fun x hx => ⟨?_, .inl hx⟩
  · have : x ≠ a := fun z => by
      rw [z, ja] at hx
      cases hx
    rw [upd_ne this]
    exact er.ex _ _ hx
  · have : x ≠ a := fun z => hx (by rw [z]; simp)
    rw [upd_ne this]
    exact ho
  · rcases (by simpa using hx : x = a ∨ x = b) with rfl | rfl
    · exact ja
    · exact jb
@[simp] def sTpC (i j : Nat) (ρ : Env) : SO := match isTp ρ i with
  | some (_, b, _, _) => if loose ρ j = true ∧ j ≠ i then .nx (ρ.set j (.rf b)) else .bad
  | none => .bad
theorem atI_0 {x : V} {xs : List V} : atI (x :: xs) 0 = some x := by simp [atI, ixN]
theorem atI_1 {x y : V} {xs : List V} : atI (x :: y :: xs) 1 = some y := by
  simp [atI, ixN]
  rw [if_pos (by omega)]
  rfl
theorem ER.setRf {K : Fg} {G : Gd} {J H : Hp} {σ : L2.St} {ρ : Env} {j : Nat} {b : Addr} (e : ER K G J H σ ρ) (hl : loose ρ j = true) : ER K G J H (σ.set j (some (.ref b))) (ρ.set j (.rf b)) := by
  obtain ⟨fs, h, ap, q⟩ := e.ft
  refine ⟨e.ex, e.j0, e.keep, e.pn, ⟨fs.set j [], SlsOk.set (.rf b) j h, ap.nilSet j, fun f hf a ha => ?_⟩, fun k a hk => ?_, e.lkSet (by intro o h; cases h)⟩
  · rcases mem_set_of hf with rfl | hf
    · cases ha
    · exact q f hf a ha
  · have ne := e.fx_ne hl hk
    rw [List.getElem?_set_ne ne.symm, List.getElem?_set_ne ne.symm]
    exact e.fx k a hk
theorem ds_tpC (i j : Nat) {x y : Str} {p0 p1 p2 spos : Pos} {k : Nat} (hN : X.N.Nodup) (hi : X.N[i]? = some x := by rfl) (hj : X.N[j]? = some y := by rfl) (hv : Vis X.env.scope x := by first | exact Or.inl rfl | exact Or.inr (Or.inl rfl) | exact Or.inr (Or.inr rfl))
    (hd : (x == ("__debug__" : Str)) = false := by decide) (hcd : (x == ("__classdict__" : Str)) = false := by decide) (hx : Loc X.env.scope y := by first | exact Or.inl rfl | exact Or.inr rfl)
    (hf : X.fn y = true ∨ X.env.scope.names.lookup y = some .local := by first | exact .inl rfl | exact .inr rfl | assumption)
    (hs : swapsWithSole [.Name y p0] (.Subscript (.Name x p1) (.Constant (.int 0) k p2) pos) spos.line X.env = pure false := by rfl) (hw : swappedStores [.Name y p0] (.Subscript (.Name x p1) (.Constant (.int 0) k p2) pos) X.env = pure none := by rfl)
    (h1 : (assignEach [.Name y p0] X.env).map (·.2) = [assign (.Name y p0) X.env] := by rfl) (hpx : PlainIx (.Constant (.int 0) k p2) := by exact fun _ _ => rfl) :
    DS X Y (.Assign [.Name y p0] (.Subscript (.Name x p1) (.Constant (.int 0) k p2) pos) spos) (sTpC i j) := by
  refine PS.imp (ps_asg (pe_ix ix_seq (pe_var (i := i) hi hv hd hcd) pe_int hpx) (pg_name hN hj hx hf) hs hw h1) fun D σ H ⟨G, J, ρ, er, h⟩ => ?_
  unfold sTpC at h
  split at h
  · rename_i fx b cs sd ht
    split at h
    · rename_i hl
      obtain ⟨a, e1, n, k1, k2, ja, jb, ho⟩ := tp_at er (isTp_some ht)
      exact ⟨_, e1, .inl ⟨a, [.ref b, .int sd], 0, .ref b, rfl, rfl, .of k1, atI_0, h _ J H (.refl _) (er.setRf hl.1)⟩⟩
    · exact h.elim
  · exact h.elim
@[simp] def eTpLen (i j : Nat) (ρ : Env) : Out VV := match isCe ρ i j with
  | some (_, _, cs, _) => .ok (.val (.int (cs.length : Nat))) ρ
  | none => .bad
theorem de_tpLen (i j : Nat) {y : Str} {p p2 : Pos} (hm : X.mg "len" = none) (hj : X.N[j]? = some y := by rfl) (hv : Vis X.env.scope y := by first | exact Or.inl rfl | exact Or.inr (Or.inl rfl) | exact Or.inr (Or.inr rfl))
    (hd : (y == ("__debug__" : Str)) = false := by decide) (hcd : (y == ("__classdict__" : Str)) = false := by decide) (hg : Gl X "len" := by rfl)
    (he : starEach [.Name y p2] X.env = (false, eval (.Name y p2) X.env) :: starEach [] X.env := by rfl) (hpl : (backTo pos (starEach [] X.env)).any (·.1) = false := by rfl) : DE X Y (.Call (.Name "len" p) [.Name y p2] [] pos) (eTpLen i j) := by
  refine PE.imp (pe_callB call_len hg hm PySem.boot_len (pa_cons (pe_var (i := j) hj hv hd hcd) pa_nil he) (by decide) (by decide) he hpl) fun σ H Q ⟨G, J, ρ, er, h⟩ => ?_
  unfold eTpLen at h
  split at h
  · rename_i fx b cs sd ht
    obtain ⟨hi, hj2⟩ := isCe_some ht
    obtain ⟨a, e1, n, k1, k2, ja, jb, ho⟩ := tp_at er hi
    exact ⟨_, rf_at er hj2, _, (cs.map V.int).length, rfl, .inl ⟨_, .of k2, rfl⟩, by rw [List.length_map]; exact h _ J H (.refl _) (show RV X.G σ J (.int (cs.length : Nat)) (.val (.int (cs.length : Nat))) from Rp.int _) er⟩
  · exact h.elim
@[simp] def eTpAt (i j : Nat) (ρ : Env) : Out VV := match isCe ρ i j with
  | some (_, _, c :: _, _) => .ok (.val (.int c)) ρ
  | _ => .bad
theorem de_tpAt (i j : Nat) {y : Str} {p2 p3 : Pos} {k : Nat} (hj : X.N[j]? = some y := by rfl) (hv : Vis X.env.scope y := by first | exact Or.inl rfl | exact Or.inr (Or.inl rfl) | exact Or.inr (Or.inr rfl))
    (hd : (y == ("__debug__" : Str)) = false := by decide) (hcd : (y == ("__classdict__" : Str)) = false := by decide) (hpx : PlainIx (.Constant (.int 0) k p3) := by exact fun _ _ => rfl) : DE X Y (.Subscript (.Name y p2) (.Constant (.int 0) k p3) pos) (eTpAt i j) := by
  refine PE.imp (pe_ix ix_seq (pe_var (i := j) hj hv hd hcd) pe_int hpx) fun σ H Q ⟨G, J, ρ, er, h⟩ => ?_
  unfold eTpAt at h
  split at h
  · rename_i fx b c cs sd ht
    obtain ⟨hi, hj2⟩ := isCe_some ht
    obtain ⟨a, e1, n, k1, k2, ja, jb, ho⟩ := tp_at er hi
    exact ⟨_, rf_at er hj2, .inl ⟨b, _, 0, .int c, rfl, rfl, .of k2, atI_0, h _ J H (.refl _) (show RV X.G σ J (.int c) (.val (.int c)) from Rp.int c) er⟩⟩
  · exact h.elim
@[simp] def eTpSeed (i : Nat) (ρ : Env) : Out VV := match isTp ρ i with
  | some (_, _, _, sd) => .ok (.val (.int sd)) ρ
  | none => .bad
theorem de_tpSeed (i : Nat) {y : Str} {p2 p3 : Pos} {k : Nat} (hj : X.N[i]? = some y := by rfl) (hv : Vis X.env.scope y := by first | exact Or.inl rfl | exact Or.inr (Or.inl rfl) | exact Or.inr (Or.inr rfl))
    (hd : (y == ("__debug__" : Str)) = false := by decide) (hcd : (y == ("__classdict__" : Str)) = false := by decide) (hpx : PlainIx (.Constant (.int 1) k p3) := by exact fun _ _ => rfl) : DE X Y (.Subscript (.Name y p2) (.Constant (.int 1) k p3) pos) (eTpSeed i) := by
  refine PE.imp (pe_ix ix_seq (pe_var (i := i) hj hv hd hcd) pe_int hpx) fun σ H Q ⟨G, J, ρ, er, h⟩ => ?_
  unfold eTpSeed at h
  split at h
  · rename_i fx b cs sd ht
    obtain ⟨a, e1, n, k1, k2, ja, jb, ho⟩ := tp_at er (isTp_some ht)
    exact ⟨_, e1, .inl ⟨a, _, 1, .int sd, rfl, rfl, .of k1, atI_1, h _ J H (.refl _) (show RV X.G σ J (.int sd) (.val (.int sd)) from Rp.int sd) er⟩⟩
  · exact h.elim
@[simp] def sTpPop (i j : Nat) (ρ : Env) : SO := match isCe ρ i j with
  | some (fx, b, _ :: cs, sd) => .nx (ρ.set i (.own fx (.tapB b cs sd)))
  | _ => .bad
theorem ds_tpPop (i j : Nat) {x : Str} {p p2 apos cpos : Pos} {k : Nat} (hN : X.N[j]? = some x := by rfl) (hv : Vis X.env.scope x := by first | exact Or.inl rfl | exact Or.inr (Or.inl rfl) | exact Or.inr (Or.inr rfl)) (hd : (x == ("__debug__" : Str)) = false := by decide)
    (hcd : (x == ("__classdict__" : Str)) = false := by decide) (hbase : attributeBase (.Name x p) "pop" X.env (eval (.Name x p) X.env) = eval (.Name x p) X.env := by rfl)
    (hfew : ((backTo cpos (starEach [.Constant (.int 0) k p2] X.env)).all (fun x => !x.1) && (backToKw cpos (keywordEach [] X.env)).all (fun x => x.1.isSome)
      && decide (([.Constant (.int 0) k p2] : List Expr).length + ([] : List Keyword).length + (if ([] : List Keyword).isEmpty then 0 else 1) < 30)) = true := by rfl)
    (hline : (apos.endLine == cpos.line) = true := by rfl) (hs : starEach [.Constant (.int 0) k p2] X.env = (false, eval (.Constant (.int 0) k p2) X.env) :: starEach [] X.env := by rfl) (hplain : (backTo cpos (starEach [] X.env)).any (·.1) = false := by rfl)
    (hsw : swapsWith (.Call (.Attribute (.Name x p) "pop" apos) [.Constant (.int 0) k p2] [] cpos) none pos.line X.env = pure false := by rfl) :
    DS X Y (.Expr (.Call (.Attribute (.Name x p) "pop" apos) [.Constant (.int 0) k p2] [] cpos) pos) (sTpPop i j) := by
  refine PS.imp (ps_expr (pe_bm PySem.F.plainAttrs_list PySem.F.slot_list_pop PySem.F.type_list_pop mt_popAt (pe_var (i := j) hN hv hd hcd) (pa_cons pe_int pa_nil hs) hbase hfew hline hs hplain) hsw) fun D σ H ⟨G, J, ρ, er, h⟩ => ?_
  unfold sTpPop at h
  split at h
  · rename_i fx b c cs sd ht
    obtain ⟨hi, hj2⟩ := isCe_some ht
    obtain ⟨a, e1, n, k1, k2, ja, jb, ho⟩ := tp_at er hi
    refine ⟨_, rf_at er hj2, .inl ⟨rfl, _, .inl (.inl k2)⟩, b, (c :: cs).map V.int, 0, 0, .int c, rfl, rfl, k2, by decide, by decide, ?_, rfl, ?_⟩
    · simp [seqIndex?]
    · exact h _ _ _ (.refl _) (tp_cells cs er hi)
  · exact h.elim
@[simp] def sTpSet (i j : Nat) (f : EC) (ρ : Env) : SO := (f ρ).then fun y ρ1 => match y with
  | .val (.int v) => match isCe ρ1 i j with
    | some (fx, b, _ :: cs, sd) => .nx (ρ1.set i (.own fx (.tapB b (v :: cs) sd)))
    | _ => .bad
  | _ => .bad
theorem ds_tpSet (i j : Nat) {x : Str} {f : EC} {p p2 tpos : Pos} {k : Nat} (hv : DE X Y e f) (hN : X.N[j]? = some x := by rfl) (hvis : Vis X.env.scope x := by first | exact Or.inl rfl | exact Or.inr (Or.inl rfl) | exact Or.inr (Or.inr rfl)) (hd : (x == ("__debug__" : Str)) = false := by decide)
    (hcd : (x == ("__classdict__" : Str)) = false := by decide)
    (ha : ∀ v, assign (.Subscript (.Name x p) (.Constant (.int 0) k p2) tpos) X.env v = (do
      let ov ← holding [v] (eval (.Name x p) X.env)
      let iv ← holding [v, ov] (eval (.Constant (.int 0) k p2) X.env)
      standAt tpos
      holding [v, ov, iv] (setItem ov iv v)
      release [v, ov, iv] []) := by intro _; rfl) (hs : swapsWithSole [.Subscript (.Name x p) (.Constant (.int 0) k p2) tpos] e pos.line X.env = pure false := by rfl) (hw : swappedStores [.Subscript (.Name x p) (.Constant (.int 0) k p2) tpos] e X.env = pure none := by rfl)
    (h1 : (assignEach [.Subscript (.Name x p) (.Constant (.int 0) k p2) tpos] X.env).map (·.2) = [assign (.Subscript (.Name x p) (.Constant (.int 0) k p2) tpos) X.env] := by rfl) : DS X Y (.Assign [.Subscript (.Name x p) (.Constant (.int 0) k p2) tpos] e pos) (sTpSet i j f) := by
  refine PS.imp (ps_asg hv (pg_sub (pe_var (i := j) hN hvis hd hcd) pe_int set_list ha) hs hw h1) fun D σ H ⟨G, J, ρ, er, h⟩ => ⟨G, J, ρ, er, Post.then h fun y ρ1 v J1 H1 s1 r1 e1 hp => ?_⟩
  split at hp
  · rename_i n
    split at hp
    · rename_i fx b c cs sd ht
      obtain ⟨hi, hj2⟩ := isCe_some ht
      obtain ⟨a, q1, n, k1, k2, ja, jb, ho⟩ := tp_at e1 hi
      have r1 : Rp X.G J1 v (.int _) := r1
      cases r1
      exact ⟨_, rf_at e1 hj2, b, (c :: cs).map V.int, 0, 0, rfl, rfl, k2, by simp [ixN], hp _ _ _ (.refl _) (tp_cells (_ :: cs) e1 hi)⟩
    · exact hp.elim
  · exact hp.elim
@[simp] def sTpSeed (i : Nat) (f : EC) (ρ : Env) : SO := (f ρ).then fun y ρ1 => match y with
  | .val (.int v) => match isTp ρ1 i with
    | some (fx, b, cs, _) => .nx (ρ1.set i (.own fx (.tapB b cs v)))
    | _ => .bad
  | _ => .bad
theorem ds_tpSeed (i : Nat) {x : Str} {f : EC} {p p2 tpos : Pos} {k : Nat} (hv : DE X Y e f) (hN : X.N[i]? = some x := by rfl) (hvis : Vis X.env.scope x := by first | exact Or.inl rfl | exact Or.inr (Or.inl rfl) | exact Or.inr (Or.inr rfl)) (hd : (x == ("__debug__" : Str)) = false := by decide)
    (hcd : (x == ("__classdict__" : Str)) = false := by decide)
    (ha : ∀ v, assign (.Subscript (.Name x p) (.Constant (.int 1) k p2) tpos) X.env v = (do
      let ov ← holding [v] (eval (.Name x p) X.env)
      let iv ← holding [v, ov] (eval (.Constant (.int 1) k p2) X.env)
      standAt tpos
      holding [v, ov, iv] (setItem ov iv v)
      release [v, ov, iv] []) := by intro _; rfl) (hs : swapsWithSole [.Subscript (.Name x p) (.Constant (.int 1) k p2) tpos] e pos.line X.env = pure false := by rfl) (hw : swappedStores [.Subscript (.Name x p) (.Constant (.int 1) k p2) tpos] e X.env = pure none := by rfl)
    (h1 : (assignEach [.Subscript (.Name x p) (.Constant (.int 1) k p2) tpos] X.env).map (·.2) = [assign (.Subscript (.Name x p) (.Constant (.int 1) k p2) tpos) X.env] := by rfl) : DS X Y (.Assign [.Subscript (.Name x p) (.Constant (.int 1) k p2) tpos] e pos) (sTpSeed i f) := by
  refine PS.imp (ps_asg hv (pg_sub (pe_var (i := i) hN hvis hd hcd) pe_int set_list ha) hs hw h1) fun D σ H ⟨G, J, ρ, er, h⟩ => ⟨G, J, ρ, er, Post.then h fun y ρ1 v J1 H1 s1 r1 e1 hp => ?_⟩
  split at hp
  · rename_i m
    split at hp
    · rename_i fx b cs sd ht
      obtain ⟨a, q1, n, k1, k2, ja, jb, ho⟩ := tp_at e1 (isTp_some ht)
      have r1 : Rp X.G J1 v (.int _) := r1
      cases r1
      exact ⟨_, q1, a, [.ref b, .int sd], 1, 1, rfl, rfl, k1, by simp [ixN], hp _ _ _ (.refl _) (tp_seed _ e1 (isTp_some ht) q1)⟩
    · exact hp.elim
  · exact hp.elim
end
end DL
namespace DL
open PySem PySem.Spec L2 PyProof.Rows
@[simp] theorem loose_def (ρ : Env) (i : Nat) : loose ρ i = (match ρ[i]? with
  | some (.own true _) => false
  | some (.lk _) => false
  | some _ => true
  | none => false) := rfl
theorem eqv_int (a b : Int) : PyData.eqv (.int a) (.int b) = decide (a = b) := by
  rw [show PyData.eqv (.int a) (.int b) = (a == b) from by simp [PyData.eqv]]
  exact Bool.eq_iff_iff.mpr (by simp)
theorem eqv_str (a b : Str) : PyData.eqv (.str a) (.str b) = decide (a = b) := by
  rw [show PyData.eqv (.str a) (.str b) = (a == b) from by simp [PyData.eqv]]
  exact Bool.eq_iff_iff.mpr (by simp)
theorem sh_int (a : Int) : SeqAt.shaped (.int a) = true := by simp [SeqAt.shaped, PyData.canLay0, PyData.depth]
theorem sh_bool (a : Bool) : SeqAt.shaped (.bool a) = true := by simp [SeqAt.shaped, PyData.canLay0, PyData.depth]
@[simp] theorem dEq_int (a b : Int) : dEq (.int a) (.int b) = some (.bool (decide (a = b))) := by simp [dEq, sh_int, eqv_int]
@[simp] theorem dNe_int (a b : Int) : dNe (.int a) (.int b) = some (.bool (!decide (a = b))) := by simp [dNe, sh_int, eqv_int]
@[simp] theorem dMul_int (a b : Int) : dMul (.int a) (.int b) = if mulOk a b = true then some (.int (a * b)) else none := rfl
section
variable {P : Program} {K : Fg} {mg : Str → Option Value} {base : Heap}
theorem fn_d {x qual : Str} {st : Stmt} {f : Addr} {fd : FuncData} {N ps : List Str} {k j n : Nat} {c : SC} {m : Own → List D → OO} {ct : String → Option Value} (F : Fun K x qual st f fd) (S : FnScope N ps (defScope st)) (hn : ps.length = n + 1) (hj : N.length = n + 1 + j)
    (hm : ∀ b cs sd ds d o', m (.tape cs sd) ds = .ret d o' → ∃ cs' sd' ρ, o' = .tape cs' sd' ∧ c (.own true (.tapB b cs sd) :: (ds.map SV.d ++ List.replicate j .un)) = .rt d ρ ∧ ρ[0]? = some (.own true (.tapB b cs' sd')))
    (hm2 : ∀ o ds, (∃ d o', m o ds = .ret d o') ∨ m o ds = .bad) (hm3 : ∀ o ds d o', m o ds = .ret d o' → ∃ cs sd, o = .tape cs sd)
    (hb : ∀ (cdv : Value) (A : Around) (outer : List PySem.Env) (s : Shared) (H : Hp) (E : XK), Room k (A.deeper (PyProof.Rows.envOfC qual (defScope st) s.heap.objs.size f cdv)) →
      DSs (cxOf (L2.CX P K.w) P K.w K mg base N qual (defScope st) f cdv A outer s H E) ⟨ct, fun c dx _ H => E c dx H⟩ (defBody st) c) : FnOk P K.w K mg base (L2.CX P K.w) (k + 1) f fd ps (spO K ct n m) := by
  refine F.okX S (fun vs H Q E h => ?_) (fun cdv A outer s H vs Q E hr h => ?_)
  · obtain ⟨J, a, r, us, o, ds, rfl, _, _, _, rv, hl, _⟩ := h
    rw [List.length_cons, dps_len rv, hl, hn]
  · obtain ⟨J, a, r, us, o, ds, rfl, sJ, ho, hn0, rv, hl, hp⟩ := h
    rcases hm2 o ds with ⟨d, o', hmo⟩ | hmo
    case inr =>
      rw [hmo] at hp
      exact hp.elim
    obtain ⟨cs, sd, rfl⟩ := hm3 _ _ _ _ hmo
    obtain ⟨a', b, ef, n1, h1, h2⟩ := id ho
    injection ef with x1 x2
    subst x1 x2
    have ho2 : OwnAt K J H (.tapB b cs sd) [a, b] := ⟨a, rfl, n1, h1, h2⟩
    obtain ⟨cs', sd', ρ, rfl, hc, h0⟩ := hm b cs sd ds d o' hmo
    refine ⟨_, hb cdv A outer s H E hr, ⟨fun x => (∃ u, H x = some u) ∧ x ∉ [a, b], H, J, [(0, a)]⟩, J, .own true (.tapB b cs sd) :: (ds.map SV.d ++ List.replicate j .un), ?_, ?_⟩
    · have hst : L2.start N (.ref a :: us) = some (.ref a) :: (us.map some ++ List.replicate j none) := by
        unfold L2.start
        rw [hj, List.length_cons, dps_len rv, hl, List.map_cons, List.cons_append]
        congr 3
        omega
      rw [hst]
      exact er_startO j sJ ho2 hn0 rv
    · rw [hc]
      rw [hmo] at hp
      intro v σ J' H' _ rv' e
      obtain ⟨r', g, q1, q2⟩ := end_O e h0
      obtain ⟨a2, ef2, n2, k1, k2⟩ := q1
      injection ef2 with y1 y2
      subst y1 y2
      exact hp v J' H' [b] g ⟨a, b, rfl, n2, k1, k2⟩ q2 rv'
end
def dropZ : List Int → List Int
  | [] => []
  | n :: r => if n = 0 then dropZ r else n :: r
def drawT (cs : List Int) (sd many : Int) : Int × List Int × Int := match dropZ cs with
  | [] => ((sd * 48271 + 12345) % 2147483647 / 64 % many, [], (sd * 48271 + 12345) % 2147483647)
  | n :: r => (n % many, n / many :: r, sd)
def drawM : Own → List D → OO := fun o ds => match o, ds with
  | .tape cs sd, [.int many] => if 0 < many ∧ fitZ 1073741824 many = true then .ret (.int (drawT cs sd many).1) (.tape (drawT cs sd many).2.1 (drawT cs sd many).2.2) else .bad
  | _, _ => .bad
def tpFuel : Env → Nat := fun ρ => match isTp ρ 0 with
  | some (_, _, cs, _) => cs.length + 1
  | none => 0
def c_draw : SC :=
  sSeq (sTpC 0 2) (sSeq (sWhile tpFuel (eAnd (eTest (eBin dGt (eTpLen 0 2) (eC (.int 0)))) (eTest (eBin dEq (eTpAt 0 2) (eC (.int 0))))) (sTpPop 0 2))
  (sSeq (sIf (eTest (eBin dGt (eTpLen 0 2) (eC (.int 0)))) (sSeq (sAsg (eTpAt 0 2) (setN 3)) (sSeq (sTpSet 0 2 (eBin dFdiv (eVar 3) (eVar 1))) (sRet (eBin dMod (eCallB dInt (aCons (eVar 3) aNil)) (eVar 1))))) sNx)
  (sSeq (sTpSeed 0 (eBin dMod (eCallB dInt (aCons (eBin dAdd (eBin dMul (eTpSeed 0) (eC (.int 48271))) (eC (.int 12345))) aNil)) (eC (.int 2147483647))))
  (sRet (eBin dMod (eCallB dInt (aCons (eBin dFdiv (eTpSeed 0) (eC (.int 64))) aNil)) (eVar 1))))))
theorem draw_while (b : Addr) (many : Int) (cs : List Int) (sd : Int) : whileRun (eAnd (eTest (eBin dGt (eTpLen 0 2) (eC (.int 0)))) (eTest (eBin dEq (eTpAt 0 2) (eC (.int 0))))) (sTpPop 0 2) (cs.length + 1) [.own true (.tapB b cs sd), .d (.int many), .rf b, .un] =
    .nx [.own true (.tapB b (dropZ cs) sd), .d (.int many), .rf b, .un] := by
  induction cs with
  | nil =>
    unfold whileRun
    simp [dropZ]
  | cons n r ih =>
    rw [List.length_cons]
    unfold whileRun
    by_cases hn : n = 0
    · have hp : (0 : Int) < (r.length : Int) + 1 := by omega
      simp [hn, hp]
      rw [ih]
      simp [dropZ]
    · have hp : (0 : Int) < (r.length : Int) + 1 := by omega
      simp [hn, hp, dropZ]
theorem draw_ok : ∀ b cs sd ds d o', drawM (.tape cs sd) ds = .ret d o' → ∃ cs' sd' ρ, o' = .tape cs' sd' ∧ c_draw (.own true (.tapB b cs sd) :: (ds.map SV.d ++ List.replicate 2 .un)) = .rt d ρ ∧ ρ[0]? = some (.own true (.tapB b cs' sd')) := by
  intro b cs sd ds d o' h
  unfold drawM at h
  split at h
  · rename_i cs sd many heq
    cases heq
    split at h
    · rename_i hm
      obtain ⟨h1, h2⟩ := hm
      have hw := draw_while b many cs sd
      have key : ∃ ρ, c_draw [.own true (.tapB b cs sd), .d (.int many), .un, .un] = .rt (.int (drawT cs sd many).1) ρ ∧ ρ[0]? = some (.own true (.tapB b (drawT cs sd many).2.1 (drawT cs sd many).2.2)) := by
        unfold c_draw
        simp only [sSeq, sTpC, isTp, List.getElem?_cons_zero, loose_def, List.getElem?_cons_succ, List.set_cons_succ, List.set_cons_zero, sWhile, tpFuel]
        simp only [true_and, ne_eq, show (¬ (2 : Nat) = 0) = True from by simp, not_false_eq_true, and_self, if_true, List.getElem?_cons_zero]
        rw [hw]
        unfold drawT
        cases hd : dropZ cs with
        | nil =>
          simp [mulOk, fitZ, h1]
        | cons n r =>
          have hp : (0 : Int) < (r.length : Int) + 1 := by omega
          simp [hp, h1, h2]
      obtain ⟨ρ, k1, k2⟩ := key
      cases h
      exact ⟨_, _, ρ, rfl, k1, k2⟩
    · cases h
  · cases h
end DL
namespace DL
open PySem PySem.Spec L2 PyProof.Rows
theorem bt_len : bootBuiltins "len" = some (.builtin "len") := by decide +kernel
theorem bt_max : bootBuiltins "max" = some (.builtin "max") := by decide +kernel
theorem bt_min : bootBuiltins "min" = some (.builtin "min") := by decide +kernel
theorem bt_abs : bootBuiltins "abs" = some (.builtin "abs") := by decide +kernel
theorem bt_int : bootBuiltins "int" = some (.type "int") := by decide +kernel
theorem bt_tuple : bootBuiltins "tuple" = some (.type "tuple") := by decide +kernel
theorem bt_dict : bootBuiltins "dict" = some (.type "dict") := by decide +kernel
theorem bt_bool : bootBuiltins "bool" = some (.type "bool") := by decide +kernel
theorem draw_ok2 : ∀ o ds, (∃ d o', drawM o ds = .ret d o') ∨ drawM o ds = .bad := by
  intro o ds
  unfold drawM
  split
  · split
    · exact .inl ⟨_, _, rfl⟩
    · exact .inr rfl
  · exact .inr rfl
theorem draw_ok3 : ∀ o ds d o', drawM o ds = .ret d o' → ∃ cs sd, o = .tape cs sd := by
  intro o ds d o' h
  unfold drawM at h
  split at h
  · exact ⟨_, _, rfl⟩
  · cases h
@[simp] def eNeg (f : EC) (ρ : Env) : Out VV := (f ρ).bind fun x ρ1 => match x with
  | .val (.int i) => .ok (.val (.int (-i))) ρ1
  | _ => .bad
section
variable {X : Cx} {Y : Yx} {a b c e : Expr} {pos : Pos}
end
@[simp] def sPar (i j : Nat) (fa : Env → Out (List VV)) (ρ : Env) : SO := (fa ρ).then fun xs ρ1 => match vals xs with
  | some [d, d'] => if loose ρ1 i = true ∧ loose (ρ1.set i (.d d)) j = true then .nx ((ρ1.set i (.d d)).set j (.d d')) else .bad
  | _ => .bad
@[simp] def sPar3 (i j l : Nat) (fa : Env → Out (List VV)) (ρ : Env) : SO := (fa ρ).then fun xs ρ1 => match vals xs with
  | some [d, d', d''] => if loose ρ1 i = true ∧ loose (ρ1.set i (.d d)) j = true ∧ loose ((ρ1.set i (.d d)).set j (.d d')) l = true then .nx (((ρ1.set i (.d d)).set j (.d d')).set l (.d d'')) else .bad
  | _ => .bad
section
variable {X : Cx} {Y : Yx} {a b c e : Expr} {pos : Pos}
theorem ds_par (i j : Nat) {x y : Str} {fa : Env → Out (List VV)} {px py pt : Pos} {kt k2 : Nat} {pt2 : Pos} (hc : X.calm = true) (hN : X.N.Nodup) (ha : DA X Y [a, b] fa) (hi : X.N[i]? = some x := by rfl) (hj : X.N[j]? = some y := by rfl) (hij : i ≠ j := by decide)
    (hx : X.env.scope.names.lookup x = some .local := by rfl) (hy : X.env.scope.names.lookup y = some .local := by rfl)
    (hw : swappedStores [.Tuple [.Name x px, .Name y py] kt pt] (.Tuple [a, b] k2 pt2) X.env = pure (some [x, y]) := by kernel_rfl)
    (hs : swapsWithSole [.Tuple [.Name x px, .Name y py] kt pt] (.Tuple [a, b] k2 pt2) pos.line X.env = pure false := by rfl) :
    DS X Y (.Assign [.Tuple [.Name x px, .Name y py] kt pt] (.Tuple [a, b] k2 pt2) pos) (sPar i j fa) := by
  refine PS.imp (ps_par hc hN hi hj hij hx hy ha hw hs) fun D σ H ⟨G, J, ρ, er, h⟩ => ⟨G, J, ρ, er, Post.then h fun xs ρ1 vs J1 H1 s1 r1 e1 h1 => ?_⟩
  split at h1
  · rename_i d d' hds
    split at h1
    · rename_i hl
      obtain ⟨v, u, d1, d2, rfl, ed, rv, ru⟩ := rps_2 (vals_ok r1 hds) rfl
      injection ed with x1 x2
      injection x2 with x2 _
      subst x1 x2
      exact ⟨v, u, rfl, h1 _ J1 H1 (.refl _) ((e1.setD rv hl.1).setD ru hl.2)⟩
    · exact h1.elim
  · exact h1.elim
end
def spTrue (K : Fg) (m : List D → FO) : Sp := fun vs H Q E => ∃ J ds, Same J H ∧ RpAll K J vs ds ∧ ds.length = 1 ∧ m ds = .ret (.bool true) ∧ ∀ H', Q (.bl true) H'
theorem spTrue_imp {K : Fg} {m : List D → FO} {ct : String → Option Value} : ∀ vs H Q E, spTrue K m vs H Q E → spP K ct 1 m vs H Q E := fun vs H Q E ⟨J, ds, s, r, l, hm, q⟩ => ⟨J, ds, s, r, l, by
  rw [hm]
  intro v J' H' _ rv
  cases rv
  exact q H'⟩
theorem spTrue_go {K : Fg} {m : List D → FO} {H : Hp} {a : Addr} {ns : List Int} (hm : m [.list (ns.map .int)] = .ret (.bool true)) (hS : SqL K H a (ns.map V.int)) : spTrue K m [.ref a] H (fun v _ => v = .bl true) fun _ _ _ => False :=
  ⟨H, [.list (ns.map .int)], .refl H, .cons (.lst hS (dps_ints ns)) .nil, rfl, hm, fun _ => rfl⟩
end DL
namespace DL
open PySem PySem.Spec L2 PyProof.Rows
theorem hu64 {k : Nat} {A : Around} (r : Room k A) : A.units + 64 < cLine := by have := r.un; omega
theorem hu65 {k : Nat} {A : Around} (r : Room k A) : A.units + 65 < cLine := by have := r.un; omega
end DL
namespace DL
open PySem PySem.Spec L2 PyProof.Rows
theorem exm2 {K : Fg} {C S : Addr} {b : Bool} (h1 : PySem.W.subIn K (.ref S) (.type "BaseException") = some true) (h2 : PySem.W.isClsIn K S = true) (h3 : PySem.W.typeIn K (.ref S) = some (.type "type")) (h4 : PySem.W.subIn K (.ref C) (.ref S) = some b) : PySem.W.exmOne K (.ref C) (.ref S) = some b := by
  unfold PySem.W.exmOne PySem.W.kitCls
  have h2' : (PySem.W.clsIn K S).isSome = true := h2
  rw [h1, if_pos (by decide)]
  show (if ((PySem.W.clsIn K S).isSome && PySem.W.typeIn K (.ref S) == some (.type "type")) = true then _ else _) = _
  rw [h3, h2', if_pos (by decide)]
  exact h4
theorem gl_int {K : Fg} {mg : Str → Option Value} {x : Str} {i : Int} {t : Tok} (h : mg x = some (.int i t)) : GlD K mg x (.int i) := ⟨.int i, _, h, ⟨t, rfl⟩, fun J => .int i⟩
theorem walkT {l : PySem.W.OpenLaw} {n k : Nat} {q : Program} {loose : List Str} {XP : (Str → Option Value) → Heap → Prop} {YP : World → Heap → Prop} {d : DefRec} {K : Params → PySem.W.Frag} {m : List D → FO} (hn : l.most = some n) (hn2 : n ≤ sizeLine) (hdf : d.params.defaults = []) (hr : Room k callerA)
    (hm : ∀ ns : List Int, ns.length ≤ n → m [.list (ns.map .int)] = .ret (.bool true))
    (hY : ∀ (w : World) (h : Heap), YP w h → (K w.params).In h)
    (F : ∀ (w : World) (mg : Str → Option Value) (fa : Addr) (h : Heap), (K w.params).In h → h.Ns mainGlobals mg → mg d.name = some (.ref fa) →
      ∃ fd : FuncData, (∀ (s : Shared) (u : Value), BindsTo s fd ⟨[u], []⟩ [("script", u)]) ∧ ∀ base : Heap, (K w.params).In base → base.Ns mainGlobals mg → FnOk l.prog w (K w.params) mg base (L2.CX l.prog w) k fa fd ["script"] (spTrue ⟨K w.params, w⟩ m)) :
    PySem.W.WalkO q loose XP YP l.row.toRowW d [] (fun f vs => PySem.call f vs) :=
  L2.walk_of (n := n) (k := k) (x := "script") (CX := fun w => L2.CX l.prog w) (sp := fun w => spTrue ⟨K w.params, w⟩ m) hn hn2 hdf hr hY F (fun _ _ a ns hl _ hS => spTrue_go (hm ns hl) hS) fun _ _ _ _ _ ⟨_, _, _, _, _, _, _, _, _, _, _, _, z⟩ => z
end DL
namespace DL
open PySem PySem.Spec L2 PyProof.Rows
@[simp] theorem ty_str_none  : anyTy ["str"] .none = some false := by
  show (match kitB "NoneType" "str" with | some true => some true | some false => some false | none => none) = some false
  rw [show kitB "NoneType" "str" = some false from by decide +kernel]
@[simp] theorem ty_str_bool (b : Bool) : anyTy ["str"] (.bool b) = some false := by
  show (match kitB "bool" "str" with | some true => some true | some false => some false | none => none) = some false
  rw [show kitB "bool" "str" = some false from by decide +kernel]
@[simp] theorem ty_str_int (i : Int) : anyTy ["str"] (.int i) = some false := by
  show (match kitB "int" "str" with | some true => some true | some false => some false | none => none) = some false
  rw [show kitB "int" "str" = some false from by decide +kernel]
@[simp] theorem ty_str_str (z : Str) : anyTy ["str"] (.str z) = some true := by
  show (match kitB "str" "str" with | some true => some true | some false => some false | none => none) = some true
  rw [show kitB "str" "str" = some true from by decide +kernel]
@[simp] theorem ty_str_list (xs : List D) : anyTy ["str"] (.list xs) = some false := by
  show (match kitB "list" "str" with | some true => some true | some false => some false | none => none) = some false
  rw [show kitB "list" "str" = some false from by decide +kernel]
@[simp] theorem ty_str_tuple (xs : List D) : anyTy ["str"] (.tuple xs) = some false := by
  show (match kitB "tuple" "str" with | some true => some true | some false => some false | none => none) = some false
  rw [show kitB "tuple" "str" = some false from by decide +kernel]
@[simp] theorem ty_int_none  : anyTy ["int"] .none = some false := by
  show (match kitB "NoneType" "int" with | some true => some true | some false => some false | none => none) = some false
  rw [show kitB "NoneType" "int" = some false from by decide +kernel]
@[simp] theorem ty_int_bool (b : Bool) : anyTy ["int"] (.bool b) = some true := by
  show (match kitB "bool" "int" with | some true => some true | some false => some false | none => none) = some true
  rw [show kitB "bool" "int" = some true from by decide +kernel]
@[simp] theorem ty_int_int (i : Int) : anyTy ["int"] (.int i) = some true := by
  show (match kitB "int" "int" with | some true => some true | some false => some false | none => none) = some true
  rw [show kitB "int" "int" = some true from by decide +kernel]
@[simp] theorem ty_int_str (z : Str) : anyTy ["int"] (.str z) = some false := by
  show (match kitB "str" "int" with | some true => some true | some false => some false | none => none) = some false
  rw [show kitB "str" "int" = some false from by decide +kernel]
@[simp] theorem ty_int_list (xs : List D) : anyTy ["int"] (.list xs) = some false := by
  show (match kitB "list" "int" with | some true => some true | some false => some false | none => none) = some false
  rw [show kitB "list" "int" = some false from by decide +kernel]
@[simp] theorem ty_int_tuple (xs : List D) : anyTy ["int"] (.tuple xs) = some false := by
  show (match kitB "tuple" "int" with | some true => some true | some false => some false | none => none) = some false
  rw [show kitB "tuple" "int" = some false from by decide +kernel]
@[simp] theorem ty_bool_none  : anyTy ["bool"] .none = some false := by
  show (match kitB "NoneType" "bool" with | some true => some true | some false => some false | none => none) = some false
  rw [show kitB "NoneType" "bool" = some false from by decide +kernel]
@[simp] theorem ty_bool_bool (b : Bool) : anyTy ["bool"] (.bool b) = some true := by
  show (match kitB "bool" "bool" with | some true => some true | some false => some false | none => none) = some true
  rw [show kitB "bool" "bool" = some true from by decide +kernel]
@[simp] theorem ty_bool_int (i : Int) : anyTy ["bool"] (.int i) = some false := by
  show (match kitB "int" "bool" with | some true => some true | some false => some false | none => none) = some false
  rw [show kitB "int" "bool" = some false from by decide +kernel]
@[simp] theorem ty_bool_str (z : Str) : anyTy ["bool"] (.str z) = some false := by
  show (match kitB "str" "bool" with | some true => some true | some false => some false | none => none) = some false
  rw [show kitB "str" "bool" = some false from by decide +kernel]
@[simp] theorem ty_bool_list (xs : List D) : anyTy ["bool"] (.list xs) = some false := by
  show (match kitB "list" "bool" with | some true => some true | some false => some false | none => none) = some false
  rw [show kitB "list" "bool" = some false from by decide +kernel]
@[simp] theorem ty_bool_tuple (xs : List D) : anyTy ["bool"] (.tuple xs) = some false := by
  show (match kitB "tuple" "bool" with | some true => some true | some false => some false | none => none) = some false
  rw [show kitB "tuple" "bool" = some false from by decide +kernel]
@[simp] theorem ty_tuple_none  : anyTy ["tuple"] .none = some false := by
  show (match kitB "NoneType" "tuple" with | some true => some true | some false => some false | none => none) = some false
  rw [show kitB "NoneType" "tuple" = some false from by decide +kernel]
@[simp] theorem ty_tuple_bool (b : Bool) : anyTy ["tuple"] (.bool b) = some false := by
  show (match kitB "bool" "tuple" with | some true => some true | some false => some false | none => none) = some false
  rw [show kitB "bool" "tuple" = some false from by decide +kernel]
@[simp] theorem ty_tuple_int (i : Int) : anyTy ["tuple"] (.int i) = some false := by
  show (match kitB "int" "tuple" with | some true => some true | some false => some false | none => none) = some false
  rw [show kitB "int" "tuple" = some false from by decide +kernel]
@[simp] theorem ty_tuple_str (z : Str) : anyTy ["tuple"] (.str z) = some false := by
  show (match kitB "str" "tuple" with | some true => some true | some false => some false | none => none) = some false
  rw [show kitB "str" "tuple" = some false from by decide +kernel]
@[simp] theorem ty_tuple_list (xs : List D) : anyTy ["tuple"] (.list xs) = some false := by
  show (match kitB "list" "tuple" with | some true => some true | some false => some false | none => none) = some false
  rw [show kitB "list" "tuple" = some false from by decide +kernel]
@[simp] theorem ty_tuple_tuple (xs : List D) : anyTy ["tuple"] (.tuple xs) = some true := by
  show (match kitB "tuple" "tuple" with | some true => some true | some false => some false | none => none) = some true
  rw [show kitB "tuple" "tuple" = some true from by decide +kernel]
@[simp] theorem ty_list_none  : anyTy ["list"] .none = some false := by
  show (match kitB "NoneType" "list" with | some true => some true | some false => some false | none => none) = some false
  rw [show kitB "NoneType" "list" = some false from by decide +kernel]
@[simp] theorem ty_list_bool (b : Bool) : anyTy ["list"] (.bool b) = some false := by
  show (match kitB "bool" "list" with | some true => some true | some false => some false | none => none) = some false
  rw [show kitB "bool" "list" = some false from by decide +kernel]
@[simp] theorem ty_list_int (i : Int) : anyTy ["list"] (.int i) = some false := by
  show (match kitB "int" "list" with | some true => some true | some false => some false | none => none) = some false
  rw [show kitB "int" "list" = some false from by decide +kernel]
@[simp] theorem ty_list_str (z : Str) : anyTy ["list"] (.str z) = some false := by
  show (match kitB "str" "list" with | some true => some true | some false => some false | none => none) = some false
  rw [show kitB "str" "list" = some false from by decide +kernel]
@[simp] theorem ty_list_list (xs : List D) : anyTy ["list"] (.list xs) = some true := by
  show (match kitB "list" "list" with | some true => some true | some false => some false | none => none) = some true
  rw [show kitB "list" "list" = some true from by decide +kernel]
@[simp] theorem ty_list_tuple (xs : List D) : anyTy ["list"] (.tuple xs) = some false := by
  show (match kitB "tuple" "list" with | some true => some true | some false => some false | none => none) = some false
  rw [show kitB "tuple" "list" = some false from by decide +kernel]
@[simp] theorem ty_tl_none  : anyTy ["tuple", "list"] .none = some false := by
  show (match kitB "NoneType" "tuple" with | some true => some true | some false => (match kitB "NoneType" "list" with | some true => some true | some false => some false | none => none) | none => none) = some false
  rw [show kitB "NoneType" "tuple" = some false from by decide +kernel, show kitB "NoneType" "list" = some false from by decide +kernel]
@[simp] theorem ty_tl_bool (b : Bool) : anyTy ["tuple", "list"] (.bool b) = some false := by
  show (match kitB "bool" "tuple" with | some true => some true | some false => (match kitB "bool" "list" with | some true => some true | some false => some false | none => none) | none => none) = some false
  rw [show kitB "bool" "tuple" = some false from by decide +kernel, show kitB "bool" "list" = some false from by decide +kernel]
@[simp] theorem ty_tl_int (i : Int) : anyTy ["tuple", "list"] (.int i) = some false := by
  show (match kitB "int" "tuple" with | some true => some true | some false => (match kitB "int" "list" with | some true => some true | some false => some false | none => none) | none => none) = some false
  rw [show kitB "int" "tuple" = some false from by decide +kernel, show kitB "int" "list" = some false from by decide +kernel]
@[simp] theorem ty_tl_str (z : Str) : anyTy ["tuple", "list"] (.str z) = some false := by
  show (match kitB "str" "tuple" with | some true => some true | some false => (match kitB "str" "list" with | some true => some true | some false => some false | none => none) | none => none) = some false
  rw [show kitB "str" "tuple" = some false from by decide +kernel, show kitB "str" "list" = some false from by decide +kernel]
@[simp] theorem ty_tl_list (xs : List D) : anyTy ["tuple", "list"] (.list xs) = some true := by
  show (match kitB "list" "tuple" with | some true => some true | some false => (match kitB "list" "list" with | some true => some true | some false => some false | none => none) | none => none) = some true
  rw [show kitB "list" "tuple" = some false from by decide +kernel, show kitB "list" "list" = some true from by decide +kernel]
@[simp] theorem ty_tl_tuple (xs : List D) : anyTy ["tuple", "list"] (.tuple xs) = some true := by
  show (match kitB "tuple" "tuple" with | some true => some true | some false => (match kitB "tuple" "list" with | some true => some true | some false => some false | none => none) | none => none) = some true
  rw [show kitB "tuple" "tuple" = some true from by decide +kernel, show kitB "tuple" "list" = some false from by decide +kernel]
def sL (l : List Nat) : Str := ⟨l.toArray⟩
@[simp] theorem sL_length (l : List Nat) : (sL l).length = l.length := by simp [sL, Str.length]
@[simp] theorem sL_cps (l : List Nat) : (sL l).cps.toList = l := by simp [sL]
@[simp] theorem sL_inj (a b : List Nat) : sL a = sL b ↔ a = b := by simp [sL]
@[simp] theorem sL_append (a b : List Nat) : sL a ++ sL b = sL (a ++ b) := by
  show (⟨a.toArray ++ b.toArray⟩ : Str) = ⟨(a ++ b).toArray⟩
  simp
@[simp] theorem sL_one (c : Nat) : (⟨#[c]⟩ : Str) = sL [c] := rfl
def cutL (l : List Nat) (lo hi : Option Int) : List Nat := (l.drop (HT.sIx l.length 0 lo)).take (HT.sIx l.length l.length hi - HT.sIx l.length 0 lo)
@[simp] theorem cutS_sL (l : List Nat) (lo hi : Option Int) : cutS (sL l) lo hi = sL (cutL l lo hi) := by
  unfold cutS cutL
  rw [sL_length, sL_cps]
  rfl
inductive All2 {α β : Type} (R : α → β → Prop) : List α → List β → Prop
  | nil : All2 R [] []
  | cons {a : α} {b : β} {as : List α} {bs : List β} : R a b → All2 R as bs → All2 R (a :: as) (b :: bs)
@[simp] theorem lcRun_nil (vs : List Nat) (set : D → Env → Option Env) (t : TC) (fe : EC) (ρ : Env) (acc : List D) : lcRun vs set t fe [] ρ acc = .ok acc ρ := rfl
theorem sh_str (a : Str) : SeqAt.shaped (.str a) = PyData.strOk a := by simp [SeqAt.shaped, PyData.canLay0, PyData.depth]
theorem dEq_str {a b : Str} (ha : PyData.strOk a = true) (hb : PyData.strOk b = true) : dEq (.str a) (.str b) = some (.bool (decide (a = b))) := by simp [dEq, sh_str, ha, hb, eqv_str]
theorem dNe_str {a b : Str} (ha : PyData.strOk a = true) (hb : PyData.strOk b = true) : dNe (.str a) (.str b) = some (.bool (!decide (a = b))) := by simp [dNe, sh_str, ha, hb, eqv_str]
@[simp] theorem dEq_bool (a b : Bool) : dEq (.bool a) (.bool b) = some (.bool (a == b)) := by simp [dEq, sh_bool, PyData.eqv]
@[simp] theorem dNe_bool (a b : Bool) : dNe (.bool a) (.bool b) = some (.bool (!(a == b))) := by simp [dNe, sh_bool, PyData.eqv]
theorem strOk_sL {l : List Nat} (h : ∀ c ∈ l, c < 128) : PyData.strOk (sL l) = true := by
  unfold PyData.strOk sL
  rw [Array.all_eq_true]
  intro i hi
  have hi' : i < l.length := by simpa using hi
  have := h l[i] (List.getElem_mem _)
  simp
  omega
theorem le_line {n : Nat} (h : n ≤ 10000) : n ≤ sizeLine := Nat.le_trans h (by decide)
theorem lt_line {n : Nat} (h : n ≤ 10000) : n < sizeLine := Nat.lt_of_le_of_lt h (by decide)
theorem foldl_cps (ls : List (List Nat)) : ∀ acc : List Nat, ((ls.map sL).foldl (fun a p => a ++ (sL []).cps ++ p.cps) acc.toArray) = (acc ++ ls.flatten).toArray := by
  induction ls with
  | nil => intro acc; simp
  | cons x ls ih =>
    intro acc
    rw [List.map_cons, List.foldl_cons]
    have : acc.toArray ++ (sL []).cps ++ (sL x).cps = (acc ++ x).toArray := by simp [sL]
    rw [this, ih]
    simp
theorem join_sL (ls : List (List Nat)) : Txt.join (sL []) (ls.map sL) = sL ls.flatten := by
  show Builtin.Str.glued (sL []) (ls.map sL) = _
  unfold Builtin.Str.glued
  cases ls with
  | nil => rfl
  | cons x ls =>
    have := foldl_cps ls x
    show (⟨((ls.map sL).foldl (fun a p => a ++ (sL []).cps ++ p.cps) (sL x).cps)⟩ : Str) = _
    rw [show (sL x).cps = x.toArray from rfl, this]
    rfl
theorem strsD_sL (ls : List (List Nat)) : strsD (ls.map fun l => PyData.str (sL l)) = some (ls.map sL) := by
  have := strs_map (ls.map sL)
  rw [List.map_map] at this
  exact this
theorem dJoin_sL (ls : List (List Nat)) (h : ls.flatten.length ≤ 10000) : dJoin (.str (sL [])) [.list (ls.map fun l => .str (sL l))] = some (.str (sL ls.flatten)) := by
  have e : ((ls.map sL).map (·.length)).sum = ls.flatten.length := by
    induction ls with
    | nil => rfl
    | cons x ls ih =>
      have : ls.flatten.length ≤ 10000 := by
        rw [List.flatten_cons, List.length_append] at h
        omega
      simp only [List.map_cons, List.sum_cons, sL_length, List.flatten_cons, List.length_append]
      rw [ih this]
  show (match strsD (ls.map fun l => PyData.str (sL l)) with
    | some ys => if (List.map (fun x : Str => x.length) ys).sum + ys.length * (sL []).length ≤ 16777216 then some (PyData.str (Txt.join (sL []) ys)) else none
    | none => none) = _
  rw [strsD_sL]
  have hz : (List.map (fun x : Str => x.length) (ls.map sL)).sum + (ls.map sL).length * (sL []).length ≤ 16777216 := by
    rw [e, sL_length, List.length_nil, Nat.mul_zero]
    omega
  show (if (List.map (fun x : Str => x.length) (ls.map sL)).sum + (ls.map sL).length * (sL []).length ≤ 16777216 then some (PyData.str (Txt.join (sL []) (ls.map sL))) else none) = _
  rw [if_pos hz, join_sL]
theorem fitZ_small {b : Nat} {n : Int} (hb : 1000000 ≤ b) (h : n.natAbs ≤ 100000) : fitZ b n = true := fitZ_of (by omega)
theorem eRng1_ok {fa : Env → Out (List VV)} {ρ ρ1 : Env} {n : Int} (h : fa ρ = .ok [.val (.int n)] ρ1) (h0 : n.natAbs ≤ 100000) : eRng1 fa ρ = .ok (rng 0 n.toNat) ρ1 := by
  unfold eRng1
  rw [h]
  show (if fitZ (2 ^ 62) n = true then Out.ok (rng 0 n.toNat) ρ1 else .bad) = _
  rw [if_pos (fitZ_small (by decide) h0)]
theorem atI_nat {α : Type} (xs : List α) (i : Nat) (h : i < xs.length) : atI xs (i : Int) = some xs[i] := by
  unfold atI ixN
  rw [if_pos (by omega), if_pos (by omega)]
  simp [h]
theorem cutD_take (xs : List DL.D) (k : Nat) : DL.cutD xs none (some (k : Int)) = xs.take k := by
  unfold DL.cutD
  rw [HT.sIx_nat]
  simp [HT.sIx]
theorem drawT_range (cs : List Int) (sd many : Int) (h : 0 < many) : 0 ≤ (drawT cs sd many).1 ∧ (drawT cs sd many).1 < many := by
  unfold drawT
  split
  · exact ⟨Int.emod_nonneg _ (by omega), Int.emod_lt_of_pos _ h⟩
  · exact ⟨Int.emod_nonneg _ (by omega), Int.emod_lt_of_pos _ h⟩
theorem draw_go (cs : List Int) (sd many : Int) (h : 0 < many) (h2 : many < 1073741824) : ∃ i cs' sd', drawM (.tape cs sd) [.int many] = .ret (.int i) (.tape cs' sd') ∧ 0 ≤ i ∧ i < many := by
  obtain ⟨h3, h4⟩ := drawT_range cs sd many h
  exact ⟨_, _, _, by show (if 0 < many ∧ fitZ 1073741824 many = true then _ else _) = _; rw [if_pos ⟨h, fitZ_of (by omega)⟩], h3, h4⟩
end DL
namespace DL
open PySem PySem.Spec L2 PyProof.Rows
section
variable {X : Cx} {Y : Yx} {a b c e : Expr} {pos : Pos}
@[simp] def eBad (ρ : Env) : Out VV := .bad
def dIAdd : D → D → Option D
  | .int i, .int j => some (.int (i + j))
  | .str a, .str b => if a.length + b.length ≤ sizeLine then some (.str (a ++ b)) else none
  | _, _ => none
@[simp] theorem dIAdd_i (i j : Int) : dIAdd (.int i) (.int j) = some (.int (i + j)) := rfl
@[simp] theorem dIAdd_s (a b : Str) : dIAdd (.str a) (.str b) = if a.length + b.length ≤ sizeLine then some (.str (a ++ b)) else none := rfl
@[simp] def eCall0 (m : List D → FO) (ρ : Env) : Out VV := match m [] with
  | .ret d => .ok (.val d) ρ
  | _ => .bad
theorem de_call0 {m : List D → FO} {k : Nat} {f : Addr} {fd : FuncData} {ps : List Str} {x : Str} {p : Pos} (F : FnOk X.prog X.w X.G X.mg X.base (L2.CX X.prog X.w) k f fd ps (spP X.G Y.ct 0 m)) (hr : Room k X.A) (hm : X.mg x = some (.ref f))
    (hk : PySem.W.keepIn X.G (.ref f) = true) (hb : Binds X.G fd ps []) (hg : Gl X x := by rfl) (hdb : (x == ("__debug__" : Str)) = false := by decide) : DE X Y (.Call (.Name x p) [] [] pos) (eCall0 m) := by
  refine PE.imp (pe_call0 F hr hg hm hk hb (dvs := []) .nil passL hdb) fun σ H Q ⟨G, J, ρ, er, h⟩ => ?_
  unfold eCall0 at h
  refine ⟨J, [], er.ex, .nil, rfl, ?_⟩
  cases hmm : m [] with
  | ret d =>
    rw [hmm] at h
    exact fun v J' H' gr r => h.grow er gr r
  | own o => rw [hmm] at h; exact h.elim
  | exc ev => rw [hmm] at h; exact h.elim
  | bad => rw [hmm] at h; exact h.elim
end
end DL
namespace DL
open PySem PySem.Spec L2 PyProof.Rows
@[simp] def keepS : SV → SV
  | .own true o => .own true o
  | .lk o => .lk o
  | _ => .un
@[simp] def blankE (ρ : Env) : Env := ρ.map keepS
@[simp] def allLoose (ρ : Env) (is : List Nat) : Bool := is.all (loose ρ)
section
variable {K : Fg} {G : Gd} {J H : Hp} {σ : L2.St} {ρ : Env}
theorem loose_setU {i j : Nat} (h : loose ρ i = true) : loose (ρ.set j .un) i = true := by
  unfold loose at h ⊢
  by_cases hij : j = i
  · subst hij
    split at h
    · cases h
    · cases h
    · rename_i h1
      rw [List.getElem?_set_self (List.getElem?_eq_some_iff.mp h1).1]
    · cases h
  · rw [List.getElem?_set_ne hij]
    exact h
theorem loose_wipe {i : Nat} (h : loose ρ i = true) : ∀ is, loose (wipeE ρ is) i = true
  | [] => h
  | j :: is => loose_setU (loose_wipe h is)
theorem ER.wipeS (e : ER K G J H σ ρ) : ∀ {is : List Nat}, allLoose ρ is = true → ER K G J H σ (wipeE ρ is)
  | [], _ => e
  | i :: is, h => by
    have h : (loose ρ i && allLoose ρ is) = true := h
    rw [Bool.and_eq_true] at h
    exact (e.wipeS (is := is) h.2).dropS (loose_wipe h.1 is)
theorem sls_blank {xs : List (Option V)} {ss : List SV} {fs : List (List Addr)} (h : SlsOk K J H xs ss fs) : ∃ fs' : List (List Addr), SlsOk K J H xs (ss.map keepS) fs' ∧ ∀ (i : Nat) (f' : List Addr), fs'[i]? = some f' → f' = [] ∨ fs[i]? = some f' := by
  induction h with
  | nil => exact ⟨[], .nil, by simp⟩
  | @cons x s f xs ss fs h t ih =>
    obtain ⟨fs', t', q⟩ := ih
    by_cases hk2 : ∃ o, s = .lk o
    · obtain ⟨o, rfl⟩ := hk2
      refine ⟨f :: fs', .cons h t', fun i f' e => ?_⟩
      cases i with
      | zero => exact .inr (by simpa using e)
      | succ i => simpa using q i f' (by simpa using e)
    by_cases hk : ∃ o, s = .own true o
    · obtain ⟨o, rfl⟩ := hk
      refine ⟨f :: fs', .cons h t', fun i f' e => ?_⟩
      cases i with
      | zero => exact .inr (by simpa using e)
      | succ i => simpa using q i f' (by simpa using e)
    · have e : keepS s = .un := by
        cases s with
        | own fx o =>
          cases fx with
          | true => exact (hk ⟨o, rfl⟩).elim
          | false => rfl
        | lk o => exact (hk2 ⟨o, rfl⟩).elim
        | _ => rfl
      refine ⟨[] :: fs', by rw [List.map_cons, e]; exact .cons (.un _) t', fun i f' e => ?_⟩
      cases i with
      | zero => exact .inl (by simpa using e.symm)
      | succ i => simpa using q i f' (by simpa using e)
theorem ER.blank (e : ER K G J H σ ρ) : ER K G J H σ (blankE ρ) := by
  obtain ⟨fs, h, ap, q⟩ := e.ft
  obtain ⟨fs', h', q'⟩ := sls_blank h
  refine ⟨e.ex, e.j0, e.keep, e.pn, ⟨fs', h', fun i j f g a ei ej hf hg => ?_, fun f hf a ha => ?_⟩, fun i a hi => ?_, fun i c fs hi => e.lk i c fs ?_⟩
  · rcases q' i f ei with rfl | e1
    · cases hf
    · rcases q' j g ej with rfl | e2
      · cases hg
      · exact ap i j f g a e1 e2 hf hg
  · obtain ⟨i, hi⟩ := List.getElem?_of_mem hf
    rcases q' i f hi with rfl | e1
    · cases ha
    · exact q f (List.mem_of_getElem? e1) a ha
  · obtain ⟨h1, o, h2, h3⟩ := e.fx i a hi
    refine ⟨h1, o, ?_, h3⟩
    unfold blankE
    rw [List.getElem?_map, h2]
    unfold SV.fixed at h3
    split at h3
    · rfl
    · rfl
    · cases h3
  · unfold blankE at hi
    rw [List.getElem?_map] at hi
    obtain ⟨s, h1, h2⟩ := Option.map_eq_some_iff.mp hi
    unfold keepS at h2
    split at h2
    · cases h2
    · cases h2
      exact h1
    · cases h2
end
@[simp] def fgS (b : Bool) (is : List Nat) : SO → SO
  | .nx ρ => if allLoose ρ is = true then .nx (wipeE ρ is) else .bad
  | .ct ρ => if allLoose ρ is = true then .ct (wipeE ρ is) else .bad
  | .bk ρ => if allLoose ρ is = true then .bk (wipeE ρ is) else .bad
  | .rt d ρ => .rt d (blankE ρ)
  | .ro o ρ => .ro o (blankE ρ)
  | .exc e ρ => if b = true then .exc e (blankE ρ) else .exc e ρ
  | .bad => .bad
@[simp] def sFg (b : Bool) (is : List Nat) (c : SC) (ρ : Env) : SO := fgS b is (c ρ)
@[simp] def sPre (is : List Nat) (c : SC) (ρ : Env) : SO := if allLoose ρ is = true then c (wipeE ρ is) else .bad
theorem fg_imp {K : Fg} {Y : Yx} {b : Bool} {is : List Nat} {c : SC} : ∀ D σ H, tS K Y (sFg b is c) D σ H → tS K Y c D σ H := fun D σ H ⟨G, J, ρ, er, h⟩ => by
  refine ⟨G, J, ρ, er, ?_⟩
  unfold sFg at h
  cases hc : c ρ with
  | nx ρ1 =>
    rw [hc] at h
    have h : SPost K Y G J (if allLoose ρ1 is = true then .nx (wipeE ρ1 is) else .bad) D := h
    split at h
    · rename_i hl
      exact fun σ' J' H' s e => h σ' J' H' s (e.wipeS hl)
    · exact h.elim
  | ct ρ1 =>
    rw [hc] at h
    have h : SPost K Y G J (if allLoose ρ1 is = true then .ct (wipeE ρ1 is) else .bad) D := h
    split at h
    · rename_i hl
      exact fun σ' J' H' s e => h σ' J' H' s (e.wipeS hl)
    · exact h.elim
  | bk ρ1 =>
    rw [hc] at h
    have h : SPost K Y G J (if allLoose ρ1 is = true then .bk (wipeE ρ1 is) else .bad) D := h
    split at h
    · rename_i hl
      exact fun σ' J' H' s e => h σ' J' H' s (e.wipeS hl)
    · exact h.elim
  | rt d ρ1 =>
    rw [hc] at h
    exact fun v σ' J' H' s r e => h v σ' J' H' s r e.blank
  | ro o ρ1 =>
    rw [hc] at h
    exact fun a r σ' J' H' s oa na e => h a r σ' J' H' s oa na e.blank
  | exc ev ρ1 =>
    rw [hc] at h
    have h : SPost K Y G J (if b = true then .exc ev (blankE ρ1) else .exc ev ρ1) D := h
    split at h
    · exact fun c dx σ' J' H' s x e => h c dx σ' J' H' s x e.blank
    · exact h
  | bad =>
    rw [hc] at h
    exact h.elim
theorem pre_imp {K : Fg} {Y : Yx} {is : List Nat} {c : SC} : ∀ D σ H, tS K Y (sPre is c) D σ H → tS K Y c D σ H := fun D σ H ⟨G, J, ρ, er, h⟩ => by
  unfold sPre at h
  split at h
  · rename_i hl
    exact ⟨G, J, _, er.wipeS hl, h⟩
  · exact h.elim
section
variable {X : Cx} {Y : Yx} {st : Stmt} {sts : List Stmt} {c : SC}
theorem ds_fg (b : Bool) (is : List Nat) (h : DS X Y st c) : DS X Y st (sFg b is c) := PS.imp h fg_imp
theorem dss_fg (b : Bool) (is : List Nat) (h : DSs X Y sts c) : DSs X Y sts (sFg b is c) := PSs.imp h fg_imp
theorem ds_pre (is : List Nat) (h : DS X Y st c) : DS X Y st (sPre is c) := PS.imp h pre_imp
end
def fuelN : Nat := 1000000000000
@[simp] theorem sz_0 : 0 ≤ sizeLine := by decide
@[simp] theorem sz_1 : 1 ≤ sizeLine := by decide
@[simp] theorem sz_2 : 2 ≤ sizeLine := by decide
@[simp] theorem sz_3 : 3 ≤ sizeLine := by decide
@[simp] theorem sz_4 : 4 ≤ sizeLine := by decide
@[simp] theorem sz_5 : 5 ≤ sizeLine := by decide
@[simp] theorem sz_6 : 6 ≤ sizeLine := by decide
@[simp] theorem sz_7 : 7 ≤ sizeLine := by decide
@[simp] theorem sz_8 : 8 ≤ sizeLine := by decide
@[simp] theorem sz_9 : 9 ≤ sizeLine := by decide
@[simp] theorem sz_10 : 10 ≤ sizeLine := by decide
@[simp] theorem sz_11 : 11 ≤ sizeLine := by decide
@[simp] theorem sz_12 : 12 ≤ sizeLine := by decide
@[simp] theorem sz_13 : 13 ≤ sizeLine := by decide
@[simp] theorem sz_14 : 14 ≤ sizeLine := by decide
@[simp] theorem sz_15 : 15 ≤ sizeLine := by decide
@[simp] theorem sz_16 : 16 ≤ sizeLine := by decide
@[simp] theorem sz_17 : 17 ≤ sizeLine := by decide
@[simp] theorem sz_18 : 18 ≤ sizeLine := by decide
@[simp] theorem sz_19 : 19 ≤ sizeLine := by decide
@[simp] theorem sz_20 : 20 ≤ sizeLine := by decide
@[simp] theorem sz_21 : 21 ≤ sizeLine := by decide
@[simp] theorem sz_22 : 22 ≤ sizeLine := by decide
@[simp] theorem sz_23 : 23 ≤ sizeLine := by decide
@[simp] theorem sz_24 : 24 ≤ sizeLine := by decide
@[simp] theorem sz_25 : 25 ≤ sizeLine := by decide
@[simp] theorem sz_26 : 26 ≤ sizeLine := by decide
@[simp] theorem sz_27 : 27 ≤ sizeLine := by decide
@[simp] theorem sz_28 : 28 ≤ sizeLine := by decide
@[simp] theorem sz_29 : 29 ≤ sizeLine := by decide
@[simp] theorem sz_30 : 30 ≤ sizeLine := by decide
@[simp] theorem sz_31 : 31 ≤ sizeLine := by decide
@[simp] theorem sz_32 : 32 ≤ sizeLine := by decide
@[simp] theorem sz_33 : 33 ≤ sizeLine := by decide
@[simp] theorem sz_34 : 34 ≤ sizeLine := by decide
@[simp] theorem sz_35 : 35 ≤ sizeLine := by decide
@[simp] theorem sz_36 : 36 ≤ sizeLine := by decide
@[simp] theorem sz_37 : 37 ≤ sizeLine := by decide
@[simp] theorem sz_38 : 38 ≤ sizeLine := by decide
@[simp] theorem sz_39 : 39 ≤ sizeLine := by decide
@[simp] theorem sz_40 : 40 ≤ sizeLine := by decide
@[simp] theorem sy_0 : 0 < sizeLine := by decide
@[simp] theorem sy_1 : 1 < sizeLine := by decide
@[simp] theorem sy_2 : 2 < sizeLine := by decide
@[simp] theorem sy_3 : 3 < sizeLine := by decide
@[simp] theorem sy_4 : 4 < sizeLine := by decide
@[simp] theorem sy_5 : 5 < sizeLine := by decide
@[simp] theorem sy_6 : 6 < sizeLine := by decide
@[simp] theorem sy_7 : 7 < sizeLine := by decide
@[simp] theorem sy_8 : 8 < sizeLine := by decide
@[simp] theorem sy_9 : 9 < sizeLine := by decide
@[simp] theorem sy_10 : 10 < sizeLine := by decide
@[simp] theorem sy_11 : 11 < sizeLine := by decide
@[simp] theorem sy_12 : 12 < sizeLine := by decide
@[simp] theorem sy_13 : 13 < sizeLine := by decide
@[simp] theorem sy_14 : 14 < sizeLine := by decide
@[simp] theorem sy_15 : 15 < sizeLine := by decide
@[simp] theorem sy_16 : 16 < sizeLine := by decide
@[simp] theorem sy_17 : 17 < sizeLine := by decide
@[simp] theorem sy_18 : 18 < sizeLine := by decide
@[simp] theorem sy_19 : 19 < sizeLine := by decide
@[simp] theorem sy_20 : 20 < sizeLine := by decide
@[simp] theorem sy_21 : 21 < sizeLine := by decide
@[simp] theorem sy_22 : 22 < sizeLine := by decide
@[simp] theorem sy_23 : 23 < sizeLine := by decide
@[simp] theorem sy_24 : 24 < sizeLine := by decide
@[simp] theorem sy_25 : 25 < sizeLine := by decide
@[simp] theorem sy_26 : 26 < sizeLine := by decide
@[simp] theorem sy_27 : 27 < sizeLine := by decide
@[simp] theorem sy_28 : 28 < sizeLine := by decide
@[simp] theorem sy_29 : 29 < sizeLine := by decide
@[simp] theorem sy_30 : 30 < sizeLine := by decide
@[simp] theorem sy_31 : 31 < sizeLine := by decide
@[simp] theorem sy_32 : 32 < sizeLine := by decide
@[simp] theorem sy_33 : 33 < sizeLine := by decide
@[simp] theorem sy_34 : 34 < sizeLine := by decide
@[simp] theorem sy_35 : 35 < sizeLine := by decide
@[simp] theorem sy_36 : 36 < sizeLine := by decide
@[simp] theorem sy_37 : 37 < sizeLine := by decide
@[simp] theorem sy_38 : 38 < sizeLine := by decide
@[simp] theorem sy_39 : 39 < sizeLine := by decide
@[simp] theorem sy_40 : 40 < sizeLine := by decide
abbrev Ch := Fin 128
abbrev Tx := List Ch
def tx (l : Tx) : Str := ⟨(l.map (·.val)).toArray⟩
theorem tx_sL (l : Tx) : tx l = sL (l.map (·.val)) := rfl
@[simp] theorem tx_length (l : Tx) : (tx l).length = l.length := by simp [tx, Str.length]
@[simp] theorem tx_cps (l : Tx) : (tx l).cps.toList = l.map (·.val) := by simp [tx]
theorem vals_inj : ∀ {a b : Tx}, a.map (·.val) = b.map (·.val) → a = b
  | [], [], _ => rfl
  | [], _ :: _, h => by simp at h
  | _ :: _, [], h => by simp at h
  | x :: a, y :: b, h => by
    rw [List.map_cons, List.map_cons] at h
    injection h with h1 h2
    rw [Fin.ext h1, vals_inj h2]
@[simp] theorem tx_inj (a b : Tx) : tx a = tx b ↔ a = b := ⟨fun h => vals_inj (by rw [← tx_cps, h, tx_cps]), fun h => by rw [h]⟩
@[simp] theorem tx_append (a b : Tx) : tx a ++ tx b = tx (a ++ b) := by
  rw [tx_sL, tx_sL, tx_sL, sL_append, List.map_append]
@[simp] theorem tx_one (c : Ch) : (⟨#[c.val]⟩ : Str) = tx [c] := rfl
@[simp] theorem tx_sL_one (c : Ch) : sL [c.val] = tx [c] := rfl
@[simp] theorem tx_ok (l : Tx) : PyData.strOk (tx l) = true := by
  rw [tx_sL]
  refine strOk_sL fun c hc => ?_
  obtain ⟨x, _, rfl⟩ := List.mem_map.mp hc
  exact x.isLt
def cutG {α : Type} (l : List α) (lo hi : Option Int) : List α := (l.drop (HT.sIx l.length 0 lo)).take (HT.sIx l.length l.length hi - HT.sIx l.length 0 lo)
@[simp] theorem cutD_G (l : List D) (lo hi : Option Int) : cutD l lo hi = cutG l lo hi := rfl
@[simp] theorem cutL_G (l : List Nat) (lo hi : Option Int) : cutL l lo hi = cutG l lo hi := rfl
theorem cutG_map {α β : Type} (f : α → β) (l : List α) (lo hi : Option Int) : cutG (l.map f) lo hi = (cutG l lo hi).map f := by
  unfold cutG
  rw [List.length_map, List.map_take, List.map_drop]
@[simp] theorem cutS_tx (l : Tx) (lo hi : Option Int) : cutS (tx l) lo hi = tx (cutG l lo hi) := by
  rw [tx_sL, cutS_sL, cutL_G, cutG_map]
  rfl
@[simp] theorem cutG_all {α : Type} (l : List α) : cutG l none none = l := by
  simp [cutG, HT.sIx]
abbrev chrs (l : Tx) : List D := l.map fun c => .str (tx [c])
@[simp] theorem items_tx (l : Tx) : (l.map (·.val)).map (fun c => PyData.str (sL [c])) = chrs l := by
  rw [List.map_map]
  rfl
@[simp] theorem items_txc (l : Tx) : l.map ((fun c => PyData.str (sL [c])) ∘ fun (x : Ch) => x.val) = chrs l := rfl
@[simp] theorem itemsOf_tx (l : Tx) : itemsOf (.str (tx l)) = some (chrs l) := by
  show some ((tx l).cps.toList.map fun c => PyData.str ⟨#[c]⟩) = _
  rw [tx_cps, List.map_map]
  rfl
@[simp] theorem atI_map {α β : Type} (f : α → β) (l : List α) (i : Int) : atI (l.map f) i = (atI l i).map f := by
  unfold atI
  rw [List.length_map]
  cases ixN l.length i with
  | none => rfl
  | some k => simp
theorem dIx_tx (l : Tx) (i : Int) (h : l.length ≤ 10000) : dIx (.str (tx l)) (.int i) = (atI l i).map fun c => .str (tx [c]) := by
  have hz : (tx l).length ≤ sizeLine := by rw [tx_length]; exact le_line h
  show (if (tx l).length ≤ sizeLine then _ else _) = _
  rw [if_pos hz, tx_cps, atI_map]
  cases atI l i <;> rfl
theorem strIn_one (c : Ch) (l : Tx) : strIn (tx [c]) (tx l) = decide (c ∈ l) := by
  have h : strIn (tx [c]) (tx l) = decide (c.val ∈ (tx l).cps.toList) := PySem.StrLaws.found_one (tx l) c.val
  rw [h, tx_cps]
  refine decide_eq_decide.mpr ⟨fun h => ?_, fun h => List.mem_map_of_mem h⟩
  obtain ⟨x, hx, e⟩ := List.mem_map.mp h
  rw [← Fin.ext e]
  exact hx
@[simp] theorem dIn_one (c : Ch) (l : Tx) : dIn (.str (tx [c])) (.str (tx l)) = some (.bool (decide (c ∈ l))) := by
  show some (PyData.bool (strIn (tx [c]) (tx l))) = _
  rw [strIn_one]
@[simp] theorem dNotIn_one (c : Ch) (l : Tx) : dNotIn (.str (tx [c])) (.str (tx l)) = some (.bool (!decide (c ∈ l))) := by
  show some (PyData.bool (!strIn (tx [c]) (tx l))) = _
  rw [strIn_one]
@[simp] theorem dEq_tx (a b : Tx) : dEq (.str (tx a)) (.str (tx b)) = some (.bool (decide (a = b))) := by
  rw [dEq_str (tx_ok a) (tx_ok b)]
  exact congrArg (fun z => some (PyData.bool z)) (decide_eq_decide.mpr (tx_inj a b))
@[simp] theorem dNe_tx (a b : Tx) : dNe (.str (tx a)) (.str (tx b)) = some (.bool (!decide (a = b))) := by
  rw [dNe_str (tx_ok a) (tx_ok b)]
  exact congrArg (fun z => some (PyData.bool (!z))) (decide_eq_decide.mpr (tx_inj a b))
theorem flat_vals : ∀ ls : List Tx, (ls.map (List.map (·.val))).flatten = ls.flatten.map (·.val)
  | [] => rfl
  | l :: ls => by rw [List.map_cons, List.flatten_cons, flat_vals ls, List.flatten_cons, List.map_append]
theorem dJoin_tx (ls : List Tx) (h : ls.flatten.length ≤ 10000) : dJoin (.str (tx [])) [.list (ls.map fun l => .str (tx l))] = some (.str (tx ls.flatten)) := by
  have := dJoin_sL (ls.map (List.map (·.val))) (by rw [flat_vals, List.length_map]; exact h)
  rw [List.map_map, flat_vals] at this
  exact this
theorem dJoin_chrs (l : Tx) (h : l.length ≤ 10000) : dJoin (.str (tx [])) [.list (chrs l)] = some (.str (tx l)) := by
  have e : (l.map fun c => [c]).flatten = l := by
    induction l with
    | nil => rfl
    | cons c l ih => rw [List.map_cons, List.flatten_cons, ih (by simp at h; omega)]; rfl
  have := dJoin_tx (l.map fun c => [c]) (by rw [e]; exact h)
  rw [e, List.map_map] at this
  exact this
theorem de_strT {X : Cx} {Y : Yx} {l : Tx} {z : Str} {j} {pos : Pos} (h : z = tx l) : DE X Y (.Constant (.str z) j pos) (eC (.str (tx l))) := by
  subst h
  exact de_str
end DL
namespace DL
open PySem PySem.Spec L2 PyProof.Rows
structure Co (α : Type) where
  d : α → D
  n : Nat
  lay : ∀ a, PyData.canLay0 (d a) = true
  le : ∀ a, PyData.depth (d a) ≤ n
  inj : ∀ a b, PyData.eqv (d a) (d b) = true ↔ a = b
section
variable {α β γ δ ε : Type}
theorem layAll_map (c : Co α) : ∀ l : List α, PyData.canLayAll0 (l.map c.d) = true
  | [] => by simp [PyData.canLayAll0]
  | a :: l => by simp [PyData.canLayAll0, c.lay a, layAll_map c l]
theorem depAll_map (c : Co α) : ∀ l : List α, PyData.depthAll (l.map c.d) ≤ c.n
  | [] => by simp [PyData.depthAll]
  | a :: l => by
    have h1 := c.le a
    have h2 := depAll_map c l
    simp [PyData.depthAll]
    omega
theorem eqvAll_map (c : Co α) : ∀ l m : List α, PyData.eqvAll (l.map c.d) (m.map c.d) = true ↔ l = m
  | [], [] => by simp [PyData.eqvAll]
  | [], _ :: _ => by simp [PyData.eqvAll]
  | _ :: _, [] => by simp [PyData.eqvAll]
  | a :: l, b :: m => by simp [PyData.eqvAll, c.inj a b, eqvAll_map c l m]
def coInt : Co Int := ⟨.int, 0, fun _ => by simp [PyData.canLay0], fun _ => by simp [PyData.depth], fun _ _ => by simp [PyData.eqv]⟩
def coTup (c : Co α) : Co (List α) := ⟨fun l => .tuple (l.map c.d), c.n + 1, fun l => by simp [PyData.canLay0, layAll_map c l], fun l => by have := depAll_map c l; simp [PyData.depth]; omega, fun a b => by simp [PyData.eqv, eqvAll_map c a b]⟩
def coLst (c : Co α) : Co (List α) := ⟨fun l => .list (l.map c.d), c.n + 1, fun l => by simp [PyData.canLay0, layAll_map c l], fun l => by have := depAll_map c l; simp [PyData.depth]; omega, fun a b => by simp [PyData.eqv, eqvAll_map c a b]⟩
def co2 (c : Co α) (e : Co β) : Co (α × β) := ⟨fun p => .tuple [c.d p.1, e.d p.2], max c.n e.n + 1, fun p => by simp [PyData.canLay0, PyData.canLayAll0, c.lay, e.lay],
  fun p => by have := c.le p.1; have := e.le p.2; simp [PyData.depth, PyData.depthAll]; omega, fun p q => by simp [PyData.eqv, PyData.eqvAll, c.inj, e.inj, Prod.ext_iff]⟩
def Co.via (c : Co β) (f : α → β) (h : ∀ a b, f a = f b → a = b) : Co α := ⟨fun a => c.d (f a), c.n, fun a => c.lay _, fun a => c.le _, fun a b => (c.inj _ _).trans ⟨h a b, fun e => e ▸ rfl⟩⟩
theorem Co.sh (c : Co α) (h : c.n ≤ 64) (a : α) : SeqAt.shaped (c.d a) = true := by
  have := c.le a
  simp [SeqAt.shaped, c.lay a]
  omega
theorem Co.eqv (c : Co α) (a b : α) {_ : Decidable (a = b)} : PyData.eqv (c.d a) (c.d b) = decide (a = b) := by
  rw [Bool.eq_iff_iff, c.inj, decide_eq_true_iff]
theorem Co.eq (c : Co α) (a b : α) {_ : Decidable (a = b)} (h : c.n ≤ 64 := by decide) : dEq (c.d a) (c.d b) = some (.bool (decide (a = b))) := by
  unfold dEq
  rw [if_pos ⟨c.sh h a, c.sh h b⟩, c.eqv]
theorem Co.ne (c : Co α) (a b : α) {_ : Decidable (a = b)} (h : c.n ≤ 64 := by decide) : dNe (c.d a) (c.d b) = some (.bool (!decide (a = b))) := by
  unfold dNe
  rw [if_pos ⟨c.sh h a, c.sh h b⟩, c.eqv]
theorem Co.any (c : Co α) (l : List α) (a : α) {_ : Decidable (a ∈ l)} : ((l.map c.d).any fun z => PyData.eqv z (c.d a)) = decide (a ∈ l) := by
  rw [Bool.eq_iff_iff, List.any_eq_true, decide_eq_true_iff]
  constructor
  · rintro ⟨z, hz, e⟩
    obtain ⟨b, hb, rfl⟩ := List.mem_map.mp hz
    rw [← (c.inj b a).mp e]
    exact hb
  · exact fun h => ⟨c.d a, List.mem_map_of_mem h, (c.inj a a).mpr rfl⟩
theorem dNotIn_lst (x : D) (ys : List D) : dNotIn x (.list ys) = if SeqAt.shaped x = true ∧ SeqAt.shaped (.list ys) = true then some (.bool (!ys.any fun z => PyData.eqv z x)) else none := by cases x <;> rfl
theorem Co.notL (c : Co α) (a : α) (l : List α) {_ : Decidable (a ∈ l)} (h : c.n ≤ 63 := by decide) : dNotIn (c.d a) (.list (l.map c.d)) = some (.bool (!decide (a ∈ l))) := by
  rw [dNotIn_lst, if_pos ⟨c.sh (by omega) a, (coLst c).sh (by show c.n + 1 ≤ 64; omega) l⟩, c.any]
end
section
variable {α S : Type} {set : D → Env → Option Env} {body : SC}
end
theorem while_go {S : Type} {t : TC} {body : SC} (E : S → Env) (I : S → Prop) (m : S → Nat) (F : S → Prop) (h : ∀ s, I s → (t (E s) = .ok false (E s) ∧ F s) ∨ (t (E s) = .ok true (E s) ∧ ∃ s', (body (E s) = .nx (E s') ∨ body (E s) = .ct (E s')) ∧ I s' ∧ m s' < m s)) : ∀ (n : Nat) (s : S), I s → m s < n → ∃ s', whileRun t body n (E s) = .nx (E s') ∧ I s' ∧ F s'
  | 0, s, _, hn => absurd hn (Nat.not_lt_zero _)
  | n + 1, s, hi, hn => by
    unfold whileRun
    rcases h s hi with ⟨e, hf⟩ | ⟨e, s1, e1, h1, hm⟩
    · refine ⟨s, ?_, hi, hf⟩
      rw [e]
      simp
    · obtain ⟨s', e2, h2⟩ := while_go E I m F h n s1 h1 (by omega)
      refine ⟨s', ?_, h2⟩
      rw [e]
      rcases e1 with e1 | e1 <;> simp only [e1, Out.then, if_true] <;> exact e2
theorem lc_filter {α : Type} {vs : List Nat} {set : D → Env → Option Env} {t : TC} {fe : EC} {ρ0 : Env} (en : α → D) (p : α → Bool) (g : α → D) : ∀ (xs : List α) (acc : List D),
    (∀ x ∈ xs, ∃ ρd, set (en x) ρ0 = some ρd ∧ t ρd = .ok (p x) ρd ∧ (p x = true → fe ρd = .ok (.val (g x)) ρd) ∧ allPlain ρd vs = true ∧ wipeE ρd vs = ρ0) → acc.length + xs.length ≤ 10000 →
    lcRun vs set t fe (xs.map en) ρ0 acc = .ok (acc ++ (xs.filter p).map g) ρ0
  | [], acc, _, _ => by simp [lcRun]
  | x :: xs, acc, h, hl => by
    obtain ⟨ρd, e1, e2, e3, e4, e5⟩ := h x (by simp)
    have hl : acc.length + (xs.length + 1) ≤ 10000 := hl
    have hz : acc.length < sizeLine := lt_line (by omega)
    rw [List.map_cons]
    unfold lcRun
    rw [e1]
    simp only [e2]
    cases hp : p x with
    | true =>
      simp only [e3 hp]
      rw [if_pos ⟨hz, e4⟩, e5, lc_filter en p g xs _ (fun y hy => h y (List.mem_cons_of_mem _ hy)) (by simp; omega)]
      simp [hp]
    | false =>
      simp only
      rw [if_pos e4, e5, lc_filter en p g xs _ (fun y hy => h y (List.mem_cons_of_mem _ hy)) (by omega)]
      simp [hp]
theorem nlc_filter {α : Type} {vs : List Nat} {fi : Env → Out (List D)} {set : D → Env → Option Env} {t : TC} {fe : EC} {ρ ρ1 ρ0 : Env} (xs : List α) (en : α → D) (p : α → Bool) (g : α → D)
    (hi : fi ρ = .ok (xs.map en) ρ1) (hp : allPlain ρ1 vs = true) (hw : wipeE ρ1 vs = ρ0) (hb : backE ρ1 ρ0 vs = ρ1) (hl : xs.length ≤ 10000)
    (h : ∀ x ∈ xs, ∃ ρd, set (en x) ρ0 = some ρd ∧ t ρd = .ok (p x) ρd ∧ (p x = true → fe ρd = .ok (.val (g x)) ρd) ∧ allPlain ρd vs = true ∧ wipeE ρd vs = ρ0) :
    nLc vs fi set t fe ρ = .ok ((xs.filter p).map g) ρ1 := by
  unfold nLc
  rw [hi]
  simp only [Out.bind]
  rw [if_pos hp, hw, lc_filter en p g xs [] h (by simpa using hl)]
  have e0 : allPlain ρ0 vs = true := by
    rw [← hw]
    exact List.all_eq_true.mpr fun i hi => plain_wipe (List.all_eq_true.mp hp i hi) vs
  simp [hb, e0]
theorem nlc_map {α : Type} {vs : List Nat} {fi : Env → Out (List D)} {set : D → Env → Option Env} {fe : EC} {ρ ρ1 ρ0 : Env} (xs : List α) (en : α → D) (g : α → D)
    (hi : fi ρ = .ok (xs.map en) ρ1) (hp : allPlain ρ1 vs = true) (hw : wipeE ρ1 vs = ρ0) (hb : backE ρ1 ρ0 vs = ρ1) (hl : xs.length ≤ 10000)
    (h : ∀ x ∈ xs, ∃ ρd, set (en x) ρ0 = some ρd ∧ fe ρd = .ok (.val (g x)) ρd ∧ allPlain ρd vs = true ∧ wipeE ρd vs = ρ0) :
    nLc vs fi set tYesD fe ρ = .ok (xs.map g) ρ1 := by
  have := nlc_filter (t := tYesD) xs en (fun _ => true) g hi hp hw hb hl fun x hx => by
    obtain ⟨ρd, h1, h2, h3, h4⟩ := h x hx
    exact ⟨ρd, h1, rfl, fun _ => h2, h3, h4⟩
  rw [this, List.filter_eq_self.mpr fun _ _ => rfl]
theorem lc_runA {α S : Type} {vs : List Nat} {set : D → Env → Option Env} {fe : EC} (en : α → D) (E : S → Env) (I : S → Prop) (R : α → D → Prop) : ∀ (xs : List α) (acc : List D) (s : S), I s →
    (∀ x ∈ xs, ∀ s, I s → ∃ ρd ρ3 v s', set (en x) (E s) = some ρd ∧ fe ρd = .ok (.val v) ρ3 ∧ I s' ∧ R x v ∧ allPlain ρ3 vs = true ∧ wipeE ρ3 vs = E s') → acc.length + xs.length ≤ 10000 →
    ∃ (outs : List D) (s' : S), lcRun vs set tYesD fe (xs.map en) (E s) acc = .ok (acc ++ outs) (E s') ∧ I s' ∧ All2 R xs outs
  | [], acc, s, hI, _, _ => ⟨[], s, by simp [lcRun], hI, .nil⟩
  | x :: xs, acc, s, hI, h, hl => by
    have hl : acc.length + (xs.length + 1) ≤ 10000 := hl
    have hz : acc.length < sizeLine := lt_line (by omega)
    obtain ⟨ρd, ρ3, v, s1, e1, e2, h1, hr, e4, e5⟩ := h x (by simp) s hI
    obtain ⟨outs, s', e, hI', ha⟩ := lc_runA en E I R xs (acc ++ [v]) s1 h1 (fun y hy => h y (List.mem_cons_of_mem _ hy)) (by simp; omega)
    refine ⟨v :: outs, s', ?_, hI', .cons hr ha⟩
    rw [List.map_cons]
    unfold lcRun
    rw [e1]
    simp only [tYesD, e2]
    rw [if_pos ⟨hz, e4⟩, e5, e]
    simp
theorem nlc_runA {α S : Type} {vs : List Nat} {fi : Env → Out (List D)} {set : D → Env → Option Env} {fe : EC} {ρ ρ1 : Env} (xs : List α) (en : α → D) (E : S → Env) (I : S → Prop) (R : α → D → Prop) (s : S) (B : S → Env)
    (hi : fi ρ = .ok (xs.map en) ρ1) (hp : allPlain ρ1 vs = true) (hw : wipeE ρ1 vs = E s) (hI : I s) (hb : ∀ s, I s → allPlain (E s) vs = true ∧ backE ρ1 (E s) vs = B s) (hl : xs.length ≤ 10000)
    (h : ∀ x ∈ xs, ∀ s, I s → ∃ ρd ρ3 v s', set (en x) (E s) = some ρd ∧ fe ρd = .ok (.val v) ρ3 ∧ I s' ∧ R x v ∧ allPlain ρ3 vs = true ∧ wipeE ρ3 vs = E s') :
    ∃ (outs : List D) (s' : S), nLc vs fi set tYesD fe ρ = .ok outs (B s') ∧ I s' ∧ All2 R xs outs := by
  obtain ⟨outs, s', e, hI', ha⟩ := lc_runA en E I R xs [] s hI h (by simpa using hl)
  refine ⟨outs, s', ?_, hI', ha⟩
  unfold nLc
  rw [hi]
  simp only [Out.bind]
  rw [if_pos hp, hw, e]
  obtain ⟨h1, h2⟩ := hb s' hI'
  simp [h1, h2]
theorem all2_dec {α β : Type} {R : α → D → Prop} (en : β → D) {P : α → β → Prop} (h : ∀ x v, R x v → ∃ b, v = en b ∧ P x b) : ∀ {xs : List α} {outs : List D}, All2 R xs outs → ∃ bs : List β, outs = bs.map en ∧ All2 P xs bs
  | _, _, .nil => ⟨[], rfl, .nil⟩
  | _, _, .cons r t => by
    obtain ⟨b, rfl, hb⟩ := h _ _ r
    obtain ⟨bs, rfl, hbs⟩ := all2_dec en h t
    exact ⟨b :: bs, rfl, .cons hb hbs⟩
theorem All2.len {α β : Type} {R : α → β → Prop} : ∀ {xs : List α} {ys : List β}, All2 R xs ys → ys.length = xs.length
  | _, _, .nil => rfl
  | _, _, .cons _ t => congrArg (· + 1) t.len
theorem All2.right {α β : Type} {R : α → β → Prop} {P : β → Prop} (h : ∀ a b, R a b → P b) : ∀ {xs : List α} {ys : List β}, All2 R xs ys → ∀ y ∈ ys, P y
  | _, _, .nil, _, hy => by cases hy
  | _, _, .cons r t, y, hy => by
    rcases List.mem_cons.mp hy with rfl | hy
    · exact h _ _ r
    · exact t.right h y hy
end DL
namespace DL
open PySem PySem.Spec L2 PyProof.Rows
section
variable {α β : Type}
theorem rng_map (n : Nat) : rng 0 n = (List.range n).map fun (i : Nat) => .int (i : Int) := by
  unfold rng
  simp
theorem atI_some {l : List α} {k : Nat} {x : α} (h : l[k]? = some x) : atI l (k : Int) = some x := by
  obtain ⟨hk, e⟩ := List.getElem?_eq_some_iff.mp h
  rw [atI_nat l k hk, e]
theorem range_ok {ρ ρ1 : Env} {fa : Env → Out (List VV)} {n : Nat} (h : fa ρ = .ok [.val (.int (n : Nat))] ρ1) (hn : n ≤ 100000) : eRng1 fa ρ = .ok (rng 0 n) ρ1 := by
  have := eRng1_ok (n := (n : Nat)) h (by omega)
  rwa [Int.toNat_natCast] at this
end
open TL
def headC (acc : Tx) : List Tx → List Tx
  | p :: ps => (acc ++ p) :: ps
  | [] => []
def splitC (c : Ch) : Tx → List Tx
  | [] => [[]]
  | x :: l => if x = c then [] :: splitC c l else headC [x] (splitC c l)
theorem splitC_ne (c : Ch) : ∀ l, splitC c l ≠ []
  | [] => by simp [splitC]
  | x :: l => by
    unfold splitC
    split
    · simp
    · cases h : splitC c l with
      | nil => exact absurd h (splitC_ne c l)
      | cons p ps => simp [headC]
theorem headC_nil : ∀ ps, headC [] ps = ps
  | [] => rfl
  | _ :: _ => rfl
theorem headC_app (a b : Tx) : ∀ ps, headC a (headC b ps) = headC (a ++ b) ps
  | [] => rfl
  | p :: ps => by simp [headC]
theorem spl_C (c : Ch) : ∀ (l acc : Tx), spl [c.val] 0 (acc.map (·.val)) (l.map (·.val)) = (headC acc (splitC c l)).map (List.map (·.val))
  | [], acc => by
    show spl [c.val] 0 (acc.map (·.val)) [] = _
    rw [spl_nil]
    simp [splitC, headC]
  | x :: l, acc => by
    rw [List.map_cons]
    unfold splitC
    by_cases h : x = c
    · subst h
      have hp : pre [x.val] (x.val :: l.map (·.val)) = true := by simp [pre]
      have ih := spl_C x l []
      rw [spl_hit hp, if_pos rfl]
      show acc.map (·.val) :: spl [x.val] 0 [] (l.map (·.val)) = _
      rw [List.map_nil] at ih
      rw [ih, headC_nil]
      simp [headC]
    · have hp : pre [c.val] (x.val :: l.map (·.val)) = false := by
        have : ¬ x.val = c.val := fun e => h (Fin.ext e)
        simp [pre, this]
      have ih := spl_C c l (acc ++ [x])
      rw [List.map_append] at ih
      rw [spl_miss hp, if_neg h, headC_app]
      exact ih
theorem split_tx (l : Tx) (c : Ch) : Txt.split (tx l) (tx [c]) = (splitC c l).map tx := by
  have e : tl (tx [c]) = [c.val] := tx_cps [c]
  refine map_tl_inj ?_
  rw [split_spl _ _ (by rw [e]; simp) (kind_ok ?_), e]
  · have := spl_C c l []
    rw [headC_nil] at this
    have el : tl (tx l) = l.map (·.val) := tx_cps l
    rw [el]
    refine this.trans ?_
    rw [List.map_map]
    exact List.map_congr_left fun p _ => (tx_cps p).symm
  · rw [← Array.all_toList, tx_cps, List.map_cons, List.map_nil, List.all_cons, List.all_nil, Bool.and_true, decide_eq_true_iff]
    have := c.isLt
    omega
theorem le_trans_line {n : Nat} (h : n ≤ 100000) : n ≤ sizeLine := Nat.le_trans h (by decide)
theorem dSplit_tx (l : Tx) (c : Ch) (h : l.length ≤ 10000) : dSplit (.str (tx l)) [.str (tx [c])] = some (.list ((splitC c l).map fun p => .str (tx p))) := by
  have h1 : ((tx [c]).length == 0) = false := by simp
  have h2 : (tx l).length + 2 ≤ sizeLine := by
    rw [tx_length]
    exact le_trans_line (by omega)
  show (if ((tx [c]).length == 0) = false ∧ (tx l).length + 2 ≤ sizeLine then some (PyData.list ((Txt.split (tx l) (tx [c])).map PyData.str)) else none) = _
  rw [if_pos ⟨h1, h2⟩, split_tx, List.map_map]
  rfl
theorem splitC_flat (c : Ch) : ∀ l, (splitC c l).flatten.length ≤ l.length ∧ (splitC c l).length ≤ l.length + 1
  | [] => by simp [splitC]
  | x :: l => by
    have ih := splitC_flat c l
    unfold splitC
    split
    · simp only [List.flatten_cons, List.nil_append, List.length_cons]
      omega
    · cases h : splitC c l with
      | nil => exact absurd h (splitC_ne c l)
      | cons p ps =>
        rw [h] at ih
        simp only [headC, List.flatten_cons, List.length_append, List.length_cons, List.length_nil] at ih ⊢
        omega
end DL
namespace DL
open PySem PySem.Spec L2 PyProof.Rows
structure ClsF (K : Fg) (c : Str) (C : Addr) : Prop where
  g : IsCls K c C
  cl : Cls K C
theorem IsCls.uniq {K : Fg} {c : Str} {C C' : Addr} (h : IsCls K c C) (h' : IsCls K c C') : C = C' := by
  unfold IsCls at h h'
  rw [h] at h'
  injection h' with h'
  injection h' with h'
  injection h'
section
variable {κ : Type} [BEq κ] {K : Fg} {J : Hp}
theorem KvAll.len {vs : List (κ × V)} {ds : List (κ × D)} (h : KvAll K J vs ds) : vs.length = ds.length := by
  induction h with
  | nil => rfl
  | cons _ _ ih => exact congrArg (· + 1) ih
end
def putD (f : Str) (v : D) : List (Str × D) → List (Str × D)
  | [] => [(f, v)]
  | (g, x) :: r => if g = f then (g, v) :: r else (g, x) :: putD f v r
theorem KvAll.putF {K : Fg} {J : Hp} {f : Str} {v : V} {d : D} (r : Rp K J v d) : ∀ {vs : List (Str × V)} {ds : List (Str × D)}, KvAll K J vs ds → KvAll K J (putF f v vs) (putD f d ds)
  | _, _, .nil => .cons r .nil
  | (k, _) :: _, _, .cons q t => by
    unfold L2.putF putD
    by_cases h : k = f
    · rw [if_pos h, if_pos h]
      exact .cons r t
    · rw [if_neg h, if_neg h]
      exact .cons q (t.putF r)
section
variable {K : Fg} {G : Gd} {J H J' H' : Hp} {σ : L2.St} {ρ : Env}
end
@[simp] def eFld (i : Nat) (f : Str) (ρ : Env) : Out VV := match ρ[i]? with
  | some (.own _ (.obj _ fs)) => match fs.lookup f with
    | some d => .ok (.val d) ρ
    | none => .bad
  | _ => .bad
@[simp] def isObj (c : Str) (ρ : Env) (i : Nat) : Bool := match ρ[i]? with
  | some (.own _ (.obj c' _)) => decide (c' = c)
  | _ => false
@[simp] def eFldC (c : Str) (i : Nat) (f : Str) (ρ : Env) : Out VV := match ρ[i]? with
  | some (.own _ (.obj c' fs)) => if c' = c then (match fs.lookup f with
    | some d => .ok (.val d) ρ
    | none => .bad) else .bad
  | _ => .bad
@[simp] def sFldC (c : Str) (i : Nat) (f : Str) (fe : EC) (ρ : Env) : SO := (fe ρ).then fun y ρ1 => match keepV ρ1 y with
  | some (d, ρ2) => match ρ2[i]? with
    | some (.own fx (.obj c' fs)) => if c' = c ∧ fs.length < 1000 then .nx (ρ2.set i (.own fx (.obj c' (putD f d fs)))) else .bad
    | _ => .bad
  | none => .bad
@[simp] def sFldAugC (c : Str) (i : Nat) (f : Str) (g : D → D → Option D) (fe : EC) (ρ : Env) : SO := match ρ[i]? with
  | some (.own _ (.obj c' fs)) => if c' = c then (match fs.lookup f with
    | some dx => (fe ρ).then fun y ρ1 => match deref ρ1 y with
      | some dy => match g dx dy with
        | some d => match ρ1[i]? with
          | some (.own fx (.obj c2 fs2)) => if c2 = c ∧ fs2.length < 1000 then .nx (ρ1.set i (.own fx (.obj c2 (putD f d fs2)))) else .bad
          | _ => .bad
        | none => .bad
      | none => .bad
    | none => .bad) else .bad
  | _ => .bad
section
variable {X : Cx} {Y : Yx} {a b c e : Expr} {pos : Pos}
end
def tMethO (C : Addr) (m : Str) (sp : Sp) (E : L2.St → XK) (ta : TE) (t : TA) : TE := fun σ H Q => ta σ H fun x H1 => ∃ a dx fs, x = .ref a ∧ H1 a = some (.ins C dx fs) ∧ fs.lookup m = none ∧ t σ H1 fun vs H2 => sp (x :: vs) H2 Q (E σ)
@[simp] def eMethO (c m : Str) (i n : Nat) (f : Own → List D → OO) (fa : Env → Out (List VV)) (ρ : Env) : Out VV := match ρ[i]? with
  | some (.own _ (.obj c' fs)) => if c' = c ∧ fs.lookup m = none then eCallO i n f fa ρ else .bad
  | _ => .bad
section
variable {X : Cx} {Y : Yx} {a b c e : Expr} {pos : Pos}
abbrev MethT (X : Cx) (o : Expr) (m : Str) (apos pos : Pos) (es : List Expr) (pl : Sem Bool) : Prop := eval (.Call (.Attribute o m apos) es [] pos) X.env =
  (eval o X.env >>= fun ov => standAt apos.atName >>= fun _ => holding [ov] (getMethod ov m pl) >>= fun r => callWith pos r.1 r.2 (backTo pos (starEach es X.env)) (backToKw pos (keywordEach [] X.env)))
theorem pe_methO {CX : CXT} {k : Nat} {C f : Addr} {fd : FuncData} {ps : List Str} {sp : Sp} {E : L2.St → XK} {o : Expr} {es : List Expr} {m : Str} {apos : Pos} {ta : TE} {t : TA} {pl : Sem Bool} (ho : PE X o ta) (cl : Cls X.G C) (hm : Meth X.G C m f)
    (F : FnOk X.prog X.w X.G X.mg X.base CX k f fd ps sp) (hr : Room k X.A) (hb : Binds X.G fd ps []) (hx : ∀ σ, PassesAt CX X σ (E σ)) (ha : PA X (e :: es) t) (hst : starEach (e :: es) X.env = (false, eval e X.env) :: starEach es X.env)
    (hpl : (backTo pos (starEach es X.env)).any (·.1) = false) (ht : MethT X o m apos pos (e :: es) pl) : PE X (.Call (.Attribute o m apos) (e :: es) [] pos) (tMethO C m sp E ta t) := ⟨fun pins s σ H Q I h => by
  refine PySem.W.methodCall_KW (pl := pl) (thn (ho.run pins s σ H _ I h) fun u s1 ⟨x, H1, I1, rx, a, dx, fs, ex, ea, l, q⟩ => ?_) ht
  subst ex
  cases rx
  refine getmeth_ok I1 ea cl hm l (PySem.W.callWith_K (first := [.ref a]) (h₀ := X.base) I1.ok.mod.kin hm.kp ?_ hst hpl)
  exact thn (ha.run pos pins s1 σ H1 _ I1 q) fun us s2 ⟨vs, H2, I2, r, q2⟩ => ⟨I2.kIn, run_fnS (us := .ref a :: us) (vs := .ref a :: vs) F hr hb (hx σ) I2 (.cons rfl r) q2⟩⟩
@[simp] def sMake (c : Str) (i n : Nat) (mm : Own → List D → OO) (fa : Env → Out (List VV)) (ρ : Env) : SO := (fa ρ).then fun xs ρ1 => match vals xs with
  | some ds => if ds.length = n then (match mm (.obj c []) ds with
    | .ret .none o => if loose ρ1 i = true then .nx (ρ1.set i (.own false o)) else .bad
    | _ => .bad) else .bad
  | none => .bad
end
end DL
namespace DL
open PySem PySem.Spec L2 PyProof.Rows
def dMulA : D → D → Option D
  | .tuple xs, .int k => if xs.isEmpty = false ∧ 2 ≤ k ∧ Nat.ble k.natAbs 1000 = true ∧ Nat.ble xs.length 1000 = true then some (.tuple (List.replicate k.toNat xs).flatten) else none
  | x, y => dMul x y
@[simp] theorem dMulA_int (a b : Int) : dMulA (.int a) (.int b) = if mulOk a b = true then some (.int (a * b)) else none := rfl
@[simp] theorem dMulA_str (a : Str) (b : Int) : dMulA (.str a) (.int b) = dMul (.str a) (.int b) := rfl
section
variable {X : Cx}
theorem rp_tupS {K : Fg} {J H : Hp} {v : V} {xs : List D} (s : Same J H) (h : Wk K J H v (.tuple xs)) : ∃ a vs, v = .ref a ∧ SqT K H a vs ∧ RpAll K J vs xs := by
  obtain ⟨a, vs, h1, h2, h3, _⟩ := h.tup s
  exact ⟨a, vs, h1, h2, h3⟩
theorem od_mulA : OpD X (binaryOp .Mult) dMulA := by
  intro pins s σ H x y v u Q I rx ry h
  obtain ⟨J, dx, dy, d, sj, wx, wy, e, q⟩ := h
  by_cases ht : ∃ xs k, dx = .tuple xs ∧ dy = .int k
  · obtain ⟨xs, k, rfl, rfl⟩ := ht
    unfold dMulA at e
    dsimp only at e
    split at e
    · rename_i hc
      obtain ⟨h0, h1, h2, h3⟩ := hc
      cases e
      obtain ⟨a, vs, rfl, hs, hr⟩ := rp_tupS sj wx
      cases wy.int
      have h2 := Nat.le_of_ble_eq_true h2
      have h3 := Nat.le_of_ble_eq_true h3
      have hl := dps_len hr
      refine op_repT pins s σ H _ _ v u Q I rx ry ⟨a, k, vs, rfl, rfl, hs, fun z => ?_, h1, by omega, by omega, fun p hp => ?_⟩
      · subst z
        cases hr
        cases h0
      · refine q _ _ _ (Grow.new sj hp) (.tup (.of upd_same) ?_)
        exact dps_mono (same_new (same_free sj hp)) _ _ (dps_rep hr k.toNat)
    · cases e
  · refine od_mul pins s σ H x y v u Q I rx ry ⟨J, dx, dy, d, sj, wx, wy, ?_, q⟩
    rw [← e]
    cases dx <;> first | rfl | skip
    cases dy <;> first | rfl | skip
    exact (ht ⟨_, _, rfl, rfl⟩).elim
end
@[simp] def eCallOT (n1 : Nat) (m1 : List D → FO) (m : Own → List D → OO) (fa : Env → Out (List VV)) (ρ : Env) : Out VV := (fa ρ).bind fun xs ρ1 => match vals xs with
  | some ds => if ds.length = n1 then (match m1 ds with
    | .own o => match m o [] with
      | .ret d _ => .ok (.val d) ρ1
      | .exc e _ => .exc e ρ1
      | .bad => .bad
    | .exc e => .exc e ρ1
    | _ => .bad) else .bad
  | none => .bad
section
variable {X : Cx} {Y : Yx} {e : Expr} {pos : Pos}
end
end DL
namespace DL
open PySem PySem.Spec L2 PyProof.Rows
theorem ofString_inj {a b : String} (h : Str.ofString a = Str.ofString b) : a = b := by
  have h2 : a.toList.map Char.toNat = b.toList.map Char.toNat := by rw [← TL.tl_ofString, ← TL.tl_ofString, h]
  have inj : ∀ {l m : List Char}, l.map Char.toNat = m.map Char.toNat → l = m := by
    intro l
    induction l with
    | nil => intro m h; cases m <;> simp at h; rfl
    | cons c l ih =>
      intro m h
      cases m with
      | nil => simp at h
      | cons d m =>
        rw [List.map_cons, List.map_cons] at h
        injection h with h1 h2
        rw [ih h2]
        congr 1
        exact Char.ext (UInt32.toNat_inj.mp h1)
  exact String.ext (inj h2)
@[simp] theorem ofString_eq (a b : String) : (Str.ofString a = Str.ofString b) = (a = b) := propext ⟨ofString_inj, fun h => by rw [h]⟩
@[simp] theorem ofString_beq (a b : String) : (Str.ofString a == Str.ofString b) = decide (a = b) := by
  rw [Bool.eq_iff_iff, beq_iff_eq, decide_eq_true_iff, ofString_eq]
@[reducible] def fnV (x : Str) : D := .dict [(.dict [], .str x)]
inductive FTab (X : Cx) (Y : Yx) (n : Nat) : List (Str × (List D → FO)) → Prop
  | nil : FTab X Y n []
  | cons {x : Str} {m : List D → FO} {tbl : List (Str × (List D → FO))} {k : Nat} {f : Addr} {fd : FuncData} {ps : List Str} (F : FnOk X.prog X.w X.G X.mg X.base (L2.CX X.prog X.w) k f fd ps (spP X.G Y.ct n m)) (hr : Room k X.A) (hk : PySem.W.keepIn X.G (.ref f) = true)
    (hb : Binds X.G fd ps []) (g : IsCls X.G x f) : FTab X Y n tbl → FTab X Y n ((x, m) :: tbl)
@[simp] def eCallV (i n : Nat) (tbl : List (Str × (List D → FO))) (fa : Env → Out (List VV)) (ρ : Env) : Out VV := match ρ[i]? with
  | some (.d (.dict [(.dict [], .str x)])) => match tbl.lookup x with
    | some m => eCall n m fa ρ
    | none => .bad
  | _ => .bad
section
variable {X : Cx} {Y : Yx} {e : Expr} {pos : Pos}
theorem FTab.get {n : Nat} {x : Str} {m : List D → FO} {tbl : List (Str × (List D → FO))} (T : FTab X Y n tbl) (h : tbl.lookup x = some m) :
    ∃ k f fd ps, FnOk X.prog X.w X.G X.mg X.base (L2.CX X.prog X.w) k f fd ps (spP X.G Y.ct n m) ∧ Room k X.A ∧ PySem.W.keepIn X.G (.ref f) = true ∧ Binds X.G fd ps [] ∧ IsCls X.G x f := by
  induction T with
  | nil => cases h
  | @cons y m' tbl k f fd ps F hr hk hb g T ih =>
    rw [List.lookup_cons] at h
    cases hxy : x == y with
    | true =>
      rw [hxy] at h
      cases h
      have e := eq_of_beq hxy
      subst e
      exact ⟨k, f, fd, ps, F, hr, hk, hb, g⟩
    | false =>
      rw [hxy] at h
      exact ih h
end
end DL
namespace DL
open PySem PySem.Spec L2 PyProof.Rows
@[simp] theorem atI_c0 {α : Type} (a : α) (l : List α) : atI (a :: l) 0 = some a := by simp [atI, ixN]
@[simp] theorem atI_c1 {α : Type} (a b : α) (l : List α) : atI (a :: b :: l) 1 = some b := by
  have h : (1 : Int) < (l.length : Int) + 1 + 1 := by omega
  simp [atI, ixN, h]
@[simp] theorem atI_c2 {α : Type} (a b c : α) (l : List α) : atI (a :: b :: c :: l) 2 = some c := by
  have h : (2 : Int) < (l.length : Int) + 1 + 1 + 1 := by omega
  simp [atI, ixN, h]
@[simp] theorem atI_c3 {α : Type} (a b c d : α) (l : List α) : atI (a :: b :: c :: d :: l) 3 = some d := by
  have h : (3 : Int) < (l.length : Int) + 1 + 1 + 1 + 1 := by omega
  simp [atI, ixN, h]
@[simp] theorem atI_c4 {α : Type} (a b c d e : α) (l : List α) : atI (a :: b :: c :: d :: e :: l) 4 = some e := by
  have h : (4 : Int) < (l.length : Int) + 1 + 1 + 1 + 1 + 1 := by omega
  simp [atI, ixN, h]
@[simp] theorem atI_c5 {α : Type} (a b c d e f : α) (l : List α) : atI (a :: b :: c :: d :: e :: f :: l) 5 = some f := by
  have h : (5 : Int) < (l.length : Int) + 1 + 1 + 1 + 1 + 1 + 1 := by omega
  simp [atI, ixN, h]
def ShN (n : Nat) (d : D) : Prop := PyData.canLay0 d = true ∧ PyData.depth d ≤ n
section
variable {α : Type}
theorem ShN.sh {n : Nat} {d : D} (h : ShN n d) (hn : n ≤ 64 := by decide) : SeqAt.shaped d = true := by
  have := h.2
  simp [SeqAt.shaped, h.1]
  omega
theorem ShN.le {n m : Nat} {d : D} (h : ShN n d) (hn : n ≤ m) : ShN m d := ⟨h.1, Nat.le_trans h.2 hn⟩
end
end DL
namespace DL
open PySem PySem.Spec L2 PyProof.Rows
def bi (b : Bool) : Int := if b = true then 1 else 0
mutual
def ltB : D → D → Bool
  | .int a, .int b => decide (a < b)
  | .bool a, .bool b => decide (bi a < bi b)
  | .bool a, .int b => decide (bi a < b)
  | .int a, .bool b => decide (a < bi b)
  | .str a, .str b => decide (a.cps.toList < b.cps.toList)
  | .tuple xs, .tuple ys => ltL xs ys
  | _, _ => false
def ltL : List D → List D → Bool
  | [], [] => false
  | [], _ :: _ => true
  | _ :: _, [] => false
  | x :: xs, y :: ys => if PyData.eqv x y = true then ltL xs ys else ltB x y
end
mutual
def cmpOk : D → D → Bool
  | .int _, .int _ => true
  | .bool _, .bool _ => true
  | .str _, .str _ => true
  | .tuple xs, .tuple ys => cmpL xs ys
  | _, _ => false
def cmpL : List D → List D → Bool
  | [], _ => true
  | _ :: _, [] => true
  | x :: xs, y :: ys => cmpOk x y && cmpL xs ys
end
mutual
def ordd : D → Bool
  | .int _ => true
  | .bool _ => true
  | .str x => PyData.strOk x
  | .tuple xs => orddL xs
  | _ => false
def orddL : List D → Bool
  | [] => true
  | x :: xs => ordd x && orddL xs
end
mutual
def ordI : D → Bool
  | .int _ => true
  | .str x => PyData.strOk x
  | .tuple xs => ordIL xs
  | _ => false
def ordIL : List D → Bool
  | [] => true
  | x :: xs => ordI x && ordIL xs
end
mutual
def nb : D → D
  | .bool b => .int (bi b)
  | .tuple xs => .tuple (nbL xs)
  | d => d
def nbL : List D → List D
  | [] => []
  | x :: xs => nb x :: nbL xs
end
theorem natL_irr : ∀ l : List Nat, ¬ l < l
  | [] => by simp
  | a :: l => by
    rw [List.cons_lt_cons_iff]
    rintro (h | ⟨_, h⟩)
    · omega
    · exact natL_irr l h
theorem natL_tr : ∀ {a b c : List Nat}, a < b → b < c → a < c
  | [], _, [], _, h => by simp at h
  | [], _, _ :: _, _, _ => by simp
  | _ :: _, [], _, h, _ => by simp at h
  | _ :: _, _ :: _, [], _, h => by simp at h
  | x :: a, y :: b, z :: c, h1, h2 => by
    rw [List.cons_lt_cons_iff] at h1 h2 ⊢
    rcases h1 with h1 | ⟨e1, h1⟩ <;> rcases h2 with h2 | ⟨e2, h2⟩
    · exact .inl (by omega)
    · exact .inl (by omega)
    · exact .inl (by omega)
    · exact .inr ⟨by omega, natL_tr h1 h2⟩
theorem natL_tri : ∀ {a b : List Nat}, a < b ∨ a = b ∨ b < a
  | [], [] => .inr (.inl rfl)
  | [], _ :: _ => .inl (by simp)
  | _ :: _, [] => .inr (.inr (by simp))
  | x :: a, y :: b => by
    rw [List.cons_lt_cons_iff, List.cons_lt_cons_iff]
    rcases Nat.lt_trichotomy x y with h | h | h
    · exact .inl (.inl h)
    · rcases natL_tri (a := a) (b := b) with k | k | k
      · exact .inl (.inr ⟨h, k⟩)
      · exact .inr (.inl (by rw [h, k]))
      · exact .inr (.inr (.inr ⟨h.symm, k⟩))
    · exact .inr (.inr (.inl h))
theorem str_ext {a b : Str} (h : a.cps.toList = b.cps.toList) : a = b := by
  cases a
  cases b
  simp only at h
  rw [Array.toList_inj.mp h]
mutual
theorem eqv_I : ∀ (x y : D), ordI x = true → ordI y = true → (PyData.eqv x y = true ↔ x = y)
  | .int a, .int b, _, _ => by simp [PyData.eqv]
  | .str a, .str b, _, _ => by simp [PyData.eqv]
  | .tuple xs, .tuple ys, h1, h2 => by
    unfold ordI at h1 h2
    have ih := eqvAll_I xs ys h1 h2
    simp only [PyData.eqv, ih, PyData.tuple.injEq]
  | .int _, .str _, _, _ => by simp [PyData.eqv]
  | .int _, .tuple _, _, _ => by simp [PyData.eqv]
  | .str _, .int _, _, _ => by simp [PyData.eqv]
  | .str _, .tuple _, _, _ => by simp [PyData.eqv]
  | .tuple _, .int _, _, _ => by simp [PyData.eqv]
  | .tuple _, .str _, _, _ => by simp [PyData.eqv]
  | .none, _, h, _ => by simp [ordI] at h
  | .bool _, _, h, _ => by simp [ordI] at h
  | .list _, _, h, _ => by simp [ordI] at h
  | .dict _, _, h, _ => by simp [ordI] at h
  | _, .none, _, h => by simp [ordI] at h
  | _, .bool _, _, h => by simp [ordI] at h
  | _, .list _, _, h => by simp [ordI] at h
  | _, .dict _, _, h => by simp [ordI] at h
theorem eqvAll_I : ∀ (xs ys : List D), ordIL xs = true → ordIL ys = true → (PyData.eqvAll xs ys = true ↔ xs = ys)
  | [], [], _, _ => by simp [PyData.eqvAll]
  | [], _ :: _, _, _ => by simp [PyData.eqvAll]
  | _ :: _, [], _, _ => by simp [PyData.eqvAll]
  | x :: xs, y :: ys, h1, h2 => by
    unfold ordIL at h1 h2
    rw [Bool.and_eq_true] at h1 h2
    have e1 := eqv_I x y h1.1 h2.1
    have e2 := eqvAll_I xs ys h1.2 h2.2
    simp only [PyData.eqvAll, Bool.and_eq_true, e1, e2, List.cons.injEq]
end
mutual
theorem ltB_irrI : ∀ (x : D), ordI x = true → ltB x x = false
  | .int a, _ => by simp [ltB]
  | .str a, _ => by simp [ltB, natL_irr]
  | .tuple xs, h => by
    unfold ordI at h
    unfold ltB
    exact ltL_irrI xs h
  | .none, h => by simp [ordI] at h
  | .bool _, h => by simp [ordI] at h
  | .list _, h => by simp [ordI] at h
  | .dict _, h => by simp [ordI] at h
theorem ltL_irrI : ∀ (xs : List D), ordIL xs = true → ltL xs xs = false
  | [], _ => by simp [ltL]
  | x :: xs, h => by
    unfold ordIL at h
    rw [Bool.and_eq_true] at h
    unfold ltL
    rw [if_pos ((eqv_I x x h.1 h.1).mpr rfl)]
    exact ltL_irrI xs h.2
end
mutual
theorem ltB_trI : ∀ (x y z : D), ordI x = true → ordI y = true → ordI z = true → ltB x y = true → ltB y z = true → ltB x z = true
  | .int a, .int b, .int c, _, _, _, h1, h2 => by
    simp [ltB] at h1 h2 ⊢
    omega
  | .str a, .str b, .str c, _, _, _, h1, h2 => by
    simp [ltB] at h1 h2 ⊢
    exact natL_tr h1 h2
  | .tuple xs, .tuple ys, .tuple zs, k1, k2, k3, h1, h2 => by
    unfold ordI at k1 k2 k3
    unfold ltB at h1 h2 ⊢
    exact ltL_trI xs ys zs k1 k2 k3 h1 h2
  | .int a, .int b, .str c, _, _, _, _, h2 => by simp [ltB] at h2
  | .int a, .int b, .tuple c, _, _, _, _, h2 => by simp [ltB] at h2
  | .int a, .str b, _, _, _, _, h1, _ => by simp [ltB] at h1
  | .int a, .tuple b, _, _, _, _, h1, _ => by simp [ltB] at h1
  | .str a, .int b, _, _, _, _, h1, _ => by simp [ltB] at h1
  | .str a, .tuple b, _, _, _, _, h1, _ => by simp [ltB] at h1
  | .str a, .str b, .int c, _, _, _, _, h2 => by simp [ltB] at h2
  | .str a, .str b, .tuple c, _, _, _, _, h2 => by simp [ltB] at h2
  | .tuple a, .int b, _, _, _, _, h1, _ => by simp [ltB] at h1
  | .tuple a, .str b, _, _, _, _, h1, _ => by simp [ltB] at h1
  | .tuple a, .tuple b, .int c, _, _, _, _, h2 => by simp [ltB] at h2
  | .tuple a, .tuple b, .str c, _, _, _, _, h2 => by simp [ltB] at h2
  | .none, _, _, h, _, _, _, _ => by simp [ordI] at h
  | .bool _, _, _, h, _, _, _, _ => by simp [ordI] at h
  | .list _, _, _, h, _, _, _, _ => by simp [ordI] at h
  | .dict _, _, _, h, _, _, _, _ => by simp [ordI] at h
  | _, .none, _, _, h, _, _, _ => by simp [ordI] at h
  | _, .bool _, _, _, h, _, _, _ => by simp [ordI] at h
  | _, .list _, _, _, h, _, _, _ => by simp [ordI] at h
  | _, .dict _, _, _, h, _, _, _ => by simp [ordI] at h
  | _, _, .none, _, _, h, _, _ => by simp [ordI] at h
  | _, _, .bool _, _, _, h, _, _ => by simp [ordI] at h
  | _, _, .list _, _, _, h, _, _ => by simp [ordI] at h
  | _, _, .dict _, _, _, h, _, _ => by simp [ordI] at h
theorem ltL_trI : ∀ (xs ys zs : List D), ordIL xs = true → ordIL ys = true → ordIL zs = true → ltL xs ys = true → ltL ys zs = true → ltL xs zs = true
  | [], [], _, _, _, _, h1, _ => by simp [ltL] at h1
  | [], _ :: _, [], _, _, _, _, h2 => by simp [ltL] at h2
  | [], _ :: _, _ :: _, _, _, _, _, _ => by simp [ltL]
  | _ :: _, [], _, _, _, _, h1, _ => by simp [ltL] at h1
  | _ :: _, _ :: _, [], _, _, _, _, h2 => by simp [ltL] at h2
  | x :: xs, y :: ys, z :: zs, k1, k2, k3, h1, h2 => by
    unfold ordIL at k1 k2 k3
    rw [Bool.and_eq_true] at k1 k2 k3
    have e1 := eqv_I x y k1.1 k2.1
    have e2 := eqv_I y z k2.1 k3.1
    have e3 := eqv_I x z k1.1 k3.1
    unfold ltL at h1 h2 ⊢
    by_cases c1 : PyData.eqv x y = true
    · have c1' := e1.mp c1
      subst c1'
      rw [if_pos c1] at h1
      by_cases c2 : PyData.eqv x z = true
      · rw [if_pos c2] at h2 ⊢
        exact ltL_trI xs ys zs k1.2 k2.2 k3.2 h1 h2
      · rw [if_neg c2] at h2 ⊢
        exact h2
    · rw [if_neg c1] at h1
      by_cases c2 : PyData.eqv y z = true
      · have c2' := e2.mp c2
        subst c2'
        rw [if_neg c1]
        exact h1
      · rw [if_neg c2] at h2
        have c3 := ltB_trI x y z k1.1 k2.1 k3.1 h1 h2
        by_cases c4 : PyData.eqv x z = true
        · have c4' := e3.mp c4
          subst c4'
          rw [ltB_irrI x k1.1] at c3
          cases c3
        · rw [if_neg c4]
          exact c3
end
mutual
theorem ltB_triI : ∀ (x y : D), cmpOk x y = true → ordI x = true → ordI y = true → ltB x y = true ∨ x = y ∨ ltB y x = true
  | .int a, .int b, _, _, _ => by
    simp [ltB]
    omega
  | .str a, .str b, _, _, _ => by
    simp only [ltB, decide_eq_true_iff]
    rcases natL_tri (a := a.cps.toList) (b := b.cps.toList) with h | h | h
    · exact .inl h
    · exact .inr (.inl (by rw [str_ext h]))
    · exact .inr (.inr h)
  | .tuple xs, .tuple ys, c, k1, k2 => by
    unfold ordI at k1 k2
    unfold cmpOk at c
    unfold ltB
    rcases ltL_triI xs ys c k1 k2 with h | h | h
    · exact .inl h
    · exact .inr (.inl (by rw [h]))
    · exact .inr (.inr h)
  | .int _, .str _, c, _, _ => by simp [cmpOk] at c
  | .int _, .tuple _, c, _, _ => by simp [cmpOk] at c
  | .str _, .int _, c, _, _ => by simp [cmpOk] at c
  | .str _, .tuple _, c, _, _ => by simp [cmpOk] at c
  | .tuple _, .int _, c, _, _ => by simp [cmpOk] at c
  | .tuple _, .str _, c, _, _ => by simp [cmpOk] at c
  | .none, _, _, h, _ => by simp [ordI] at h
  | .bool _, _, _, h, _ => by simp [ordI] at h
  | .list _, _, _, h, _ => by simp [ordI] at h
  | .dict _, _, _, h, _ => by simp [ordI] at h
  | _, .none, _, _, h => by simp [ordI] at h
  | _, .bool _, _, _, h => by simp [ordI] at h
  | _, .list _, _, _, h => by simp [ordI] at h
  | _, .dict _, _, _, h => by simp [ordI] at h
theorem ltL_triI : ∀ (xs ys : List D), cmpL xs ys = true → ordIL xs = true → ordIL ys = true → ltL xs ys = true ∨ xs = ys ∨ ltL ys xs = true
  | [], [], _, _, _ => .inr (.inl rfl)
  | [], _ :: _, _, _, _ => .inl (by simp [ltL])
  | _ :: _, [], _, _, _ => .inr (.inr (by simp [ltL]))
  | x :: xs, y :: ys, c, k1, k2 => by
    unfold cmpL at c
    unfold ordIL at k1 k2
    rw [Bool.and_eq_true] at c k1 k2
    have e1 := eqv_I x y k1.1 k2.1
    have e2 := eqv_I y x k2.1 k1.1
    unfold ltL
    by_cases q : x = y
    · subst q
      rw [if_pos (e1.mpr rfl), if_pos (e1.mpr rfl)]
      rcases ltL_triI xs ys c.2 k1.2 k2.2 with h | h | h
      · exact .inl h
      · exact .inr (.inl (by rw [h]))
      · exact .inr (.inr h)
    · rw [if_neg fun z => q (e1.mp z), if_neg fun z => q (e2.mp z).symm]
      rcases ltB_triI x y c.1 k1.1 k2.1 with h | h | h
      · exact .inl h
      · exact absurd h q
      · exact .inr (.inr h)
end
mutual
theorem nb_ord : ∀ x : D, ordd x = true → ordI (nb x) = true
  | .int _, _ => by simp [nb, ordI]
  | .bool _, _ => by simp [nb, ordI]
  | .str _, h => by
    unfold ordd at h
    simpa [nb, ordI] using h
  | .tuple xs, h => by
    unfold ordd at h
    have := nbL_ord xs h
    simpa [nb, ordI] using this
  | .none, h => by simp [ordd] at h
  | .list _, h => by simp [ordd] at h
  | .dict _, h => by simp [ordd] at h
theorem nbL_ord : ∀ xs : List D, orddL xs = true → ordIL (nbL xs) = true
  | [], _ => by simp [nbL, ordIL]
  | x :: xs, h => by
    unfold orddL at h
    rw [Bool.and_eq_true] at h
    simp [nbL, ordIL, nb_ord x h.1, nbL_ord xs h.2]
end
mutual
theorem nb_eqv : ∀ x y : D, ordd x = true → ordd y = true → PyData.eqv x y = PyData.eqv (nb x) (nb y)
  | .int _, .int _, _, _ => by simp [nb]
  | .int _, .bool b, _, _ => by cases b <;> simp [nb, PyData.eqv, bi]
  | .bool a, .int _, _, _ => by cases a <;> simp [nb, PyData.eqv, bi]
  | .bool a, .bool b, _, _ => by cases a <;> cases b <;> simp [nb, PyData.eqv, bi]
  | .str _, .str _, _, _ => by simp [nb]
  | .tuple xs, .tuple ys, h1, h2 => by
    unfold ordd at h1 h2
    have := nbL_eqv xs ys h1 h2
    simpa [nb, PyData.eqv] using this
  | .int _, .str _, _, _ => by simp [nb]
  | .int _, .tuple _, _, _ => by simp [nb, PyData.eqv]
  | .bool _, .str _, _, _ => by simp [nb, PyData.eqv]
  | .bool _, .tuple _, _, _ => by simp [nb, PyData.eqv]
  | .str _, .int _, _, _ => by simp [nb]
  | .str _, .bool _, _, _ => by simp [nb, PyData.eqv]
  | .str _, .tuple _, _, _ => by simp [nb, PyData.eqv]
  | .tuple _, .int _, _, _ => by simp [nb, PyData.eqv]
  | .tuple _, .bool _, _, _ => by simp [nb, PyData.eqv]
  | .tuple _, .str _, _, _ => by simp [nb, PyData.eqv]
  | .none, _, h, _ => by simp [ordd] at h
  | .list _, _, h, _ => by simp [ordd] at h
  | .dict _, _, h, _ => by simp [ordd] at h
  | _, .none, _, h => by simp [ordd] at h
  | _, .list _, _, h => by simp [ordd] at h
  | _, .dict _, _, h => by simp [ordd] at h
theorem nbL_eqv : ∀ xs ys : List D, orddL xs = true → orddL ys = true → PyData.eqvAll xs ys = PyData.eqvAll (nbL xs) (nbL ys)
  | [], [], _, _ => rfl
  | [], _ :: _, _, _ => by simp [nbL, PyData.eqvAll]
  | _ :: _, [], _, _ => by simp [nbL, PyData.eqvAll]
  | x :: xs, y :: ys, h1, h2 => by
    unfold orddL at h1 h2
    rw [Bool.and_eq_true] at h1 h2
    simp only [nbL, PyData.eqvAll, ← nb_eqv x y h1.1 h2.1, ← nbL_eqv xs ys h1.2 h2.2]
end
mutual
theorem nb_lt : ∀ x y : D, ordd x = true → ordd y = true → ltB x y = ltB (nb x) (nb y)
  | .int _, .int _, _, _ => by simp [nb]
  | .int _, .bool b, _, _ => by simp [nb, ltB]
  | .bool a, .int _, _, _ => by simp [nb, ltB]
  | .bool a, .bool b, _, _ => by simp [nb, ltB]
  | .str _, .str _, _, _ => by simp [nb]
  | .tuple xs, .tuple ys, h1, h2 => by
    unfold ordd at h1 h2
    have := nbL_lt xs ys h1 h2
    simpa [nb, ltB] using this
  | .int _, .str _, _, _ => by simp [nb]
  | .int _, .tuple _, _, _ => by simp [nb, ltB]
  | .bool _, .str _, _, _ => by simp [nb, ltB]
  | .bool _, .tuple _, _, _ => by simp [nb, ltB]
  | .str _, .int _, _, _ => by simp [nb]
  | .str _, .bool _, _, _ => by simp [nb, ltB]
  | .str _, .tuple _, _, _ => by simp [nb, ltB]
  | .tuple _, .int _, _, _ => by simp [nb, ltB]
  | .tuple _, .bool _, _, _ => by simp [nb, ltB]
  | .tuple _, .str _, _, _ => by simp [nb, ltB]
  | .none, _, h, _ => by simp [ordd] at h
  | .list _, _, h, _ => by simp [ordd] at h
  | .dict _, _, h, _ => by simp [ordd] at h
  | _, .none, _, h => by simp [ordd] at h
  | _, .list _, _, h => by simp [ordd] at h
  | _, .dict _, _, h => by simp [ordd] at h
theorem nbL_lt : ∀ xs ys : List D, orddL xs = true → orddL ys = true → ltL xs ys = ltL (nbL xs) (nbL ys)
  | [], [], _, _ => rfl
  | [], _ :: _, _, _ => by simp [nbL, ltL]
  | _ :: _, [], _, _ => by simp [nbL, ltL]
  | x :: xs, y :: ys, h1, h2 => by
    unfold orddL at h1 h2
    rw [Bool.and_eq_true] at h1 h2
    simp only [nbL, ltL, ← nb_eqv x y h1.1 h2.1, ← nb_lt x y h1.1 h2.1, ← nbL_lt xs ys h1.2 h2.2]
end
mutual
theorem nb_cmp : ∀ x y : D, cmpOk x y = true → cmpOk (nb x) (nb y) = true
  | .int _, .int _, _ => by simp [nb, cmpOk]
  | .bool _, .bool _, _ => by simp [nb, cmpOk]
  | .str _, .str _, _ => by simp [nb, cmpOk]
  | .tuple xs, .tuple ys, h => by
    unfold cmpOk at h
    have := nbL_cmp xs ys h
    simpa [nb, cmpOk] using this
  | .int _, .bool _, h => by simp [cmpOk] at h
  | .int _, .str _, h => by simp [cmpOk] at h
  | .int _, .tuple _, h => by simp [cmpOk] at h
  | .bool _, .int _, h => by simp [cmpOk] at h
  | .bool _, .str _, h => by simp [cmpOk] at h
  | .bool _, .tuple _, h => by simp [cmpOk] at h
  | .str _, .int _, h => by simp [cmpOk] at h
  | .str _, .bool _, h => by simp [cmpOk] at h
  | .str _, .tuple _, h => by simp [cmpOk] at h
  | .tuple _, .int _, h => by simp [cmpOk] at h
  | .tuple _, .bool _, h => by simp [cmpOk] at h
  | .tuple _, .str _, h => by simp [cmpOk] at h
  | .none, _, h => by simp [cmpOk] at h
  | .list _, _, h => by simp [cmpOk] at h
  | .dict _, _, h => by simp [cmpOk] at h
  | x, .none, h => by cases x <;> simp [cmpOk] at h
  | x, .list _, h => by cases x <;> simp [cmpOk] at h
  | x, .dict _, h => by cases x <;> simp [cmpOk] at h
theorem nbL_cmp : ∀ xs ys : List D, cmpL xs ys = true → cmpL (nbL xs) (nbL ys) = true
  | [], _, _ => by simp [nbL, cmpL]
  | _ :: _, [], _ => by simp [nbL, cmpL]
  | x :: xs, y :: ys, h => by
    unfold cmpL at h
    rw [Bool.and_eq_true] at h
    simp [nbL, cmpL, nb_cmp x y h.1, nbL_cmp xs ys h.2]
end
mutual
theorem nb_inj : ∀ x y : D, cmpOk x y = true → nb x = nb y → x = y
  | .int _, .int _, _, h => by simpa [nb] using h
  | .bool a, .bool b, _, h => by cases a <;> cases b <;> first | rfl | (simp [nb, bi] at h)
  | .str _, .str _, _, h => by simpa [nb] using h
  | .tuple xs, .tuple ys, c, h => by
    unfold cmpOk at c
    have h : nbL xs = nbL ys := by simpa [nb] using h
    rw [nbL_inj xs ys c h]
  | .int _, .bool _, c, _ => by simp [cmpOk] at c
  | .int _, .str _, c, _ => by simp [cmpOk] at c
  | .int _, .tuple _, c, _ => by simp [cmpOk] at c
  | .bool _, .int _, c, _ => by simp [cmpOk] at c
  | .bool _, .str _, c, _ => by simp [cmpOk] at c
  | .bool _, .tuple _, c, _ => by simp [cmpOk] at c
  | .str _, .int _, c, _ => by simp [cmpOk] at c
  | .str _, .bool _, c, _ => by simp [cmpOk] at c
  | .str _, .tuple _, c, _ => by simp [cmpOk] at c
  | .tuple _, .int _, c, _ => by simp [cmpOk] at c
  | .tuple _, .bool _, c, _ => by simp [cmpOk] at c
  | .tuple _, .str _, c, _ => by simp [cmpOk] at c
  | .none, _, c, _ => by simp [cmpOk] at c
  | .list _, _, c, _ => by simp [cmpOk] at c
  | .dict _, _, c, _ => by simp [cmpOk] at c
  | x, .none, c, _ => by cases x <;> simp [cmpOk] at c
  | x, .list _, c, _ => by cases x <;> simp [cmpOk] at c
  | x, .dict _, c, _ => by cases x <;> simp [cmpOk] at c
theorem nbL_inj : ∀ xs ys : List D, cmpL xs ys = true → nbL xs = nbL ys → xs = ys
  | [], [], _, _ => rfl
  | [], _ :: _, _, h => by simp [nbL] at h
  | _ :: _, [], _, h => by simp [nbL] at h
  | x :: xs, y :: ys, c, h => by
    unfold cmpL at c
    rw [Bool.and_eq_true] at c
    have h : nb x = nb y ∧ nbL xs = nbL ys := by simpa [nbL] using h
    rw [nb_inj x y c.1 h.1, nbL_inj xs ys c.2 h.2]
end
def insB (x : D) : List D → List D
  | [] => [x]
  | y :: l => if ltB y x = true then y :: insB x l else x :: y :: l
def srtB (l : List D) : List D := l.foldr insB []
def pairsOk (l : List D) : Bool := l.all fun x => ordd x && l.all fun y => cmpOk x y
section
variable {S : D → Prop} (h1 : ∀ x, S x → ordd x = true) (h2 : ∀ x y, S x → S y → cmpOk x y = true)
include h1 h2
end
end DL
namespace DL
open PySem PySem.Spec L2 PyProof.Rows
mutual
theorem ordd_lay : ∀ d : D, ordd d = true → d.canLay0 = true
  | .int _, _ => by simp [PyData.canLay0]
  | .str _, h => by
    unfold ordd at h
    simp [PyData.canLay0, h]
  | .tuple xs, h => by
    unfold ordd at h
    have := orddL_lay xs h
    simp [PyData.canLay0, this]
  | .none, h => by simp [ordd] at h
  | .bool _, _ => by simp [PyData.canLay0]
  | .list _, h => by simp [ordd] at h
  | .dict _, h => by simp [ordd] at h
theorem orddL_lay : ∀ ds : List D, orddL ds = true → PyData.canLayAll0 ds = true
  | [], _ => by simp [PyData.canLayAll0]
  | x :: xs, h => by
    unfold orddL at h
    rw [Bool.and_eq_true] at h
    simp [PyData.canLayAll0, ordd_lay x h.1, orddL_lay xs h.2]
end
section
variable {h h' : Heap} (k : ∀ b o, h.get? b = some o → o.cls = .type "tuple" → h'.get? b = some o)
include k
mutual
theorem reads_keep : ∀ (d : D) (v : Value) (as : List Addr), ordd d = true → Reads h v d as → Reads h' v d as
  | .int _, _, _, _, r => by
    cases r
    exact .int _ _
  | .str _, _, _, _, r => by
    cases r
    exact .str _ _
  | .tuple xs, _, _, o, r => by
    unfold ordd at o
    cases r with
    | tuple e c dd ra => exact .tuple (k _ _ e c) c dd (readsAll_keep xs _ _ o ra)
  | .none, _, _, h, _ => by simp [ordd] at h
  | .bool _, _, _, _, r => by
    cases r
    exact .bool _
  | .list _, _, _, h, _ => by simp [ordd] at h
  | .dict _, _, _, h, _ => by simp [ordd] at h
theorem readsAll_keep : ∀ (ds : List D) (vs : List Value) (as : List Addr), orddL ds = true → ReadsAll h vs ds as → ReadsAll h' vs ds as
  | [], _, _, _, r => by
    cases r
    exact .nil
  | x :: xs, _, _, o, r => by
    unfold orddL at o
    rw [Bool.and_eq_true] at o
    cases r with
    | cons r1 r2 => exact .cons (reads_keep x _ _ o.1 r1) (readsAll_keep xs _ _ o.2 r2)
end
end
def eAt (xs ys : List D) (j : Nat) : Bool := PyData.eqv (xs.getD j .none) (ys.getD j .none)
def rAt (xs ys : List D) (j : Nat) : Bool := ltB (xs.getD j .none) (ys.getD j .none)
theorem lexAt_sh (e r : Nat → Bool) (z : Bool) : ∀ (k i : Nat), Ob.lexAt e r z (i + 1) k = Ob.lexAt (fun j => e (j + 1)) (fun j => r (j + 1)) z i k
  | 0, i => rfl
  | k + 1, i => by
    rw [Ob.lexAt_succ, Ob.lexAt_succ, lexAt_sh e r z k (i + 1)]
theorem lexAt_ltL : ∀ xs ys : List D, Ob.lexAt (eAt xs ys) (rAt xs ys) (decide (xs.length < ys.length)) 0 (min xs.length ys.length) = ltL xs ys
  | [], [] => rfl
  | [], _ :: _ => by simp [ltL, Ob.lexAt]
  | _ :: _, [] => by simp [ltL, Ob.lexAt]
  | x :: xs, y :: ys => by
    have ih := lexAt_ltL xs ys
    rw [show min (x :: xs).length (y :: ys).length = min xs.length ys.length + 1 by simp only [List.length_cons]; omega, Ob.lexAt_succ, lexAt_sh]
    have e1 : (fun j => eAt (x :: xs) (y :: ys) (j + 1)) = eAt xs ys := rfl
    have e2 : (fun j => rAt (x :: xs) (y :: ys) (j + 1)) = rAt xs ys := rfl
    have e3 : decide ((x :: xs).length < (y :: ys).length) = decide (xs.length < ys.length) := by simp
    rw [e1, e2, e3, ih]
    rfl
theorem dep_cons (x : D) (xs : List D) : x.depth ≤ PyData.depthAll (x :: xs) ∧ PyData.depthAll xs ≤ PyData.depthAll (x :: xs) := by
  simp only [PyData.depthAll]
  omega
theorem readsAll_len {h : Heap} : ∀ {vs : List Value} {ds : List D} {as : List Addr}, ReadsAll h vs ds as → vs.length = ds.length
  | _, _, _, .nil => rfl
  | _, _, _, .cons _ r => by simp [readsAll_len r]
theorem rc_bool {A : Around} {s : Shared} (a b : Bool) : Ob.RcOp .Lt A s (.bool a) (.bool b) (decide (bi a < bi b)) := fun _ _ _ _ h => PyProof.Rows.lt_bool h
mutual
theorem rc_lt : ∀ (d e : D) (A : Around) (s : Shared) (v u : Value) (as bs : List Addr), ordd d = true → ordd e = true → cmpOk d e = true → A.units + min d.depth e.depth < cLine → Reads s.heap v d as → Reads s.heap u e bs → Ob.RcOp .Lt A s v u (ltB d e)
  | .int a, .int b, A, s, _, _, _, _, _, _, _, _, r1, r2 => by
    cases r1
    cases r2
    unfold ltB
    exact Ob.RcOp.lt_int _ _ _ _
  | .str a, .str b, A, s, _, _, _, _, _, _, _, _, r1, r2 => by
    cases r1
    cases r2
    unfold ltB
    exact fun _ _ _ _ h => PyProof.Rows.lt_str h
  | .tuple xs, .tuple ys, A, s, _, _, _, _, k1, k2, c, hu, r1, r2 => by
    unfold ordd at k1 k2
    unfold cmpOk at c
    have hu' : A.in1.units + min (PyData.depthAll xs) (PyData.depthAll ys) < cLine := by
      simp only [PyData.depth] at hu
      show A.units + 1 + _ < _
      omega
    cases r1 with
    | tuple e1 c1 d1 ra1 =>
      cases r2 with
      | tuple e2 c2 d2 ra2 =>
        have l1 := readsAll_len ra1
        have l2 := readsAll_len ra2
        rw [Array.length_toList] at l1 l2
        have key := rc_ltL xs ys A.in1 s _ _ _ _ k1 k2 c hu' ra1 ra2
        have R := Ob.RcOp.tuples_lt (A := A) (s := s) (e := eAt xs ys) (r := rAt xs ys) ⟨_, e1, c1, _, d1⟩ ⟨_, e2, c2, _, d2⟩ (by omega)
          (fun j h1 h2 => by
            have := (key j (by simpa using h1) (by simpa using h2)).1
            simpa using this)
          (fun j h1 h2 _ => by
            have := (key j (by simpa using h1) (by simpa using h2)).2
            simpa using this)
        rw [l1, l2, lexAt_ltL] at R
        unfold ltB
        exact R
  | .int _, .str _, _, _, _, _, _, _, _, _, c, _, _, _ => by simp [cmpOk] at c
  | .int _, .tuple _, _, _, _, _, _, _, _, _, c, _, _, _ => by simp [cmpOk] at c
  | .str _, .int _, _, _, _, _, _, _, _, _, c, _, _, _ => by simp [cmpOk] at c
  | .str _, .tuple _, _, _, _, _, _, _, _, _, c, _, _, _ => by simp [cmpOk] at c
  | .tuple _, .int _, _, _, _, _, _, _, _, _, c, _, _, _ => by simp [cmpOk] at c
  | .tuple _, .str _, _, _, _, _, _, _, _, _, c, _, _, _ => by simp [cmpOk] at c
  | .none, _, _, _, _, _, _, _, h, _, _, _, _, _ => by simp [ordd] at h
  | .bool a, .bool b, A, s, _, _, _, _, _, _, _, _, r1, r2 => by
    cases r1
    cases r2
    unfold ltB
    exact rc_bool a b
  | .bool _, .int _, _, _, _, _, _, _, _, _, c, _, _, _ => by simp [cmpOk] at c
  | .bool _, .str _, _, _, _, _, _, _, _, _, c, _, _, _ => by simp [cmpOk] at c
  | .bool _, .tuple _, _, _, _, _, _, _, _, _, c, _, _, _ => by simp [cmpOk] at c
  | .int _, .bool _, _, _, _, _, _, _, _, _, c, _, _, _ => by simp [cmpOk] at c
  | .str _, .bool _, _, _, _, _, _, _, _, _, c, _, _, _ => by simp [cmpOk] at c
  | .tuple _, .bool _, _, _, _, _, _, _, _, _, c, _, _, _ => by simp [cmpOk] at c
  | .list _, _, _, _, _, _, _, _, h, _, _, _, _, _ => by simp [ordd] at h
  | .dict _, _, _, _, _, _, _, _, h, _, _, _, _, _ => by simp [ordd] at h
  | _, .none, _, _, _, _, _, _, _, h, _, _, _, _ => by simp [ordd] at h
  | _, .list _, _, _, _, _, _, _, _, h, _, _, _, _ => by simp [ordd] at h
  | _, .dict _, _, _, _, _, _, _, _, h, _, _, _, _ => by simp [ordd] at h
theorem rc_ltL : ∀ (xs ys : List D) (A : Around) (s : Shared) (vs us : List Value) (as bs : List Addr), orddL xs = true → orddL ys = true → cmpL xs ys = true → A.units + min (PyData.depthAll xs) (PyData.depthAll ys) < cLine → ReadsAll s.heap vs xs as → ReadsAll s.heap us ys bs →
    ∀ (j : Nat) (h1 : j < vs.length) (h2 : j < us.length), SeqAt.EqAt A s vs[j] us[j] (eAt xs ys j) ∧ Ob.RcOp .Lt A s vs[j] us[j] (rAt xs ys j)
  | [], _, _, _, _, _, _, _, _, _, _, _, r1, _, j, h1, _ => by
    cases r1
    exact absurd h1 (Nat.not_lt_zero j)
  | _ :: _, [], _, _, _, _, _, _, _, _, _, _, _, r2, j, _, h2 => by
    cases r2
    exact absurd h2 (Nat.not_lt_zero j)
  | x :: xs, y :: ys, A, s, _, _, _, _, k1, k2, c, hu, r1, r2, j, h1, h2 => by
    unfold orddL at k1 k2
    unfold cmpL at c
    rw [Bool.and_eq_true] at k1 k2 c
    have a1 := dep_cons x xs
    have a2 := dep_cons y ys
    cases r1 with
    | cons p1 q1 =>
      cases r2 with
      | cons p2 q2 =>
        cases j with
        | zero => exact ⟨SeqAt.eqAt_reads x y A s _ _ _ _ p1 p2 (ordd_lay x k1.1) (ordd_lay y k2.1) (by omega), rc_lt x y A s _ _ _ _ k1.1 k2.1 c.1 (by omega) p1 p2⟩
        | succ j => exact rc_ltL xs ys A s _ _ _ _ k1.2 k2.2 c.2 (by omega) q1 q2 j (Nat.lt_of_succ_lt_succ h1) (Nat.lt_of_succ_lt_succ h2)
end
section
variable {prog : Program} {w : World} {A : Around} {s : Shared}
end
end DL
namespace DL
open PySem PySem.Spec L2 PyProof.Rows
def neTup : D → Bool
  | .tuple [] => false
  | .tuple (.bool _ :: _) => false
  | .bool _ => false
  | _ => true
def srtOk (ds : List D) : Bool := pairsOk ds && (ds.all neTup && decide (PyData.depthAll ds ≤ 60))
def nSorted : List D → Option (List D)
  | [.list ds] => if srtOk ds = true then some (srtB ds) else none
  | _ => none
@[simp] theorem nSorted_l (ds : List D) : nSorted [.list ds] = if srtOk ds = true then some (srtB ds) else none := rfl
theorem pairsOk_at {ds : List D} (h : pairsOk ds = true) {x y : D} (hx : x ∈ ds) (hy : y ∈ ds) : ordd x = true ∧ cmpOk x y = true := by
  have := List.all_eq_true.mp h x hx
  rw [Bool.and_eq_true] at this
  exact ⟨this.1, List.all_eq_true.mp this.2 y hy⟩
def ds1 : List D → List D
  | [] => [.int 0]
  | l => l
noncomputable def pick (ds : List D) (d : D) : D := open Classical in if d ∈ ds then d else (ds1 ds).headD (.int 0)
noncomputable def ltv (h : Heap) (ds : List D) (v u : Value) : Bool := ltB (pick ds (SeqAt.readOf h v)) (pick ds (SeqAt.readOf h u))
section
variable {prog : Program} {w : World} {A : Around} {s : Shared}
end
end DL
namespace DL
open PySem PySem.Spec L2 PyProof.Rows
theorem orddL_all : ∀ {ds : List D}, (∀ x ∈ ds, ordd x = true) → orddL ds = true
  | [], _ => rfl
  | x :: l, h => by
    unfold orddL
    rw [h x (by simp), orddL_all fun y hy => h y (List.mem_cons_of_mem _ hy)]
    rfl
section
variable {X : Cx}
def nSl : D → Option Int → Option Int → Option (List D)
  | .list xs, lo, hi => some (cutD xs lo hi)
  | _, _, _ => none
@[simp] theorem nSl_l (xs : List D) (lo hi : Option Int) : nSl (.list xs) lo hi = some (cutG xs lo hi) := rfl
@[simp] def nSlc (g : D → Option Int → Option Int → Option (List D)) (fa : EC) (fl fh : Env → Out (Option Int)) (ρ : Env) : Out (List D) := (fa ρ).bind fun x ρ1 => (fl ρ1).bind fun lo ρ2 => (fh ρ2).bind fun hi ρ3 => match deref ρ3 x with
  | some dx => match g dx lo hi with
    | some d => .ok d ρ3
    | none => .bad
  | none => .bad
end
theorem orddL_ints (l : List Int) : orddL (l.map .int) = true := orddL_all fun x hx => by
  obtain ⟨i, _, rfl⟩ := List.mem_map.mp hx
  rfl
theorem dep_ints : ∀ l : List Int, PyData.depthAll (l.map .int) = 0
  | [] => by simp [PyData.depthAll]
  | a :: l => by
    have := dep_ints l
    simp [PyData.depthAll, PyData.depth, this]
end DL
namespace DL
open PySem PySem.Spec L2 PyProof.Rows
def nSorted2 : List D → Option (List D)
  | [.list ds] => if srtOk ds = true then some (srtB ds) else none
  | [.tuple ds] => if srtOk ds = true then some (srtB ds) else none
  | _ => none
@[simp] theorem nSorted2_l (ds : List D) : nSorted2 [.list ds] = if srtOk ds = true then some (srtB ds) else none := rfl
@[simp] theorem nSorted2_t (ds : List D) : nSorted2 [.tuple ds] = if srtOk ds = true then some (srtB ds) else none := rfl
section
variable {X : Cx}
end
end DL
namespace DL
open PySem PySem.Spec L2 PyProof.Rows
def keyOf : D → Option Key
  | .int i => some (.inl i)
  | .str x => some (.inr x)
  | _ => none
@[simp] theorem keyOf_int (i : Int) : keyOf (.int i) = some (.inl i) := rfl
@[simp] theorem keyOf_str (x : Str) : keyOf (.str x) = some (.inr x) := rfl
def getK (kvs : List (Key × D)) (k : Key) : Option D := (kvs.find? fun p => decide (p.1 = k)).map (·.2)
def putKD (kvs : List (Key × D)) (k : Key) (v : D) : List (Key × D) :=
  if (kvs.any fun p => decide (p.1 = k)) = true then kvs.map (fun p => if p.1 = k then (p.1, v) else p) else kvs ++ [(k, v)]
section
variable {K : Fg} {J : Hp}
theorem KvAll.get {vs : List (Key × V)} {ds : List (Key × D)} (h : KvAll K J vs ds) (k : Key) : (valV vs k = none ∧ getK ds k = none) ∨ ∃ v d, valV vs k = some v ∧ getK ds k = some d ∧ Rp K J v d := by
  induction h with
  | nil => exact .inl ⟨rfl, rfl⟩
  | @cons k' v d vs ds r _ ih =>
    by_cases e : k' = k
    · exact .inr ⟨v, d, valV_pos (p := (k', v)) e, by simp [getK, List.find?_cons, e], r⟩
    · rw [valV_neg (p := (k', v)) e]
      have : getK ((k', d) :: ds) k = getK ds k := by simp [getK, List.find?_cons, e]
      rw [this]
      exact ih
theorem KvAll.any {vs : List (Key × V)} {ds : List (Key × D)} (h : KvAll K J vs ds) (k : Key) : (vs.any fun p => decide (p.1 = k)) = (ds.any fun p => decide (p.1 = k)) := by
  induction h with
  | nil => rfl
  | cons r _ ih => simp only [List.any_cons, ih]
theorem KvAll.mapK {vs : List (Key × V)} {ds : List (Key × D)} (h : KvAll K J vs ds) (k : Key) {v : V} {d : D} (r : Rp K J v d) : KvAll K J (vs.map fun p => if p.1 = k then (p.1, v) else p) (ds.map fun p => if p.1 = k then (p.1, d) else p) := by
  induction h with
  | nil => exact .nil
  | @cons k' v' d' vs ds r' _ ih =>
    rw [List.map_cons, List.map_cons]
    by_cases e : k' = k
    · rw [if_pos e, if_pos e]
      exact .cons r ih
    · rw [if_neg e, if_neg e]
      exact .cons r' ih
theorem KvAll.snoc {vs : List (Key × V)} {ds : List (Key × D)} (h : KvAll K J vs ds) (k : Key) {v : V} {d : D} (r : Rp K J v d) : KvAll K J (vs ++ [(k, v)]) (ds ++ [(k, d)]) := by
  induction h with
  | nil => exact .cons r .nil
  | cons r' _ ih => exact .cons r' ih
theorem KvAll.put {vs : List (Key × V)} {ds : List (Key × D)} (h : KvAll K J vs ds) (k : Key) {v : V} {d : D} (r : Rp K J v d) : KvAll K J (putK vs k v) (putKD ds k d) := by
  unfold putK putKD
  rw [h.any k]
  split
  · exact h.mapK k r
  · exact h.snoc k r
theorem KvAll.keys {vs : List (Key × V)} {ds : List (Key × D)} (h : KvAll K J vs ds) : vs.map (·.1) = ds.map (·.1) := by
  induction h with
  | nil => rfl
  | cons _ _ ih => simp [ih]
end
@[simp] def sNewD (i : Nat) (ρ : Env) : SO := if loose ρ i = true then .nx (ρ.set i (.own false (.dct []))) else .bad
@[simp] def eGetD (i : Nat) (fe : EC) (ρ : Env) : Out VV := match ρ[i]? with
  | some (.own _ (.dct _)) => (fe ρ).bind fun y ρ1 => match deref ρ1 y, ρ1[i]? with
    | some d, some (.own _ (.dct kvs)) => match keyOf d with
      | some k => match getK kvs k with
        | some v => .ok (.val v) ρ1
        | none => .bad
      | none => .bad
    | _, _ => .bad
  | _ => .bad
@[simp] def eInD (b : Bool) (i : Nat) (fe : EC) (ρ : Env) : Out VV := (fe ρ).bind fun y ρ1 => match deref ρ1 y, ρ1[i]? with
    | some d, some (.own _ (.dct kvs)) => match keyOf d with
      | some k => .ok (.val (.bool (if b = true then (getK kvs k).isSome else !(getK kvs k).isSome))) ρ1
      | none => .bad
    | _, _ => .bad
@[simp] def sPutD (i : Nat) (fk fv : EC) (ρ : Env) : SO := (fv ρ).then fun y ρ1 => match keepV ρ1 y with
  | some (d, ρ2) => match ρ2[i]? with
    | some (.own _ (.dct _)) => (fk ρ2).then fun z ρ3 => match deref ρ3 z, ρ3[i]? with
      | some dk, some (.own fx (.dct kvs)) => match keyOf dk with
        | some k => if kvs.length < sizeLine then .nx (ρ3.set i (.own fx (.dct (putKD kvs k d)))) else .bad
        | none => .bad
      | _, _ => .bad
    | _ => .bad
  | none => .bad
section
variable {X : Cx} {Y : Yx} {a b c e : Expr} {pos : Pos}
end
end DL
namespace DL
open PySem PySem.Spec L2 PyProof.Rows
theorem rp_key {K : Fg} {J : Hp} (k : Key) : Rp K J (kV k) (keyD k) := by
  cases k with
  | inl i => exact .int i
  | inr x => exact .str x
section
variable {X : Cx} {Y : Yx}
@[simp] def nSrtD (i : Nat) (ρ : Env) : Out (List D) := match ρ[i]? with
  | some (.own _ (.dct kvs)) => if srtOk (kvs.map fun p => keyD p.1) = true then .ok (srtB (kvs.map fun p => keyD p.1)) ρ else .bad
  | _ => .bad
end
end DL
namespace DL
open PySem PySem.Spec L2 PyProof.Rows PySem.W
section
variable {P : Program} {K : Fg} {mg : Str → Option Value} {base : Heap}
end
def dMaxA : List D → Option D
  | [.tuple xs] => match intsD xs with
    | some l => if l ≠ [] then some (.int (maxL l)) else none
    | none => none
  | ds => dMax ds
@[simp] theorem dMaxA_l (xs : List D) : dMaxA [.list xs] = dMax [.list xs] := rfl
@[simp] theorem dMaxA_2 (i j : Int) : dMaxA [.int i, .int j] = dMax [.int i, .int j] := rfl
theorem foldl_max (n : Int) : ∀ l : List Int, l.foldl max n = maxL (n :: l)
  | [] => rfl
  | k :: l => by
    have h1 := foldl_max (max n k) l
    have h2 := maxL_mem (n :: k :: l) (by simp)
    have h3 := maxL_mem (max n k :: l) (by simp)
    rw [List.foldl_cons, h1]
    have a1 : maxL (max n k :: l) ≤ maxL (n :: k :: l) := by
      rcases List.mem_cons.mp h3.1 with e | e
      · have b1 := h2.2 n (by simp)
        have b2 := h2.2 k (by simp)
        rw [e]
        omega
      · exact h2.2 _ (List.mem_cons_of_mem _ (List.mem_cons_of_mem _ e))
    have a2 : maxL (n :: k :: l) ≤ maxL (max n k :: l) := by
      have b0 := h3.2 (max n k) (by simp)
      rcases List.mem_cons.mp h2.1 with e | e
      · rw [e]
        omega
      · rcases List.mem_cons.mp e with e | e
        · rw [e]
          omega
        · exact h3.2 _ (List.mem_cons_of_mem _ e)
    omega
theorem alike_ints (l : List Int) : AlikeAll (l.map PyData.int) := by
  refine ⟨fun x hx y hy => ?_, fun x hx => ?_⟩
  · obtain ⟨i, _, rfl⟩ := List.mem_map.mp hx
    obtain ⟨j, _, rfl⟩ := List.mem_map.mp hy
    rfl
  · obtain ⟨i, _, rfl⟩ := List.mem_map.mp hx
    intro z
    cases z
section
variable {X : Cx}
theorem cd_maxA (hc : X.calm = true) (hu : X.A.units + 64 < cLine) : CallD X (.builtin "max") dMaxA := by
  intro pins s σ H xs us Q I r ⟨J, dsx, d, sj, w, e, q⟩
  unfold dMaxA at e
  split at e
  · rename_i ds
    split at e
    · rename_i l hl
      split at e
      · rename_i hne
        cases e
        obtain ⟨v, rfl, wv⟩ := wks1 w
        obtain ⟨a, vs, rfl, h1, r1, _⟩ := wv.tup sj
        obtain rfl := Vals.ref1 r
        obtain ⟨its, rv, ht, hz⟩ := I.tuple h1
        have hds : ds = l.map .int := ints_inv hl
        subst hds
        have dp : DpAll X.G H vs (l.map .int) := rps_dp _ vs (orddL_lay _ (orddL_ints l)) (dps_mono sj _ _ r1)
        obtain ⟨as, ra⟩ := Dp.readsAll I _ vs its dp rv
        obtain ⟨n, l', rfl⟩ : ∃ n l', l = n :: l' := by
          cases l with
          | nil => exact absurd rfl hne
          | cons a b => exact ⟨a, b, rfl⟩
        refine max_tuple_data (x := .int n) (xs := l'.map .int) (I.ok.hd hc) ht ra (alike_ints (n :: l')) (by
          have := dep_ints (n :: l')
          rw [List.map_cons] at this
          rw [this]
          omega) fun i v h' tk bs hv hr hk => ?_
        rw [maxD_ints, foldl_max] at hr
        cases hr
        exact ⟨.int (maxL (n :: l')), H, I.kept (t' := tk) hk, ⟨_, rfl⟩, q _ J H (.refl sj) (.int _)⟩
      · cases e
    · cases e
  · exact cd_max hc pins s σ H xs us Q I r ⟨J, _, d, sj, w, e, q⟩
end
section
variable {X : Cx} {Y : Yx} {a b c e : Expr} {pos : Pos}
end
end DL
namespace DL
open PySem PySem.Spec L2 PyProof.Rows
mutual
inductive NkAt (K : Fg) (H : Hp) : V → NestedKey → Prop
  | non : NkAt K H .non .none
  | bl (b : Bool) : NkAt K H (.bl b) (.num (if b = true then 1 else 0))
  | int (i : Int) : NkAt K H (.int i) (.num i)
  | str (x : Str) : NkAt K H (.str x) (.text x)
  | tup {a : Addr} {xs : List V} {ks : List NestedKey} : SqT K H a xs → NkAll K H xs ks → NkAt K H (.ref a) (.tup ks)
inductive NkAll (K : Fg) (H : Hp) : List V → List NestedKey → Prop
  | nil : NkAll K H [] []
  | cons {v : V} {vs : List V} {k : NestedKey} {ks : List NestedKey} : NkAt K H v k → NkAll K H vs ks → NkAll K H (v :: vs) (k :: ks)
end
section
variable {K : Fg} {H H' : Hp}
theorem NkAt.mono (e : Same H H') {v : V} {k : NestedKey} (h : NkAt K H v k) : NkAt K H' v k :=
  NkAt.rec (motive_1 := fun v k _ => NkAt K H' v k) (motive_2 := fun vs ks _ => NkAll K H' vs ks) .non .bl .int .str (fun hs _ ih => .tup (same_t e hs) ih) .nil (fun _ _ i1 i2 => .cons i1 i2) h
mutual
theorem nk_of_rp : ∀ (d : D) {v : V} {k : NestedKey}, Rp K H v d → nkOf d = some k → NkAt K H v k
  | .none, _, _, h, e => by cases h; cases e; exact .non
  | .bool b, _, _, h, e => by cases h; cases e; exact .bl b
  | .int i, _, _, h, e => by cases h; cases e; exact .int i
  | .str x, _, _, h, e => by cases h; cases e; exact .str x
  | .tuple ds, _, k, h, e => by
    cases h with
    | tup hs ha =>
      rw [nkOf] at e
      obtain ⟨ks, hk, rfl⟩ := Option.map_eq_some_iff.mp e
      exact .tup hs (nks_of_rp ds ha hk)
  | .list _, _, _, _, e => by simp [nkOf] at e
  | .dict _, _, _, _, e => by simp [nkOf] at e
theorem nks_of_rp : ∀ (ds : List D) {vs : List V} {ks : List NestedKey}, RpAll K H vs ds → nksOf ds = some ks → NkAll K H vs ks
  | [], _, _, h, e => by cases h; cases e; exact .nil
  | d :: ds, _, _, h, e => by
    cases h with
    | cons h1 h2 =>
      rw [nksOf] at e
      cases e1 : nkOf d with
      | none => rw [e1] at e; cases e
      | some k =>
        cases e2 : nksOf ds with
        | none => rw [e1, e2] at e; cases e
        | some ks =>
          rw [e1, e2] at e
          cases e
          exact .cons (nk_of_rp d h1 e1) (nks_of_rp ds h2 e2)
end
end
def valN (raw : Raw3) (k : NestedKey) : Option V := (raw.find? fun p => decide (p.1 = k)).map (·.2.2)
def putN (raw : Raw3) (k : NestedKey) (b : Addr) (v : V) : Raw3 := if (valN raw k).isSome = true then raw.map (fun p => if p.1 = k then (p.1, p.2.1, v) else p) else raw ++ [(k, b, v)]
abbrev P3 : Raw3 → List (NestedKey × Addr × Value) → Prop := Paired fun p q => p.1 = q.1 ∧ p.2.1 = q.2.1 ∧ RelV p.2.2 q.2.2
theorem P3.val {raw : Raw3} {xs : List (NestedKey × Addr × Value)} (r : P3 raw xs) (k : NestedKey) : RelO (valN raw k) ((atKey xs k).map (·.2)) := by
  induction r with
  | nil => exact True.intro
  | @cons p q ps qs h t ih =>
    obtain ⟨h1, h2, h3⟩ := h
    unfold valN atKey at *
    rw [List.find?_cons, List.find?_cons, ← h1]
    by_cases e : p.1 = k
    · simp only [e, decide_true, Option.map_some]
      exact h3
    · simp only [e, decide_false]
      exact ih
theorem relO_isSome {x : Option V} {y : Option Value} (h : RelO x y) : x.isSome = y.isSome := by
  cases x <;> cases y <;> first | rfl | exact h.elim
theorem P3.put {raw : Raw3} {xs : List (NestedKey × Addr × Value)} (r : P3 raw xs) (k : NestedKey) (b : Addr) {v : V} {u : Value} (rv : RelV v u) : P3 (putN raw k b v) (storedH xs k b u) := by
  have e := relO_isSome (r.val k)
  rw [Option.isSome_map] at e
  unfold putN storedH
  rw [e]
  split
  · rename_i h0
    clear e h0
    induction r with
    | nil => exact .nil
    | @cons p q ps qs h t ih =>
      rw [List.map_cons, List.map_cons]
      refine .cons ?_ ih
      obtain ⟨h1, h2, h3⟩ := h
      unfold putAt
      by_cases z : p.1 = k
      · rw [if_pos z, if_pos (h1 ▸ z)]
        exact ⟨h1, h2, rv⟩
      · rw [if_neg z, if_neg (h1 ▸ z)]
        exact ⟨h1, h2, h3⟩
  · rename_i h0
    clear e h0
    induction r with
    | nil => exact .cons ⟨rfl, rfl, rv⟩ .nil
    | cons h t ih => exact .cons h ih
theorem putN_len (raw : Raw3) (k : NestedKey) (b : Addr) (v : V) : (putN raw k b v).length ≤ raw.length + 1 := by
  unfold putN
  split
  · rw [List.length_map]; omega
  · rw [List.length_append]; simp
def ND (K : Fg) (H : Hp) (a : Addr) (raw : Raw3) : Prop := Rd H a (hoN K.w a raw) ∧ ∀ p ∈ raw, NkAt K H (.ref p.2.1) p.1 ∧ p.1.depth ≤ 8
theorem ND.mono {K : Fg} {H H' : Hp} {a : Addr} {raw : Raw3} (e : Same H H') (h : ND K H a raw) : ND K H' a raw := ⟨same_rd e h.1, fun p hp => ⟨(h.2 p hp).1.mono e, (h.2 p hp).2⟩⟩
section
variable {X : Cx} {pins : List (Addr × Obj)} {σ : L2.St} {H : Hp} {s : Shared} {a : Addr} {y v : V} {u r : Value} {o : Option V} {A : Around} {E : Value → Shared → Prop} {raw : Raw3} {k : NestedKey}
theorem nk_is (I : Inv X pins σ H s) {v : V} {k : NestedKey} (h : NkAt X.G H v k) : ∀ u, RelV v u → NestedIs s.heap k u :=
  NkAt.rec (motive_1 := fun v k _ => ∀ u, RelV v u → NestedIs s.heap k u) (motive_2 := fun vs ks _ => ∀ us, Vals vs us → NestedAll s.heap ks us)
    (fun u r => by cases (show u = Value.none from r); exact .none) (fun b u r => by cases (show u = Value.bool b from r); exact .bool rfl) (fun i u r => by obtain ⟨t, rfl⟩ := r; exact .int i t) (fun x u r => by obtain ⟨t, rfl⟩ := r; exact .text x t)
    (fun hs _ ih u r => by
      cases (show u = Value.ref _ from r)
      obtain ⟨its, rv, ⟨o, e, c, n, d⟩, _⟩ := I.tuple hs
      exact .tup e c d (ih _ rv))
    (fun us r => by cases r; exact .nil) (fun _ _ i1 i2 us r => by
      cases r with
      | cons r1 r2 => exact .cons (i1 _ r1) (i2 _ r2)) h
theorem nkey_is (I : Inv X pins σ H s) {b : Addr} (h : NkAt X.G H (.ref b) k) (hd : k.depth ≤ 8) : (nestedKind X.prog X.w).is s.heap k b := ⟨nk_is I h _ rfl, hd⟩
theorem rawOk_of (I : Inv X pins σ H s) (e : Rd H a (hoN X.w a raw)) : RawOk X.w s.heap a raw := by
  have q : ObjOk X.prog X.w H s.heap a (hoN X.w a raw) := e.ok I.hok
  exact q.1
theorem nd_of (I : Inv X pins σ H s) (e : ND X.G H a raw) : raw.length ≤ sizeLine ∧ (a == sysModules) = false ∧ ∃ xs, P3 raw xs ∧ s.heap.DictOfH (nestedKind X.prog X.w) a xs := by
  obtain ⟨z, hd, xs, rel, o, es, ep, h1, h2, h3, h4, h5⟩ := rawOk_of I e.1
  refine ⟨z, hd, xs, rel, o, es, ep, h1, h2, h3, h4, ?_, h5⟩
  have all : ∀ {l : Raw3} {m : List (NestedKey × Addr × Value)}, P3 l m → (∀ p ∈ l, NkAt X.G H (.ref p.2.1) p.1 ∧ p.1.depth ≤ 8) → ∀ x ∈ m, (nestedKind X.prog X.w).is s.heap x.1 x.2.1 := by
    intro l m q
    induction q with
    | nil => intro _ x hx; exact nomatch hx
    | @cons p q ps qs hq t ih =>
      intro hp x hx
      rcases List.mem_cons.mp hx with e | hx
      · subst e
        obtain ⟨n1, n2⟩ := hp p (by simp)
        rw [← hq.1, ← hq.2.1]
        exact nkey_is I n1 n2
      · exact ih (fun p hp' => hp p (by simp [hp'])) x hx
  exact all rel e.2
theorem nroom (hu : A.units + 64 < cLine) : (nestedKind X.prog X.w).room A.in1 := by
  show A.units + 1 + 8 < cLine
  omega
theorem emptyN (I : Inv X pins σ H s) (e : Rd H a (.dK [])) : (a == sysModules) = false ∧ s.heap.DictOfH (nestedKind X.prog X.w) a [] := by
  obtain ⟨z, hd, vs, rel, dd⟩ := dk_rd I.hok e
  cases rel
  obtain ⟨ob, es, ep, h1, h2, h3, h4⟩ := dd
  refine ⟨hd, ob, es, ep, h1, h2, h3, ?_, fun x hx => (nomatch hx), List.nodup_nil⟩
  have := h4.2.1.length
  rw [List.map_nil]
  exact List.eq_nil_of_length_eq_zero (by simpa using this)
end
def DGt (K : Fg) (H : Hp) (a : Addr) (y : V) (r : Option V) : Prop := DGet H a y r ∨ (∃ raw k b, ND K H a raw ∧ y = .ref b ∧ NkAt K H y k ∧ k.depth ≤ 8 ∧ r = valN raw k) ∨ ∃ k b, Rd H a (.dK []) ∧ y = .ref b ∧ NkAt K H y k ∧ k.depth ≤ 8 ∧ r = none
def DSt (K : Fg) (H : Hp) (a : Addr) (y v : V) (H' : Hp) : Prop := DPut H a y v H' ∨
  (∃ raw k b, H a = some (hoN K.w a raw) ∧ ND K H a raw ∧ y = .ref b ∧ NkAt K H y k ∧ k.depth ≤ 8 ∧ raw.length < sizeLine ∧ H' = upd H a (hoN K.w a (putN raw k b v))) ∨
  ∃ k b, H a = some (.dK []) ∧ y = .ref b ∧ NkAt K H y k ∧ k.depth ≤ 8 ∧ H' = upd H a (hoN K.w a [(k, b, v)])
section
variable {X : Cx} {pins : List (Addr × Obj)} {σ : L2.St} {H : Hp} {s : Shared} {a : Addr} {y v : V} {u r : Value} {o : Option V} {A : Around} {E : Value → Shared → Prop}
theorem dg_cases {P : Prop} (I : Inv X pins σ H s) (g : DGt X.G H a y o) (h1 : DGet H a y o → P)
    (h2 : ∀ (raw : Raw3) (k : NestedKey) (b : Addr) (xs : List (NestedKey × Addr × Value)), y = .ref b → (nestedKind X.prog X.w).is s.heap k b → (a == sysModules) = false → s.heap.DictOfH (nestedKind X.prog X.w) a xs → RelO o ((atKey xs k).map (·.2)) → P) : P := by
  rcases g with g | ⟨raw, k, b, nd, ey, nk, dp, l⟩ | ⟨k, b, e, ey, nk, dp, l⟩
  · exact h1 g
  · obtain ⟨z, hd, xs, rel, dd⟩ := nd_of I nd
    rw [ey] at nk
    exact h2 raw k b xs ey (nkey_is I nk dp) hd dd (by rw [l]; exact rel.val k)
  · obtain ⟨hd, dd⟩ := emptyN I e
    rw [ey] at nk
    exact h2 [] k b [] ey (nkey_is I nk dp) hd dd (by rw [l]; exact True.intro)
theorem n_get {Q : Value → Shared → Prop} (hu : A.units + 64 < cLine) (I : Inv X pins σ H s) (g : DGt X.G H a y (some v)) (ry : RelV y u) (h : ∀ w' s', Inv X pins σ H s' → RelV v w' → Q w' s') : wpAny (model X.prog X.w) A (getItem (.ref a) u) Q E s := by
  refine dg_cases I g (fun g => d_getItem (by omega) I g ry h) fun raw k b xs ey hk hd dd rel => ?_
  subst ey
  cases (show u = Value.ref b from ry)
  cases hx : atKey xs k with
  | none => rw [hx] at rel; exact rel.elim
  | some p =>
    rw [hx] at rel
    exact wpAny_getItem_heap (nroom hu) hk dd hx (h p.2 _ (I.tok _) rel)
theorem n_notIn {Q : Value → Shared → Prop} (hu : A.units + 64 < cLine) (I : Inv X pins σ H s) (g : DGt X.G H a y o) (ry : RelV y u) (h : ∀ s', Inv X pins σ H s' → Q (.bool (!o.isSome)) s') : wpAny (model X.prog X.w) A (compareOp .NotIn u (.ref a)) Q E s := by
  refine dg_cases I g (fun g => d_notIn (by omega) I g ry h) fun raw k b xs ey hk hd dd rel => ?_
  subst ey
  cases (show u = Value.ref b from ry)
  obtain ⟨xs', hx, rfl⟩ : ∃ xs', s.heap.DictOfH (nestedKind X.prog X.w) a xs' ∧ xs' = xs := ⟨xs, dd, rfl⟩
  refine notIn_keyed (kvs := pairsH xs') (nroom hu) hk hd ⟨_, dd, rfl⟩ ?_
  have e := relO_isSome rel
  rw [valueAt_pairsH, ← e]
  exact h _ (I.tok _)
theorem rawOk_obj {w : World} {P : Program} {H' : Hp} {h' : Heap} {raw : Raw3} {xs : List (NestedKey × Addr × Value)} (z : raw.length ≤ sizeLine) (hd : (a == sysModules) = false) (rel : P3 raw xs) (dd : h'.DictOfH (nestedKind P w) a xs) :
    ObjOk P w H' h' a (hoN w a raw) := by
  obtain ⟨ob, es, ep, h1, h2, h3, h4, _, h5⟩ := dd
  refine ⟨⟨z, hd, xs, rel, ob, es, ep, h1, h2, h3, h4, h5⟩, ⟨ob, h1⟩, fun ha hb hr hk => ?_⟩
  obtain ⟨z, hd, xs, rel, ob, es, ep, h1, r⟩ := hr
  exact ⟨z, hd, xs, rel, ob, es, ep, hk _ h1, r⟩
theorem n_set {H' : Hp} {Q : Unit → Shared → Prop} (hu : A.units + 64 < cLine) (I : Inv X pins σ H s) (g : DSt X.G H a y v H') (ry : RelV y u) (rv : RelV v r) (h : ∀ s', Inv X pins σ H' s' → Q () s') :
    wpAny (model X.prog X.w) A (setItem (.ref a) u r) Q E s := by
  rcases g with g | ⟨raw, k, b, e, nd, ey, nk, dp, l, eH⟩ | ⟨k, b, e, ey, nk, dp, eH⟩
  · exact d_setItem (by omega) I g ry rv h
  · subst ey eH
    cases (show u = Value.ref b from ry)
    obtain ⟨z, hd, xs, rel, dd⟩ := nd_of I nd
    have hz : xs.length ≤ sizeLine := by rw [← Paired.length rel]; exact z
    have hl : (putN raw k b v).length ≤ sizeLine := Nat.le_trans (putN_len raw k b v) l
    refine wpAny_setItem_heap (hsz := hz) (nroom hu) (nkey_is I nk dp) dd fun h' dd' hs => h _ ?_
    obtain ⟨q, es, ep, hq, _⟩ := id dd'
    exact d_write I (by rw [e]; exact True.intro) hs ⟨q, hq⟩ (rawOk_obj hl hd (rel.put k b rv) dd')
  · subst ey eH
    cases (show u = Value.ref b from ry)
    obtain ⟨hd, dd⟩ := emptyN I (.inl e)
    refine wpAny_setItem_heap (hsz := Nat.zero_le _) (nroom hu) (nkey_is I nk dp) dd fun h' dd' hs => h _ ?_
    obtain ⟨q, es, ep, hq, _⟩ := id dd'
    exact d_write I (by rw [e]; exact True.intro) hs ⟨q, hq⟩ (rawOk_obj (by rw [sizeLine_eq]; simp) hd (xs := [(k, b, r)]) (.cons ⟨rfl, rfl, rv⟩ .nil) dd')
end
end DL
namespace DL
open PySem PySem.Spec L2 PyProof.Rows
def Lk : List Addr → Hp → (Hp → Prop) → Prop
  | [], H, Q => Q H
  | a :: as, H, Q => ∃ u, H a = some u ∧ Mut (some u) ∧ ∀ od, Lk as (upd H a (.frz od u)) Q
def Lks (H : Hp) (Q : Hp → Prop) : Prop := ∃ as, Lk as H Q
theorem Lks.now {H : Hp} {Q : Hp → Prop} (h : Q H) : Lks H Q := ⟨[], h⟩
theorem lk_inv {X : Cx} {pins : List (Addr × Obj)} {σ : L2.St} {s : Shared} {Q : Hp → Prop} : ∀ (as : List Addr) {H : Hp}, Inv X pins σ H s → Lk as H Q → ∃ H', Inv X pins σ H' s ∧ Q H'
  | [], H, I, h => ⟨H, I, h⟩
  | a :: as, H, I, ⟨u, h1, h2, h3⟩ => by
    obtain ⟨od, I1⟩ := I.lock h1 h2
    exact lk_inv as I1 (h3 od)
theorem lks_inv {X : Cx} {pins : List (Addr × Obj)} {σ : L2.St} {s : Shared} {Q : Hp → Prop} {H : Hp} (I : Inv X pins σ H s) (h : Lks H Q) : ∃ H', Inv X pins σ H' s ∧ Q H' := let ⟨as, h⟩ := h; lk_inv as I h
theorem PE.lk {X : Cx} {e : Expr} {t : TE} (h : PE X e t) : PE X e (fun σ H Q => t σ H fun v H1 => Lks H1 (Q v)) :=
  ⟨fun pins s σ H Q I hw => thn (h.run pins s σ H _ I hw) fun u s1 ⟨v, H1, I1, r, q⟩ => let ⟨H2, I2, q2⟩ := lks_inv I1 q; ⟨v, H2, I2, r, q2⟩⟩
theorem PE.lk0 {X : Cx} {e : Expr} {t : TE} (h : PE X e t) : PE X e (fun σ H Q => Lks H fun H1 => t σ H1 Q) :=
  ⟨fun pins s σ H Q I hw => let ⟨H2, I2, q2⟩ := lks_inv I hw; h.run pins s σ H2 Q I2 q2⟩
theorem PS.lk0 {X : Cx} {st : Stmt} {t : TS} (h : PS X st t) : PS X st (fun D σ H => Lks H fun H1 => t D σ H1) :=
  ⟨fun pins s σ H D I hw => let ⟨H2, I2, q2⟩ := lks_inv I hw; h.run pins s σ H2 D I2 q2⟩
def IsDt (K : Fg) (H : Hp) (a : Addr) : Prop := IsD H a ∨ ∃ raw, Rd H a (hoN K.w a raw)
theorem isDt_at {X : Cx} {pins : List (Addr × Obj)} {σ : L2.St} {H : Hp} {s : Shared} {a : Addr} (I : Inv X pins σ H s) (d : IsDt X.G H a) :
    s.TypeIs (.ref a) "dict" ∧ (∀ b, Value.ref a = .ref b → ∃ ob, s.heap.get? b = some ob ∧ ob.dict = none) ∧ (a == sysModules) = false := by
  rcases d with d | ⟨raw, e⟩
  · exact isD_at I d
  · obtain ⟨z, hd, xs, rel, o, es, ep, h1, h2, h3, _⟩ := rawOk_of I e
    exact ⟨⟨o, h1, h2.1⟩, fun b q => by
      cases q
      exact ⟨o, h1, h2.2.1⟩, hd⟩
theorem DGt.isD {K : Fg} {H : Hp} {a : Addr} {y : V} {o : Option V} (g : DGt K H a y o) : IsDt K H a := by
  rcases g with (⟨kvs, k, e, _⟩ | ⟨kvs, k, b, e, _⟩) | ⟨raw, k, b, nd, _⟩ | ⟨k, b, e, _⟩
  · exact .inl (.inl ⟨_, e⟩)
  · exact .inl (.inr ⟨_, e⟩)
  · exact .inr ⟨_, nd.1⟩
  · exact .inl (.inl ⟨_, e⟩)
def tGet (K : Fg) (td ty : TE) : TE := fun σ H Q => td σ H fun x H1 => ty σ H1 fun y H2 => ∃ a v, x = .ref a ∧ DGt K H2 a y (some v) ∧ Q v H2
def tIn (K : Fg) (b : Bool) (ty td : TE) : TE := fun σ H Q => ty σ H fun y H1 => td σ H1 fun x H2 => ∃ a o, x = .ref a ∧ DGt K H2 a y o ∧ Q (.bl (if b = true then o.isSome else !o.isSome)) H2
def DNt (K : Fg) (H : Hp) (a : Addr) (y v : V) (H' : Hp) : Prop := (∃ kvs k, H a = some (.dK kvs) ∧ y = kV k ∧ valV kvs k = none ∧ kvs.length < sizeLine ∧ H' = upd H a (.dK (putK kvs k v))) ∨
  (∃ raw k b, H a = some (hoN K.w a raw) ∧ ND K H a raw ∧ y = .ref b ∧ NkAt K H y k ∧ k.depth ≤ 8 ∧ valN raw k = none ∧ raw.length < sizeLine ∧ H' = upd H a (hoN K.w a (putN raw k b v))) ∨
  ∃ k b, H a = some (.dK []) ∧ y = .ref b ∧ NkAt K H y k ∧ k.depth ≤ 8 ∧ H' = upd H a (hoN K.w a [(k, b, v)])
def delN (raw : Raw3) (k : NestedKey) : Raw3 := raw.filter fun p => decide (p.1 ≠ k)
theorem P3.del {raw : Raw3} {xs : List (NestedKey × Addr × Value)} (r : P3 raw xs) (k : NestedKey) : P3 (delN raw k) (withoutH xs k) := by
  unfold delN withoutH
  induction r with
  | nil => exact .nil
  | @cons p q ps qs h t ih =>
    rw [List.filter_cons, List.filter_cons, ← h.1]
    by_cases e : p.1 = k
    · rw [if_neg (by simp [e]), if_neg (by simp [e])]
      exact ih
    · rw [if_pos (by simp [e]), if_pos (by simp [e])]
      exact .cons h ih
def tSdf (K : Fg) (td ty tx : TE) : TE := fun σ H Q => td σ H fun x H1 => ∃ a, x = .ref a ∧ IsDt K H1 a ∧ ty σ H1 fun y H2 => tx σ H2 fun z H3 => (∃ v, DGt K H3 a y (some v) ∧ Q v H3) ∨ ∃ H4, DNt K H3 a y z H4 ∧ Q z H4
def DLen (K : Fg) (H : Hp) (a : Addr) (n : Nat) : Prop := (∃ kvs, Rd H a (.dK kvs) ∧ n = kvs.length) ∨ ∃ raw, ND K H a raw ∧ n = raw.length
section
variable {X : Cx} {pins : List (Addr × Obj)} {σ : L2.St} {H H4 : Hp} {s : Shared} {a : Addr} {y v d : V} {u r : Value} {o : Option V} {A : Around} {E : Value → Shared → Prop}
theorem n_sdf1 {Q : Value → Shared → Prop} (hu : A.units + 64 < cLine) (I : Inv X pins σ H s) (g : DGt X.G H a y (some v)) (ry : RelV y u) (h : ∀ w' s', Inv X pins σ H s' → RelV v w' → Q w' s') :
    wpAny (model X.prog X.w) A (call (.builtin "dict.setdefault") [.ref a, u, r]) Q E s := by
  rcases g with (⟨kvs, k, e, ey, l⟩ | ⟨kvs, k, b, e, ey, eb, l⟩) | ⟨raw, k, b, nd, ey, nk, dp, l⟩ | ⟨k, b, e, ey, nk, dp, l⟩
  · subst ey
    obtain ⟨z, hd, vs, rel, dd⟩ := dk_rd I.hok e
    refine call_meetsIn PySem.F.slot_dict_setdefault dd.typeIs PySem.F.entry_dict_setdefault (PySem.F.args_dict_setdefault_3 _ _ _) (kt_meets_setdefault (mixKind X.prog X.w) a (kV_is ry) hd r) ⟨vs, dd, by rw [← rel.length]; exact z, fun v' hv => ?_, fun hn => ?_⟩
    · have rr := rel.val k
      rw [hv, ← l] at rr
      exact h _ _ (I.tok _) rr
    · have rr := rel.val k
      rw [hn, ← l] at rr
      exact rr.elim
  · subst ey
    cases (show u = Value.ref b from ry)
    obtain ⟨z, hd, xs, rel, dd⟩ := dt_rd I.hok e
    refine call_setdefault_heap (tupleKind_room_in1 (by omega)) (key_of I.hok eb) hd dd (fun p hp => ?_) (fun hn => ?_) (by rw [← Paired.length rel]; exact z)
    · have rr := rel.val k
      rw [hp, ← l] at rr
      exact h _ _ (I.tok _) rr
    · have rr := rel.val k
      rw [hn, ← l] at rr
      exact rr.elim
  · subst ey
    cases (show u = Value.ref b from ry)
    obtain ⟨z, hd, xs, rel, dd⟩ := nd_of I nd
    refine call_setdefault_heap (nroom hu) (nkey_is I nk dp) hd dd (fun p hp => ?_) (fun hn => ?_) (by rw [← Paired.length rel]; exact z)
    · have rr := rel.val k
      rw [hp, ← l] at rr
      exact h _ _ (I.tok _) rr
    · have rr := rel.val k
      rw [hn, ← l] at rr
      exact rr.elim
  · cases l
theorem n_sdf0 {Q : Value → Shared → Prop} (hu : A.units + 64 < cLine) (I : Inv X pins σ H s) (st : DNt X.G H a y v H4) (ry : RelV y u) (rv : RelV v r) (h : ∀ s', Inv X pins σ H4 s' → Q r s') :
    wpAny (model X.prog X.w) A (call (.builtin "dict.setdefault") [.ref a, u, r]) Q E s := by
  rcases st with ⟨kvs, k, e, ey, hn, l, eH⟩ | ⟨raw, k, b, e, nd, ey, nk, dp, hn, l, eH⟩ | ⟨k, b, e, ey, nk, dp, eH⟩
  · subst ey eH
    obtain ⟨z, hd, vs, rel, dd⟩ := dk_of I.hok e
    refine call_meetsIn PySem.F.slot_dict_setdefault dd.typeIs PySem.F.entry_dict_setdefault (PySem.F.args_dict_setdefault_3 _ _ _) (kt_meets_setdefault (mixKind X.prog X.w) a (kV_is ry) hd r) ⟨vs, dd, by rw [← rel.length]; exact z, fun v' hv => ?_, fun hn h' dd' hs => ?_⟩
    · have rr := rel.val k
      rw [hv, hn] at rr
      exact rr.elim
    · have hl2 : (putK kvs k v).length ≤ sizeLine := by have := length_putK kvs k v; omega
      exact h _ (d_write (t' := s.toks + 1) I (by rw [e]; exact True.intro) hs (let ⟨q, _, _, hq, _⟩ := dd'; ⟨q, hq⟩) (dk_new hl2 hd (rel.put k rv) dd'))
  · subst ey eH
    cases (show u = Value.ref b from ry)
    obtain ⟨z, hd, xs, rel, dd⟩ := nd_of I nd
    refine call_setdefault_heap (nroom hu) (nkey_is I nk dp) hd dd (fun p hp => ?_) (fun hn h' dd' hs => ?_) (by rw [← Paired.length rel]; exact z)
    · have rr := rel.val k
      rw [hp, hn] at rr
      exact rr.elim
    · obtain ⟨q, es, ep, hq, _⟩ := id dd'
      exact h _ (d_write I (by rw [e]; exact True.intro) hs ⟨q, hq⟩ (rawOk_obj (Nat.le_trans (putN_len raw k b v) l) hd (rel.put k b rv) dd'))
  · subst ey eH
    cases (show u = Value.ref b from ry)
    obtain ⟨hd, dd⟩ := emptyN I (.inl e)
    refine call_setdefault_heap (nroom hu) (nkey_is I nk dp) hd dd (fun p hp => (nomatch hp)) (fun hn h' dd' hs => ?_) (Nat.zero_le _)
    obtain ⟨q, es, ep, hq, _⟩ := id dd'
    exact h _ (d_write I (by rw [e]; exact True.intro) hs ⟨q, hq⟩ (rawOk_obj (by rw [sizeLine_eq]; simp) hd (xs := [(k, b, r)]) (.cons ⟨rfl, rfl, rv⟩ .nil) dd'))
theorem n_len {n : Nat} {Q : Value → Shared → Prop} (I : Inv X pins σ H s) (d : DLen X.G H a n) (h : ∀ t s', Inv X pins σ H s' → Q (.int n t) s') : wpAny (model X.prog X.w) A (call (.builtin "len") [.ref a]) Q E s := by
  rcases d with ⟨kvs, e, rfl⟩ | ⟨raw, nd, rfl⟩
  · exact d_len I e h
  · obtain ⟨z, hd, xs, rel, dd⟩ := nd_of I nd
    refine PyProof.Rows.call_len_slot (n := raw.length) dd.typeIs PySem.F.slot_dict_len (fun Q' hq => len_keyed (kvs := pairsH xs) hd ⟨xs, dd, rfl⟩ ?_) (by omega) (by rw [sizeLine_eq] at z; omega) ?_
    · rw [pairsH_length, ← Paired.length rel]
      exact hq
    · exact h _ _ (I.tok _)
end
section
variable {X : Cx} {o i e f value : Expr} {pos pos' tpos apos cpos : Pos} {td ty tv tx : TE}
theorem pe_nget (hu : X.A.units + 64 < cLine) (ho : PE X o td) (hi : PE X i ty) (hs : NoSl i) : PE X (.Subscript o i pos) (tGet X.G td ty) := by
  refine ⟨fun pins s σ H Q I h => subD_of PySem.F.slot_dict_getitem.lookup hs (thn (ho.run pins s σ H _ I h) fun u s1 ⟨x, H1, I1, rx, q1⟩ => thn (hi.run pins s1 σ H1 _ I1 q1) fun iv s2 ⟨y, H2, I2, ry, a, v, ex, g, q2⟩ => ?_)⟩
  subst ex
  cases (show u = Value.ref a from rx)
  exact ⟨(isDt_at I2 g.isD).1, n_get hu I2 g ry fun w' s3 I3 rw' => ⟨v, H2, I3, rw', q2⟩⟩
theorem pc_nnotin (hu : X.A.units + 64 < cLine) (hi : PE X i ty) (ho : PE X o td) : PC X .NotIn i o (tIn X.G false ty td) := by
  refine ⟨fun pins s σ H Q I h => thn (hi.run pins s σ H _ I h) fun iv s1 ⟨y, H1, I1, ry, q1⟩ => thn (ho.run pins s1 σ H1 _ I1 q1) fun u s2 ⟨x, H2, I2, rx, a, ov, ex, g, q2⟩ => ?_⟩
  subst ex
  cases (show u = Value.ref a from rx)
  exact n_notIn hu I2 g ry fun s3 I3 => ⟨.bl (!ov.isSome), H2, I3, rfl, q2⟩
theorem pe_dm2 {m id : String} {R : Addr → V → V → Hp → VK → Prop} (pa : PlainAttrs "dict") (slot : Slot "dict" (m : Str) id) (hty : typeOf (.builtin id) = pure (.type "method_descriptor"))
    (hc : ∀ (pins : List (Addr × Obj)) (s : Shared) (σ : L2.St) (H : Hp) (a : Addr) (y z : V) (u r : Value) (Q : VK), Inv X pins σ H s → RelV y u → RelV z r → R a y z H Q → wpAny (model X.prog X.w) X.A (call (.builtin id) [.ref a, u, r]) (EP X pins σ Q) X.xe s)
    (ho : PE X o td) (he : PE X e ty) (hf : PE X f tx) (m1 : M2 X o (m : Str) apos e f cpos) : PE X (.Call (.Attribute o (m : Str) apos) [e, f] [] cpos) (fun σ H Q => td σ H fun x H1 => ∃ a, x = .ref a ∧ IsDt X.G H1 a ∧ ty σ H1 fun y H2 => tx σ H2 fun z H3 => R a y z H3 Q) := by
  refine ⟨fun pins s σ H Q I h => wpAny_Call_method m1.base m1.few m1.line pa slot hty (thn (ho.run pins s σ H _ I h) fun u s1 ⟨x, H1, I1, rx, a, ex, d, q1⟩ => ?_)⟩
  subst ex
  cases (show u = Value.ref a from rx)
  obtain ⟨t1, t2, _⟩ := isDt_at I1 d
  refine ⟨t1, t2, ?_⟩
  rw [m1.trees]
  exact Calls.callWith_builtin rfl (Calls.evalArgs_plain (Calls.spliced_cons (thn (he.run pins s1 σ H1 _ I1 q1) fun iv s2 ⟨y, H2, I2, ry, q2⟩ =>
    Calls.spliced_cons (thn (hf.run pins s2 σ H2 _ I2 q2) fun fv s3 ⟨z, H3, I3, rz, q3⟩ => Calls.spliced_nil (hc pins s3 σ H3 a y z iv fv Q I3 ry rz q3)))))
theorem pe_nsdf (hu : X.A.units + 64 < cLine) (ho : PE X o td) (he : PE X e ty) (hf : PE X f tx) (m : M2 X o "setdefault" apos e f cpos) : PE X (.Call (.Attribute o "setdefault" apos) [e, f] [] cpos) (tSdf X.G td ty tx) :=
  pe_dm2 (R := fun a y z H Q => (∃ v, DGt X.G H a y (some v) ∧ Q v H) ∨ ∃ H4, DNt X.G H a y z H4 ∧ Q z H4) PySem.F.plainAttrs_dict PySem.F.slot_dict_setdefault PySem.F.type_dict_setdefault (fun pins s σ H a y z u r Q I ry rz q => by
    rcases q with ⟨v, g, q⟩ | ⟨H4, g, q⟩
    · exact n_sdf1 hu I g ry fun w' s' I' r' => ⟨v, H, I', r', q⟩
    · exact n_sdf0 hu I g ry rz fun s' I' => ⟨z, H4, I', rz, q⟩) ho he hf m
theorem call_nlen : CallR X (.builtin "len") (fun xs H Q => ∃ a n, xs = [.ref a] ∧ DLen X.G H a n ∧ Q (.int n) H) := by
  intro pins s σ H xs us Q I r ⟨a, n, ex, d, q⟩
  subst ex
  cases r with
  | cons r1 r2 =>
    cases r2
    cases (show _ = Value.ref a from r1)
    exact n_len I d fun t s' I' => ⟨.int n, H, I', ⟨t, rfl⟩, q⟩
end
end DL
namespace DL
open PySem PySem.Spec L2 PyProof.Rows
def isDct {α : Type} (l : List (D × α)) : Bool := l.all fun p => (nkOf p.1).isSome
structure RawAt (h : Heap) (a : Addr) (o : Obj) (es : Array DictEntry) (ep : Nat) (ks vs : List V) : Prop where
  sys : (a == sysModules) = false
  at_ : h.get? a = some o
  ex : o.ExactDict
  dat : o.data = .dict es ep
  ks : Vals ks (es.toList.map (·.key))
  vs : Vals vs (es.toList.map (·.val))
  sz : es.size ≤ sizeLine
theorem vals_mk : ∀ {ks : List V} {us : List Value}, ks.length = us.length → (∀ (i : Nat) (k : V) (u : Value), ks[i]? = some k → us[i]? = some u → RelV k u) → Vals ks us
  | [], [], _, _ => .nil
  | [], _ :: _, h, _ => by simp at h
  | _ :: _, [], h, _ => by simp at h
  | k :: ks, u :: us, hl, h => .cons (h 0 k u rfl rfl) (vals_mk (by simpa using hl) fun i k' u' e1 e2 => h (i + 1) k' u' (by simpa using e1) (by simpa using e2))
section
variable {X : Cx} {pins : List (Addr × Obj)} {σ : L2.St} {H : Hp} {s : Shared} {a : Addr} {o : Obj}
theorem rawK (I : Inv X pins σ H s) {kvs : List (Key × V)} (h : H a = some (.frz o (.dK kvs))) : ∃ es ep, RawAt s.heap a o es ep (kvs.map fun p => kV p.1) (kvs.map (·.2)) ∧ es.size = kvs.length := by
  obtain ⟨hs, hgd, hx, es, ep, vs, hdt, hsz, kv, hm⟩ := I.frzK h
  obtain ⟨es', ep', ⟨o', e1, e2, e3⟩, hsz', ent⟩ := hm.dictOf.raw
  rw [hgd] at e1
  cases e1
  rw [hdt] at e3
  cases e3
  obtain ⟨z, _⟩ := (show ObjOk X.prog X.w H s.heap a (.dK kvs) from (I.hok a _ h).2)
  have hl : kvs.length = vs.length := Paired.length kv
  refine ⟨es, ep, ⟨hs, hgd, hx, hdt, vals_mk (by simp [hsz]) fun i k u e1 e2 => ?_, vals_mk (by simp [hsz]) fun i k u e1 e2 => ?_, by rw [hsz]; exact z⟩, hsz⟩
  · rw [List.getElem?_map] at e1 e2
    obtain ⟨p, q1, rfl⟩ := Option.map_eq_some_iff.mp e1
    obtain ⟨en, q2, rfl⟩ := Option.map_eq_some_iff.mp e2
    obtain ⟨u', hu', ru⟩ := kv_get kv (show kvs[i]? = some (p.1, p.2) from q1)
    have hi : i < es.size := by
      have := (List.getElem?_eq_some_iff.mp q2).1
      simpa using this
    have hen : es[i] = en := by
      have := (List.getElem?_eq_some_iff.mp q2).2
      simpa using this
    have := (ent i hi _ _ hu').1
    rw [hen] at this
    exact relV_key this
  · rw [List.getElem?_map] at e1 e2
    obtain ⟨p, q1, rfl⟩ := Option.map_eq_some_iff.mp e1
    obtain ⟨en, q2, rfl⟩ := Option.map_eq_some_iff.mp e2
    obtain ⟨u', hu', ru⟩ := kv_get kv (show kvs[i]? = some (p.1, p.2) from q1)
    have hi : i < es.size := by
      have := (List.getElem?_eq_some_iff.mp q2).1
      simpa using this
    have hen : es[i] = en := by
      have := (List.getElem?_eq_some_iff.mp q2).2
      simpa using this
    have := (ent i hi _ _ hu').2
    rw [hen] at this
    rw [this]
    exact ru
theorem rawN (I : Inv X pins σ H s) {raw : Raw3} (h : H a = some (.frz o (hoN X.w a raw))) : ∃ es ep, RawAt s.heap a o es ep (raw.map fun p => V.ref p.2.1) (raw.map (·.2.2)) ∧ es.size = raw.length := by
  obtain ⟨e0, q⟩ := (show ObjOk X.prog X.w H s.heap a (.frz o (hoN X.w a raw)) from I.hok a _ h)
  obtain ⟨z, hd, xs, rel, o', es, ep, h1, h2, h3, h4, h5⟩ := (show RawOk X.w s.heap a raw from q.1)
  rw [e0] at h1
  cases h1
  have hl := Paired.length rel
  have hz : es.size = raw.length := by
    have := congrArg List.length h4
    rw [List.length_map, Array.length_toList] at this
    omega
  refine ⟨es, ep, ⟨hd, e0, h2, h3, ?_, ?_, by omega⟩, hz⟩
  · rw [h4, List.map_map]
    clear h4 hz hl h5 z h q
    induction rel with
    | nil => exact .nil
    | cons r _ ih =>
      rw [List.map_cons, List.map_cons]
      refine .cons ?_ ih
      show Value.ref _ = Value.ref _
      rw [r.2.1]
  · rw [h4, List.map_map]
    clear h4 hz hl h5 z h q
    induction rel with
    | nil => exact .nil
    | cons r _ ih =>
      rw [List.map_cons, List.map_cons]
      exact .cons r.2.2 ih
end
theorem rp_kVs {K : Fg} {H : Hp} : ∀ kvs : List (Key × V), RpAll K H (kvs.map fun p => kV p.1) (kvs.map fun p => keyD p.1)
  | [] => .nil
  | p :: r => .cons (rp_key p.1) (rp_kVs r)
theorem dct_inv {K : Fg} {J : Hp} {v : V} {l : List (D × D)} (h : Rp K J v (.dict l)) (hl : isDct l = true) : ∃ (a : Addr) (o : Obj) (u : HO) (ks vs : List V), v = .ref a ∧ J a = some (.frz o u) ∧ RpAll K J ks (l.map (·.1)) ∧ RpAll K J vs (l.map (·.2)) ∧
    ((∃ kvs, u = .dK kvs ∧ ks = kvs.map (fun p => kV p.1) ∧ vs = kvs.map (·.2) ∧ l.map (·.1) = kvs.map fun p => keyD p.1) ∨
     ∃ raw, u = hoN K.w a raw ∧ ks = raw.map (fun p => V.ref p.2.1) ∧ vs = raw.map (·.2.2) ∧ l.map (fun p => nkOf p.1) = raw.map (fun p => some p.1) ∧ (∀ p ∈ raw, p.1.depth ≤ 8) ∧ raw ≠ []) := by
  cases h with
  | fn _ => simp [isDct, nkOf] at hl
  | adr _ => simp [isDct, nkOf] at hl
  | ins _ _ _ _ _ => simp [isDct, nkOf] at hl
  | @dctK a o kvs l h1 h2 h3 => exact ⟨a, o, _, _, _, rfl, h1, by rw [h2]; exact rp_kVs kvs, h3, .inl ⟨kvs, rfl, rfl, rfl, h2⟩⟩
  | @dctN a o raw l h0 h1 h2 h3 h4 h5 => exact ⟨a, o, _, _, _, rfl, h1, h2, h5, .inr ⟨raw, rfl, rfl, rfl, h3, h4, h0⟩⟩
theorem dct_raw {X : Cx} {pins : List (Addr × Obj)} {σ : L2.St} {H J : Hp} {s : Shared} (I : Inv X pins σ H s) (sj : Same J H) {v : V} {l : List (D × D)} (h : Rp X.G J v (.dict l)) (hl : isDct l = true) :
    ∃ (a : Addr) (o : Obj) (u : HO) (ks vs : List V) (es : Array DictEntry) (ep : Nat), v = .ref a ∧ J a = some (.frz o u) ∧ RpAll X.G J ks (l.map (·.1)) ∧ RpAll X.G J vs (l.map (·.2)) ∧ RawAt s.heap a o es ep ks vs := by
  obtain ⟨a, o, u, ks, vs, e1, e2, e3, e4, ⟨kvs, e5, e6, e7, _⟩ | ⟨raw, e5, e6, e7, _⟩⟩ := dct_inv h hl
  · have q := sj _ _ e2
    rw [e5] at q
    obtain ⟨es, ep, R, _⟩ := rawK I q
    exact ⟨a, o, u, ks, vs, es, ep, e1, e2, e3, e4, by rw [e6, e7]; exact R⟩
  · have q := sj _ _ e2
    rw [e5] at q
    obtain ⟨es, ep, R, _⟩ := rawN I q
    exact ⟨a, o, u, ks, vs, es, ep, e1, e2, e3, e4, by rw [e6, e7]; exact R⟩
theorem RawAt.size {h : Heap} {a : Addr} {o : Obj} {es : Array DictEntry} {ep : Nat} {ks vs : List V} (R : RawAt h a o es ep ks vs) : es.size = ks.length ∧ es.size = vs.length := by
  have h1 := R.ks.length
  have h2 := R.vs.length
  rw [List.length_map, Array.length_toList] at h1 h2
  exact ⟨h1.symm, h2.symm⟩
def Lckd (H : Hp) (d : Addr) (o : Obj) : Prop := ∃ u, H d = some (.frz o u)
def ItKey (d : Addr) (o : Obj) (ks : List V) : It :=
  ⟨fun i H => Lckd H d o ∧ i < ks.length, fun i H x H' => H' = H ∧ ks[i]? = some x, fun i H => Lckd H d o ∧ ks.length ≤ i⟩
structure RawO (o : Obj) (es : Array DictEntry) (ep : Nat) (ks vs : List V) : Prop where
  ex : o.ExactDict
  dat : o.data = .dict es ep
  ks : Vals ks (es.toList.map (·.key))
  vs : Vals vs (es.toList.map (·.val))
theorem RawAt.o {h : Heap} {a : Addr} {o : Obj} {es : Array DictEntry} {ep : Nat} {ks vs : List V} (R : RawAt h a o es ep ks vs) : RawO o es ep ks vs := ⟨R.ex, R.dat, R.ks, R.vs⟩
theorem RawO.at_ {o : Obj} {es : Array DictEntry} {ep : Nat} {ks vs : List V} (R : RawO o es ep ks vs) {i : Nat} {k : V} (e : ks[i]? = some k) : ∃ (hi : i < es.size) (v : V), RelV k es[i].key ∧ vs[i]? = some v ∧ RelV v es[i].val ∧ es[i]? = some es[i] := by
  have h1 : ks.length = es.size := by
    have h1 := R.ks.length
    rw [List.length_map] at h1
    simpa using h1
  have h2 : vs.length = es.size := by
    have h1 := R.vs.length
    rw [List.length_map] at h1
    simpa using h1
  have hi : i < es.size := by
    have h3 := (List.getElem?_eq_some_iff.mp e).1
    rw [h1] at h3
    exact h3
  obtain ⟨u, h3, h4⟩ := R.ks.get e
  rw [List.getElem?_map, List.getElem?_eq_getElem (by simpa using hi)] at h3
  simp at h3
  have hv : i < vs.length := by rw [h2]; exact hi
  obtain ⟨u', h5, h6⟩ := R.vs.get (List.getElem?_eq_getElem hv)
  rw [List.getElem?_map, List.getElem?_eq_getElem (by simpa using hi)] at h5
  simp at h5
  exact ⟨hi, _, h3 ▸ h4, List.getElem?_eq_getElem hv, h5 ▸ h6, Array.getElem?_eq_getElem hi⟩
theorem lckd_at {X : Cx} {pins : List (Addr × Obj)} {σ : L2.St} {H : Hp} {s : Shared} {d : Addr} {o : Obj} (I : Inv X pins σ H s) (h : Lckd H d o) : s.heap.get? d = some o := by
  obtain ⟨u, h⟩ := h
  exact (show ObjOk X.prog X.w H s.heap d (.frz o u) from I.hok d _ h).1
section
variable {P : Program} {w : World} {K : PySem.W.Frag} {tg : Expr} {d : Addr} {o : Obj} {es : Array DictEntry} {ep : Nat} {ks vs : List V}
theorem RawO.size (R : RawO o es ep ks vs) : es.size = ks.length := by
  have h1 := R.ks.length
  rw [List.length_map, Array.length_toList] at h1
  exact h1.symm
theorem turn_key (it : Addr) (R : RawO o es ep ks vs) : Turn P w K tg (ItKey d o ks) [it] it (fun i h => h.IsKeyIter it d i ks.length ep) where
  mem := by simp
  obj := fun i h st b hb => by
    obtain rfl : b = it := by simpa using hb
    obtain ⟨oi, e, c, dd⟩ := st
    exact ⟨oi, e, fun v z => by rw [dd] at z; cases z⟩
  keep := fun i h h' st k => st.at fun oi e => k it (by simp) oi e
  item := by
    intro X hP hw hK hc i pins s σ H E I hf st ⟨hd, hi⟩
    subst hP hw hK
    obtain ⟨f0, f1, f2, f3, f4, f5⟩ := hf it (by simp)
    obtain ⟨hi', v, r1, _, _, hen⟩ := R.at_ (List.getElem?_eq_getElem hi)
    refine next_key_item st (lckd_at I hd) R.dat R.size hen fun h' st' sb => ?_
    have I1 : Inv X pins σ H { s with heap := h' } := I.turned (t' := s.toks) (fun b ob hb e => (sb.2 b hb).trans e) f0 f1 f3 f4 f5
    obtain ⟨oi, e, c, dd⟩ := id st'
    exact ⟨es[i].key, rfl, go_of (s := { s with heap := h' }) e c dd (by decide) ⟨ks[i], H, I1, r1, ⟨rfl, List.getElem?_eq_getElem hi⟩, st', fun b hb => (hf b hb).1⟩⟩
  done := by
    intro X hP hw hK hc i pins s σ H E I hf st ⟨hd, hi⟩
    subst hP hw hK
    obtain ⟨f0, f1, f2, f3, f4, f5⟩ := hf it (by simp)
    exact next_key_end (I.ok.hd hc) st (lckd_at I hd) R.dat R.size hi fun h' eb => ⟨rfl, I.turned (t' := s.toks) (fun b ob hb e => eb b ob hb e) f0 f1 f3 f4 f5⟩
  self := fun A i s Q E st h => wpAny_pyIter_keyiter st h
end
def iKy (K : Fg) (td : TE) : TI := fun σ H R => td σ H fun x H1 => ∃ J l, Same J H1 ∧ Rp K J x (.dict l) ∧ isDct l = true ∧ ∀ d o u ks, J d = some (.frz o u) → RpAll K J ks (l.map (·.1)) → R (ItKey d o ks) H1
section
variable {X : Cx} {tg e : Expr} {td : TE} {apos cpos : Pos}
theorem pi_ky (he : PE X e td) : PI X tg e (iKy X.G td) := by
  refine ⟨fun pins s σ H R I h => thn (he.run pins s σ H _ I h) fun u s1 ⟨x, H1, I1, rx, J, l, sj, rp, hl, q⟩ => ?_⟩
  obtain ⟨d, o, uu, ks, vs, es, ep, rfl, hd, r1, r2, RA⟩ := dct_raw I1 sj rp hl
  cases (show u = Value.ref d from rx)
  refine iter_keys RA.sys RA.at_ RA.ex RA.dat (pi_one (tk := s1.toks) I1 _ (turn_key _ RA.o) ⟨_, Heap.get?_push_size _ rfl, rfl, ?_⟩ (q d o uu ks hd r1))
  rw [RA.size.1] <;> rfl
end
end DL
namespace DL
open PySem PySem.Spec L2 PyProof.Rows
def kk0 (d : D) : Bool := (keyOf d).isSome
def kk1 : D → Bool
  | .tuple ds => match nkOf (.tuple ds) with
    | some k => decide (k.depth ≤ 8)
    | none => false
  | _ => false
@[simp] theorem kk0_int (i : Int) : kk0 (.int i) = true := rfl
@[simp] theorem kk0_str (i : Str) : kk0 (.str i) = true := rfl
@[simp] theorem kk0_tup (i : List D) : kk0 (.tuple i) = false := rfl
@[simp] theorem kk1_int (i : Int) : kk1 (.int i) = false := rfl
@[simp] theorem kk1_str (i : Str) : kk1 (.str i) = false := rfl
def dOkK {α : Type} (l : List (D × α)) (k : D) : Bool := (kk0 k && l.all fun p => kk0 p.1) || (kk1 k && l.all fun p => kk1 p.1)
def dLook {α : Type} (l : List (D × α)) (k : D) : Option α := (l.find? fun p => decide (nkOf p.1 = nkOf k)).map (·.2)
theorem kk1_some {d : D} (h : kk1 d = true) : ∃ ds k, d = .tuple ds ∧ nkOf d = some k ∧ k.depth ≤ 8 := by
  unfold kk1 at h
  split at h
  · rename_i ds
    split at h
    · rename_i k hk
      exact ⟨ds, k, rfl, hk, by simpa using h⟩
    · cases h
  · cases h
theorem kk0_some {d : D} (h : kk0 d = true) : ∃ k, d = keyD k ∧ keyOf d = some k := by
  unfold kk0 at h
  cases d <;> simp [keyOf] at h
  · exact ⟨.inl _, rfl, rfl⟩
  · exact ⟨.inr _, rfl, rfl⟩
theorem dOkK_dct {α : Type} {l : List (D × α)} {k : D} (h : dOkK l k = true) : isDct l = true := by
  unfold dOkK at h
  unfold isDct
  rw [Bool.or_eq_true, Bool.and_eq_true, Bool.and_eq_true] at h
  rw [List.all_eq_true]
  intro p hp
  rcases h with ⟨_, h⟩ | ⟨_, h⟩
  · obtain ⟨k, e, _⟩ := kk0_some (List.all_eq_true.mp h p hp)
    rw [e]
    cases k <;> rfl
  · obtain ⟨_, k, _, e, _⟩ := kk1_some (List.all_eq_true.mp h p hp)
    rw [e]
    rfl
theorem nk_key (a b : Key) : nkOf (keyD a) = nkOf (keyD b) ↔ a = b := by
  cases a <;> cases b <;> simp [keyD, nkOf]
section
variable {K : Fg} {J : Hp}
theorem look_K {k : Key} : ∀ {kvs : List (Key × V)} {l : List (D × D)}, l.map (·.1) = kvs.map (fun p => keyD p.1) → RpAll K J (kvs.map (·.2)) (l.map (·.2)) →
    (valV kvs k = none ∧ dLook l (keyD k) = none) ∨ ∃ u d, valV kvs k = some u ∧ dLook l (keyD k) = some d ∧ Rp K J u d
  | [], [], _, _ => .inl ⟨rfl, rfl⟩
  | [], _ :: _, e, _ => by simp at e
  | _ :: _, [], e, _ => by simp at e
  | p :: kvs, q :: l, e, r => by
    rw [List.map_cons, List.map_cons] at e r
    injection e with e1 e2
    cases r with
    | cons r1 r2 =>
      unfold dLook
      rw [List.find?_cons, e1]
      by_cases z : p.1 = k
      · rw [valV_pos z]
        rw [show decide (nkOf (keyD p.1) = nkOf (keyD k)) = true from decide_eq_true ((nk_key _ _).mpr z)]
        exact .inr ⟨_, _, rfl, rfl, r1⟩
      · rw [valV_neg z]
        rw [show decide (nkOf (keyD p.1) = nkOf (keyD k)) = false from decide_eq_false fun h => z ((nk_key _ _).mp h)]
        exact look_K e2 r2
theorem look_N {k : D} {nk : NestedKey} (hk : nkOf k = some nk) : ∀ {raw : Raw3} {l : List (D × D)}, l.map (fun p => nkOf p.1) = raw.map (fun p => some p.1) → RpAll K J (raw.map (·.2.2)) (l.map (·.2)) →
    (valN raw nk = none ∧ dLook l k = none) ∨ ∃ u d, valN raw nk = some u ∧ dLook l k = some d ∧ Rp K J u d
  | [], [], _, _ => .inl ⟨rfl, rfl⟩
  | [], _ :: _, e, _ => by simp at e
  | _ :: _, [], e, _ => by simp at e
  | p :: raw, q :: l, e, r => by
    rw [List.map_cons, List.map_cons] at e r
    injection e with e1 e2
    cases r with
    | cons r1 r2 =>
      unfold dLook valN
      rw [List.find?_cons, List.find?_cons, e1, hk]
      by_cases z : p.1 = nk
      · rw [z]
        simp only [decide_true]
        exact .inr ⟨_, _, rfl, rfl, r1⟩
      · have z' : ¬ (some p.1 = some nk) := fun h => z (Option.some.inj h)
        simp only [z, z', decide_false]
        have ih := look_N hk e2 r2
        unfold dLook valN at ih
        rw [hk] at ih
        exact ih
theorem keyD_rp {H : Hp} {y : V} {k : Key} (h : Rp K H y (keyD k)) : y = kV k := by
  cases k <;> cases h <;> rfl
theorem dct_get {H : Hp} (sj : Same J H) {v y : V} {l : List (D × D)} {k : D} (h : Rp K J v (.dict l)) (hk : dOkK l k = true) (ry : Rp K H y k) :
    ∃ a o, v = .ref a ∧ DGt K H a y o ∧ ((o = none ∧ dLook l k = none) ∨ ∃ u d, o = some u ∧ dLook l k = some d ∧ Rp K J u d) := by
  obtain ⟨a, ob, u, ks, vs, e1, e2, e3, e4, c⟩ := dct_inv h (dOkK_dct hk)
  unfold dOkK at hk
  rw [Bool.or_eq_true, Bool.and_eq_true, Bool.and_eq_true] at hk
  have q := sj _ _ e2
  rcases c with ⟨kvs, rfl, _, rfl, hm⟩ | ⟨raw, rfl, rfl, rfl, hm, hd, hne⟩
  · rcases hk with ⟨h0, _⟩ | ⟨h0, h1⟩
    · obtain ⟨kk, rfl, _⟩ := kk0_some h0
      cases keyD_rp ry
      refine ⟨a, valV kvs kk, e1, .inl (.inl ⟨kvs, kk, .inr ⟨ob, q⟩, rfl, rfl⟩), ?_⟩
      rcases look_K (k := kk) hm e4 with ⟨x, y⟩ | ⟨x, d, y, z, w⟩
      · exact .inl ⟨x, y⟩
      · exact .inr ⟨x, d, y, z, w⟩
    · obtain ⟨ds, nk, rfl, hnk, dp⟩ := kk1_some h0
      have hl : l = [] := by
        cases l with
        | nil => rfl
        | cons p l =>
          have := List.all_eq_true.mp h1 p (by simp)
          cases kvs with
          | nil => simp at hm
          | cons p2 kvs =>
            rw [List.map_cons, List.map_cons] at hm
            injection hm with hm _
            rw [hm] at this
            obtain ⟨k, u⟩ := p2
            cases k <;> cases this
      subst hl
      have hkv : kvs = [] := by
        cases kvs with
        | nil => rfl
        | cons q kvs => simp at hm
      subst hkv
      obtain ⟨b, rfl⟩ : ∃ b, y = .ref b := by
        cases ry with
        | tup _ _ => exact ⟨_, rfl⟩
      exact ⟨a, none, e1, .inr (.inr ⟨nk, b, .inr ⟨ob, q⟩, rfl, nk_of_rp _ ry hnk, dp, rfl⟩), .inl ⟨rfl, rfl⟩⟩
  · have hk1 : kk1 k = true := by
      rcases hk with ⟨h0, h1⟩ | ⟨h0, h1⟩
      · exfalso
        cases raw with
        | nil => exact hne rfl
        | cons p raw =>
          cases l with
          | nil => simp at hm
          | cons q l =>
            have := List.all_eq_true.mp h1 q (by simp)
            obtain ⟨kk, e, _⟩ := kk0_some this
            rw [List.map_cons, List.map_cons] at e3
            cases e3 with
            | cons r1 _ =>
              rw [e] at r1
              cases kk <;> cases r1
      · exact h0
    obtain ⟨ds, nk, rfl, hnk, dp⟩ := kk1_some hk1
    obtain ⟨b, rfl⟩ : ∃ b, y = .ref b := by
      cases ry with
      | tup _ _ => exact ⟨_, rfl⟩
    have keys : ∀ {raw : Raw3} {l : List (D × D)}, RpAll K J (raw.map fun p => V.ref p.2.1) (l.map (·.1)) → l.map (fun p => nkOf p.1) = raw.map (fun p => some p.1) → (∀ p ∈ raw, p.1.depth ≤ 8) → ∀ p ∈ raw, NkAt K H (.ref p.2.1) p.1 ∧ p.1.depth ≤ 8 := by
      intro raw
      induction raw with
      | nil => intro l _ _ _ p hp; cases hp
      | cons q raw ih =>
        intro l r hm hd p hp
        cases l with
        | nil => simp at hm
        | cons z l =>
          rw [List.map_cons, List.map_cons] at r hm
          injection hm with m1 m2
          cases r with
          | cons r1 r2 =>
            rcases List.mem_cons.mp hp with rfl | hp
            · exact ⟨nk_of_rp _ (dp_mono' sj r1) m1, hd _ (by simp)⟩
            · exact ih r2 m2 (fun p hp => hd p (by simp [hp])) p hp
    refine ⟨a, valN raw nk, e1, .inr (.inl ⟨raw, nk, b, ⟨.inr ⟨ob, q⟩, keys e3 hm hd⟩, rfl, nk_of_rp _ ry hnk, dp, rfl⟩), ?_⟩
    rcases look_N hnk hm e4 with ⟨x, y⟩ | ⟨x, d, y, z, w⟩
    · exact .inl ⟨x, y⟩
    · exact .inr ⟨x, d, y, z, w⟩
theorem dct_len {H : Hp} (sj : Same J H) {v : V} {l : List (D × D)} (h : Rp K J v (.dict l)) (hl : isDct l = true) : ∃ a, v = .ref a ∧ DLen K H a l.length := by
  obtain ⟨a, ob, u, ks, vs, e1, e2, e3, e4, c⟩ := dct_inv h hl
  have q := sj _ _ e2
  have ll := dps_len e4
  rw [List.length_map] at ll
  rcases c with ⟨kvs, rfl, _, rfl, hm⟩ | ⟨raw, rfl, rfl, rfl, hm, hd, hne⟩
  · exact ⟨a, e1, .inl ⟨kvs, .inr ⟨ob, q⟩, by rw [← ll, List.length_map]⟩⟩
  · have keys : ∀ {raw : Raw3} {l : List (D × D)}, RpAll K J (raw.map fun p => V.ref p.2.1) (l.map (·.1)) → l.map (fun p => nkOf p.1) = raw.map (fun p => some p.1) → (∀ p ∈ raw, p.1.depth ≤ 8) → ∀ p ∈ raw, NkAt K H (.ref p.2.1) p.1 ∧ p.1.depth ≤ 8 := by
      intro raw
      induction raw with
      | nil => intro l _ _ _ p hp; cases hp
      | cons q raw ih =>
        intro l r hm hd p hp
        cases l with
        | nil => simp at hm
        | cons z l =>
          rw [List.map_cons, List.map_cons] at r hm
          injection hm with m1 m2
          cases r with
          | cons r1 r2 =>
            rcases List.mem_cons.mp hp with rfl | hp
            · exact ⟨nk_of_rp _ (dp_mono' sj r1) m1, hd _ (by simp)⟩
            · exact ih r2 m2 (fun p hp => hd p (by simp [hp])) p hp
    exact ⟨a, e1, .inr ⟨raw, ⟨.inr ⟨ob, q⟩, keys e3 hm hd⟩, by rw [← ll, List.length_map]⟩⟩
end
def dIxA : D → D → Option D
  | .dict l, k => if dOkK l k = true then dLook l k else none
  | x, k => dIx x k
@[simp] theorem dIxA_d (l : List (D × D)) (k : D) : dIxA (.dict l) k = if dOkK l k = true then dLook l k else none := rfl
@[simp] theorem dIxA_l (l : List D) (k : D) : dIxA (.list l) k = dIx (.list l) k := rfl
@[simp] theorem dIxA_t (l : List D) (k : D) : dIxA (.tuple l) k = dIx (.tuple l) k := rfl
@[simp] theorem dIxA_s (l : Str) (k : D) : dIxA (.str l) k = dIx (.str l) k := rfl
def dInA : D → D → Option D
  | k, .dict l => if dOkK l k = true then some (.bool (dLook l k).isSome) else none
  | k, x => dIn k x
def dNotInA : D → D → Option D
  | k, .dict l => if dOkK l k = true then some (.bool (!(dLook l k).isSome)) else none
  | k, x => dNotIn k x
@[simp] theorem dInA_d (l : List (D × D)) (k : D) : dInA k (.dict l) = if dOkK l k = true then some (.bool (dLook l k).isSome) else none := by cases k <;> rfl
@[simp] theorem dInA_l (l : List D) (k : D) : dInA k (.list l) = dIn k (.list l) := by cases k <;> rfl
@[simp] theorem dInA_t (l : List D) (k : D) : dInA k (.tuple l) = dIn k (.tuple l) := by cases k <;> rfl
@[simp] theorem dInA_s (l : Str) (k : D) : dInA k (.str l) = dIn k (.str l) := by cases k <;> rfl
@[simp] theorem dNotInA_d (l : List (D × D)) (k : D) : dNotInA k (.dict l) = if dOkK l k = true then some (.bool (!(dLook l k).isSome)) else none := by cases k <;> rfl
@[simp] theorem dNotInA_l (l : List D) (k : D) : dNotInA k (.list l) = dNotIn k (.list l) := by cases k <;> rfl
@[simp] theorem dNotInA_t (l : List D) (k : D) : dNotInA k (.tuple l) = dNotIn k (.tuple l) := by cases k <;> rfl
@[simp] theorem dNotInA_s (l : Str) (k : D) : dNotInA k (.str l) = dNotIn k (.str l) := by cases k <;> rfl
def dLenA : List D → Option D
  | [.dict l] => if isDct l = true then some (.int l.length) else none
  | xs => dLen xs
@[simp] theorem dLenA_d (l : List (D × D)) : dLenA [.dict l] = if isDct l = true then some (.int l.length) else none := rfl
@[simp] theorem dLenA_l (l : List D) : dLenA [.list l] = dLen [.list l] := rfl
@[simp] theorem dLenA_t (l : List D) : dLenA [.tuple l] = dLen [.tuple l] := rfl
@[simp] theorem dLenA_s (l : Str) : dLenA [.str l] = dLen [.str l] := rfl
theorem wk_dict {K : Fg} {J H : Hp} {v : V} {l : List (D × D)} (h : Wk K J H v (.dict l)) : Rp K J v (.dict l) := by
  rcases h with h | ⟨_, _, _, _, e, _⟩
  · exact h
  · cases e
section
variable {X : Cx} {Y : Yx} {a b c e f : Expr} {pos : Pos}
theorem od_notInA (hu : X.A.units + 65 < cLine) : OpD X (compareOp .NotIn) dNotInA := by
  intro pins s σ H x y v u Q I rx ry ⟨J, dx, dy, d, sj, wx, wy, e, q⟩
  by_cases hd : ∃ l, dy = .dict l
  · obtain ⟨l, rfl⟩ := hd
    rw [dNotInA_d] at e
    split at e
    · rename_i hk
      cases e
      obtain ⟨a, o, rfl, g, c⟩ := dct_get sj (wk_dict wy) hk (wx.rp sj)
      cases (show u = Value.ref a from ry)
      refine n_notIn (by omega) I g rx fun s' I' => ⟨.bl (!o.isSome), H, I', rfl, ?_⟩
      have eo : o.isSome = (dLook l dx).isSome := by
        rcases c with ⟨rfl, h⟩ | ⟨_, _, rfl, h, _⟩ <;> rw [h] <;> rfl
      rw [eo]
      exact q _ J H (.refl sj) (.bl _)
    · cases e
  · have e' : dNotIn dx dy = some d := by
      cases dy <;> first | exact e | exact absurd ⟨_, rfl⟩ hd
    exact od_notIn hu pins s σ H x y v u Q I rx ry ⟨J, dx, dy, d, sj, wx, wy, e', q⟩
theorem cd_lenA : CallD X (.builtin "len") dLenA := by
  intro pins s σ H xs us Q I r ⟨J, ds, d, sj, w, e, q⟩
  by_cases hd : ∃ l, ds = [.dict l]
  · obtain ⟨l, rfl⟩ := hd
    rw [dLenA_d] at e
    split at e
    · rename_i hl
      cases e
      obtain ⟨v, rfl, wv⟩ := wks1 w
      obtain ⟨a, rfl, dl⟩ := dct_len sj (wk_dict wv) hl
      exact call_nlen pins s σ H _ us Q I r ⟨a, l.length, rfl, dl, q _ J H (.refl sj) (.int _)⟩
    · cases e
  · have e' : dLen ds = some d := by
      unfold dLenA at e
      split at e
      · rename_i l
        exact absurd ⟨l, rfl⟩ hd
      · exact e
    exact cd_len pins s σ H xs us Q I r ⟨J, ds, d, sj, w, e', q⟩
theorem de_ixA {fa fb : EC} (hu : X.A.units + 64 < cLine) (ha : DE X Y a fa) (hb : DE X Y b fb) (hs : PlainIx b := by exact fun _ _ => rfl) (hs2 : NoSl b := by exact fun _ _ => rfl) : DE X Y (.Subscript a b pos) (eBin dIxA fa fb) := by
  refine PE.imp (PE.or (pe_ix od_ix ha hb hs) (pe_nget hu ha hb hs2)) fun σ H Q ⟨G, J, ρ, er, h⟩ => ?_
  unfold eBin at h
  by_cases hd : ∃ x ρ1 y ρ2 l, fa ρ = .ok x ρ1 ∧ fb ρ1 = .ok y ρ2 ∧ deref ρ2 x = some (.dict l)
  · obtain ⟨x, ρ1, y, ρ2, l, h1, h2, h3⟩ := hd
    rw [h1] at h
    simp only [Out.bind, h2, h3] at h
    refine .inr ⟨G, J, ρ, er, ?_⟩
    rw [h1]
    intro v J1 H1 s1 r1 e1
    refine ⟨G, J1, ρ1, e1, ?_⟩
    rw [h2]
    intro w J2 H2 s2 r2 e2
    have h := Post.mono (s1.trans s2) h
    split at h
    · rename_i dx dy d1 d2
      cases d1
      split at h
      · rename_i d hd
        rw [dIxA_d] at hd
        split at hd
        · rename_i hk
          obtain ⟨a, o, rfl, g, c⟩ := dct_get e2.ex (wk_dict (deref_ok e2 (r1.mono s2) h3)) hk ((deref_ok e2 r2 d2).rp e2.ex)
          rcases c with ⟨rfl, c⟩ | ⟨u, d', rfl, c, r⟩
          · rw [c] at hd; cases hd
          · rw [c] at hd; cases hd
            exact ⟨a, u, rfl, g, h.now r e2⟩
        · cases hd
      · exact h.elim
    · exact h.elim
  · refine .inl (bin_imp (Y := Y) σ H Q ⟨G, J, ρ, er, ?_⟩)
    have e0 : eBin dIx fa fb ρ = eBin dIxA fa fb ρ := by
      unfold eBin
      cases h1 : fa ρ with
      | ok x ρ1 =>
        cases h2 : fb ρ1 with
        | ok y ρ2 =>
          simp only [Out.bind, h2]
          cases h3 : deref ρ2 x with
          | none => rfl
          | some dx =>
            cases deref ρ2 y with
            | none => rfl
            | some dy =>
              cases dx with
              | dict l => exact absurd ⟨x, ρ1, y, ρ2, l, h1, h2, h3⟩ hd
              | _ => rfl
        | exc _ _ => first | rfl | simp [h2]
        | bad => first | rfl | simp [h2]
      | exc _ _ => rfl
      | bad => rfl
    rw [e0]
    exact h
end
end DL
namespace DL
open PySem PySem.Spec L2 PyProof.Rows
@[simp] def eGet1 (fo fk : EC) (ρ : Env) : Out VV := (fo ρ).bind fun x ρ1 => match x with
  | .val (.dict l) => if isDct l = true then (fk ρ1).bind fun y ρ2 => match deref ρ2 y with
    | some k => if dOkK l k = true then .ok (.val ((dLook l k).getD .none)) ρ2 else .bad
    | none => .bad else .bad
  | _ => .bad
@[simp] def eGet2 (fo fk fx : EC) (ρ : Env) : Out VV := (fo ρ).bind fun x ρ1 => match x with
  | .val (.dict l) => if isDct l = true then (fk ρ1).bind fun y ρ2 => (fx ρ2).bind fun z ρ3 => match z, deref ρ3 y with
    | .val dz, some k => if dOkK l k = true then .ok (.val ((dLook l k).getD dz)) ρ3 else .bad
    | _, _ => .bad else .bad
  | _ => .bad
section
variable {X : Cx} {Y : Yx} {tg a b c o e f : Expr} {pos apos : Pos}
theorem it_key {K : Fg} {J : Hp} {d : Addr} {o : Obj} {u : HO} {ks : List V} {ds : List D} (h : J d = some (.frz o u)) (r : RpAll K J ks ds) : ItOk K J (ItKey d o ks) ds := by
  have hl := dps_len r
  refine ⟨fun i J1 H s1 s2 hi => ⟨⟨u, s2 _ _ (s1 _ _ h)⟩, by omega⟩, fun i J1 H x H' s1 s2 hi y => ?_, fun J1 H s1 s2 => ⟨⟨u, s2 _ _ (s1 _ _ h)⟩, by omega⟩⟩
  obtain ⟨rfl, y⟩ := y
  obtain ⟨d', h1, h2⟩ := dps_get' r y
  exact ⟨J1, d', .refl s2, h1, dp_mono' s1 h2⟩
@[simp] def eIterA (f : EC) (ρ : Env) : Out (List D) := (f ρ).bind fun x ρ1 => match x with
  | .val (.dict l) => if isDct l = true then .ok (l.map (·.1)) ρ1 else .bad
  | .val d => match itemsOf d with
    | some ds => .ok ds ρ1
    | none => .bad
  | _ => .bad
theorem di_seqA {f : EC} (h : DE X Y a f) : DI X Y tg a (eIterA f) := by
  refine PI.imp (DL.PI.or (di_seq h) (pi_ky h)) fun σ H R ⟨G, J, ρ, er, hp⟩ => ?_
  unfold eIterA at hp
  by_cases hd : ∃ l ρ1, f ρ = .ok (.val (.dict l)) ρ1
  · obtain ⟨l, ρ1, hf⟩ := hd
    refine .inr ⟨G, J, ρ, er, ?_⟩
    rw [hf] at hp ⊢
    intro v J1 H1 s1 r1 e1
    have hp : Post X.G Y G J σ (fun J' It ds => ItOk X.G J' It ds) (if isDct l = true then .ok (l.map (·.1)) ρ1 else .bad) R := hp
    split at hp
    · rename_i hl
      exact ⟨J1, l, e1.ex, r1, hl, fun d o u ks hj hr => hp _ J1 H1 s1 (it_key hj hr) e1⟩
    · exact hp.elim
  · refine .inl ⟨G, J, ρ, er, ?_⟩
    have e0 : eIter f ρ = (f ρ).bind fun x ρ1 => match x with
      | .val (.dict l) => if isDct l = true then .ok (l.map (·.1)) ρ1 else .bad
      | .val d => match itemsOf d with
        | some ds => .ok ds ρ1
        | none => .bad
      | _ => .bad := by
      unfold eIter
      cases hf : f ρ with
      | ok x ρ1 =>
        cases x with
        | slot i => rfl
        | val d => cases d <;> first | rfl | exact absurd ⟨_, _, hf⟩ hd
      | exc _ _ => rfl
      | bad => rfl
    rw [e0]
    exact hp
@[simp] def eItems (f : EC) (ρ : Env) : Out (List D) := (f ρ).bind fun x ρ1 => match x with
  | .val (.dict l) => if isDct l = true then .ok (zipD (l.map (·.1)) (l.map (·.2))) ρ1 else .bad
  | _ => .bad
def nSortedA : List D → Option (List D)
  | [.dict l] => if isDct l = true ∧ srtOk (l.map (·.1)) = true then some (srtB (l.map (·.1))) else none
  | xs => nSorted2 xs
@[simp] theorem nSortedA_d (l : List (D × D)) : nSortedA [.dict l] = if isDct l = true ∧ srtOk (l.map (·.1)) = true then some (srtB (l.map (·.1))) else none := rfl
@[simp] theorem nSortedA_l (l : List D) : nSortedA [.list l] = nSorted2 [.list l] := rfl
@[simp] theorem nSortedA_t (l : List D) : nSortedA [.tuple l] = nSorted2 [.tuple l] := rfl
def nListA : List D → Option (List D)
  | [.dict l] => if isDct l = true then some (l.map (·.1)) else none
  | xs => nList xs
@[simp] theorem nListA_d (l : List (D × D)) : nListA [.dict l] = if isDct l = true then some (l.map (·.1)) else none := rfl
@[simp] theorem nListA_l (l : List D) : nListA [.list l] = nList [.list l] := rfl
@[simp] theorem nListA_t (l : List D) : nListA [.tuple l] = nList [.tuple l] := rfl
end
end DL
namespace DL
open PySem PySem.Spec L2 PyProof.Rows
inductive Stp where
  | f (x : Str) (n : Nat)
  | k (d : D)
  | i (n : Nat)
def setV {κ α : Type} : List (κ × α) → Nat → α → List (κ × α)
  | [], _, _ => []
  | (k, _) :: r, 0, t => (k, t) :: r
  | p :: r, n + 1, t => p :: setV r n t
@[simp] theorem setV_0 {κ α : Type} (k : κ) (x t : α) (r : List (κ × α)) : setV ((k, x) :: r) 0 t = (k, t) :: r := rfl
@[simp] theorem setV_s {κ α : Type} (p : κ × α) (t : α) (n : Nat) (r : List (κ × α)) : setV (p :: r) (n + 1) t = p :: setV r n t := rfl
def chS : Tr → List Tr
  | .dat _ => []
  | .lst xs => xs
  | .tup xs => xs
  | .dct l => l.map (·.2)
  | .obj _ l => l.map (·.2)
@[simp] theorem chS_l (xs : List Tr) : chS (.lst xs) = xs := rfl
@[simp] theorem chS_d (l : List (D × Tr)) : chS (.dct l) = l.map (·.2) := rfl
@[simp] theorem chS_o (c : Str) (l : List (Str × Tr)) : chS (.obj c l) = l.map (·.2) := rfl
def keyIx {α : Type} (l : List (D × α)) (k : D) : Option Nat := l.findIdx? fun p => decide (nkOf p.1 = nkOf k)
def idxS : Tr → Stp → Option Nat
  | .obj _ l, .f x n => match l[n]? with
    | some (y, _) => if y = x then some n else none
    | none => none
  | .dct l, .k d => if dOkK l d = true then keyIx l d else none
  | .lst xs, .i n => if n < xs.length then some n else none
  | _, _ => none
@[simp] theorem idxS_o (c : Str) (l : List (Str × Tr)) (x : Str) (n : Nat) : idxS (.obj c l) (.f x n) = match l[n]? with
    | some (y, _) => if y = x then some n else none
    | none => none := rfl
@[simp] theorem idxS_d (l : List (D × Tr)) (d : D) : idxS (.dct l) (.k d) = if dOkK l d = true then keyIx l d else none := rfl
@[simp] theorem idxS_l (xs : List Tr) (n : Nat) : idxS (.lst xs) (.i n) = if n < xs.length then some n else none := rfl
def setS : Tr → Nat → Tr → Tr
  | .obj c l, n, t => .obj c (setV l n t)
  | .dct l, n, t => .dct (setV l n t)
  | .lst xs, n, t => .lst (xs.set n t)
  | .tup xs, n, t => .tup (xs.set n t)
  | .dat d, _, _ => .dat d
@[simp] theorem setS_o (c : Str) (l : List (Str × Tr)) (n : Nat) (t : Tr) : setS (.obj c l) n t = .obj c (setV l n t) := rfl
@[simp] theorem setS_d (l : List (D × Tr)) (n : Nat) (t : Tr) : setS (.dct l) n t = .dct (setV l n t) := rfl
@[simp] theorem setS_l (l : List Tr) (n : Nat) (t : Tr) : setS (.lst l) n t = .lst (l.set n t) := rfl
def getP : Tr → List Stp → Option Tr
  | t, [] => some t
  | t, s :: p => match idxS t s with
    | some n => match (chS t)[n]? with
      | some c => getP c p
      | none => none
    | none => none
@[simp] theorem getP_nil (t : Tr) : getP t [] = some t := by unfold getP; rfl
@[simp] theorem getP_cons (t : Tr) (s : Stp) (p : List Stp) : getP t (s :: p) = match idxS t s with
    | some n => match (chS t)[n]? with
      | some c => getP c p
      | none => none
    | none => none := by rw [getP]
def putP : Tr → List Stp → Tr → Tr
  | _, [], u => u
  | t, s :: p, u => match idxS t s with
    | some n => match (chS t)[n]? with
      | some c => setS t n (putP c p u)
      | none => t
    | none => t
@[simp] theorem putP_nil (t u : Tr) : putP t [] u = u := by unfold putP; rfl
@[simp] theorem putP_cons (t u : Tr) (s : Stp) (p : List Stp) : putP t (s :: p) u = match idxS t s with
    | some n => match (chS t)[n]? with
      | some c => setS t n (putP c p u)
      | none => t
    | none => t := by rw [putP]
theorem getP_snoc {s : Stp} {sub : Tr} : ∀ (p : List Stp) {t : Tr}, getP t p = some sub → getP t (p ++ [s]) = getP sub [s]
  | [], t, h => by
    rw [getP_nil] at h
    cases h
    rfl
  | s' :: p, t, h => by
    rw [List.cons_append, getP_cons]
    rw [getP_cons] at h
    split at h
    · rename_i n hn
      split at h
      · rename_i c hc
        exact getP_snoc p h
      · cases h
    · cases h
theorem putP_snoc {s : Stp} {sub u : Tr} : ∀ (p : List Stp) {t : Tr}, getP t p = some sub → putP t (p ++ [s]) u = putP t p (putP sub [s] u)
  | [], t, h => by
    rw [getP_nil] at h
    cases h
    rw [putP_nil]
    rfl
  | s' :: p, t, h => by
    rw [List.cons_append, putP_cons, putP_cons]
    rw [getP_cons] at h
    split at h
    · rename_i n hn
      split at h
      · rename_i c hc
        rw [putP_snoc p h]
      · cases h
    · cases h
mutual
def toD : Tr → D
  | .dat d => d
  | .lst xs => .list (toDs xs)
  | .tup xs => .tuple (toDs xs)
  | .dct l => .dict (toDk l)
  | .obj c l => .dict ((.list [], .str c) :: toDf l)
def toDs : List Tr → List D
  | [] => []
  | t :: r => toD t :: toDs r
def toDk : List (D × Tr) → List (D × D)
  | [] => []
  | (k, t) :: r => (k, toD t) :: toDk r
def toDf : List (Str × Tr) → List (D × D)
  | [] => []
  | (k, t) :: r => (.str k, toD t) :: toDf r
end
@[simp] theorem toD_dat (d : D) : toD (.dat d) = d := by rw [toD]
@[simp] theorem toD_lst (xs : List Tr) : toD (.lst xs) = .list (toDs xs) := by rw [toD]
@[simp] theorem toD_tup (xs : List Tr) : toD (.tup xs) = .tuple (toDs xs) := by rw [toD]
@[simp] theorem toD_dct (l : List (D × Tr)) : toD (.dct l) = .dict (toDk l) := by rw [toD]
@[simp] theorem toD_obj (c : Str) (l : List (Str × Tr)) : toD (.obj c l) = .dict ((.list [], .str c) :: toDf l) := by rw [toD]
@[simp] theorem toDs_eq : ∀ xs : List Tr, toDs xs = xs.map toD
  | [] => by rw [toDs]; rfl
  | t :: r => by rw [toDs, toDs_eq r]; rfl
@[simp] theorem toDk_eq : ∀ l : List (D × Tr), toDk l = l.map fun p => (p.1, toD p.2)
  | [] => by rw [toDk]; rfl
  | (k, t) :: r => by rw [toDk, toDk_eq r]; rfl
@[simp] theorem toDf_eq : ∀ l : List (Str × Tr), toDf l = l.map fun p => (.str p.1, toD p.2)
  | [] => by rw [toDf]; rfl
  | (k, t) :: r => by rw [toDf, toDf_eq r]; rfl
section
variable {K : Fg} {J H J' H' : Hp} {a : Addr} {o : HO} {t : Tr} {vs : List V} {ts : List Tr}
theorem Shape.ch (h : Shape K J a o t vs ts) : ts = chS t := by cases h <;> rfl
theorem setV_snd {κ α : Type} : ∀ (l : List (κ × α)) (n : Nat) (x : α), (setV l n x).map (·.2) = (l.map (·.2)).set n x
  | [], _, _ => rfl
  | (k, y) :: r, 0, x => rfl
  | p :: r, n + 1, x => by rw [setV_s, List.map_cons, setV_snd r, List.map_cons, List.set_cons_succ]
theorem setV_fst {κ α : Type} : ∀ (l : List (κ × α)) (n : Nat) (x : α), (setV l n x).map (·.1) = l.map (·.1)
  | [], _, _ => rfl
  | (k, y) :: r, 0, x => rfl
  | p :: r, n + 1, x => by rw [setV_s, List.map_cons, setV_fst r, List.map_cons]
theorem map_key {α β : Type} (g : D → β) (l : List (D × α)) : l.map (fun p => g p.1) = (l.map (·.1)).map g := by rw [List.map_map]; rfl
theorem Shape.set (h : Shape K J a o t vs ts) (n : Nat) (c : Tr) : Shape K J a o (setS t n c) vs (ts.set n c) := by
  cases h with
  | lst => exact .lst _ _
  | tup => exact .tup _ _
  | dctK kvs l h1 h2 =>
    rw [← setV_snd]
    exact .dctK kvs (setV l n c) (by rw [setV_fst]; exact h1) h2
  | dctN raw l h0 h1 h2 h3 h4 =>
    rw [← setV_snd]
    exact .dctN raw (setV l n c) h0 (by rw [setV_fst]; exact h1) (by rw [map_key, setV_fst, ← map_key]; exact h2) h3 h4
  | obj C dx fs cc l h1 h2 h3 =>
    rw [← setV_snd]
    exact .obj C dx fs cc (setV l n c) h1 (by rw [setV_fst]; exact h2) h3
theorem TrAts.len : ∀ {vs : List V} {ts : List Tr} {f : List Addr}, TrAts K J H vs ts f → vs.length = ts.length
  | _, _, _, .nil => rfl
  | _, _, _, .cons _ h => congrArg (· + 1) (TrAts.len h)
theorem TrAts.known {vs : List V} {ts : List Tr} {f : List Addr} (h : TrAts K J H vs ts f) : ∀ a ∈ f, ∃ u, H a = some u := by
  intro a ha
  have : TrAt K J H (.ref (a + 1)) (.lst ts) ((a + 1) :: f) → True := fun _ => trivial
  exact TrAts.rec (motive_1 := fun v t f _ => ∀ a ∈ f, ∃ u, H a = some u) (motive_2 := fun vs ts f _ => ∀ a ∈ f, ∃ u, H a = some u) (fun _ a h => (nomatch h))
    (fun h1 _ _ ih a h => by
      rcases List.mem_cons.mp h with rfl | h
      · exact ⟨_, h1⟩
      · exact ih a h) (fun a h => (nomatch h)) (fun _ _ i1 i2 a h => by
      rcases List.mem_append.mp h with h | h
      · exact i1 a h
      · exact i2 a h) h a ha
theorem TrAts.split : ∀ {vs : List V} {ts : List Tr} {f : List Addr} {n : Nat} {c : Tr}, TrAts K J H vs ts f → ts[n]? = some c → ∃ v fl g fr, vs[n]? = some v ∧ f = fl ++ g ++ fr ∧ TrAt K J H v c g ∧
    ∀ {J' H' : Hp} {c' : Tr} {g' : List Addr}, Same J J' → (∀ b ∈ fl ++ fr, ∀ u, H b = some u → H' b = some u) → TrAt K J' H' v c' g' → TrAts K J' H' vs (ts.set n c') (fl ++ g' ++ fr)
  | _, _, _, _, _, .nil, e => by simp at e
  | _, _, _, 0, _, .cons (f := f) (g := g) h1 h2, e => by
    simp at e
    subst e
    exact ⟨_, [], f, g, rfl, rfl, h1, fun {J' H' c' g'} sj k h => .cons h (h2.keep sj fun b hb => k b (by simpa using hb))⟩
  | _, _, _, n + 1, _, .cons (f := f) (g := g) h1 h2, e => by
    obtain ⟨v, fl, g', fr, e1, e2, e3, e4⟩ := TrAts.split (n := n) h2 (by simpa using e)
    refine ⟨v, f ++ fl, g', fr, by simpa using e1, by rw [e2]; simp [List.append_assoc], e3, fun {J' H' c' g''} sj k h => ?_⟩
    rw [List.set_cons_succ, List.append_assoc, List.append_assoc]
    exact .cons (h1.keep sj fun b hb => k b (by simp [hb])) (by
      rw [← List.append_assoc]
      exact e4 sj (fun b hb => k b (by
        rcases List.mem_append.mp hb with hb | hb <;> simp [hb])) h)
end
def PlOk (K : Fg) (G : Gd) (J H : Hp) (σ : L2.St) (ρ : Env) (i : Nat) (p : List Stp) (v : V) : Prop := ∃ fx t sub f, ρ[i]? = some (.own fx (.tr t)) ∧ (p = [] → σ[i]? = some (some v)) ∧ getP t p = some sub ∧ TrAt K J H v sub f ∧ f.Nodup ∧ (∀ b ∈ f, J b = none) ∧
  ∀ {J' H' : Hp} {sub' : Tr} {f' : List Addr}, GrowO J H J' H' f → TrAt K J' H' v sub' f' → f'.Nodup → (∀ b ∈ f', J' b = none ∧ (b ∈ f ∨ H b = none)) → (p ≠ [] ∨ ∃ a r, v = .ref a ∧ f' = a :: r) → ER K G J' H' σ (ρ.set i (.own fx (.tr (putP t p sub'))))
section
variable {K : Fg} {G : Gd} {J H J' H' : Hp} {σ : L2.St} {ρ : Env}
theorem pl_root {i : Nat} {fx : Bool} {t : Tr} (e : ER K G J H σ ρ) (hi : ρ[i]? = some (.own fx (.tr t))) : ∃ v, σ[i]? = some (some v) ∧ PlOk K G J H σ ρ i [] v := by
  obtain ⟨a, r, h1, ⟨a', r', er, ht, hn⟩, h3, h4⟩ := own_foc e hi
  injection er with ea er
  subst ea er
  refine ⟨.ref a, h1, fx, t, t, a :: r, hi, fun _ => h1, getP_nil t, ht, hn, h3, fun {J' H' sub' f'} g ht' hn' hf hp => ?_⟩
  rcases hp with hp | ⟨b, r', e1, rfl⟩
  · exact absurd rfl hp
  · cases e1
    rw [putP_nil]
    exact h4 g ⟨a, r', rfl, ht', hn'⟩ hf
theorem PlOk.child {i : Nat} {p : List Stp} {v : V} {s : Stp} (h : PlOk K G J H σ ρ i p v) (sj : Same J H) {fx : Bool} {t sub c : Tr} {n : Nat} (hi : ρ[i]? = some (.own fx (.tr t))) (hg : getP t p = some sub) (hx : idxS sub s = some n) (hc : (chS sub)[n]? = some c) :
    ∃ a o vs ts v1, v = .ref a ∧ H a = some o ∧ Shape K J a o sub vs ts ∧ vs[n]? = some v1 ∧ PlOk K G J H σ ρ i (p ++ [s]) v1 := by
  obtain ⟨fx', t', sub', f, h1, h0, h2, h3, h4, h5, h6⟩ := h
  rw [hi] at h1
  cases h1
  rw [hg] at h2
  cases h2
  cases h3 with
  | dat _ => simp [chS] at hc
  | @nod a o _ vs ts g ho hs hts =>
    have ech := hs.ch
    rw [← ech] at hc
    obtain ⟨v1, fl, g1, fr, e1, e2, e3, e4⟩ := hts.split hc
    subst e2
    refine ⟨a, o, vs, ts, v1, rfl, ho, hs, e1, fx, t, c, g1, hi, fun z => absurd z (by simp), ?_, e3, ?_, fun b hb => h5 b (by simp [hb]), fun {J' H' c' g'} gr ht' hn' hf hp => ?_⟩
    · rw [getP_snoc p hg, getP_cons, hx]
      simp only [← ech, hc]
      exact getP_nil c
    · exact (List.nodup_append.mp (List.nodup_append.mp (List.nodup_cons.mp h4).2).1).2.1
    · have hnd := List.nodup_cons.mp h4
      have hnd2 := List.nodup_append.mp hnd.2
      have hnd3 := List.nodup_append.mp hnd2.1
      have out : ∀ b, b ∈ fl ++ fr → b ∉ g1 := by
        intro b hb hg
        rcases List.mem_append.mp hb with hb | hb
        · exact hnd3.2.2 b hb b hg rfl
        · exact hnd2.2.2 b (by simp [hg]) b hb rfl
      have na : a ∉ g1 := fun hz => hnd.1 (by simp [hz])
      have kn : ∀ b ∈ fl ++ (g1 ++ fr), ∃ u, H b = some u := fun b hb => hts.known b (by simpa [List.append_assoc] using hb)
      rw [putP_snoc p hg]
      have ep : putP sub [s] c' = setS sub n c' := by
        rw [putP_cons, hx]
        simp only [← ech, hc]
        rw [putP_nil]
      rw [ep]
      have hts' := e4 (c' := c') (g' := g') gr.j (fun b hb u hu => (gr.old b u (out b hb) hu).1) ht'
      have fresh : ∀ b ∈ g', b ∉ fl ∧ b ∉ fr ∧ b ≠ a := by
        intro b hb
        rcases (hf b hb).2 with z | z
        · refine ⟨fun q => out b (by simp [q]) z, fun q => out b (by simp [q]) z, fun q => na (q ▸ z)⟩
        · refine ⟨fun q => ?_, fun q => ?_, fun q => ?_⟩
          · obtain ⟨u, hu⟩ := kn b (by simp [q]); rw [z] at hu; cases hu
          · obtain ⟨u, hu⟩ := kn b (by simp [q]); rw [z] at hu; cases hu
          · rw [q, ho] at z; cases z
      refine h6 (f' := a :: (fl ++ g' ++ fr)) ⟨gr.j, gr.jh, fun b u hb hu => gr.old b u (fun z => hb (by simp [z])) hu⟩ (.nod (gr.old a o na ho).1 ((hs.mono gr.j).set n c') hts') ?_ (fun b hb => ?_) (.inr ⟨a, _, rfl, rfl⟩)
      · refine List.nodup_cons.mpr ⟨fun z => ?_, List.nodup_append.mpr ⟨List.nodup_append.mpr ⟨hnd3.1, hn', fun x hx y hy e => (fresh y hy).1 (e ▸ hx)⟩, hnd2.2.1, fun x hx y hy e => ?_⟩⟩
        · rcases List.mem_append.mp z with z | z
          · rcases List.mem_append.mp z with z | z
            · exact hnd.1 (by simp [z])
            · exact (fresh a z).2.2 rfl
          · exact hnd.1 (by simp [z])
        · rcases List.mem_append.mp hx with hx | hx
          · exact hnd2.2.2 x (by simp [hx]) y hy e
          · exact (fresh x hx).2.1 (e ▸ hy)
      · have hb' : b = a ∨ b ∈ fl ++ fr ∨ b ∈ g' := by
          rcases List.mem_cons.mp hb with hb | hb
          · exact .inl hb
          · rcases List.mem_append.mp hb with hb | hb
            · rcases List.mem_append.mp hb with hb | hb
              · exact .inr (.inl (by simp [hb]))
              · exact .inr (.inr hb)
            · exact .inr (.inl (by simp [hb]))
        rcases hb' with rfl | hb | hb
        · exact ⟨(gr.old b o na ho).2.trans (h5 b (by simp)), .inl (by simp)⟩
        · obtain ⟨u, hu⟩ := kn b (by
            rcases List.mem_append.mp hb with hb | hb <;> simp [hb])
          exact ⟨(gr.old b u (out b hb) hu).2.trans (h5 b (by
            rcases List.mem_append.mp hb with hb | hb <;> simp [hb])), .inl (by
            rcases List.mem_append.mp hb with hb | hb <;> simp [hb])⟩
        · refine ⟨(hf b hb).1, ?_⟩
          rcases (hf b hb).2 with z | z
          · exact .inl (by simp [z])
          · exact .inr z
end
end DL
namespace DL
open PySem PySem.Spec L2 PyProof.Rows
inductive LkT : Hp → (Hp → Prop) → Prop
  | now {H : Hp} {Q : Hp → Prop} : Q H → LkT H Q
  | one {H : Hp} {Q : Hp → Prop} {a : Addr} {u : HO} : H a = some u → Mut (some u) → (∀ od, LkT (upd H a (.frz od u)) Q) → LkT H Q
theorem LkT.bind {H : Hp} {Q Q' : Hp → Prop} (h : LkT H Q) (hq : ∀ H, Q H → LkT H Q') : LkT H Q' := by
  induction h with
  | now h => exact hq _ h
  | one h1 h2 _ ih => exact .one h1 h2 fun od => ih od hq
theorem lkT_inv {X : Cx} {pins : List (Addr × Obj)} {σ : L2.St} {s : Shared} {Q : Hp → Prop} {H : Hp} (I : Inv X pins σ H s) (h : LkT H Q) : ∃ H', Inv X pins σ H' s ∧ Q H' := by
  induction h with
  | now h => exact ⟨_, I, h⟩
  | one h1 h2 _ ih =>
    obtain ⟨od, I1⟩ := I.lock h1 h2
    exact ih od I1
theorem PE.lkT {X : Cx} {e : Expr} {t : TE} (h : PE X e t) : PE X e (fun σ H Q => t σ H fun v H1 => LkT H1 (Q v)) :=
  ⟨fun pins s σ H Q I hw => thn (h.run pins s σ H _ I hw) fun u s1 ⟨v, H1, I1, r, q⟩ => let ⟨H2, I2, q2⟩ := lkT_inv I1 q; ⟨v, H2, I2, r, q2⟩⟩
theorem toDf_fst : ∀ l : List (Str × Tr), (toDf l).map (·.1) = l.map fun p => PyData.str p.1
  | [] => by rw [toDf]; rfl
  | (k, t) :: r => by rw [toDf, List.map_cons, toDf_fst r, List.map_cons]
theorem toDf_snd : ∀ l : List (Str × Tr), (toDf l).map (·.2) = toDs (l.map (·.2))
  | [] => by rw [toDf]; rfl
  | (k, t) :: r => by rw [toDf, List.map_cons, toDf_snd r, List.map_cons, toDs]
theorem toDk_fst : ∀ l : List (D × Tr), (toDk l).map (·.1) = l.map (·.1)
  | [] => by rw [toDk]; rfl
  | (k, t) :: r => by rw [toDk, List.map_cons, toDk_fst r, List.map_cons]
theorem toDk_snd : ∀ l : List (D × Tr), (toDk l).map (·.2) = toDs (l.map (·.2))
  | [] => by rw [toDk]; rfl
  | (k, t) :: r => by rw [toDk, List.map_cons, toDk_snd r, List.map_cons, toDs]
section
variable {K : Fg} {J H : Hp}
def FrzT (K : Fg) (J H : Hp) (v : V) (t : Tr) (f : List Addr) : Prop := ∀ J1 H1, Same J J1 → Same J1 H1 → (∀ b ∈ f, H1 b = H b ∧ J1 b = none) → f.Nodup →
  LkT H1 fun H2 => ∃ J2, Same J1 J2 ∧ Same J2 H2 ∧ (∀ b, b ∉ f → H2 b = H1 b ∧ J2 b = J1 b) ∧ Rp K J2 v (toD t)
def FrzTs (K : Fg) (J H : Hp) (vs : List V) (ts : List Tr) (f : List Addr) : Prop := ∀ J1 H1, Same J J1 → Same J1 H1 → (∀ b ∈ f, H1 b = H b ∧ J1 b = none) → f.Nodup →
  LkT H1 fun H2 => ∃ J2, Same J1 J2 ∧ Same J2 H2 ∧ (∀ b, b ∉ f → H2 b = H1 b ∧ J2 b = J1 b) ∧ RpAll K J2 vs (toDs ts)
theorem frz_end {J1 H1 J2 H2 : Hp} {a : Addr} {o : HO} {f : List Addr} (sj : Same J1 J2) (sh : Same J2 H2) (k : ∀ b, b ∉ f → H2 b = H1 b ∧ J2 b = J1 b) (hJ : J2 a = none) (ho : H2 a = some o) : Same J1 (upd J2 a o) ∧ Same (upd J2 a o) H2 ∧ ∀ b, b ∉ a :: f → H2 b = H1 b ∧ upd J2 a o b = J1 b := by
  refine ⟨sj.trans (same_new hJ), fun b u hb => ?_, fun b hb => ?_⟩
  · by_cases z : b = a
    · subst z
      rw [upd_same] at hb
      cases hb
      exact ho
    · rw [upd_ne z] at hb
      exact sh _ _ hb
  · rw [upd_ne (fun z => hb (by simp [z]))]
    exact k b fun z => hb (by simp [z])
theorem frz_lock {J1 H1 J2 H2 : Hp} {a : Addr} {o : HO} {f : List Addr} (sj : Same J1 J2) (sh : Same J2 H2) (k : ∀ b, b ∉ f → H2 b = H1 b ∧ J2 b = J1 b) (hJ : J2 a = none) : Same J1 (upd J2 a o) ∧ Same (upd J2 a o) (upd H2 a o) ∧ ∀ b, b ∉ a :: f → upd H2 a o b = H1 b ∧ upd J2 a o b = J1 b := by
  refine ⟨sj.trans (same_new hJ), same_upd2 sh, fun b hb => ?_⟩
  have z : b ≠ a := fun z => hb (by simp [z])
  rw [upd_ne z, upd_ne z]
  exact k b fun z => hb (by simp [z])
theorem frz_node {a : Addr} {o : HO} {t : Tr} {vs : List V} {ts : List Tr} {f : List Addr} (ho : H a = some o) (hs : Shape K J a o t vs ts) (ih : FrzTs K J H vs ts f) : FrzT K J H (.ref a) t (a :: f) := by
  intro J1 H1 s1 s2 hk hn
  have hn := List.nodup_cons.mp hn
  refine (ih J1 H1 s1 s2 (fun b hb => hk b (by simp [hb])) hn.2).bind fun H2 ⟨J2, k1, k2, k3, k4⟩ => ?_
  obtain ⟨ha, ja⟩ := hk a (by simp)
  obtain ⟨ha2, ja2⟩ := k3 a hn.1
  have ha' : H2 a = some o := ha2.trans (ha.trans ho)
  have ja' : J2 a = none := ja2.trans ja
  cases hs with
  | lst =>
    obtain ⟨e1, e2, e3⟩ := frz_end k1 k2 k3 ja' ha'
    exact .now ⟨_, e1, e2, e3, by rw [toD]; exact .lst (.of upd_same) (dps_mono' (same_new ja') k4)⟩
  | tup =>
    obtain ⟨e1, e2, e3⟩ := frz_end k1 k2 k3 ja' ha'
    exact .now ⟨_, e1, e2, e3, by rw [toD]; exact .tup (.of upd_same) (dps_mono' (same_new ja') k4)⟩
  | obj C dx fs c l h1 h2 h3 =>
    obtain ⟨e1, e2, e3⟩ := frz_end k1 k2 k3 ja' ha'
    refine .now ⟨_, e1, e2, e3, ?_⟩
    rw [toD]
    refine .ins h1 upd_same h3 ?_ (by rw [toDf_snd]; exact dps_mono' (same_new ja') k4)
    rw [toDf_fst]
    have := congrArg (List.map PyData.str) h2
    simpa [List.map_map, Function.comp_def] using this
  | dctK kvs l h1 h2 =>
    refine .one ha' True.intro fun od => ?_
    obtain ⟨e1, e2, e3⟩ := frz_lock (o := .frz od (.dK kvs)) k1 k2 k3 ja'
    refine .now ⟨_, e1, e2, e3, ?_⟩
    rw [toD]
    exact .dctK upd_same (by rw [toDk_fst]; exact h1) (by rw [toDk_snd]; exact dps_mono' (same_new ja') k4)
  | dctN raw l h0 h1 h2 h3 h4 =>
    refine .one ha' True.intro fun od => ?_
    obtain ⟨e1, e2, e3⟩ := frz_lock (o := .frz od (hoN K.w a raw)) k1 k2 k3 ja'
    refine .now ⟨_, e1, e2, e3, ?_⟩
    rw [toD]
    exact .dctN h0 upd_same (by rw [toDk_fst]; exact dps_mono' ((s1.trans k1).trans (same_new ja')) h1) (by rw [map_key, toDk_fst, ← map_key]; exact h2) h3 (by rw [toDk_snd]; exact dps_mono' (same_new ja') k4)
theorem frz_tr {v : V} {t : Tr} {f : List Addr} (h : TrAt K J H v t f) : FrzT K J H v t f :=
  TrAt.rec (motive_1 := fun v t f _ => FrzT K J H v t f) (motive_2 := fun vs ts f _ => FrzTs K J H vs ts f)
    (fun h J1 H1 s1 s2 _ _ => .now ⟨J1, .refl _, s2, fun b _ => ⟨rfl, rfl⟩, by rw [toD]; exact dp_mono' s1 h⟩)
    (fun h1 h2 _ ih => frz_node h1 h2 ih)
    (fun J1 H1 s1 s2 _ _ => .now ⟨J1, .refl _, s2, fun b _ => ⟨rfl, rfl⟩, by rw [toDs]; exact .nil⟩)
    (fun {v vs t ts f g} _ _ i1 i2 J1 H1 s1 s2 hk hn => by
      have hn := List.nodup_append.mp hn
      refine (i1 J1 H1 s1 s2 (fun b hb => hk b (by simp [hb])) hn.1).bind fun H2 ⟨J2, k1, k2, k3, k4⟩ => ?_
      have out : ∀ b ∈ g, b ∉ f := fun b hb hf => hn.2.2 b hf b hb rfl
      refine (i2 J2 H2 (s1.trans k1) k2 (fun b hb => ⟨(k3 b (out b hb)).1.trans (hk b (by simp [hb])).1, (k3 b (out b hb)).2.trans (hk b (by simp [hb])).2⟩) hn.2.1).bind fun H3 ⟨J3, l1, l2, l3, l4⟩ => ?_
      refine .now ⟨J3, k1.trans l1, l2, fun b hb => ?_, by rw [toDs]; exact .cons (dp_mono' l1 k4) l4⟩
      have b1 : b ∉ f := fun z => hb (by simp [z])
      have b2 : b ∉ g := fun z => hb (by simp [z])
      exact ⟨(l3 b b2).1.trans (k3 b b1).1, (l3 b b2).2.trans (k3 b b1).2⟩) h
end
section
variable {K : Fg} {G : Gd} {J H J' H' : Hp} {σ : L2.St} {ρ : Env}
theorem PlOk.frz {i : Nat} {p : List Stp} {v : V} (h : PlOk K G J H σ ρ i p v) (sj : Same J H) (hp : p ≠ []) {fx : Bool} {t sub : Tr} (hi : ρ[i]? = some (.own fx (.tr t))) (hg : getP t p = some sub) :
    LkT H fun H2 => ∃ J2, Same J J2 ∧ Rp K J2 v (toD sub) ∧ ER K G J2 H2 σ (ρ.set i (.own fx (.tr (putP t p (.dat (toD sub)))))) := by
  obtain ⟨fx', t', sub', f, h1, h0, h2, h3, h4, h5, h6⟩ := h
  rw [hi] at h1
  cases h1
  rw [hg] at h2
  cases h2
  refine (frz_tr h3 J H (.refl _) sj (fun b hb => ⟨rfl, h5 b hb⟩) h4).bind fun H2 ⟨J2, k1, k2, k3, k4⟩ => .now ⟨J2, k1, k4, ?_⟩
  exact h6 (f' := []) ⟨k1, k2, fun b u hb hu => ⟨(k3 b hb).1.trans hu, (k3 b hb).2⟩⟩ (.dat k4) List.nodup_nil (fun b hb => nomatch hb) (.inl hp)
theorem ER.frzT {i : Nat} {t : Tr} (e : ER K G J H σ ρ) (hi : ρ[i]? = some (.own false (.tr t))) : ∃ v, σ[i]? = some (some v) ∧ LkT H fun H2 => ∃ J2, Same J J2 ∧ Rp K J2 v (toD t) ∧ ER K G J2 H2 σ (ρ.set i (.d (toD t))) := by
  obtain ⟨fs, h, ap, q⟩ := e.ft
  obtain ⟨x, f, e1, e2, r⟩ := h.get hi
  have hl : loose ρ i = true := by unfold loose; rw [hi]
  cases r with
  | own ho =>
  rename_i a r
  obtain ⟨a', r', ef, ht, hn⟩ := ho
  injection ef with ea er
  subst ea er
  have qf := q _ (List.mem_of_getElem? e2)
  refine ⟨.ref a, e1, (frz_tr ht J H (.refl _) e.ex (fun b hb => ⟨rfl, (qf b hb).1⟩) hn).bind fun H2 ⟨J2, k1, k2, k3, k4⟩ => .now ⟨J2, k1, k4, ?_⟩⟩
  have other : ∀ j g, j ≠ i → fs[j]? = some g → ∀ b ∈ g, b ∉ a :: r := fun j g hj eg b hb hm => hj (ap j i g _ b eg e2 hb hm)
  have hs : SlsOk K J2 H2 σ (ρ.set i (.d (toD t))) (fs.set i []) := by
    have key : ∀ (σ : List (Option V)) (ρ : List SV) (fs : List (List Addr)) (i : Nat), SlsOk K J H σ ρ fs → σ[i]? = some (some (.ref a)) → (∀ j g, j ≠ i → fs[j]? = some g → ∀ b ∈ g, b ∉ a :: r) → i < ρ.length →
        SlsOk K J2 H2 σ (ρ.set i (.d (toD t))) (fs.set i []) := by
      intro σ ρ fs i h
      induction h generalizing i with
      | nil => intro _ _ hl; simp at hl
      | @cons x s f xs ss fs h t ih =>
        intro e1 e4 hl
        cases i with
        | zero =>
          simp at e1
          subst e1
          refine .cons (.d k4) (t.keep k1 fun g hg b hb u hu => ?_)
          obtain ⟨k, hk, hk2⟩ := List.getElem_of_mem hg
          exact (k3 b (e4 (k + 1) g (by omega) (by simp [hk, hk2]) b hb)).1.trans hu
        | succ i =>
          refine .cons (h.keep k1 fun b hb u hu => (k3 b (e4 0 f (by omega) rfl b hb)).1.trans hu) (ih i (by simpa using e1) (fun j g hj hg => e4 (j + 1) g (by omega) (by simpa using hg)) (by simpa using hl))
    exact key σ ρ fs i h e1 other (List.getElem?_eq_some_iff.mp hi).1
  refine ⟨k2, e.j0.trans k1, fun b hb => ?_, e.pn, ⟨fs.set i [], hs, ap.nilSet i, fun g hg b hb => ?_⟩, fun j b hj => ?_, e.lkOwn (by intro o h; cases h) (fun b hb => (k3 b fun z => (qf b z).2 hb).1) k1⟩
  · obtain ⟨l1, l2⟩ := k3 b fun z => (qf b z).2 hb
    obtain ⟨m1, m2⟩ := e.keep b hb
    exact ⟨l1.trans m1, l2.trans m2⟩
  · obtain ⟨k, hk, hk2⟩ := List.getElem_of_mem hg
    by_cases z : k = i
    · subst z
      rw [List.getElem_set_self] at hk2
      subst hk2
      cases hb
    · rw [List.length_set] at hk
      rw [List.getElem_set_ne (Ne.symm z)] at hk2
      have hfk : fs[k]? = some g := by rw [List.getElem?_eq_getElem hk, hk2]
      obtain ⟨q1, q2⟩ := q g (List.mem_of_getElem? hfk) b hb
      exact ⟨(k3 b (other k g z hfk b hb)).2.trans q1, q2⟩
  · have ne := e.fx_ne hl hj
    rw [List.getElem?_set_ne ne.symm]
    exact e.fx j b hj
theorem PlOk.node {i : Nat} {p : List Stp} {v : V} (h : PlOk K G J H σ ρ i p v) {fx : Bool} {t sub : Tr} (hi : ρ[i]? = some (.own fx (.tr t))) (hg : getP t p = some sub) (hd : ∀ d, sub ≠ .dat d) :
    ∃ a o vs ts g, v = .ref a ∧ H a = some o ∧ Shape K J a o sub vs ts ∧ TrAts K J H vs ts g ∧ (a :: g).Nodup ∧ (∀ b ∈ a :: g, J b = none) ∧
      ∀ {J' H' : Hp} {o' : HO} {t' : Tr} {vs' : List V} {ts' : List Tr} {g' : List Addr}, GrowO J H J' H' (a :: g) → H' a = some o' → Shape K J' a o' t' vs' ts' → TrAts K J' H' vs' ts' g' → (a :: g').Nodup → (∀ b ∈ a :: g', J' b = none ∧ (b ∈ a :: g ∨ H b = none)) →
        ER K G J' H' σ (ρ.set i (.own fx (.tr (putP t p t')))) := by
  obtain ⟨fx', t', sub', f, h1, h0, h2, h3, h4, h5, h6⟩ := h
  rw [hi] at h1
  cases h1
  rw [hg] at h2
  cases h2
  cases h3 with
  | dat _ => exact absurd rfl (hd _)
  | nod ho hs hts => exact ⟨_, _, _, _, _, rfl, ho, hs, hts, h4, h5, fun g ho' hs' hts' hn hf => h6 g (.nod ho' hs' hts') hn hf (.inr ⟨_, _, rfl, rfl⟩)⟩
theorem PlOk.leaf {i : Nat} {p : List Stp} {v : V} (h : PlOk K G J H σ ρ i p v) {fx : Bool} {t : Tr} {d : D} (hi : ρ[i]? = some (.own fx (.tr t))) (hg : getP t p = some (.dat d)) : Rp K J v d := by
  obtain ⟨fx', t', sub', f, h1, h0, h2, h3, h4, h5, h6⟩ := h
  rw [hi] at h1
  cases h1
  rw [hg] at h2
  cases h2
  cases h3 with
  | dat r => exact r
  | nod ho hs hts => cases hs
theorem TrAts.snoc {vs : List V} {ts : List Tr} {f : List Addr} {v : V} {d : D} (h : TrAts K J H vs ts f) (r : Rp K J v d) : TrAts K J H (vs ++ [v]) (ts ++ [.dat d]) f :=
  match vs, ts, f, h with
  | _, _, _, .nil => by
    have := TrAts.cons (TrAt.dat (H := H) r) (.nil (K := K) (J := J) (H := H))
    simpa using this
  | _, _, _, .cons h1 h2 => .cons h1 (TrAts.snoc h2 r)
end
end DL
namespace DL
open PySem PySem.Spec L2 PyProof.Rows
def leafs : List (Str × Tr) → List (Str × D)
  | [] => []
  | (x, .dat d) :: r => (x, d) :: leafs r
  | _ :: r => leafs r
def hideS : SV → SV
  | .own _ (.tr (.obj c l)) => .lk (some (c, leafs l))
  | .own _ _ => .lk none
  | s => s
def hideE (ρ : Env) : Env := ρ.map hideS
@[simp] theorem hideE_nil : hideE [] = [] := rfl
@[simp] theorem hideE_cons (s : SV) (ρ : Env) : hideE (s :: ρ) = hideS s :: hideE ρ := rfl
@[simp] theorem hideS_d (d : D) : hideS (.d d) = .d d := rfl
@[simp] theorem hideS_un : hideS .un = .un := rfl
@[simp] theorem hideS_lk (o : Option (Str × List (Str × D))) : hideS (.lk o) = .lk o := rfl
@[simp] theorem hideS_obj (b : Bool) (c : Str) (l : List (Str × Tr)) : hideS (.own b (.tr (.obj c l))) = .lk (some (c, leafs l)) := rfl
@[simp] theorem hideS_dct (b : Bool) (l : List (D × Tr)) : hideS (.own b (.tr (.dct l))) = .lk none := rfl
@[simp] theorem hideS_trl (b : Bool) (l : List Tr) : hideS (.own b (.tr (.lst l))) = .lk none := rfl
@[simp] theorem hideS_lst (b : Bool) (l : List D) : hideS (.own b (.lst l)) = .lk none := rfl
def Gall (J H : Hp) : Gd := ⟨fun b => ∃ o, H b = some o, H, J, []⟩
section
variable {K : Fg} {G : Gd} {J H J' H' : Hp} {σ : L2.St} {ρ : Env}
theorem TrAt.datD {v : V} {d : D} {f : List Addr} (h : TrAt K J H v (.dat d) f) : Rp K J v d := by
  cases h with
  | dat r => exact r
  | nod _ hs _ => cases hs
theorem leafs_at : ∀ {fs : List (Str × V)} {l : List (Str × Tr)} {f : List Addr}, TrAts K J H (fs.map (·.2)) (l.map (·.2)) f → l.map (·.1) = fs.map (·.1) → (fs.map (·.1)).Nodup → ∀ x d, (x, d) ∈ leafs l → ∃ v, fs.lookup x = some v ∧ Rp K J v d
  | [], [], _, _, _, _, _, _, h => nomatch h
  | [], _ :: _, _, _, e, _, _, _, _ => by simp at e
  | _ :: _, [], _, _, e, _, _, _, _ => by simp at e
  | p :: fs, q :: l, _, h, e, n, x, d, hm => by
    rw [List.map_cons, List.map_cons] at h e
    rw [List.map_cons] at n
    have n := List.nodup_cons.mp n
    injection e with e1 e2
    cases h with
    | cons h1 h2 =>
      have rest : (x, d) ∈ leafs l → ∃ v, (p :: fs).lookup x = some v ∧ Rp K J v d := fun hm => by
        obtain ⟨v, l1, l2⟩ := leafs_at h2 e2 n.2 x d hm
        refine ⟨v, ?_, l2⟩
        have ne : x ≠ p.1 := fun z => n.1 (by
          rw [← z]
          have := List.lookup_eq_some_iff.mp l1
          obtain ⟨a, b, e, _⟩ := this
          rw [e]
          simp)
        rw [show p = (p.1, p.2) from rfl, List.lookup_cons]
        rw [show (x == p.1) = false from beq_eq_false_iff_ne.mpr ne]
        exact l1
      obtain ⟨y, t⟩ := q
      cases t with
      | dat d' =>
        unfold leafs at hm
        rcases List.mem_cons.mp hm with hm | hm
        · cases hm
          refine ⟨p.2, ?_, h1.datD⟩
          have e1 : x = p.1 := e1
          rw [show p = (p.1, p.2) from rfl, List.lookup_cons, e1, beq_self_eq_true]
        · exact rest hm
      | lst _ => exact rest (by unfold leafs at hm; exact hm)
      | tup _ => exact rest (by unfold leafs at hm; exact hm)
      | dct _ => exact rest (by unfold leafs at hm; exact hm)
      | obj _ _ => exact rest (by unfold leafs at hm; exact hm)
theorem SlsOk.hide {xs : List (Option V)} {ss : List SV} {fs : List (List Addr)} (h : SlsOk K J H xs ss fs) : SlsOk K J H xs (ss.map hideS) (List.replicate ss.length []) := by
  induction h with
  | nil => exact .nil
  | @cons x s f xs ss fs h t ih =>
    rw [List.map_cons, List.length_cons, List.replicate_succ]
    refine .cons ?_ ih
    cases h with
    | un => exact .un _
    | d h => exact .d h
    | rf a => exact .rf a
    | lk x o => exact .lk x o
    | @own a r fx o h =>
      cases o with
      | tr t => cases t <;> exact .lk _ _
      | _ => exact .lk _ _
theorem ER.hide (e : ER K G J H σ ρ) : ER K (Gall J H) J H σ (hideE ρ) := by
  obtain ⟨fs, h, ap, q⟩ := e.ft
  refine ⟨e.ex, .refl J, fun b _ => ⟨rfl, rfl⟩, fun b h => h, ⟨_, h.hide, fun i j f g a h1 _ h2 _ => ?_, fun f hf a ha => ?_⟩, fun i a h => (nomatch h), fun i c fs' hi => ?_⟩
  · rw [List.eq_of_mem_replicate (List.mem_of_getElem? h1)] at h2
    cases h2
  · rw [List.eq_of_mem_replicate hf] at ha
    cases ha
  · unfold hideE at hi
    rw [List.getElem?_map] at hi
    obtain ⟨s, h1, h2⟩ := Option.map_eq_some_iff.mp hi
    unfold hideS at h2
    split at h2
    · rename_i b c' l
      cases h2
      obtain ⟨y, f, e1, _, so⟩ := h.get h1
      cases so with
      | own ho =>
        obtain ⟨a, r, er, ht, hn⟩ := ho
        injection er with ea er
        subst ea er
        cases ht with
        | nod ho hs hts =>
          cases hs with
          | obj C dx fs2 c2 l2 k1 k2 k3 => exact ⟨_, C, dx, fs2, e1, ⟨_, ho⟩, k1, ho, leafs_at hts k2 k3⟩
    · cases h2
    · subst h2
      obtain ⟨a, C, dx, vs, k1, k2, k3, k4, k5⟩ := e.lk i c fs' h1
      exact ⟨a, C, dx, vs, k1, ⟨_, k4⟩, k3, k4, k5⟩
theorem hide_grow {ρ' : Env} (e : ER K (Gall J H) J' H' σ ρ') : Grow J H J' H' := ⟨e.j0, e.ex, fun b u hu => by
  obtain ⟨k1, k2⟩ := e.keep b ⟨u, hu⟩
  exact ⟨k1.trans hu, k2⟩⟩
theorem pure_E {Y : Yx} {fk : EC} {d : D} {ρ' : Env} {Q : VK} (e : ER K G J H σ ρ) (hk : fk (hideE ρ) = .ok (.val d) ρ') (hq : ∀ v J' H', Grow J H J' H' → Rp K J' v d → Q v H') : tE K Y fk σ H Q :=
  ⟨_, J, _, e.hide, by
    rw [hk]
    exact fun v J' H' s r e' => hq v J' H' (hide_grow e') r⟩
theorem pure_A {Y : Yx} {fa : Env → Out (List VV)} {xs : List VV} {ds : List D} {ρ' : Env} {Q : List V → Hp → Prop} (e : ER K G J H σ ρ) (hk : fa (hideE ρ) = .ok xs ρ') (hv : vals xs = some ds) (hq : ∀ vs J' H', Grow J H J' H' → RpAll K J' vs ds → Q vs H') : tA K Y fa σ H Q :=
  ⟨_, J, _, e.hide, by
    rw [hk]
    exact fun v J' H' s r e' => hq v J' H' (hide_grow e') (vals_ok r hv)⟩
theorem PlOk.grow {i : Nat} {p : List Stp} {v : V} (h : PlOk K G J H σ ρ i p v) (g : Grow J H J' H') : PlOk K G J' H' σ ρ i p v := by
  obtain ⟨fx, t, sub, f, h1, h0, h2, h3, h4, h5, h6⟩ := h
  refine ⟨fx, t, sub, f, h1, h0, h2, h3.keep g.j fun b hb u hu => (g.old b u hu).1, h4, fun b hb => ?_, fun {J2 H2 sub' f'} gr ht hn hf hp => h6 ⟨g.j.trans gr.j, gr.jh, fun b u hb hu => ?_⟩ ht hn (fun b hb => ⟨(hf b hb).1, ?_⟩) hp⟩
  · obtain ⟨u, hu⟩ := h3.known b hb
    exact (g.old b u hu).2.trans (h5 b hb)
  · obtain ⟨k1, k2⟩ := g.old b u hu
    obtain ⟨k3, k4⟩ := gr.old b u hb k1
    exact ⟨k3, k4.trans k2⟩
  · rcases (hf b hb).2 with z | z
    · exact .inl z
    · refine .inr ?_
      cases hb2 : H b with
      | none => rfl
      | some u => rw [(g.old b u hb2).1] at z; cases z
end
inductive PV where
  | pl (i : Nat) (p : List Stp)
  | val (d : D)
abbrev QC := Env → Out PV
@[simp] def rootT (ρ : Env) (i : Nat) : Option Tr := match ρ[i]? with
  | some (.own _ (.tr t)) => some t
  | _ => none
@[simp] def atP (ρ : Env) (i : Nat) (p : List Stp) : Option Tr := match rootT ρ i with
  | some t => getP t p
  | none => none
def mkPV (i : Nat) (p : List Stp) : Tr → PV
  | .dat d => .val d
  | _ => .pl i p
@[simp] theorem mkPV_d (i : Nat) (p : List Stp) (d : D) : mkPV i p (.dat d) = .val d := rfl
@[simp] theorem mkPV_l (i : Nat) (p : List Stp) (d : List Tr) : mkPV i p (.lst d) = .pl i p := rfl
@[simp] theorem mkPV_k (i : Nat) (p : List Stp) (d : List (D × Tr)) : mkPV i p (.dct d) = .pl i p := rfl
@[simp] theorem mkPV_o (i : Nat) (p : List Stp) (c : Str) (d : List (Str × Tr)) : mkPV i p (.obj c d) = .pl i p := rfl
def PvOk (K : Fg) (G : Gd) (J H : Hp) (σ : L2.St) (ρ : Env) (v : V) : PV → Prop
  | .pl i p => PlOk K G J H σ ρ i p v
  | .val d => Rp K J v d
theorem atP_some {ρ : Env} {i : Nat} {p : List Stp} {s : Tr} (h : atP ρ i p = some s) : ∃ fx t, ρ[i]? = some (.own fx (.tr t)) ∧ getP t p = some s := by
  unfold atP rootT at h
  split at h
  · rename_i t ht
    split at ht
    · rename_i fx t' hi
      cases ht
      exact ⟨fx, _, hi, h⟩
    · cases ht
  · cases h
theorem mkPV_ok {K : Fg} {G : Gd} {J H : Hp} {σ : L2.St} {ρ : Env} {v : V} {i : Nat} {p : List Stp} {s : Tr} (h : PlOk K G J H σ ρ i p v) (hs : atP ρ i p = some s) : PvOk K G J H σ ρ v (mkPV i p s) := by
  obtain ⟨fx, t, hi, hg⟩ := atP_some hs
  cases s with
  | dat d => exact h.leaf hi hg
  | _ => exact h
def PostQ (K : Fg) (Y : Yx) (G : Gd) (J : Hp) (σ : L2.St) (o : Out PV) (Q : VK) : Prop := match o with
  | .ok q ρ => ∀ v J' H', Same J J' → ER K G J' H' σ ρ → PvOk K G J' H' σ ρ v q → Q v H'
  | .exc e ρ => ∀ c dx J' H', Same J J' → ExcAt Y K J' H' e c dx → ER K G J' H' σ ρ → Y.W c dx σ H'
  | .bad => False
def tQ (K : Fg) (Y : Yx) (f : QC) : TE := fun σ H Q => ∃ G J ρ, ER K G J H σ ρ ∧ PostQ K Y G J σ (f ρ) Q
abbrev DQ (X : Cx) (Y : Yx) (e : Expr) (f : QC) : Prop := PE X e (tQ X.G Y f)
section
variable {K : Fg} {Y : Yx} {G : Gd} {J J' : Hp} {σ : L2.St}
theorem PostQ.mono {o : Out PV} {Q : VK} (s : Same J J') (h : PostQ K Y G J σ o Q) : PostQ K Y G J' σ o Q := by
  cases o with
  | ok q ρ => exact fun v J1 H1 s1 e p => h v J1 H1 (s.trans s1) e p
  | exc e ρ => exact fun c dx J1 H1 s1 r e => h c dx J1 H1 (s.trans s1) r e
  | bad => exact h
theorem PostQ.bind {α β : Type} {R : Hp → β → α → Prop} {o : Out PV} {k : PV → Env → Out α} {Q : β → Hp → Prop} (h : Post K Y G J σ R (o.bind k) Q) {Q' : VK}
    (hk : ∀ q ρ v J' H', Same J J' → ER K G J' H' σ ρ → PvOk K G J' H' σ ρ v q → Post K Y G J' σ R (k q ρ) Q → Q' v H') : PostQ K Y G J σ o Q' := by
  cases o with
  | ok q ρ => exact fun v J1 H1 s1 e1 p1 => hk q ρ v J1 H1 s1 e1 p1 (Post.mono s1 h)
  | exc e ρ => exact h
  | bad => exact h
theorem PostQ.bindQ {o : Out PV} {k : PV → Env → Out PV} {Q : VK} (h : PostQ K Y G J σ (o.bind k) Q) {Q' : VK}
    (hk : ∀ q ρ v J' H', Same J J' → ER K G J' H' σ ρ → PvOk K G J' H' σ ρ v q → PostQ K Y G J' σ (k q ρ) Q → Q' v H') : PostQ K Y G J σ o Q' := by
  cases o with
  | ok q ρ => exact fun v J1 H1 s1 e1 p1 => hk q ρ v J1 H1 s1 e1 p1 (PostQ.mono s1 h)
  | exc e ρ => exact h
  | bad => exact h
theorem Post.bindQ {α β : Type} {R : Hp → β → α → Prop} {o : Out α} {k : α → Env → Out PV} {Q : VK} (h : PostQ K Y G J σ (o.bind k) Q) {Q' : β → Hp → Prop}
    (hk : ∀ x ρ v J' H', Same J J' → R J' v x → ER K G J' H' σ ρ → PostQ K Y G J' σ (k x ρ) Q → Q' v H') : Post K Y G J σ R o Q' := by
  cases o with
  | ok x ρ => exact fun v J1 H1 s1 r e => hk x ρ v J1 H1 s1 r e (PostQ.mono s1 h)
  | exc e ρ => exact h
  | bad => exact h
theorem PostQ.then {o : Out PV} {k : PV → Env → SO} {D : Ends} (h : SPost K Y G J (o.then k) D) {Q' : VK}
    (hk : ∀ q ρ v J' H', Same J J' → ER K G J' H' σ ρ → PvOk K G J' H' σ ρ v q → SPost K Y G J' (k q ρ) D → Q' v H') : PostQ K Y G J σ o Q' := by
  cases o with
  | ok q ρ => exact fun v J1 H1 s1 e1 p1 => hk q ρ v J1 H1 s1 e1 p1 (SPost.mono s1 h)
  | exc e ρ => exact fun c dx J1 H1 s1 r e => h c dx σ J1 H1 s1 r e
  | bad => exact h
theorem PostQ.now {H : Hp} {ρ : Env} {q : PV} {Q : VK} {v : V} (h : PostQ K Y G J σ (.ok q ρ) Q) (e : ER K G J H σ ρ) (p : PvOk K G J H σ ρ v q) : Q v H := h v J H (.refl J) e p
end
@[simp] def qVar (i : Nat) (ρ : Env) : Out PV := match ρ[i]? with
  | some (.own _ (.tr _)) => .ok (.pl i []) ρ
  | some (.d d) => .ok (.val d) ρ
  | _ => .bad
@[simp] def fldT (c x : Str) (n : Nat) : Tr → Option Tr
  | .obj c' l => if c' = c then match l[n]? with
    | some (y, t) => if y = x then some t else none
    | none => none else none
  | _ => none
@[simp] def fldD (c x : Str) (n : Nat) : D → Option D
  | .dict ((.list [], .str c') :: l) => if c' = c then match l[n]? with
    | some (.str y, d) => if y = x then some d else none
    | _ => none else none
  | _ => none
@[simp] def fldL (c x : Str) : Option (Str × List (Str × D)) → Option D
  | some (c', fs) => if c' = c then fs.lookup x else none
  | none => none
@[simp] def qFldV (c x : Str) (n i : Nat) (ρ : Env) : Out PV := match ρ[i]? with
  | some (.own _ (.tr t)) => match fldT c x n t with
    | some s => .ok (mkPV i [.f x n] s) ρ
    | none => .bad
  | some (.lk o) => match fldL c x o with
    | some d => .ok (.val d) ρ
    | none => .bad
  | some (.d d0) => match fldD c x n d0 with
    | some d => .ok (.val d) ρ
    | none => .bad
  | _ => .bad
@[simp] def qFld (c x : Str) (n : Nat) (fq : QC) (ρ : Env) : Out PV := (fq ρ).bind fun q ρ1 => match q with
  | .pl i p => match atP ρ1 i p with
    | some t => match fldT c x n t with
      | some s => .ok (mkPV i (p ++ [.f x n]) s) ρ1
      | none => .bad
    | none => .bad
  | .val d0 => match fldD c x n d0 with
    | some d => .ok (.val d) ρ1
    | none => .bad
@[simp] def frzE (i : Nat) (p : List Stp) (ρ : Env) : Out VV := match ρ[i]? with
  | some (.own fx (.tr t)) => match p with
    | [] => if fx = false then .ok (.val (toD t)) (ρ.set i (.d (toD t))) else .bad
    | _ => match getP t p with
      | some s => .ok (.val (toD s)) (ρ.set i (.own fx (.tr (putP t p (.dat (toD s))))))
      | none => .bad
  | _ => .bad
@[simp] def eQ (fq : QC) (ρ : Env) : Out VV := (fq ρ).bind fun q ρ1 => match q with
  | .val d => .ok (.val d) ρ1
  | .pl i p => frzE i p ρ1
theorem look_at {y : Str} {sub : Tr} {v1 : V} : ∀ (fs : List (Str × V)) (l : List (Str × Tr)) (n : Nat), l.map (·.1) = fs.map (·.1) → (fs.map (·.1)).Nodup → l[n]? = some (y, sub) → (fs.map (·.2))[n]? = some v1 → fs.lookup y = some v1
  | [], l, n, e, _, h, _ => by cases l <;> simp at e h
  | p :: fs, [], n, e, _, _, _ => by simp at e
  | p :: fs, q :: l, n, e, nd, h, hv => by
    rw [List.map_cons, List.map_cons] at e
    rw [List.map_cons] at nd
    injection e with e1 e2
    have nd := List.nodup_cons.mp nd
    rw [show p = (p.1, p.2) from rfl, List.lookup_cons]
    cases n with
    | zero =>
      simp at h hv
      subst h
      rw [← e1, beq_self_eq_true, hv]
    | succ n =>
      rw [List.getElem?_cons_succ] at h
      rw [List.map_cons, List.getElem?_cons_succ] at hv
      have hm : y ∈ fs.map (·.1) := by
        rw [← e2]
        exact List.mem_map.mpr ⟨_, List.mem_of_getElem? h, rfl⟩
      rw [show (y == p.1) = false from beq_eq_false_iff_ne.mpr fun z => nd.1 (z ▸ hm)]
      exact look_at fs l n e2 nd.2 h hv
theorem look_atD {K : Fg} {J : Hp} {y : Str} {d : D} : ∀ (fs : List (Str × V)) (l : List (D × D)) (n : Nat), l.map (·.1) = fs.map (fun p => PyData.str p.1) → (fs.map (·.1)).Nodup → RpAll K J (fs.map (·.2)) (l.map (·.2)) → l[n]? = some (.str y, d) → ∃ v, fs.lookup y = some v ∧ Rp K J v d
  | [], l, n, e, _, _, h => by cases l <;> simp at e h
  | p :: fs, [], n, e, _, _, _ => by simp at e
  | p :: fs, q :: l, n, e, nd, r, h => by
    rw [List.map_cons, List.map_cons] at e r
    rw [List.map_cons] at nd
    injection e with e1 e2
    have nd := List.nodup_cons.mp nd
    rw [show p = (p.1, p.2) from rfl, List.lookup_cons]
    cases r with
    | cons r1 r2 =>
      cases n with
      | zero =>
        simp at h
        subst h
        cases e1
        rw [beq_self_eq_true]
        exact ⟨_, rfl, r1⟩
      | succ n =>
        rw [List.getElem?_cons_succ] at h
        have hm : y ∈ fs.map (·.1) := by
          have : PyData.str y ∈ fs.map (fun p => PyData.str p.1) := by
            rw [← e2]
            exact List.mem_map.mpr ⟨_, List.mem_of_getElem? h, rfl⟩
          obtain ⟨p', h1, h2⟩ := List.mem_map.mp this
          cases h2
          exact List.mem_map.mpr ⟨p', h1, rfl⟩
        rw [show (y == p.1) = false from beq_eq_false_iff_ne.mpr fun z => nd.1 (z ▸ hm)]
        exact look_atD fs l n e2 nd.2 r2 h
theorem ins_inv {K : Fg} {J : Hp} {v : V} {c : Str} {l : List (D × D)} (h : Rp K J v (.dict ((.list [], .str c) :: l))) : ∃ a C dx fs, v = .ref a ∧ IsCls K c C ∧ J a = some (.ins C dx fs) ∧ (fs.map (·.1)).Nodup ∧ l.map (·.1) = fs.map (fun p => PyData.str p.1) ∧ RpAll K J (fs.map (·.2)) (l.map (·.2)) := by
  cases h with
  | ins h1 h2 h0 h3 h4 => exact ⟨_, _, _, _, rfl, h1, h2, h0, h3, h4⟩
  | @dctK a o kvs l h1 h2 h3 =>
    cases kvs with
    | nil => simp at h2
    | cons p r =>
      rw [List.map_cons, List.map_cons] at h2
      injection h2 with h2 _
      obtain ⟨k, u⟩ := p
      cases k <;> cases h2
  | @dctN a o raw l h0 h1 h2 h3 h4 h5 =>
    cases raw with
    | nil => exact absurd rfl h0
    | cons p r =>
      rw [List.map_cons, List.map_cons] at h3
      injection h3 with h3 _
      simp [nkOf] at h3
theorem fldD_some {c x : Str} {n : Nat} {d0 d : D} (h : fldD c x n d0 = some d) : ∃ l, d0 = .dict ((.list [], .str c) :: l) ∧ l[n]? = some (.str x, d) := by
  unfold fldD at h
  split at h
  · rename_i c' l
    split at h
    · rename_i hc
      subst hc
      split at h
      · rename_i y d' hl
        split at h
        · rename_i hy
          subst hy
          cases h
          exact ⟨l, rfl, hl⟩
        · cases h
      · cases h
    · cases h
  · cases h
theorem fldT_some {c x : Str} {n : Nat} {t s : Tr} (h : fldT c x n t = some s) : ∃ l, t = .obj c l ∧ l[n]? = some (x, s) := by
  unfold fldT at h
  split at h
  · rename_i c' l
    split at h
    · rename_i hc
      subst hc
      split at h
      · rename_i y t' hl
        split at h
        · rename_i hy
          subst hy
          cases h
          exact ⟨l, rfl, hl⟩
        · cases h
      · cases h
    · cases h
  · cases h
section
variable {X : Cx} {Y : Yx} {a b c e : Expr} {pos : Pos}
theorem dq_var (i : Nat) {x : Str} (hN : X.N[i]? = some x := by rfl) (hv : Vis X.env.scope x := by first | exact Or.inl rfl | exact Or.inr (Or.inl rfl) | exact Or.inr (Or.inr rfl)) (hd : (x == ("__debug__" : Str)) = false := by decide)
    (hcd : (x == ("__classdict__" : Str)) = false := by decide) : DQ X Y (.Name x pos) (qVar i) := by
  refine PE.imp (pe_var (i := i) hN hv hd hcd) fun σ H Q ⟨G, J, ρ, er, h⟩ => ?_
  unfold qVar at h
  split at h
  · rename_i fx t hi
    obtain ⟨v, h1, h2⟩ := pl_root er hi
    exact ⟨v, h1, h.now er h2⟩
  · rename_i d hi
    obtain ⟨fs, hs, _⟩ := er.ft
    obtain ⟨y, f, e1, _, so⟩ := hs.get hi
    cases so with
    | d hd => exact ⟨_, e1, h.now er hd⟩
  · exact h.elim
theorem fld_tree {K : Fg} {G : Gd} {J H : Hp} {σ : L2.St} {ρ : Env} {v : V} {i : Nat} {p : List Stp} {c x : Str} {n : Nat} {t s : Tr} {C : Addr} (T : IsCls K c C) (sj : Same J H) (hp : PlOk K G J H σ ρ i p v) (ht : atP ρ i p = some t) (hf : fldT c x n t = some s) :
    ∃ a dx fs v1, v = .ref a ∧ H a = some (.ins C dx fs) ∧ fs.lookup x = some v1 ∧ PvOk K G J H σ ρ v1 (mkPV i (p ++ [.f x n]) s) := by
  obtain ⟨l, rfl, hl⟩ := fldT_some hf
  obtain ⟨fx, t0, hi, hg⟩ := atP_some ht
  obtain ⟨aa, o, vs, ts, v1, rfl, ho, hsh, hv1, hp1⟩ := hp.child (s := .f x n) (n := n) (c := s) sj hi hg (by simp [hl]) (by simp [hl])
  cases hsh with
  | obj C' dx fs c2 l2 k1 k2 k3 =>
    cases T.uniq k1
    refine ⟨aa, dx, fs, v1, rfl, ho, look_at fs l n k2 k3 hl hv1, mkPV_ok hp1 ?_⟩
    unfold atP rootT
    rw [hi]
    simp only
    rw [getP_snoc p hg]
    simp [hl]
theorem dq_fldV (i : Nat) {cn x f : Str} {n : Nat} {C : Addr} {p : Pos} (T : ClsF X.G cn C) (N : NoAttr X.G C f) (hN : X.N[i]? = some x := by rfl) (hv : Vis X.env.scope x := by first | exact Or.inl rfl | exact Or.inr (Or.inl rfl) | exact Or.inr (Or.inr rfl))
    (hb : attributeBase (.Name x p) f X.env (eval (.Name x p) X.env) = eval (.Name x p) X.env := by rfl) (hd : (x == ("__debug__" : Str)) = false := by decide) (hcd : (x == ("__classdict__" : Str)) = false := by decide) :
    DQ X Y (.Attribute (.Name x p) f pos) (qFldV cn f n i) := by
  refine PE.imp (pe_fld (pe_var (i := i) hN hv hd hcd) hb) fun σ H Q ⟨G, J, ρ, er, h⟩ => ?_
  unfold qFldV at h
  split at h
  · rename_i fx t hi
    split at h
    · rename_i s hs
      obtain ⟨v, h1, h2⟩ := pl_root er hi
      obtain ⟨a0, dx, fs, v1, rfl, k1, k2, k3⟩ := fld_tree T.g er.ex h2 (by simp [hi]) hs
      exact ⟨_, h1, a0, C, dx, fs, v1, rfl, k1, T.cl, N, k2, h.now er k3⟩
    · exact h.elim
  · rename_i o hi
    split at h
    · rename_i d hd'
      unfold fldL at hd'
      split at hd'
      · rename_i c' fs
        split at hd'
        · rename_i hc
          subst hc
          obtain ⟨a0, C', dx, vs, k1, k2, k3, k4, k5⟩ := er.lk i _ fs hi
          cases T.g.uniq k3
          obtain ⟨v, l1, l2⟩ := k5 f d (by
            obtain ⟨p1, p2, e, _⟩ := List.lookup_eq_some_iff.mp hd'
            rw [e]
            simp)
          exact ⟨_, k1, a0, C, dx, vs, v, rfl, k4, T.cl, N, l1, h.now er l2⟩
        · cases hd'
      · cases hd'
    · exact h.elim
  · rename_i d0 hi
    split at h
    · rename_i d hd'
      obtain ⟨l, rfl, hl⟩ := fldD_some hd'
      obtain ⟨fs, hs, _⟩ := er.ft
      obtain ⟨y, fo, e1, _, so⟩ := hs.get hi
      cases so with
      | d hd =>
        obtain ⟨a0, C', dx, fs', rfl, k1, k2, k3, k4, k5⟩ := ins_inv hd
        cases T.g.uniq k1
        obtain ⟨v, l1, l2⟩ := look_atD fs' l n k4 k3 k5 hl
        exact ⟨_, e1, a0, C, dx, fs', v, rfl, er.ex _ _ k2, T.cl, N, l1, h.now er l2⟩
    · exact h.elim
  · exact h.elim
theorem frz_end' {K : Fg} {Y : Yx} {G : Gd} {J H : Hp} {σ : L2.St} {ρ : Env} {i : Nat} {p : List Stp} {v : V} {Q : VK} (er : ER K G J H σ ρ) (hp : PlOk K G J H σ ρ i p v) (h : Post K Y G J σ (RV K σ) (frzE i p ρ) Q) : LkT H (Q v) := by
  unfold frzE at h
  split at h
  · rename_i fx t hi
    split at h
    · split at h
      · rename_i hf
        subst hf
        obtain ⟨v', h1, h2⟩ := er.frzT hi
        obtain ⟨fx', t', sub, f, q1, q0, _⟩ := hp
        have q0 := q0 rfl
        rw [h1] at q0
        cases q0
        exact h2.bind fun H2 ⟨J2, k1, k2, k3⟩ => .now (h _ J2 H2 k1 k2 k3)
      · exact h.elim
    · rename_i hne
      split at h
      · rename_i s hs
        exact (hp.frz er.ex hne hi hs).bind fun H2 ⟨J2, k1, k2, k3⟩ => .now (h v J2 H2 k1 k2 k3)
      · exact h.elim
  · exact h.elim
theorem de_q {fq : QC} (ho : DQ X Y a fq) : DE X Y a (eQ fq) := by
  refine PE.imp (PE.lkT ho) fun σ H Q ⟨G, J, ρ, er, h⟩ => ⟨G, J, ρ, er, PostQ.bind h fun q ρ1 v J1 H1 s1 e1 p1 h1 => ?_⟩
  cases q with
  | pl i p => exact frz_end' e1 p1 h1
  | val d => exact .now (h1.now p1 e1)
end
end DL
namespace DL
open PySem PySem.Spec L2 PyProof.Rows
@[simp] def stepK (i : Nat) (p : List Stp) (k : D) (ρ : Env) : Out PV := match atP ρ i p with
  | some (.dct l) => if dOkK l k = true then match keyIx l k with
    | some n => match l[n]? with
      | some (_, s) => .ok (mkPV i (p ++ [.k k]) s) ρ
      | none => .bad
    | none => .bad else .bad
  | some (.lst xs) => match k with
    | .int z => match ixN xs.length z with
      | some n => match xs[n]? with
        | some s => .ok (mkPV i (p ++ [.i n]) s) ρ
        | none => .bad
      | none => .bad
    | _ => .bad
  | _ => .bad
@[simp] def pureD (fk : EC) (ρ : Env) : Option D := match fk (hideE ρ) with
  | .ok (.val k) _ => some k
  | _ => none
@[simp] def qIxK (fk : EC) (x : PV) (ρ1 : Env) : Out PV := match x with
  | .val dx => (fk ρ1).bind fun y ρ2 => match deref ρ2 y with
    | some k => match dIxA dx k with
      | some d => .ok (.val d) ρ2
      | none => .bad
    | none => .bad
  | .pl i [] => (fk ρ1).bind fun y ρ2 => match deref ρ2 y with
    | some k => stepK i [] k ρ2
    | none => .bad
  | .pl i (s :: p) => match pureD fk ρ1 with
    | some k => stepK i (s :: p) k ρ1
    | none => .bad
@[simp] def qIx (fq : QC) (fk : EC) (ρ : Env) : Out PV := (fq ρ).bind (qIxK fk)
section
variable {K : Fg} {G : Gd} {J H : Hp} {σ : L2.St} {ρ : Env}
theorem val_K {k : Key} : ∀ {kvs : List (Key × V)} {l : List (D × Tr)}, l.map (·.1) = kvs.map (fun p => keyD p.1) → (valV kvs k = none ∧ keyIx l (keyD k) = none) ∨ ∃ n u, keyIx l (keyD k) = some n ∧ valV kvs k = some u ∧ (kvs.map (·.2))[n]? = some u
  | [], [], _ => .inl ⟨rfl, rfl⟩
  | [], _ :: _, e => by simp at e
  | _ :: _, [], e => by simp at e
  | p :: kvs, q :: l, e => by
    rw [List.map_cons, List.map_cons] at e
    injection e with e1 e2
    unfold keyIx
    rw [List.findIdx?_cons, e1]
    by_cases z : p.1 = k
    · rw [valV_pos z, show decide (nkOf (keyD p.1) = nkOf (keyD k)) = true from decide_eq_true ((nk_key _ _).mpr z)]
      exact .inr ⟨0, _, rfl, rfl, rfl⟩
    · rw [valV_neg z, show decide (nkOf (keyD p.1) = nkOf (keyD k)) = false from decide_eq_false fun h => z ((nk_key _ _).mp h)]
      rcases val_K (k := k) e2 with ⟨h1, h2⟩ | ⟨n, u, h1, h2, h3⟩
      · unfold keyIx at h2
        exact .inl ⟨h1, by simp [h2]⟩
      · unfold keyIx at h1
        exact .inr ⟨n + 1, u, by simp [h1], h2, by simpa using h3⟩
theorem val_N {k : D} {nk : NestedKey} (hk : nkOf k = some nk) : ∀ {raw : Raw3} {l : List (D × Tr)}, l.map (fun p => nkOf p.1) = raw.map (fun p => some p.1) → (valN raw nk = none ∧ keyIx l k = none) ∨ ∃ n u, keyIx l k = some n ∧ valN raw nk = some u ∧ (raw.map (·.2.2))[n]? = some u
  | [], [], _ => .inl ⟨rfl, rfl⟩
  | [], _ :: _, e => by simp at e
  | _ :: _, [], e => by simp at e
  | p :: raw, q :: l, e => by
    rw [List.map_cons, List.map_cons] at e
    injection e with e1 e2
    unfold keyIx valN
    rw [List.findIdx?_cons, List.find?_cons, e1, hk]
    by_cases z : p.1 = nk
    · rw [show decide (some p.1 = some nk) = true from decide_eq_true (by rw [z]), show decide (p.1 = nk) = true from decide_eq_true z]
      exact .inr ⟨0, _, rfl, rfl, rfl⟩
    · rw [show decide (some p.1 = some nk) = false from decide_eq_false fun h => z (Option.some.inj h), show decide (p.1 = nk) = false from decide_eq_false z]
      rcases val_N hk e2 with ⟨h1, h2⟩ | ⟨n, u, h1, h2, h3⟩
      · unfold valN at h1
        unfold keyIx at h2
        rw [hk] at h2
        exact .inl ⟨h1, by simp [h2]⟩
      · unfold valN at h2
        unfold keyIx at h1
        rw [hk] at h1
        exact .inr ⟨n + 1, u, by simp [h1], h2, by simpa using h3⟩
theorem keys_ND {raw : Raw3} {l : List (D × Tr)} (sj : Same J H) : RpAll K J (raw.map fun p => V.ref p.2.1) (l.map (·.1)) → l.map (fun p => nkOf p.1) = raw.map (fun p => some p.1) → (∀ p ∈ raw, p.1.depth ≤ 8) → ∀ p ∈ raw, NkAt K H (.ref p.2.1) p.1 ∧ p.1.depth ≤ 8 := by
  induction raw generalizing l with
  | nil => intro _ _ _ p hp; cases hp
  | cons q raw ih =>
    intro r hm hd p hp
    cases l with
    | nil => simp at hm
    | cons z l =>
      rw [List.map_cons, List.map_cons] at r hm
      injection hm with m1 m2
      cases r with
      | cons r1 r2 =>
        rcases List.mem_cons.mp hp with rfl | hp
        · exact ⟨nk_of_rp _ (dp_mono' sj r1) m1, hd _ (by simp)⟩
        · exact ih r2 m2 (fun p hp => hd p (by simp [hp])) p hp
theorem tree_get {a : Addr} {o : HO} {l : List (D × Tr)} {vs : List V} {ts : List Tr} {k : D} {y : V} (sj : Same J H) (ho : H a = some o) (hs : Shape K J a o (.dct l) vs ts) (hk : dOkK l k = true) (ry : Rp K H y k) :
    ∃ ov, DGt K H a y ov ∧ ((ov = none ∧ keyIx l k = none) ∨ ∃ n u, ov = some u ∧ keyIx l k = some n ∧ vs[n]? = some u) := by
  have hk2 := hk
  unfold dOkK at hk
  rw [Bool.or_eq_true, Bool.and_eq_true, Bool.and_eq_true] at hk
  cases hs with
  | dctK kvs l hm hnd =>
    rcases hk with ⟨h0, _⟩ | ⟨h0, h1⟩
    · obtain ⟨kk, rfl, _⟩ := kk0_some h0
      cases keyD_rp ry
      refine ⟨valV kvs kk, .inl (.inl ⟨kvs, kk, .inl ho, rfl, rfl⟩), ?_⟩
      rcases val_K (k := kk) hm with ⟨x, y⟩ | ⟨n, u, x, y, z⟩
      · exact .inl ⟨x, y⟩
      · exact .inr ⟨n, u, y, x, z⟩
    · obtain ⟨ds, nk, rfl, hnk, dp⟩ := kk1_some h0
      have hkv : kvs = [] ∧ l = [] := by
        cases kvs with
        | nil =>
          cases l with
          | nil => exact ⟨rfl, rfl⟩
          | cons _ _ => simp at hm
        | cons p2 kvs =>
          cases l with
          | nil => simp at hm
          | cons p l =>
            have := List.all_eq_true.mp h1 p (by simp)
            rw [List.map_cons, List.map_cons] at hm
            injection hm with hm _
            rw [hm] at this
            obtain ⟨k, u⟩ := p2
            cases k <;> cases this
      obtain ⟨rfl, rfl⟩ := hkv
      obtain ⟨b, rfl⟩ : ∃ b, y = .ref b := by
        cases ry with
        | tup _ _ => exact ⟨_, rfl⟩
      exact ⟨none, .inr (.inr ⟨nk, b, .inl ho, rfl, nk_of_rp _ ry hnk, dp, rfl⟩), .inl ⟨rfl, rfl⟩⟩
  | dctN raw l hne hr hm hd hnd =>
    have hk1 : kk1 k = true := by
      rcases hk with ⟨h0, h1⟩ | ⟨h0, h1⟩
      · exfalso
        cases raw with
        | nil => exact hne rfl
        | cons p raw =>
          cases l with
          | nil => simp at hm
          | cons q l =>
            have := List.all_eq_true.mp h1 q (by simp)
            obtain ⟨kk, e, _⟩ := kk0_some this
            rw [List.map_cons, List.map_cons] at hr
            cases hr with
            | cons r1 _ =>
              rw [e] at r1
              cases kk <;> cases r1
      · exact h0
    obtain ⟨ds, nk, rfl, hnk, dp⟩ := kk1_some hk1
    obtain ⟨b, rfl⟩ : ∃ b, y = .ref b := by
      cases ry with
      | tup _ _ => exact ⟨_, rfl⟩
    refine ⟨valN raw nk, .inr (.inl ⟨raw, nk, b, ⟨.inl ho, keys_ND sj hr hm hd⟩, rfl, nk_of_rp _ ry hnk, dp, rfl⟩), ?_⟩
    rcases val_N hnk hm with ⟨x, y⟩ | ⟨n, u, x, y, z⟩
    · exact .inl ⟨x, y⟩
    · exact .inr ⟨n, u, y, x, z⟩
theorem atP_snoc {i : Nat} {p : List Stp} {s : Stp} {t c : Tr} {n : Nat} (h : atP ρ i p = some t) (hx : idxS t s = some n) (hc : (chS t)[n]? = some c) : atP ρ i (p ++ [s]) = some c := by
  obtain ⟨fx, t0, hi, hg⟩ := atP_some h
  unfold atP rootT
  rw [hi]
  simp only
  rw [getP_snoc p hg, getP_cons, hx]
  simp only [hc]
  exact getP_nil c
theorem stepK_env {i : Nat} {p : List Stp} {k : D} {q : PV} {ρ' : Env} (h : stepK i p k ρ = .ok q ρ') : ρ' = ρ := by
  unfold stepK at h
  split at h
  · split at h
    · split at h
      · split at h
        · cases h; rfl
        · cases h
      · cases h
    · cases h
  · split at h
    · split at h
      · split at h
        · cases h; rfl
        · cases h
      · cases h
    · cases h
  · cases h
theorem stepK_exc {i : Nat} {p : List Stp} {k : D} {e : EV} {ρ' : Env} : stepK i p k ρ ≠ .exc e ρ' := by
  intro h
  unfold stepK at h
  repeat' split at h
  all_goals cases h
theorem step_dct0 {i : Nat} {p : List Stp} {v y : V} {k : D} {l : List (D × Tr)} {q : PV} (er : ER K G J H σ ρ) (hp : PlOk K G J H σ ρ i p v) (ht : atP ρ i p = some (.dct l)) (ry : Rp K H y k) (h : stepK i p k ρ = .ok q ρ) : ∃ a u, v = .ref a ∧ DGt K H a y (some u) ∧ PvOk K G J H σ ρ u q := by
  unfold stepK at h
  rw [ht] at h
  simp only at h
  split at h
  · rename_i hok
    split at h
    · rename_i n hn
      split at h
      · rename_i q s hs
        obtain ⟨fx, t0, hi, hg⟩ := atP_some ht
        obtain ⟨a0, o, vs, ts, v1, rfl, ho, hsh, hv1, hp1⟩ := hp.child (s := .k k) (n := n) (c := s) er.ex hi hg (by simp [hok, hn]) (by simp [hs])
        obtain ⟨ov, g, c⟩ := tree_get er.ex ho hsh hok ry
        rcases c with ⟨_, c⟩ | ⟨n', u, rfl, c, c2⟩
        · rw [hn] at c; cases c
        · rw [hn] at c
          cases c
          rw [hv1] at c2
          cases c2
          cases h
          exact ⟨a0, v1, rfl, g, mkPV_ok hp1 (atP_snoc (n := n) (c := s) ht (by simp [hok, hn]) (by simp [hs]))⟩
      · cases h
    · cases h
  · cases h
theorem step_dct {Y : Yx} {Q : VK} {i : Nat} {p : List Stp} {v y : V} {k : D} {l : List (D × Tr)} (er : ER K G J H σ ρ) (hp : PlOk K G J H σ ρ i p v) (ht : atP ρ i p = some (.dct l)) (ry : Rp K H y k) (h : PostQ K Y G J σ (stepK i p k ρ) Q) : ∃ a u, v = .ref a ∧ DGt K H a y (some u) ∧ Q u H := by
  cases hk : stepK i p k ρ with
  | ok q ρ' =>
    cases stepK_env hk
    rw [hk] at h
    obtain ⟨a, u, e1, e2, e3⟩ := step_dct0 er hp ht ry hk
    exact ⟨a, u, e1, e2, h.now er e3⟩
  | exc e ρ' => exact absurd hk stepK_exc
  | bad => rw [hk] at h; exact h.elim
theorem ixN_at {α : Type} {xs : List α} {z : Int} {n : Nat} (h : ixN xs.length z = some n) : atI xs z = xs[n]? := by
  unfold atI
  rw [h] <;> rfl
theorem step_lst0 {i : Nat} {p : List Stp} {v y : V} {k : D} {xs : List Tr} {q : PV} (er : ER K G J H σ ρ) (hp : PlOk K G J H σ ρ i p v) (ht : atP ρ i p = some (.lst xs)) (ry : Rp K H y k) (h : stepK i p k ρ = .ok q ρ) : ∃ a vs z u, v = .ref a ∧ y = .int z ∧ SqL K H a vs ∧ atI vs z = some u ∧ PvOk K G J H σ ρ u q := by
  unfold stepK at h
  rw [ht] at h
  simp only at h
  split at h
  · rename_i z
    split at h
    · rename_i n hn
      split at h
      · rename_i s hs
        have hl : n < xs.length := (List.getElem?_eq_some_iff.mp hs).1
        obtain ⟨fx, t0, hi, hg⟩ := atP_some ht
        obtain ⟨a0, o, vs, ts, v1, rfl, ho, hsh, hv1, hp1⟩ := hp.child (s := .i n) (n := n) (c := s) er.ex hi hg (by simp [hl]) (by simp [hs])
        cases hsh with
        | lst =>
          cases ry
          have hlen : vs.length = xs.length := by
            obtain ⟨fx2, t2, sub, f, q1, q0, q2, q3, _⟩ := hp
            rw [hi] at q1
            cases q1
            rw [hg] at q2
            cases q2
            cases q3 with
            | nod ho2 hs2 hts =>
              rw [ho] at ho2
              cases ho2
              cases hs2
              exact hts.len
          cases h
          refine ⟨a0, vs, z, v1, rfl, rfl, .inl (.inl ho), ?_, mkPV_ok hp1 (atP_snoc (n := n) (c := s) ht (by simp [hl]) (by simp [hs]))⟩
          rw [ixN_at (by rw [hlen]; exact hn)]
          exact hv1
      · cases h
    · cases h
  · cases h
theorem step_lst {Y : Yx} {Q : VK} {i : Nat} {p : List Stp} {v y : V} {k : D} {xs : List Tr} (er : ER K G J H σ ρ) (hp : PlOk K G J H σ ρ i p v) (ht : atP ρ i p = some (.lst xs)) (ry : Rp K H y k) (h : PostQ K Y G J σ (stepK i p k ρ) Q) : ∃ a vs z u, v = .ref a ∧ y = .int z ∧ SqL K H a vs ∧ atI vs z = some u ∧ Q u H := by
  cases hk : stepK i p k ρ with
  | ok q ρ' =>
    cases stepK_env hk
    rw [hk] at h
    obtain ⟨a, vs, z, u, e1, e2, e3, e4, e5⟩ := step_lst0 er hp ht ry hk
    exact ⟨a, vs, z, u, e1, e2, e3, e4, h.now er e5⟩
  | exc e ρ' => exact absurd hk stepK_exc
  | bad => rw [hk] at h; exact h.elim
end
section
variable {X : Cx} {Y : Yx} {a b : Expr} {pos : Pos}
theorem tE_imp {K : Fg} {Y : Yx} {fk : EC} {σ : L2.St} {H : Hp} {Q Q' : VK} (h : tE K Y fk σ H Q) (hq : ∀ v H, Q v H → Q' v H) : tE K Y fk σ H Q' := by
  obtain ⟨G, J, ρ, er, h⟩ := h
  refine ⟨G, J, ρ, er, ?_⟩
  cases hf : fk ρ with
  | ok x ρ1 => rw [hf] at h; exact fun v J1 H1 s r e => hq _ _ (h v J1 H1 s r e)
  | exc e ρ1 => rw [hf] at h; exact h
  | bad => rw [hf] at h; exact h
theorem dq_ix {fq : QC} {fk : EC} (hu : X.A.units + 64 < cLine) (ha : DQ X Y a fq) (hb : DE X Y b fk) (hs : PlainIx b := by exact fun _ _ => rfl) (hs2 : NoSl b := by exact fun _ _ => rfl) : DQ X Y (.Subscript a b pos) (qIx fq fk) := by
  refine PE.imp (PE.or (pe_ix (od_ix.or ix_list) ha hb hs) (pe_nget hu ha hb hs2)) fun σ H Q ⟨G, J, ρ, er, h⟩ => ?_
  unfold qIx at h
  cases hf : fq ρ with
  | bad => rw [hf] at h; exact h.elim
  | exc e ρ1 => exact .inl ⟨G, J, ρ, er, by rw [hf] at h ⊢; exact h⟩
  | ok x ρ1 =>
    rw [hf] at h
    have h : PostQ X.G Y G J σ (qIxK fk x ρ1) Q := h
    cases x with
    | val dx =>
      by_cases hd : ∃ l, dx = .dict l
      · obtain ⟨l, rfl⟩ := hd
        refine .inr ⟨G, J, ρ, er, ?_⟩
        rw [hf]
        intro v J1 H1 s1 e1 p1
        refine ⟨G, J1, ρ1, e1, Post.bindQ (PostQ.mono s1 h) fun y ρ2 w J2 H2 s2 r2 e2 h2 => ?_⟩
        cases hk : deref ρ2 y with
        | none => rw [hk] at h2; exact h2.elim
        | some k =>
          rw [hk] at h2
          simp only [dIxA_d] at h2
          split at h2
          · rename_i d hd
            split at hd
            · rename_i hok
              obtain ⟨a0, o, rfl, g, c⟩ := dct_get e2.ex (dp_mono' s2 (show Rp X.G J1 v _ from p1)) hok ((deref_ok e2 r2 hk).rp e2.ex)
              rcases c with ⟨rfl, c⟩ | ⟨u, d', rfl, c, r⟩
              · rw [c] at hd; cases hd
              · rw [c] at hd; cases hd
                exact ⟨a0, u, rfl, g, h2.now e2 r⟩
            · cases hd
          · exact h2.elim
      · refine .inl ⟨G, J, ρ, er, ?_⟩
        rw [hf]
        intro v J1 H1 s1 e1 p1
        refine ⟨G, J1, ρ1, e1, Post.bindQ (PostQ.mono s1 h) fun y ρ2 w J2 H2 s2 r2 e2 h2 => ?_⟩
        cases hk : deref ρ2 y with
        | none => rw [hk] at h2; exact h2.elim
        | some k =>
          rw [hk] at h2
          have h2 : PostQ X.G Y G J2 σ (match dIxA dx k with
            | some d => .ok (.val d) ρ2
            | none => .bad) Q := h2
          have e0 : dIxA dx k = dIx dx k := by
            cases dx <;> first | rfl | exact absurd ⟨_, rfl⟩ hd
          rw [e0] at h2
          split at h2
          · rename_i d hd
            exact .inl ⟨J2, dx, k, d, e2.ex, .inl (dp_mono' s2 p1), deref_ok e2 r2 hk, hd, fun u J3 H3 g r => h2 u J3 H3 g.j (e2.grow g) r⟩
          · exact h2.elim
    | pl i p =>
      cases p with
      | nil =>
        have h : PostQ X.G Y G J σ ((fk ρ1).bind fun y ρ2 => match deref ρ2 y with
          | some k => stepK i [] k ρ2
          | none => .bad) Q := h
        have go : ∀ v J1 H1, Same J J1 → ER X.G G J1 H1 σ ρ1 → PlOk X.G G J1 H1 σ ρ1 i [] v → tE X.G Y fk σ H1 fun w H2 => ∃ J2 ρ2 k, ER X.G G J2 H2 σ ρ2 ∧ Rp X.G H2 w k ∧ (∀ fx t, ρ2[i]? = some (.own fx (.tr t)) → PlOk X.G G J2 H2 σ ρ2 i [] v) ∧ PostQ X.G Y G J2 σ (stepK i [] k ρ2) Q ∧ ∃ y, fk ρ1 = .ok y ρ2 := by
          intro v J1 H1 s1 e1 p1
          cases hfk : fk ρ1 with
          | bad => rw [hfk] at h; exact h.elim
          | exc e ρ2 => exact ⟨G, J1, ρ1, e1, by rw [hfk] at h ⊢; exact PostQ.mono s1 h⟩
          | ok y ρ2 =>
            refine ⟨G, J1, ρ1, e1, ?_⟩
            rw [hfk] at h ⊢
            intro w J2 H2 s2 r2 e2
            have h2 : PostQ X.G Y G J2 σ (match deref ρ2 y with
              | some k => stepK i [] k ρ2
              | none => .bad) Q := PostQ.mono (s1.trans s2) h
            cases hk : deref ρ2 y with
            | none => rw [hk] at h2; exact h2.elim
            | some k =>
              rw [hk] at h2
              refine ⟨J2, ρ2, k, e2, (deref_ok e2 r2 hk).rp e2.ex, fun fx t hi => ?_, h2, y, rfl⟩
              obtain ⟨v', q1, q2⟩ := pl_root e2 hi
              obtain ⟨_, _, _, _, _, q0, _⟩ := p1
              rw [q0 rfl] at q1
              cases q1
              exact q2
        by_cases hd : ∃ y ρ2 l, fk ρ1 = .ok y ρ2 ∧ atP ρ2 i [] = some (.dct l)
        · obtain ⟨y0, ρ0, l, hk0, ha0⟩ := hd
          refine .inr ⟨G, J, ρ, er, ?_⟩
          rw [hf]
          intro v J1 H1 s1 e1 p1
          refine tE_imp (go v J1 H1 s1 e1 p1) fun w H2 ⟨J2, ρ2, k, e2, rk, hp, h2, y, hk⟩ => ?_
          rw [hk0] at hk
          cases hk
          obtain ⟨fx, t, hi, hg⟩ := atP_some ha0
          obtain ⟨a0, u, ea, g, q⟩ := step_dct e2 (hp fx t hi) ha0 rk h2
          exact ⟨a0, u, ea, g, q⟩
        · refine .inl ⟨G, J, ρ, er, ?_⟩
          rw [hf]
          intro v J1 H1 s1 e1 p1
          refine tE_imp (go v J1 H1 s1 e1 p1) fun w H2 ⟨J2, ρ2, k, e2, rk, hp, h2, y, hk⟩ => ?_
          cases ht : atP ρ2 i [] with
          | none => unfold stepK at h2; rw [ht] at h2; exact h2.elim
          | some tt =>
            obtain ⟨fx, t, hi, hg⟩ := atP_some ht
            cases tt with
            | lst xs =>
              obtain ⟨a0, vs, z, u, rfl, rfl, q1, q2, q3⟩ := step_lst e2 (hp fx t hi) ht rk h2
              exact .inr ⟨a0, vs, z, u, rfl, rfl, q1, q2, q3⟩
            | dct l => exact absurd ⟨_, _, _, hk, ht⟩ hd
            | _ => unfold stepK at h2; rw [ht] at h2; exact h2.elim
      | cons s p =>
        have h : PostQ X.G Y G J σ (match pureD fk ρ1 with
          | some k => stepK i (s :: p) k ρ1
          | none => .bad) Q := h
        unfold pureD at h
        split at h
        · rename_i k hk
          split at hk
          · rename_i d' ρ' hkk
            cases hk
            by_cases hd : ∃ l, atP ρ1 i (s :: p) = some (.dct l)
            · obtain ⟨l, hl⟩ := hd
              refine .inr ⟨G, J, ρ, er, ?_⟩
              rw [hf]
              intro v J1 H1 s1 e1 p1
              refine pure_E e1 hkk fun w J2 H2 g r => ?_
              obtain ⟨a0, u, ea, g, q⟩ := step_dct (e1.grow g) (PlOk.grow p1 g) hl (dp_mono' (e1.grow g).ex r) (PostQ.mono (s1.trans g.j) h)
              exact ⟨a0, u, ea, g, q⟩
            · refine .inl ⟨G, J, ρ, er, ?_⟩
              rw [hf]
              intro v J1 H1 s1 e1 p1
              refine pure_E e1 hkk fun w J2 H2 g r => ?_
              have h2 := PostQ.mono (s1.trans g.j) h
              cases ht : atP ρ1 i (s :: p) with
              | none => unfold stepK at h2; rw [ht] at h2; exact h2.elim
              | some tt =>
                cases tt with
                | lst xs =>
                  obtain ⟨a0, vs, z, u, rfl, rfl, q1, q2, q3⟩ := step_lst (e1.grow g) (PlOk.grow p1 g) ht (dp_mono' (e1.grow g).ex r) h2
                  exact .inr ⟨a0, vs, z, u, rfl, rfl, q1, q2, q3⟩
                | dct l => exact absurd ⟨_, ht⟩ hd
                | _ => unfold stepK at h2; rw [ht] at h2; exact h2.elim
          · cases hk
        · exact h.elim
end
end DL
namespace DL
open PySem PySem.Spec L2 PyProof.Rows
def cutF (H : Hp) (f : List Addr) : Hp := fun b => if b ∈ f then none else H b
section
variable {K : Fg} {G : Gd} {J H J' H' : Hp} {σ : L2.St} {ρ : Env} {f : List Addr}
theorem cutF_in {b : Addr} (h : b ∈ f) : cutF H f b = none := if_pos h
theorem cutF_out {b : Addr} (h : b ∉ f) : cutF H f b = H b := if_neg h
theorem cutF_some {b : Addr} {o : HO} (h : cutF H f b = some o) : b ∉ f ∧ H b = some o := by
  unfold cutF at h
  split at h
  · cases h
  · rename_i hb
    exact ⟨hb, h⟩
@[simp] theorem cutF_nil : cutF H [] = H := by
  funext b
  exact cutF_out (by simp)
theorem cutF_none (s : Same J (cutF H f)) {b : Addr} (h : b ∈ f) : J b = none := by
  cases e : J b with
  | none => rfl
  | some o =>
    have := s _ _ e
    rw [cutF_in h] at this
    cases this
theorem cutF_up (s : Same J (cutF H f)) : Grow J (cutF H f) J H := ⟨.refl J, fun b o h => (cutF_some (s _ _ h)).2, fun b o h => ⟨(cutF_some h).2, rfl⟩⟩
theorem ER.up (e : ER K G J (cutF H f) σ ρ) : ER K G J H σ ρ := e.grow (cutF_up e.ex)
theorem cutF_grow (s : Same J (cutF H f)) (hf : ∀ b ∈ f, ∃ u, H b = some u) (g : Grow J H J' H') : Grow J (cutF H f) J' (cutF H' f) := by
  have hj : ∀ b ∈ f, J' b = none := fun b hb => by
    obtain ⟨u, hu⟩ := hf b hb
    exact (g.old b u hu).2.trans (cutF_none s hb)
  refine ⟨g.j, fun b o h => ?_, fun b o h => ?_⟩
  · have nb : b ∉ f := fun z => by rw [hj b z] at h; cases h
    rw [cutF_out nb]
    exact g.jh _ _ h
  · obtain ⟨nb, h⟩ := cutF_some h
    rw [cutF_out nb]
    exact g.old b o h
def tP (K : Fg) (pf : Env → Option PV) : TE := fun σ H Q => ∃ G J f ρ q, ER K G J (cutF H f) σ ρ ∧ (∀ b ∈ f, ∃ u, H b = some u) ∧ pf ρ = some q ∧ ∀ v J' H', Grow J H J' H' → PvOk K G J' (cutF H' f) σ ρ v q → Q v H'
abbrev DP (X : Cx) (e : Expr) (pf : Env → Option PV) : Prop := PE X e (tP X.G pf)
theorem PvOk.grow {v : V} {q : PV} (h : PvOk K G J H σ ρ v q) (g : Grow J H J' H') : PvOk K G J' H' σ ρ v q := by
  cases q with
  | pl i p => exact PlOk.grow h g
  | val d => exact dp_mono' g.j (show Rp K J v d from h)
@[simp] def pVar (i : Nat) (ρ : Env) : Option PV := match ρ[i]? with
  | some (.own _ (.tr _)) => some (.pl i [])
  | some (.d d) => some (.val d)
  | _ => none
@[simp] def pFldV (c x : Str) (n i : Nat) (ρ : Env) : Option PV := match ρ[i]? with
  | some (.own _ (.tr t)) => match fldT c x n t with
    | some s => some (mkPV i [.f x n] s)
    | none => none
  | some (.d d0) => match fldD c x n d0 with
    | some d => some (.val d)
    | none => none
  | _ => none
@[simp] def pFld (c x : Str) (n : Nat) (pf : Env → Option PV) (ρ : Env) : Option PV := match pf ρ with
  | some (.pl i p) => match atP ρ i p with
    | some t => match fldT c x n t with
      | some s => some (mkPV i (p ++ [.f x n]) s)
      | none => none
    | none => none
  | some (.val d0) => match fldD c x n d0 with
    | some d => some (.val d)
    | none => none
  | none => none
@[simp] def stepP (i : Nat) (p : List Stp) (k : D) (ρ : Env) : Option PV := match stepK i p k ρ with
  | .ok q _ => some q
  | _ => none
@[simp] def pIx (pf : Env → Option PV) (fk : EC) (ρ : Env) : Option PV := match pf ρ with
  | some (.pl i p) => match pureD fk ρ with
    | some k => stepP i p k ρ
    | none => none
  | some (.val d0) => match pureD fk ρ with
    | some k => match dIxA d0 k with
      | some d => some (.val d)
      | none => none
    | none => none
  | none => none
theorem pure_at {Y : Yx} {fk : EC} {k : D} {Q : VK} (e : ER K G J H σ ρ) (hk : pureD fk ρ = some k) (hq : ∀ v J' H', Grow J H J' H' → Rp K J' v k → Q v H') : tE K Y fk σ H Q := by
  unfold pureD at hk
  split at hk
  · rename_i d' ρ' hkk
    cases hk
    exact pure_E e hkk hq
  · cases hk
end
section
variable {X : Cx} {Y : Yx} {a b c e : Expr} {pos : Pos}
theorem dpl_var (i : Nat) {x : Str} (hN : X.N[i]? = some x := by rfl) (hv : Vis X.env.scope x := by first | exact Or.inl rfl | exact Or.inr (Or.inl rfl) | exact Or.inr (Or.inr rfl)) (hd : (x == ("__debug__" : Str)) = false := by decide)
    (hcd : (x == ("__classdict__" : Str)) = false := by decide) : DP X (.Name x pos) (pVar i) := by
  refine PE.imp (pe_var (i := i) hN hv hd hcd) fun σ H Q ⟨G, J, f, ρ, q, er, hf, h, hq⟩ => ?_
  unfold pVar at h
  split at h
  · rename_i fx t hi
    cases h
    obtain ⟨v, h1, h2⟩ := pl_root er hi
    exact ⟨v, h1, hq _ _ _ (.refl er.up.ex) h2⟩
  · rename_i d hi
    cases h
    obtain ⟨fs, hs, _⟩ := er.ft
    obtain ⟨y, f, e1, _, so⟩ := hs.get hi
    cases so with
    | d hd => exact ⟨_, e1, hq _ _ _ (.refl er.up.ex) hd⟩
  · cases h
end
section
variable {K : Fg} {J H H' : Hp}
theorem DGt.mono {a : Addr} {y : V} {o : Option V} (g : DGt K H a y o) (e : Same H H') : DGt K H' a y o := by
  rcases g with (⟨kvs, k, h1, h2, h3⟩ | ⟨kvs, k, b, h1, h2, h3, h4⟩) | ⟨raw, k, b, h1, h2, h3, h4⟩ | ⟨k, b, h1, h2, h3, h4⟩
  · exact .inl (.inl ⟨kvs, k, same_rd e h1, h2, h3⟩)
  · exact .inl (.inr ⟨kvs, k, b, same_rd e h1, h2, e _ _ h3, h4⟩)
  · exact .inr (.inl ⟨raw, k, b, h1.mono e, h2, h3.mono e, h4⟩)
  · exact .inr (.inr ⟨k, b, same_rd e h1, h2, h3.mono e, h4⟩)
theorem cutF_same {f : List Addr} : Same (cutF H f) H := fun b o h => (cutF_some h).2
end
section
variable {X : Cx} {Y : Yx} {a b : Expr} {pos : Pos}
end
end DL
namespace DL
open PySem PySem.Spec L2 PyProof.Rows
abbrev NC := Env → Out Tr
def PostT (K : Fg) (Y : Yx) (G : Gd) (J : Hp) (σ : L2.St) (o : Out Tr) (Q : VK) : Prop := match o with
  | .ok t ρ => ∀ v J' H' f, Same J J' → TrAt K J' H' v t f → f.Nodup → ER K G J' (cutF H' f) σ ρ → Q v H'
  | .exc e ρ => ∀ c dx J' H', Same J J' → ExcAt Y K J' H' e c dx → ER K G J' H' σ ρ → Y.W c dx σ H'
  | .bad => False
def tTr (K : Fg) (Y : Yx) (fn : NC) : TE := fun σ H Q => ∃ G J ρ, ER K G J H σ ρ ∧ PostT K Y G J σ (fn ρ) Q
abbrev DTr (X : Cx) (Y : Yx) (e : Expr) (fn : NC) : Prop := PE X e (tTr X.G Y fn)
section
variable {K : Fg} {Y : Yx} {G : Gd} {J J' : Hp} {σ : L2.St}
theorem PostT.mono {o : Out Tr} {Q : VK} (s : Same J J') (h : PostT K Y G J σ o Q) : PostT K Y G J' σ o Q := by
  cases o with
  | ok t ρ => exact fun v J1 H1 f s1 ht hn e => h v J1 H1 f (s.trans s1) ht hn e
  | exc e ρ => exact fun c dx J1 H1 s1 r e => h c dx J1 H1 (s.trans s1) r e
  | bad => exact h
theorem PostT.of {α β : Type} {R : Hp → β → α → Prop} {o : Out α} {k : α → Env → Out Tr} {Q : VK} (h : PostT K Y G J σ (o.bind k) Q) {Q' : β → Hp → Prop}
    (hk : ∀ x ρ v J' H', Same J J' → R J' v x → ER K G J' H' σ ρ → PostT K Y G J' σ (k x ρ) Q → Q' v H') : Post K Y G J σ R o Q' := by
  cases o with
  | ok x ρ => exact fun v J1 H1 s1 r e => hk x ρ v J1 H1 s1 r e (PostT.mono s1 h)
  | exc e ρ => exact h
  | bad => exact h
theorem PostT.then {o : Out Tr} {k : Tr → Env → SO} {D : Ends} (h : SPost K Y G J (o.then k) D) {Q' : VK}
    (hk : ∀ t ρ v J' H' f, Same J J' → TrAt K J' H' v t f → f.Nodup → ER K G J' (cutF H' f) σ ρ → SPost K Y G J' (k t ρ) D → Q' v H') : PostT K Y G J σ o Q' := by
  cases o with
  | ok t ρ => exact fun v J1 H1 f s1 ht hn e => hk t ρ v J1 H1 f s1 ht hn e (SPost.mono s1 h)
  | exc e ρ => exact fun c dx J1 H1 s1 r e => h c dx σ J1 H1 s1 r e
  | bad => exact h
theorem PostT.now {H : Hp} {ρ : Env} {t : Tr} {Q : VK} {v : V} {f : List Addr} (h : PostT K Y G J σ (.ok t ρ) Q) (ht : TrAt K J H v t f) (hn : f.Nodup) (e : ER K G J (cutF H f) σ ρ) : Q v H := h v J H f (.refl J) ht hn e
theorem cutF_new {H : Hp} {p : Addr} {o : HO} (h : H p = none) : cutF (upd H p o) [p] = H := by
  funext b
  by_cases z : b = p
  · subst z
    rw [cutF_in (by simp), h]
  · rw [cutF_out (by simpa using z), upd_ne z]
end
@[simp] def trD (f : EC) (ρ : Env) : Out Tr := (f ρ).bind fun x ρ1 => match keepV ρ1 x with
  | some (d, ρ2) => .ok (.dat d) ρ2
  | none => .bad
@[simp] def trN (f : Env → Out (List D)) (ρ : Env) : Out Tr := (f ρ).bind fun xs ρ1 => .ok (.lst (xs.map .dat)) ρ1
@[simp] def trE (ρ : Env) : Out Tr := .ok (.dct []) ρ
section
variable {X : Cx} {Y : Yx} {a b c e : Expr} {pos : Pos}
theorem dtr_d {f : EC} (h : DE X Y e f) : DTr X Y e (trD f) := by
  refine PE.imp h fun σ H Q ⟨G, J, ρ, er, h⟩ => ⟨G, J, ρ, er, PostT.of h fun x ρ1 v J1 H1 s1 r1 e1 h1 => ?_⟩
  split at h1
  · rename_i d ρ2 hk
    obtain ⟨J2, s2, r2, e2⟩ := keep_ok e1 r1 hk
    exact (PostT.mono s2 h1).now (.dat r2) List.nodup_nil (by rw [cutF_nil]; exact e2)
  · exact h1.elim
theorem dtr_e : DTr X Y (.Dict [] [] pos) trE := by
  refine PE.imp pe_dnewK fun σ H Q ⟨G, J, ρ, er, h⟩ p hp => ?_
  exact PostT.now (f := [p]) h (.nod upd_same (.dctK [] [] rfl List.nodup_nil) .nil) (by simp) (by rw [cutF_new hp]; exact er)
@[simp] def sSetT (i : Nat) (fn : NC) (ρ : Env) : SO := (fn ρ).then fun t ρ1 => if loose ρ1 i = true then match t with
  | .dat d => .nx (ρ1.set i (.d d))
  | t => .nx (ρ1.set i (.own false (.tr t))) else .bad
theorem ER.setTr {K : Fg} {G : Gd} {J H : Hp} {σ : L2.St} {ρ : Env} {i : Nat} {v : V} {t : Tr} {f : List Addr} (e : ER K G J (cutF H f) σ ρ) (ht : TrAt K J H v t f) (hn : f.Nodup) (hl : loose ρ i = true) (hd : ∀ d, t ≠ .dat d) : ER K G J H (σ.set i (some v)) (ρ.set i (.own false (.tr t))) := by
  cases ht with
  | dat r => exact absurd rfl (hd _)
  | @nod a o t vs ts f ho hs hts =>
    exact e.setF (cutF_up e.ex) ⟨a, f, rfl, .nod ho hs hts, hn⟩ (fun b hb => ⟨cutF_none e.ex hb, cutF_in hb⟩) hl
theorem ds_setT (i : Nat) {x : Str} {fn : NC} {p : Pos} (h : DTr X Y e fn) (hN : X.N.Nodup) (hi : X.N[i]? = some x := by rfl) (hx : Loc X.env.scope x := by first | exact Or.inl rfl | exact Or.inr rfl)
    (hf : X.fn x = true ∨ X.env.scope.names.lookup x = some .local := by first | exact .inl rfl | exact .inr rfl | assumption) (hs : swapsWithSole [.Name x p] e pos.line X.env = pure false := by rfl) (hw : swappedStores [.Name x p] e X.env = pure none := by rfl)
    (h1 : (assignEach [.Name x p] X.env).map (·.2) = [assign (.Name x p) X.env] := by rfl) : DS X Y (.Assign [.Name x p] e pos) (sSetT i fn) := by
  refine PS.imp (ps_asg h (pg_name hN hi hx hf) hs hw h1) fun D σ H ⟨G, J, ρ, er, hp⟩ => ⟨G, J, ρ, er, PostT.then hp fun t ρ1 v J1 H1 f s1 ht hn e1 h1 => ?_⟩
  split at h1
  · rename_i hl
    cases t with
    | dat d =>
      cases ht with
      | dat r => exact h1 _ J1 _ (.refl _) ((show ER X.G G J1 H1 σ ρ1 by rw [← cutF_nil (H := H1)]; exact e1).setD r hl)
      | nod _ hs _ => cases hs
    | _ => exact h1 _ J1 _ (.refl _) (e1.setTr ht hn hl (by intro d z; cases z))
  · exact h1.elim
end
section
variable {K : Fg} {J H J' H' : Hp}
theorem TrAts.setv : ∀ {vs : List V} {ts : List Tr} {f : List Addr} {n : Nat} {v : V} {t : Tr} {g : List Addr}, TrAts K J H vs ts f → Same J J' → (∀ b ∈ f, ∀ u, H b = some u → H' b = some u) → TrAt K J' H' v t g → n < vs.length → f.Nodup → g.Nodup → (∀ b ∈ g, b ∉ f) →
    ∃ f', TrAts K J' H' (vs.set n v) (ts.set n t) f' ∧ f'.Nodup ∧ ∀ b ∈ f', b ∈ f ∨ b ∈ g
  | _, _, _, _, _, _, _, .nil, _, _, _, hl, _, _, _ => by simp at hl
  | _, _, _, 0, v, t, g, .cons (f := f1) (g := f2) h1 h2, sj, k, ht, _, nf, ng, d => by
    have nf := List.nodup_append.mp nf
    refine ⟨g ++ f2, .cons ht (h2.keep sj fun b hb => k b (by simp [hb])), List.nodup_append.mpr ⟨ng, nf.2.1, fun x hx y hy e => d x hx (by rw [e]; simp [hy])⟩, fun b hb => ?_⟩
    rcases List.mem_append.mp hb with hb | hb
    · exact .inr hb
    · exact .inl (by simp [hb])
  | _, _, _, n + 1, v, t, g, .cons (f := f1) (g := f2) h1 h2, sj, k, ht, hl, nf, ng, d => by
    have nf := List.nodup_append.mp nf
    obtain ⟨f', q1, q2, q3⟩ := TrAts.setv (n := n) h2 sj (fun b hb => k b (by simp [hb])) ht (by simpa using hl) nf.2.1 ng (fun b hb z => d b hb (by simp [z]))
    refine ⟨f1 ++ f', .cons (h1.keep sj fun b hb => k b (by simp [hb])) q1, List.nodup_append.mpr ⟨nf.1, q2, fun x hx y hy e => ?_⟩, fun b hb => ?_⟩
    · subst e
      rcases q3 x hy with z | z
      · exact nf.2.2 x hx x z rfl
      · exact d x z (by simp [hx])
    · rcases List.mem_append.mp hb with hb | hb
      · exact .inl (by simp [hb])
      · rcases q3 b hb with z | z
        · exact .inl (by simp [z])
        · exact .inr z
theorem TrAts.addv : ∀ {vs : List V} {ts : List Tr} {f : List Addr} {v : V} {t : Tr} {g : List Addr}, TrAts K J H vs ts f → Same J J' → (∀ b ∈ f, ∀ u, H b = some u → H' b = some u) → TrAt K J' H' v t g → f.Nodup → g.Nodup → (∀ b ∈ g, b ∉ f) →
    ∃ f', TrAts K J' H' (vs ++ [v]) (ts ++ [t]) f' ∧ f'.Nodup ∧ ∀ b ∈ f', b ∈ f ∨ b ∈ g
  | _, _, _, v, t, g, .nil, _, _, ht, _, ng, _ => ⟨g ++ [], .cons ht .nil, by simpa using ng, fun b hb => .inr (by simpa using hb)⟩
  | _, _, _, v, t, g, .cons (f := f1) (g := f2) h1 h2, sj, k, ht, nf, ng, d => by
    have nf := List.nodup_append.mp nf
    obtain ⟨f', q1, q2, q3⟩ := TrAts.addv h2 sj (fun b hb => k b (by simp [hb])) ht nf.2.1 ng (fun b hb z => d b hb (by simp [z]))
    refine ⟨f1 ++ f', .cons (h1.keep sj fun b hb => k b (by simp [hb])) q1, List.nodup_append.mpr ⟨nf.1, q2, fun x hx y hy e => ?_⟩, fun b hb => ?_⟩
    · subst e
      rcases q3 x hy with z | z
      · exact nf.2.2 x hx x z rfl
      · exact d x z (by simp [hx])
    · rcases List.mem_append.mp hb with hb | hb
      · exact .inl (by simp [hb])
      · rcases q3 b hb with z | z
        · exact .inl (by simp [z])
        · exact .inr z
end
def putT (l : List (D × Tr)) (k : D) (t : Tr) : List (D × Tr) := match keyIx l k with
  | some n => setV l n t
  | none => l ++ [(k, t)]
section
variable {K : Fg} {G : Gd} {J H : Hp} {σ : L2.St} {ρ : Env}
theorem putK_set {k : Key} {v : V} : ∀ {kvs : List (Key × V)} {n : Nat} {p : Key × V}, (kvs.map (·.1)).Nodup → kvs[n]? = some p → p.1 = k → kvs.map (fun kv => if kv.1 = k then (kv.1, v) else kv) = setV kvs n v
  | [], n, p, _, h, _ => by simp at h
  | q :: kvs, 0, p, nd, h, e => by
    simp at h
    subst h
    rw [List.map_cons] at nd
    have nd := List.nodup_cons.mp nd
    rw [List.map_cons, if_pos e, show q = (q.1, q.2) from rfl, setV_0]
    congr 1
    rw [List.map_congr_left (g := fun x => x), List.map_id'']
    · exact fun _ => rfl
    · intro x hx
      rw [if_neg fun z => nd.1 (by rw [show q.1 = x.1 from e.trans z.symm]; exact List.mem_map.mpr ⟨x, hx, rfl⟩)]
  | q :: kvs, n + 1, p, nd, h, e => by
    rw [List.map_cons] at nd
    have nd := List.nodup_cons.mp nd
    have h : kvs[n]? = some p := by simpa using h
    rw [List.map_cons, setV_s, putK_set nd.2 h e, if_neg fun z => nd.1 (by rw [z, ← e]; exact List.mem_map.mpr ⟨p, List.mem_of_getElem? h, rfl⟩)]
theorem key_K {k : Key} : ∀ {kvs : List (Key × V)} {l : List (D × Tr)} {n : Nat}, l.map (·.1) = kvs.map (fun p => keyD p.1) → keyIx l (keyD k) = some n → ∃ p, kvs[n]? = some p ∧ p.1 = k
  | [], [], n, _, h => by cases h
  | [], _ :: _, n, e, _ => by simp at e
  | _ :: _, [], n, e, _ => by simp at e
  | p :: kvs, q :: l, n, e, h => by
    rw [List.map_cons, List.map_cons] at e
    injection e with e1 e2
    unfold keyIx at h
    rw [List.findIdx?_cons, e1] at h
    by_cases z : p.1 = k
    · rw [show decide (nkOf (keyD p.1) = nkOf (keyD k)) = true from decide_eq_true ((nk_key _ _).mpr z)] at h
      cases h
      exact ⟨p, rfl, z⟩
    · rw [show decide (nkOf (keyD p.1) = nkOf (keyD k)) = false from decide_eq_false fun h => z ((nk_key _ _).mp h)] at h
      obtain ⟨m, h1, h2⟩ := Option.map_eq_some_iff.mp h
      subst h2
      obtain ⟨p', k1, k2⟩ := key_K (k := k) e2 h1
      exact ⟨p', by simpa using k1, k2⟩
theorem key_K0 {k : Key} : ∀ {kvs : List (Key × V)} {l : List (D × Tr)}, l.map (·.1) = kvs.map (fun p => keyD p.1) → keyIx l (keyD k) = none → ∀ p ∈ kvs, p.1 ≠ k
  | [], _, _, _ => fun p h => nomatch h
  | _ :: _, [], e, _ => by simp at e
  | p :: kvs, q :: l, e, h => by
    rw [List.map_cons, List.map_cons] at e
    injection e with e1 e2
    unfold keyIx at h
    rw [List.findIdx?_cons, e1] at h
    by_cases z : p.1 = k
    · rw [show decide (nkOf (keyD p.1) = nkOf (keyD k)) = true from decide_eq_true ((nk_key _ _).mpr z)] at h
      cases h
    · rw [show decide (nkOf (keyD p.1) = nkOf (keyD k)) = false from decide_eq_false fun h => z ((nk_key _ _).mp h)] at h
      have h : keyIx l (keyD k) = none := by
        unfold keyIx
        simpa using h
      intro p' hp
      rcases List.mem_cons.mp hp with rfl | hp
      · exact z
      · exact key_K0 e2 h p' hp
theorem key_N {k : D} {nk : NestedKey} (hk : nkOf k = some nk) : ∀ {raw : Raw3} {l : List (D × Tr)} {n : Nat}, l.map (fun p => nkOf p.1) = raw.map (fun p => some p.1) → keyIx l k = some n → ∃ p, raw[n]? = some p ∧ p.1 = nk
  | [], [], n, _, h => by cases h
  | [], _ :: _, n, e, _ => by simp at e
  | _ :: _, [], n, e, _ => by simp at e
  | p :: raw, q :: l, n, e, h => by
    rw [List.map_cons, List.map_cons] at e
    injection e with e1 e2
    unfold keyIx at h
    rw [List.findIdx?_cons, e1, hk] at h
    by_cases z : p.1 = nk
    · rw [show decide (some p.1 = some nk) = true from decide_eq_true (by rw [z])] at h
      cases h
      exact ⟨p, rfl, z⟩
    · rw [show decide (some p.1 = some nk) = false from decide_eq_false fun h => z (Option.some.inj h)] at h
      obtain ⟨m, h1, h2⟩ := Option.map_eq_some_iff.mp h
      subst h2
      have h1 : keyIx l k = some m := by unfold keyIx; rw [hk]; exact h1
      obtain ⟨p', k1, k2⟩ := key_N hk e2 h1
      exact ⟨p', by simpa using k1, k2⟩
theorem key_N0 {k : D} {nk : NestedKey} (hk : nkOf k = some nk) : ∀ {raw : Raw3} {l : List (D × Tr)}, l.map (fun p => nkOf p.1) = raw.map (fun p => some p.1) → keyIx l k = none → ∀ p ∈ raw, p.1 ≠ nk
  | [], _, _, _ => fun p h => nomatch h
  | _ :: _, [], e, _ => by simp at e
  | p :: raw, q :: l, e, h => by
    rw [List.map_cons, List.map_cons] at e
    injection e with e1 e2
    unfold keyIx at h
    rw [List.findIdx?_cons, e1, hk] at h
    by_cases z : p.1 = nk
    · rw [show decide (some p.1 = some nk) = true from decide_eq_true (by rw [z])] at h
      cases h
    · rw [show decide (some p.1 = some nk) = false from decide_eq_false fun h => z (Option.some.inj h)] at h
      have h : keyIx l k = none := by
        unfold keyIx
        rw [hk]
        simpa using h
      intro p' hp
      rcases List.mem_cons.mp hp with rfl | hp
      · exact z
      · exact key_N0 hk e2 h p' hp
theorem any_key {κ : Type} [DecidableEq κ] {α : Type} {l : List (κ × α)} {k : κ} {n : Nat} {p : κ × α} (h : l[n]? = some p) (e : p.1 = k) : (l.any fun q => decide (q.1 = k)) = true := List.any_eq_true.mpr ⟨p, List.mem_of_getElem? h, decide_eq_true e⟩
theorem any_no {κ : Type} [DecidableEq κ] {α : Type} {l : List (κ × α)} {k : κ} (h : ∀ p ∈ l, p.1 ≠ k) : (l.any fun q => decide (q.1 = k)) = false := by
  rw [List.any_eq_false]
  intro p hp
  simpa using h p hp
theorem putN_in {raw : Raw3} {nk : NestedKey} {b : Addr} {v : V} {n : Nat} {p : NestedKey × Addr × V} (nd : (raw.map (·.1)).Nodup) (h : raw[n]? = some p) (e : p.1 = nk) : (putN raw nk b v).map (·.1) = raw.map (·.1) ∧ (putN raw nk b v).map (fun q => V.ref q.2.1) = raw.map (fun q => V.ref q.2.1) ∧ (putN raw nk b v).map (·.2.2) = (raw.map (·.2.2)).set n v := by
  have hv : (valN raw nk).isSome = true := by
    unfold valN
    rw [Option.isSome_map, List.find?_isSome]
    exact ⟨p, List.mem_of_getElem? h, decide_eq_true e⟩
  have go : ∀ (raw : Raw3) (n : Nat), (raw.map (·.1)).Nodup → raw[n]? = some p → p.1 = nk →
      (raw.map (fun p => if p.1 = nk then (p.1, p.2.1, v) else p)).map (·.1) = raw.map (·.1) ∧ (raw.map (fun p => if p.1 = nk then (p.1, p.2.1, v) else p)).map (fun q => V.ref q.2.1) = raw.map (fun q => V.ref q.2.1) ∧ (raw.map (fun p => if p.1 = nk then (p.1, p.2.1, v) else p)).map (·.2.2) = (raw.map (·.2.2)).set n v := by
    intro raw
    induction raw with
    | nil => intro n _ h _; simp at h
    | cons q raw ih =>
      intro n nd h e
      rw [List.map_cons] at nd
      have nd := List.nodup_cons.mp nd
      cases n with
      | zero =>
        simp at h
        subst h
        have hid : raw.map (fun p => if p.1 = nk then (p.1, p.2.1, v) else p) = raw := by
          rw [List.map_congr_left (g := fun x => x), List.map_id'']
          · exact fun _ => rfl
          · intro x hx
            rw [if_neg fun z => nd.1 (by rw [show q.1 = x.1 from e.trans z.symm]; exact List.mem_map.mpr ⟨x, hx, rfl⟩)]
        rw [List.map_cons, hid, if_pos e]
        exact ⟨rfl, rfl, rfl⟩
      | succ n =>
        have h : raw[n]? = some p := by simpa using h
        obtain ⟨k1, k2, k3⟩ := ih n nd.2 h e
        have ne : ¬ q.1 = nk := fun z => nd.1 (by rw [z, ← e]; exact List.mem_map.mpr ⟨p, List.mem_of_getElem? h, rfl⟩)
        rw [List.map_cons, if_neg ne]
        refine ⟨?_, ?_, ?_⟩
        · rw [List.map_cons, List.map_cons, k1]
        · rw [List.map_cons, List.map_cons, k2]
        · rw [List.map_cons, List.map_cons, k3, List.set_cons_succ]
  unfold putN
  rw [hv]
  exact go raw n nd h e
theorem tree_put {a : Addr} {o : HO} {l : List (D × Tr)} {vs : List V} {ts : List Tr} {k : D} {y : V} (sj : Same J H) (ho : H a = some o) (hs : Shape K J a o (.dct l) vs ts) (hk : dOkK l k = true) (hl : l.length < sizeLine) (ry : Rp K J y k) (v' : V) (t' : Tr) :
    ∃ o' vs' ts', (∀ H2, Same H H2 → DSt K H2 a y v' (upd H2 a o')) ∧ (keyIx l k = none → ∀ H2, Same H H2 → DNt K H2 a y v' (upd H2 a o')) ∧ Shape K J a o' (.dct (putT l k t')) vs' ts' ∧ ((∃ n, n < vs.length ∧ vs' = vs.set n v' ∧ ts' = ts.set n t') ∨ (vs' = vs ++ [v'] ∧ ts' = ts ++ [t'])) := by
  unfold dOkK at hk
  rw [Bool.or_eq_true, Bool.and_eq_true, Bool.and_eq_true] at hk
  cases hs with
  | dctK kvs l hm hnd =>
    have hlen : kvs.length = l.length := by
      have := congrArg List.length hm
      simpa using this.symm
    rcases hk with ⟨h0, _⟩ | ⟨h0, h1⟩
    · obtain ⟨kk, rfl, _⟩ := kk0_some h0
      cases keyD_rp ry
      have hd : ∀ H2, Same H H2 → DSt K H2 a (kV kk) v' (upd H2 a (.dK (putK kvs kk v'))) := fun H2 s => .inl (DPut.k (s _ _ ho) (by omega))
      cases hx : keyIx l (keyD kk) with
      | some n =>
        obtain ⟨p, hp, e⟩ := key_K hm hx
        have ep : putK kvs kk v' = setV kvs n v' := by
          unfold putK
          rw [any_key hp e]
          exact putK_set hnd hp e
        have hn := (List.getElem?_eq_some_iff.mp hp).1
        refine ⟨_, _, _, hd, fun z => (nomatch z), ?_, .inl ⟨n, by simpa using hn, rfl, rfl⟩⟩
        rw [ep, ← setV_snd, ← setV_snd, show putT l (keyD kk) t' = setV l n t' by unfold putT; rw [hx]]
        exact .dctK _ _ (by
          have := congrArg (List.map keyD) (setV_fst kvs n v')
          rw [List.map_map, List.map_map] at this
          rw [setV_fst, hm]
          exact this.symm) (by rw [setV_fst]; exact hnd)
      | none =>
        have no := key_K0 hm hx
        have ep : putK kvs kk v' = kvs ++ [(kk, v')] := by
          unfold putK
          rw [any_no no]
          rfl
        have vn : valV kvs kk = none := by
          rcases val_K (k := kk) hm with ⟨h, _⟩ | ⟨n, u, h, _⟩
          · exact h
          · rw [hx] at h; cases h
        refine ⟨_, _, _, hd, fun _ H2 s => .inl ⟨kvs, kk, s _ _ ho, rfl, vn, by omega, rfl⟩, ?_, .inr ⟨rfl, rfl⟩⟩
        rw [ep, show putT l (keyD kk) t' = l ++ [(keyD kk, t')] by unfold putT; rw [hx]]
        have := Shape.dctK (K := K) (J := J) (a := a) (kvs ++ [(kk, v')]) (l ++ [(keyD kk, t')]) (by rw [List.map_append, List.map_append, hm]; rfl) (by
          rw [List.map_append]
          refine List.nodup_append.mpr ⟨hnd, by simp, fun x hx y hy e => ?_⟩
          obtain ⟨p, hp, rfl⟩ := List.mem_map.mp hx
          exact no p hp (by rw [e]; simpa using hy))
        rw [List.map_append, List.map_append] at this
        exact this
    · obtain ⟨ds, nk, rfl, hnk, dp⟩ := kk1_some h0
      have hkv : kvs = [] ∧ l = [] := by
        cases kvs with
        | nil =>
          cases l with
          | nil => exact ⟨rfl, rfl⟩
          | cons _ _ => simp at hm
        | cons p2 kvs =>
          cases l with
          | nil => simp at hm
          | cons p l =>
            have := List.all_eq_true.mp h1 p (by simp)
            rw [List.map_cons, List.map_cons] at hm
            injection hm with hm _
            rw [hm] at this
            obtain ⟨k, u⟩ := p2
            cases k <;> cases this
      obtain ⟨rfl, rfl⟩ := hkv
      obtain ⟨b, rfl⟩ : ∃ b, y = .ref b := by
        cases ry with
        | tup _ _ => exact ⟨_, rfl⟩
      refine ⟨hoN K.w a [(nk, b, v')], [v'], [t'], fun H2 s => .inr (.inr ⟨nk, b, s _ _ ho, rfl, nk_of_rp _ (dp_mono' (sj.trans s) ry) hnk, dp, rfl⟩), fun _ H2 s => .inr (.inr ⟨nk, b, s _ _ ho, rfl, nk_of_rp _ (dp_mono' (sj.trans s) ry) hnk, dp, rfl⟩), ?_, .inr ⟨rfl, rfl⟩⟩
      exact .dctN [(nk, b, v')] [(.tuple ds, t')] (by simp) (.cons ry .nil) (by simp [hnk]) (by simpa using dp) (by simp)
  | dctN raw l hne hr hm hd hnd =>
    have hlen : raw.length = l.length := by
      have := congrArg List.length hm
      simpa using this.symm
    have hk1 : kk1 k = true := by
      rcases hk with ⟨h0, h1⟩ | ⟨h0, h1⟩
      · exfalso
        cases raw with
        | nil => exact hne rfl
        | cons p raw =>
          cases l with
          | nil => simp at hm
          | cons q l =>
            have := List.all_eq_true.mp h1 q (by simp)
            obtain ⟨kk, e, _⟩ := kk0_some this
            rw [List.map_cons, List.map_cons] at hr
            cases hr with
            | cons r1 _ =>
              rw [e] at r1
              cases kk <;> cases r1
      · exact h0
    obtain ⟨ds, nk, rfl, hnk, dp⟩ := kk1_some hk1
    obtain ⟨b, rfl⟩ : ∃ b, y = .ref b := by
      cases ry with
      | tup _ _ => exact ⟨_, rfl⟩
    have hds : ∀ H2, Same H H2 → DSt K H2 a (.ref b) v' (upd H2 a (hoN K.w a (putN raw nk b v'))) := fun H2 s =>
      .inr (.inl ⟨raw, nk, b, s _ _ ho, ⟨.inl (s _ _ ho), keys_ND (sj.trans s) hr hm hd⟩, rfl, nk_of_rp _ (dp_mono' (sj.trans s) ry) hnk, dp, by omega, rfl⟩)
    cases hx : keyIx l (.tuple ds) with
    | some n =>
      obtain ⟨p, hp, e⟩ := key_N hnk hm hx
      obtain ⟨k1, k2, k3⟩ := putN_in (b := b) (v := v') hnd hp e
      have hn := (List.getElem?_eq_some_iff.mp hp).1
      refine ⟨_, _, _, hds, fun z => (nomatch z), ?_, .inl ⟨n, by simpa using hn, rfl, rfl⟩⟩
      rw [← k3, ← setV_snd, show putT l (.tuple ds) t' = setV l n t' by unfold putT; rw [hx]]
      refine .dctN _ _ (fun z => ?_) (by rw [setV_fst, k2]; exact hr) (by
        have := congrArg (List.map some) k1
        rw [List.map_map, List.map_map] at this
        rw [map_key, setV_fst, ← map_key, hm]
        exact this.symm) (fun q hq => ?_) (by rw [k1]; exact hnd)
      · have := congrArg (List.map (·.1)) z
        rw [k1] at this
        simp at this
        exact hne this
      · have : q.1 ∈ raw.map (·.1) := by
          rw [← k1]
          exact List.mem_map.mpr ⟨q, hq, rfl⟩
        obtain ⟨q', h1, h2⟩ := List.mem_map.mp this
        rw [← h2]
        exact hd q' h1
    | none =>
      have no := key_N0 hnk hm hx
      have ep : putN raw nk b v' = raw ++ [(nk, b, v')] := by
        have : (valN raw nk).isSome = false := by
          unfold valN
          rw [Option.isSome_map, ← Bool.not_eq_true, List.find?_isSome]
          rintro ⟨p, hp, e⟩
          exact no p hp (by simpa using e)
        unfold putN
        rw [this]
        rfl
      have vn : valN raw nk = none := by
        rcases val_N hnk hm with ⟨h, _⟩ | ⟨n, u, h, _⟩
        · exact h
        · rw [hx] at h; cases h
      refine ⟨_, _, _, hds, fun _ H2 s => .inr (.inl ⟨raw, nk, b, s _ _ ho, ⟨.inl (s _ _ ho), keys_ND (sj.trans s) hr hm hd⟩, rfl, nk_of_rp _ (dp_mono' (sj.trans s) ry) hnk, dp, vn, by omega, rfl⟩), ?_, .inr ⟨rfl, rfl⟩⟩
      rw [ep, show putT l (.tuple ds) t' = l ++ [(.tuple ds, t')] by unfold putT; rw [hx]]
      have := Shape.dctN (K := K) (J := J) (a := a) (raw ++ [(nk, b, v')]) (l ++ [(.tuple ds, t')]) (by simp) (by
        rw [List.map_append, List.map_append]
        exact dps_append hr (.cons ry .nil)) (by rw [List.map_append, List.map_append, hm]; simp [hnk]) (fun q hq => by
        rcases List.mem_append.mp hq with hq | hq
        · exact hd q hq
        · have : q = (nk, b, v') := by simpa using hq
          rw [this]
          exact dp) (by
        rw [List.map_append]
        refine List.nodup_append.mpr ⟨hnd, by simp, fun x hx y hy e => ?_⟩
        obtain ⟨p, hp, rfl⟩ := List.mem_map.mp hx
        exact no p hp (by rw [e]; simpa using hy))
      rw [List.map_append, List.map_append] at this
      exact this
end
end DL
namespace DL
open PySem PySem.Spec L2 PyProof.Rows
@[simp] def putE (i : Nat) (p : List Stp) (u : Tr) (ρ : Env) : Env := match ρ[i]? with
  | some (.own fx (.tr t)) => ρ.set i (.own fx (.tr (putP t p u)))
  | _ => ρ
section
variable {K : Fg} {G : Gd} {J H : Hp} {σ : L2.St} {ρ : Env} {f : List Addr}
theorem node_put {i : Nat} {p : List Stp} {v : V} {sub : Tr} (e : ER K G J (cutF H f) σ ρ) (hp : PlOk K G J (cutF H f) σ ρ i p v) (ht : atP ρ i p = some sub) (hd : ∀ d, sub ≠ .dat d) :
    ∃ a o vs ts, v = .ref a ∧ cutF H f a = some o ∧ Shape K J a o sub vs ts ∧ vs.length = ts.length ∧
      ∀ {o' : HO} {sub' : Tr} {vs' : List V} {ts' : List Tr} {v' : V} {t' : Tr}, Shape K J a o' sub' vs' ts' → TrAt K J H v' t' f → f.Nodup → ((∃ n, n < vs.length ∧ vs' = vs.set n v' ∧ ts' = ts.set n t') ∨ (vs' = vs ++ [v'] ∧ ts' = ts ++ [t'])) → ER K G J (upd H a o') σ (putE i p sub' ρ) := by
  obtain ⟨fx, t, hi, hg⟩ := atP_some ht
  obtain ⟨a, o, vs, ts, g, rfl, ho, hs, hts, hn, hJ, cont⟩ := hp.node hi hg hd
  refine ⟨a, o, vs, ts, rfl, ho, hs, hts.len, fun {o' sub' vs' ts' v' t'} hs' ht' nf hc => ?_⟩
  obtain ⟨naf, hoH⟩ := cutF_some ho
  have hn := List.nodup_cons.mp hn
  have kf : ∀ b ∈ f, ∀ u, H b = some u → upd H a o' b = some u := fun b hb u hu => by
    have z : b ≠ a := fun z => naf (z ▸ hb)
    rw [upd_ne z]
    exact hu
  have kg : ∀ b ∈ g, ∀ u, cutF H f b = some u → upd H a o' b = some u := fun b hb u hu => by
    have z : b ≠ a := fun z => hn.1 (z ▸ hb)
    rw [upd_ne z]
    exact (cutF_some hu).2
  have dj : ∀ b ∈ f, b ∉ g := fun b hb hg => by
    obtain ⟨u, hu⟩ := hts.known b hg
    rw [cutF_in hb] at hu
    cases hu
  have ht2 := ht'.keep (.refl J) kf
  have sJ : Same J (upd H a o') := fun b u hu => by
    rw [upd_ne (ne_of_none hu (hJ a (by simp)))]
    exact e.up.ex _ _ hu
  have all : ∃ f', TrAts K J (upd H a o') vs' ts' f' ∧ f'.Nodup ∧ ∀ b ∈ f', b ∈ g ∨ b ∈ f := by
    rcases hc with ⟨n, hl, rfl, rfl⟩ | ⟨rfl, rfl⟩
    · exact hts.setv (.refl J) kg ht2 hl hn.2 nf dj
    · exact hts.addv (.refl J) kg ht2 hn.2 nf dj
  obtain ⟨f', q1, q2, q3⟩ := all
  have := cont (J' := J) (H' := upd H a o') (g' := f') ⟨.refl J, sJ, fun b u hb hu => ⟨by rw [upd_ne (fun z => hb (by simp [z]))]; exact (cutF_some hu).2, rfl⟩⟩ upd_same hs' q1
    (List.nodup_cons.mpr ⟨fun z => by
      rcases q3 a z with z | z
      · exact hn.1 z
      · exact naf z, q2⟩) (fun b hb => by
      rcases List.mem_cons.mp hb with rfl | hb
      · exact ⟨hJ _ (by simp), .inl (by simp)⟩
      · rcases q3 b hb with z | z
        · exact ⟨hJ b (by simp [z]), .inl (by simp [z])⟩
        · exact ⟨cutF_none e.ex z, .inr (cutF_in z)⟩)
  unfold putE
  rw [hi]
  exact this
end
def rSetN (K : Fg) : TSet := fun o i v H Q => ∃ a H', o = .ref a ∧ DSt K H a i v H' ∧ Q H'
theorem set_n {X : Cx} (hu : X.A.units + 64 < cLine) : PSet X (rSetN X.G) := by
  intro pins s σ H o i v ov iv u Q I ro ri rv ⟨a, H', eo, g, q⟩
  subst eo
  cases (show ov = Value.ref a from ro)
  exact n_set hu I g ri rv fun s' I' => ⟨H', I', q⟩
theorem set_or {X : Cx} {t t' : TSet} (h : PSet X t) (h' : PSet X t') : PSet X (fun o i v H Q => t o i v H Q ∨ t' o i v H Q) := by
  intro pins s σ H o i v ov iv u Q I ro ri rv q
  rcases q with q | q
  · exact h pins s σ H o i v ov iv u Q I ro ri rv q
  · exact h' pins s σ H o i v ov iv u Q I ro ri rv q
@[simp] def sPutK (pf : Env → Option PV) (fk : EC) (t : Tr) (ρ1 : Env) : SO := match pf ρ1 with
  | some (.pl i p) => match pureD fk ρ1 with
    | some k => match atP ρ1 i p with
      | some (.dct l) => if dOkK l k = true ∧ l.length < sizeLine then .nx (putE i p (.dct (putT l k t)) ρ1) else .bad
      | some (.lst xs) => match k with
        | .int z => match ixN xs.length z with
          | some n => .nx (putE i p (.lst (xs.set n t)) ρ1)
          | none => .bad
        | _ => .bad
      | _ => .bad
    | none => .bad
  | _ => .bad
@[simp] def sPutQ (pf : Env → Option PV) (fk : EC) (fn : NC) (ρ : Env) : SO := (fn ρ).then (sPutK pf fk)
def fldIx (l : List (Str × Tr)) (x : Str) : Option Nat := l.findIdx? fun p => decide (p.1 = x)
def putTf (l : List (Str × Tr)) (x : Str) (t : Tr) : List (Str × Tr) := match fldIx l x with
  | some n => setV l n t
  | none => l ++ [(x, t)]
@[simp] def sFldK (c x : Str) (pf : Env → Option PV) (t : Tr) (ρ1 : Env) : SO := match pf ρ1 with
  | some (.pl i p) => match atP ρ1 i p with
    | some (.obj c' l) => if c' = c ∧ l.length < 1000 then .nx (putE i p (.obj c' (putTf l x t)) ρ1) else .bad
    | _ => .bad
  | _ => .bad
@[simp] def sFldQ (c x : Str) (pf : Env → Option PV) (fn : NC) (ρ : Env) : SO := (fn ρ).then (sFldK c x pf)
theorem putF_in {x : Str} {v : V} : ∀ {fs : List (Str × V)} {l : List (Str × Tr)} {n : Nat}, l.map (·.1) = fs.map (·.1) → fldIx l x = some n → n < fs.length ∧ putF x v fs = setV fs n v
  | [], [], n, _, h => by cases h
  | [], _ :: _, n, e, _ => by simp at e
  | _ :: _, [], n, e, _ => by simp at e
  | p :: fs, q :: l, n, e, h => by
    rw [List.map_cons, List.map_cons] at e
    injection e with e1 e2
    unfold fldIx at h
    rw [List.findIdx?_cons, e1] at h
    rw [show p = (p.1, p.2) from rfl]
    by_cases z : p.1 = x
    · rw [decide_eq_true z] at h
      cases h
      exact ⟨by simp, by unfold putF; rw [if_pos z]; rfl⟩
    · rw [decide_eq_false z] at h
      obtain ⟨m, h1, h2⟩ := Option.map_eq_some_iff.mp h
      subst h2
      obtain ⟨k1, k2⟩ := putF_in (x := x) (v := v) e2 h1
      refine ⟨by simpa using k1, ?_⟩
      unfold putF
      rw [if_neg z, k2]
      rfl
theorem putF_no {x : Str} {v : V} : ∀ {fs : List (Str × V)} {l : List (Str × Tr)}, l.map (·.1) = fs.map (·.1) → fldIx l x = none → putF x v fs = fs ++ [(x, v)] ∧ x ∉ fs.map (·.1)
  | [], _, _, _ => ⟨rfl, by simp⟩
  | _ :: _, [], e, _ => by simp at e
  | p :: fs, q :: l, e, h => by
    rw [List.map_cons, List.map_cons] at e
    injection e with e1 e2
    unfold fldIx at h
    rw [List.findIdx?_cons, e1] at h
    by_cases z : p.1 = x
    · rw [decide_eq_true z] at h
      cases h
    · rw [decide_eq_false z] at h
      have h : fldIx l x = none := by
        unfold fldIx
        simpa using h
      obtain ⟨k1, k2⟩ := putF_no (x := x) (v := v) e2 h
      refine ⟨?_, fun hm => ?_⟩
      · rw [show p = (p.1, p.2) from rfl]
        unfold putF
        rw [if_neg z, k1]
        rfl
      · rw [List.map_cons] at hm
        rcases List.mem_cons.mp hm with hm | hm
        · exact z hm.symm
        · exact k2 hm
theorem Shape.put {K : Fg} {J : Hp} {a C dx : Addr} {fs : List (Str × V)} {c x : Str} {l : List (Str × Tr)} {v' : V} {t' : Tr} (h1 : IsCls K c C) (h2 : l.map (·.1) = fs.map (·.1)) (h3 : (fs.map (·.1)).Nodup) :
    ∃ vs' ts', Shape K J a (.ins C dx (putF x v' fs)) (.obj c (putTf l x t')) vs' ts' ∧ ((∃ n, n < (fs.map (·.2)).length ∧ vs' = (fs.map (·.2)).set n v' ∧ ts' = (l.map (·.2)).set n t') ∨ (vs' = fs.map (·.2) ++ [v'] ∧ ts' = l.map (·.2) ++ [t'])) := by
  cases hx : fldIx l x with
  | some n =>
    obtain ⟨k1, k2⟩ := putF_in (v := v') h2 hx
    refine ⟨_, _, ?_, .inl ⟨n, by simpa using k1, rfl, rfl⟩⟩
    rw [k2, ← setV_snd, ← setV_snd, show putTf l x t' = setV l n t' by unfold putTf; rw [hx]]
    exact .obj C dx _ c _ h1 (by rw [setV_fst, setV_fst]; exact h2) (by rw [setV_fst]; exact h3)
  | none =>
    obtain ⟨k1, k2⟩ := putF_no (v := v') h2 hx
    refine ⟨_, _, ?_, .inr ⟨rfl, rfl⟩⟩
    rw [k1, show putTf l x t' = l ++ [(x, t')] by unfold putTf; rw [hx]]
    have := Shape.obj (K := K) (J := J) (a := a) C dx (fs ++ [(x, v')]) c (l ++ [(x, t')]) h1 (by rw [List.map_append, List.map_append, h2]; rfl) (by
      rw [List.map_append]
      refine List.nodup_append.mpr ⟨h3, by simp, fun y hy z hz e => k2 ?_⟩
      have : z = x := by simpa using hz
      rw [← this, ← e]
      exact hy)
    rw [List.map_append, List.map_append] at this
    exact this
section
variable {X : Cx} {Y : Yx} {o ix e : Expr} {pos tpos : Pos}
theorem ds_putQ {pf : Env → Option PV} {fk : EC} {fn : NC} (hu : X.A.units + 64 < cLine) (he : DTr X Y e fn) (ho : DP X o pf) (hi : DE X Y ix fk)
    (ha : ∀ v, assign (.Subscript o ix tpos) X.env v = (do
      let ov ← holding [v] (eval o X.env)
      let iv ← holding [v, ov] (eval ix X.env)
      standAt tpos
      holding [v, ov, iv] (setItem ov iv v)
      release [v, ov, iv] []) := by intro _; rfl) (hs : swapsWithSole [.Subscript o ix tpos] e pos.line X.env = pure false := by rfl) (hw : swappedStores [.Subscript o ix tpos] e X.env = pure none := by rfl)
    (h1 : (assignEach [.Subscript o ix tpos] X.env).map (·.2) = [assign (.Subscript o ix tpos) X.env] := by rfl) : DS X Y (.Assign [.Subscript o ix tpos] e pos) (sPutQ pf fk fn) := by
  refine PS.imp (ps_asg he (pg_sub ho hi (set_or set_list (set_n hu)) ha) hs hw h1) fun D σ H ⟨G, J, ρ, er, h⟩ => ⟨G, J, ρ, er, PostT.then h fun t ρ1 v J1 H1 f s1 ht hn e1 h2 => ?_⟩
  unfold sPutK at h2
  split at h2
  · rename_i i p hp
    split at h2
    · rename_i k hk
      have hfk : ∀ b ∈ f, ∃ u, H1 b = some u := ht.known
      refine ⟨G, J1, f, ρ1, _, e1, hfk, hp, fun w J2 H2 g2 p2 => pure_at (e1.up.grow g2) hk fun y J3 H3 g3 ry => ?_⟩
      have g := g2.trans g3
      have e3 := e1.grow (cutF_grow e1.ex hfk g)
      have hf2 : ∀ b ∈ f, ∃ u, H2 b = some u := fun b hb => let ⟨u, hu⟩ := hfk b hb; ⟨u, (g2.old b u hu).1⟩
      have p3 : PlOk X.G G J3 (cutF H3 f) σ ρ1 i p w := PlOk.grow p2 (cutF_grow (cutF_grow e1.ex hfk g2).jh hf2 g3)
      have t3 := ht.keep g.j fun b hb u hu => (g.old b u hu).1
      split at h2
      · rename_i l hat
        split at h2
        · rename_i hok
          obtain ⟨a, o1, vs, ts, rfl, ho1, hsh, hlen, cont⟩ := node_put e3 p3 hat (by intro d z; cases z)
          obtain ⟨o', vs', ts', q1, _, q2, q3⟩ := tree_put e3.ex ho1 hsh hok.1 hok.2 ry v t
          exact .inr ⟨a, _, rfl, q1 _ cutF_same, h2 _ _ _ g.j (cont q2 t3 hn q3)⟩
        · exact h2.elim
      · rename_i xs hat
        split at h2
        · rename_i z
          split at h2
          · rename_i n hn2
            obtain ⟨a, o1, vs, ts, rfl, ho1, hsh, hlen, cont⟩ := node_put e3 p3 hat (by intro d z; cases z)
            cases hsh with
            | lst =>
              cases ry
              have hn3 : ixN vs.length z = some n := by rw [hlen]; exact hn2
              have hb : n < vs.length := by
                have := (ixN_seq hn3).2.1
                exact this
              exact .inl ⟨a, vs, z, n, rfl, rfl, (cutF_some ho1).2, hn3, h2 _ _ _ g.j (cont (.lst _ _) t3 hn (.inl ⟨n, hb, rfl, rfl⟩))⟩
          · exact h2.elim
        · exact h2.elim
      · exact h2.elim
    · exact h2.elim
  · exact h2.elim
theorem ds_fldQ {cn x : Str} {C : Addr} {p : Pos} {pf : Env → Option PV} {fn : NC} (T : ClsF X.G cn C) (N : NoAttr X.G C x) (he : DTr X Y e fn) (ho : DP X o pf) (hs : swapsWith e (some (.Attribute o x p)) pos.line X.env = pure false := by rfl) :
    DS X Y (.Assign [.Attribute o x p] e pos) (sFldQ cn x pf fn) := by
  refine PS.imp (ps_fld ho he hs) fun D σ H ⟨G, J, ρ, er, h⟩ => ⟨G, J, ρ, er, PostT.then h fun t ρ1 v J1 H1 f s1 ht hn e1 h2 => ?_⟩
  unfold sFldK at h2
  split at h2
  · rename_i i p hp
    have hfk : ∀ b ∈ f, ∃ u, H1 b = some u := ht.known
    split at h2
    · rename_i c' l hat
      split at h2
      · rename_i hc
        obtain ⟨hc, hl⟩ := hc
        subst hc
        refine ⟨G, J1, f, ρ1, _, e1, hfk, hp, fun w J2 H2 g p2 => ?_⟩
        have e3 := e1.grow (cutF_grow e1.ex hfk g)
        have t3 := ht.keep g.j fun b hb u hu => (g.old b u hu).1
        obtain ⟨a, o1, vs, ts, rfl, ho1, hsh, hlen, cont⟩ := node_put e3 p2 hat (by intro d z; cases z)
        cases hsh with
        | obj C' dx fs c2 l2 k1 k2 k3 =>
          cases T.g.uniq k1
          obtain ⟨vs', ts', q1, q2⟩ := Shape.put (K := X.G) (J := J2) (a := a) (dx := dx) (x := x) (v' := v) (t' := t) k1 k2 k3
          have hl2 : fs.length < 1000 := by
            have := congrArg List.length k2
            simp at this
            omega
          exact ⟨a, C, dx, fs, rfl, (cutF_some ho1).2, T.cl, N, hl2, h2 _ _ _ g.j (cont q1 t3 hn q2)⟩
      · exact h2.elim
    · exact h2.elim
  · exact h2.elim
end
end DL
namespace DL
open PySem PySem.Spec L2 PyProof.Rows
theorem chS_set (t : Tr) (n : Nat) (c : Tr) : chS (setS t n c) = (chS t).set n c := by
  cases t with
  | dat d => rfl
  | lst xs => rfl
  | tup xs => rfl
  | dct l => exact setV_snd l n c
  | obj c' l => exact setV_snd l n c
theorem keyIx_set {α : Type} (l : List (D × α)) (n : Nat) (x : α) (k : D) : keyIx (setV l n x) k = keyIx l k := by
  unfold keyIx
  induction l generalizing n with
  | nil => rfl
  | cons p l ih =>
    cases n with
    | zero => rfl
    | succ n => rw [setV_s, List.findIdx?_cons, List.findIdx?_cons, ih]
theorem all_set {α : Type} (g : D → Bool) (l : List (D × α)) (n : Nat) (x : α) : (setV l n x).all (fun p => g p.1) = l.all fun p => g p.1 := by
  induction l generalizing n with
  | nil => rfl
  | cons p l ih =>
    cases n with
    | zero => rfl
    | succ n => rw [setV_s, List.all_cons, List.all_cons, ih]
theorem dOkK_set {α : Type} (l : List (D × α)) (n : Nat) (x : α) (k : D) : dOkK (setV l n x) k = dOkK l k := by
  unfold dOkK
  rw [all_set, all_set]
theorem fst_at {α : Type} (l : List (Str × α)) (n m : Nat) (x : α) : ((setV l n x)[m]?).map (·.1) = (l[m]?).map (·.1) := by
  have := congrArg (fun z : List Str => z[m]?) (setV_fst l n x)
  simpa using this
theorem idxS_set (t : Tr) (n : Nat) (c : Tr) (s : Stp) : idxS (setS t n c) s = idxS t s := by
  cases t with
  | dat d => rfl
  | tup xs => cases s <;> rfl
  | lst xs =>
    cases s with
    | i m => simp
    | _ => rfl
  | dct l =>
    cases s with
    | k d => rw [setS_d, idxS_d, idxS_d, dOkK_set, keyIx_set]
    | _ => rfl
  | obj c' l =>
    cases s with
    | f x m =>
      rw [setS_o, idxS_o, idxS_o]
      have := fst_at l n m c
      cases h1 : (setV l n c)[m]? with
      | none =>
        cases h2 : l[m]? with
        | none => rfl
        | some q => rw [h1, h2] at this; cases this
      | some q =>
        cases h2 : l[m]? with
        | none => rw [h1, h2] at this; cases this
        | some q' =>
          rw [h1, h2] at this
          have e : q.1 = q'.1 := Option.some.inj this
          simp only
          rw [e]
    | _ => rfl
theorem getP_putP {u sub : Tr} : ∀ (p : List Stp) {t : Tr}, getP t p = some sub → getP (putP t p u) p = some u
  | [], t, _ => by rw [putP_nil, getP_nil]
  | s :: p, t, h => by
    rw [getP_cons] at h
    cases hn : idxS t s with
    | none => rw [hn] at h; cases h
    | some n =>
      rw [hn] at h
      simp only at h
      cases hc : (chS t)[n]? with
      | none => rw [hc] at h; cases h
      | some c =>
        rw [hc] at h
        have hl := (List.getElem?_eq_some_iff.mp hc).1
        rw [putP_cons, hn]
        simp only [hc]
        rw [getP_cons, idxS_set, hn]
        simp only
        rw [chS_set, List.getElem?_set_self hl]
        exact getP_putP p h
theorem setS_set (t : Tr) (n : Nat) (c c' : Tr) : setS (setS t n c) n c' = setS t n c' := by
  have sv : ∀ {κ : Type} (l : List (κ × Tr)), setV (setV l n c) n c' = setV l n c' := by
    intro κ l
    induction l generalizing n with
    | nil => rfl
    | cons p l ih =>
      cases n with
      | zero => rfl
      | succ n => rw [setV_s, setV_s, setV_s, ih]
  cases t with
  | dat d => rfl
  | lst xs => simp
  | tup xs => show Tr.tup ((xs.set n c).set n c') = Tr.tup (xs.set n c'); rw [List.set_set]
  | dct l => rw [setS_d, setS_d, setS_d, sv]
  | obj c'' l => rw [setS_o, setS_o, setS_o, sv]
theorem putP_putP {u w sub : Tr} : ∀ (p : List Stp) {t : Tr}, getP t p = some sub → putP (putP t p u) p w = putP t p w
  | [], t, _ => by simp
  | s :: p, t, h => by
    rw [getP_cons] at h
    cases hn : idxS t s with
    | none => rw [hn] at h; cases h
    | some n =>
      rw [hn] at h
      simp only at h
      cases hc : (chS t)[n]? with
      | none => rw [hc] at h; cases h
      | some c =>
        rw [hc] at h
        have hl := (List.getElem?_eq_some_iff.mp hc).1
        have e1 : putP t (s :: p) u = setS t n (putP c p u) := by
          rw [putP_cons, hn]
          simp only [hc]
        have e2 : putP t (s :: p) w = setS t n (putP c p w) := by
          rw [putP_cons, hn]
          simp only [hc]
        have e3 : (chS (setS t n (putP c p u)))[n]? = some (putP c p u) := by rw [chS_set, List.getElem?_set_self hl]
        rw [e1, e2, putP_cons, idxS_set, hn]
        simp only [e3]
        rw [setS_set, putP_putP p h]
section
variable {K : Fg} {G : Gd} {J H : Hp} {σ : L2.St} {ρ : Env}
structure NodeOk (K : Fg) (G : Gd) (J H : Hp) (σ : L2.St) (ρ : Env) (i : Nat) (p : List Stp) (fx : Bool) (t : Tr) (a : Addr) (o : HO) (sub : Tr) (vs : List V) (ts : List Tr) (g : List Addr) : Prop where
  hi : ρ[i]? = some (.own fx (.tr t))
  rt : p = [] → σ[i]? = some (some (.ref a))
  hg : getP t p = some sub
  ho : H a = some o
  hs : Shape K J a o sub vs ts
  hts : TrAts K J H vs ts g
  nd : (a :: g).Nodup
  hJ : ∀ b ∈ a :: g, J b = none
  cont : ∀ {J' H' : Hp} {o' : HO} {t' : Tr} {vs' : List V} {ts' : List Tr} {g' : List Addr}, GrowO J H J' H' (a :: g) → H' a = some o' → Shape K J' a o' t' vs' ts' → TrAts K J' H' vs' ts' g' → (a :: g').Nodup → (∀ b ∈ a :: g', J' b = none ∧ (b ∈ a :: g ∨ H b = none)) →
    ER K G J' H' σ (ρ.set i (.own fx (.tr (putP t p t'))))
  all : ∀ {J' H' : Hp} {sub' : Tr} {f' : List Addr}, GrowO J H J' H' (a :: g) → TrAt K J' H' (.ref a) sub' f' → f'.Nodup → (∀ b ∈ f', J' b = none ∧ (b ∈ a :: g ∨ H b = none)) → (p ≠ [] ∨ ∃ r, f' = a :: r) → ER K G J' H' σ (ρ.set i (.own fx (.tr (putP t p sub'))))
theorem PlOk.nodeOk {i : Nat} {p : List Stp} {v : V} {sub : Tr} (h : PlOk K G J H σ ρ i p v) (ht : atP ρ i p = some sub) (hd : ∀ d, sub ≠ .dat d) : ∃ fx t a o vs ts g, v = .ref a ∧ NodeOk K G J H σ ρ i p fx t a o sub vs ts g := by
  obtain ⟨fx, t, hi, hg⟩ := atP_some ht
  obtain ⟨fx', t', sub', f, h1, h0, h2, h3, h4, h5, h6⟩ := h
  rw [hi] at h1
  cases h1
  rw [hg] at h2
  cases h2
  cases h3 with
  | dat _ => exact absurd rfl (hd _)
  | @nod a o _ vs ts g ho hs hts =>
    refine ⟨fx, t, a, o, vs, ts, g, rfl, hi, h0, hg, ho, hs, hts, h4, h5, fun gr ho' hs' hts' hn hf => h6 gr (.nod ho' hs' hts') hn hf (.inr ⟨_, _, rfl, rfl⟩), fun {J' H' sub' f'} gr ht' hn hf hp => h6 gr ht' hn hf ?_⟩
    rcases hp with hp | ⟨r, rfl⟩
    · exact .inl hp
    · exact .inr ⟨a, r, rfl, rfl⟩
theorem NodeOk.pl {i : Nat} {p : List Stp} {fx : Bool} {t sub : Tr} {a : Addr} {o : HO} {vs : List V} {ts : List Tr} {g : List Addr} (n : NodeOk K G J H σ ρ i p fx t a o sub vs ts g) : PlOk K G J H σ ρ i p (.ref a) :=
  ⟨fx, t, sub, a :: g, n.hi, n.rt, n.hg, .nod n.ho n.hs n.hts, n.nd, n.hJ, fun gr ht hn hf hp => n.all gr ht hn hf (by
    rcases hp with hp | ⟨b, r, e, hr⟩
    · exact .inl hp
    · cases e
      exact .inr ⟨r, hr⟩)⟩
theorem NodeOk.child {i : Nat} {p : List Stp} {fx : Bool} {t sub c : Tr} {a : Addr} {o : HO} {vs : List V} {ts : List Tr} {g : List Addr} {s : Stp} {n : Nat} {v1 : V} (h : NodeOk K G J H σ ρ i p fx t a o sub vs ts g) (hx : idxS sub s = some n) (hc : ts[n]? = some c) (hv : vs[n]? = some v1) :
    PlOk K G J H σ ρ i (p ++ [s]) v1 := by
  have hts := h.hts
  have ech := h.hs.ch
  have ho := h.ho
  obtain ⟨v2, fl, g1, fr, e1, e2, e3, e4⟩ := hts.split hc
  rw [hv] at e1
  cases e1
  have h4 := h.nd
  have h5 := h.hJ
  subst e2
  refine ⟨fx, t, c, g1, h.hi, fun z => absurd z (by simp), ?_, e3, ?_, fun b hb => h5 b (by simp [hb]), fun {J' H' c' g'} gr ht' hn' hf hp => ?_⟩
  · rw [getP_snoc p h.hg, getP_cons, hx]
    simp only [← ech, hc]
    exact getP_nil c
  · exact (List.nodup_append.mp (List.nodup_append.mp (List.nodup_cons.mp h4).2).1).2.1
  · have hnd := List.nodup_cons.mp h4
    have hnd2 := List.nodup_append.mp hnd.2
    have hnd3 := List.nodup_append.mp hnd2.1
    have out : ∀ b, b ∈ fl ++ fr → b ∉ g1 := by
      intro b hb hg
      rcases List.mem_append.mp hb with hb | hb
      · exact hnd3.2.2 b hb b hg rfl
      · exact hnd2.2.2 b (by simp [hg]) b hb rfl
    have na : a ∉ g1 := fun hz => hnd.1 (by simp [hz])
    have kn : ∀ b ∈ fl ++ (g1 ++ fr), ∃ u, H b = some u := fun b hb => hts.known b (by simpa [List.append_assoc] using hb)
    rw [putP_snoc p h.hg]
    have ep : putP sub [s] c' = setS sub n c' := by
      rw [putP_cons, hx]
      simp only [← ech, hc]
      rw [putP_nil]
    rw [ep]
    have hts' := e4 (c' := c') (g' := g') gr.j (fun b hb u hu => (gr.old b u (out b hb) hu).1) ht'
    have fresh : ∀ b ∈ g', b ∉ fl ∧ b ∉ fr ∧ b ≠ a := by
      intro b hb
      rcases (hf b hb).2 with z | z
      · refine ⟨fun q => out b (by simp [q]) z, fun q => out b (by simp [q]) z, fun q => na (q ▸ z)⟩
      · refine ⟨fun q => ?_, fun q => ?_, fun q => ?_⟩
        · obtain ⟨u, hu⟩ := kn b (by simp [q]); rw [z] at hu; cases hu
        · obtain ⟨u, hu⟩ := kn b (by simp [q]); rw [z] at hu; cases hu
        · rw [q, ho] at z; cases z
    refine h.cont (g' := fl ++ g' ++ fr) ⟨gr.j, gr.jh, fun b u hb hu => gr.old b u (fun z => hb (by simp [z])) hu⟩ (gr.old a o na ho).1 ((h.hs.mono gr.j).set n c') hts' ?_ (fun b hb => ?_)
    · refine List.nodup_cons.mpr ⟨fun z => ?_, List.nodup_append.mpr ⟨List.nodup_append.mpr ⟨hnd3.1, hn', fun x hx y hy e => (fresh y hy).1 (e ▸ hx)⟩, hnd2.2.1, fun x hx y hy e => ?_⟩⟩
      · rcases List.mem_append.mp z with z | z
        · rcases List.mem_append.mp z with z | z
          · exact hnd.1 (by simp [z])
          · exact (fresh a z).2.2 rfl
        · exact hnd.1 (by simp [z])
      · rcases List.mem_append.mp hx with hx | hx
        · exact hnd2.2.2 x (by simp [hx]) y hy e
        · exact (fresh x hx).2.1 (e ▸ hy)
    · have hb' : b = a ∨ b ∈ fl ++ fr ∨ b ∈ g' := by
        rcases List.mem_cons.mp hb with hb | hb
        · exact .inl hb
        · rcases List.mem_append.mp hb with hb | hb
          · rcases List.mem_append.mp hb with hb | hb
            · exact .inr (.inl (by simp [hb]))
            · exact .inr (.inr hb)
          · exact .inr (.inl (by simp [hb]))
      rcases hb' with rfl | hb | hb
      · exact ⟨(gr.old b o na ho).2.trans (h5 b (by simp)), .inl (by simp)⟩
      · obtain ⟨u, hu⟩ := kn b (by
          rcases List.mem_append.mp hb with hb | hb <;> simp [hb])
        exact ⟨(gr.old b u (out b hb) hu).2.trans (h5 b (by
          rcases List.mem_append.mp hb with hb | hb <;> simp [hb])), .inl (by
          rcases List.mem_append.mp hb with hb | hb <;> simp [hb])⟩
      · refine ⟨(hf b hb).1, ?_⟩
        rcases (hf b hb).2 with z | z
        · exact .inl (by simp [z])
        · exact .inr z
end
end DL
namespace DL
open PySem PySem.Spec L2 PyProof.Rows
@[simp] def qP (pf : Env → Option PV) (ρ : Env) : Out PV := match pf ρ with
  | some q => .ok q ρ
  | none => .bad
@[simp] def pureT (fn : NC) (ρ : Env) : Option Tr := match fn (hideE ρ) with
  | .ok t _ => some t
  | _ => none
section
variable {K : Fg} {Y : Yx} {G : Gd} {J H J' H' : Hp} {σ : L2.St} {ρ : Env} {f : List Addr}
theorem pure_T {fn : NC} {t : Tr} {Q : VK} (e : ER K G J H σ ρ) (hk : pureT fn ρ = some t) (hq : ∀ v J' H' f, Grow J H J' (cutF H' f) → TrAt K J' H' v t f → f.Nodup → Q v H') : tTr K Y fn σ H Q := by
  unfold pureT at hk
  split at hk
  · rename_i t' ρ' hkk
    cases hk
    exact ⟨_, J, _, e.hide, by
      rw [hkk]
      exact fun v J' H' f s ht hn e' => hq v J' H' f (hide_grow e') ht hn⟩
  · cases hk
theorem NodeOk.put {i : Nat} {p : List Stp} {fx : Bool} {t sub : Tr} {a : Addr} {o : HO} {vs : List V} {ts : List Tr} {g : List Addr} (n : NodeOk K G J (cutF H f) σ ρ i p fx t a o sub vs ts g) (e : ER K G J (cutF H f) σ ρ) {o' : HO} {sub' : Tr} {vs' : List V} {ts' : List Tr} {v' : V} {t' : Tr}
    (hs' : Shape K J a o' sub' vs' ts') (ht' : TrAt K J H v' t' f) (nf : f.Nodup) (hc : (∃ n, n < vs.length ∧ vs' = vs.set n v' ∧ ts' = ts.set n t') ∨ (vs' = vs ++ [v'] ∧ ts' = ts ++ [t'])) :
    ∃ g', NodeOk K G J (upd H a o') σ (putE i p sub' ρ) i p fx (putP t p sub') a o' sub' vs' ts' g' ∧ ER K G J (upd H a o') σ (putE i p sub' ρ) := by
  obtain ⟨naf, hoH⟩ := cutF_some n.ho
  have hn := List.nodup_cons.mp n.nd
  have hi := n.hi
  have kf : ∀ b ∈ f, ∀ u, H b = some u → upd H a o' b = some u := fun b hb u hu => by
    have z : b ≠ a := fun z => naf (z ▸ hb)
    rw [upd_ne z]
    exact hu
  have kg : ∀ b ∈ g, ∀ u, cutF H f b = some u → upd H a o' b = some u := fun b hb u hu => by
    have z : b ≠ a := fun z => hn.1 (z ▸ hb)
    rw [upd_ne z]
    exact (cutF_some hu).2
  have dj : ∀ b ∈ f, b ∉ g := fun b hb hg => by
    obtain ⟨u, hu⟩ := n.hts.known b hg
    rw [cutF_in hb] at hu
    cases hu
  have ht2 := ht'.keep (.refl J) kf
  have sJ : Same J (upd H a o') := fun b u hu => by
    rw [upd_ne (ne_of_none hu (n.hJ a (by simp)))]
    exact e.up.ex _ _ hu
  have all : ∃ f', TrAts K J (upd H a o') vs' ts' f' ∧ f'.Nodup ∧ ∀ b ∈ f', b ∈ g ∨ b ∈ f := by
    rcases hc with ⟨m, hl, rfl, rfl⟩ | ⟨rfl, rfl⟩
    · exact n.hts.setv (.refl J) kg ht2 hl hn.2 nf dj
    · exact n.hts.addv (.refl J) kg ht2 hn.2 nf dj
  obtain ⟨f', q1, q2, q3⟩ := all
  have nd' : (a :: f').Nodup := List.nodup_cons.mpr ⟨fun z => by
      rcases q3 a z with z | z
      · exact hn.1 z
      · exact naf z, q2⟩
  have cond : ∀ b ∈ a :: f', J b = none ∧ (b ∈ a :: g ∨ cutF H f b = none) := fun b hb => by
      rcases List.mem_cons.mp hb with rfl | hb
      · exact ⟨n.hJ _ (by simp), .inl (by simp)⟩
      · rcases q3 b hb with z | z
        · exact ⟨n.hJ b (by simp [z]), .inl (by simp [z])⟩
        · exact ⟨cutF_none e.ex z, .inr (cutF_in z)⟩
  have gr0 : GrowO J (cutF H f) J (upd H a o') (a :: g) := ⟨.refl J, sJ, fun b u hb hu => ⟨by rw [upd_ne (fun z => hb (by simp [z]))]; exact (cutF_some hu).2, rfl⟩⟩
  have e' : putE i p sub' ρ = ρ.set i (.own fx (.tr (putP t p sub'))) := by
    unfold putE
    rw [hi]
  have er := n.cont gr0 upd_same hs' q1 nd' cond
  have li : i < ρ.length := (List.getElem?_eq_some_iff.mp hi).1
  have gG : ∀ {J2 H2 : Hp}, GrowO J (upd H a o') J2 H2 (a :: f') → GrowO J (cutF H f) J2 H2 (a :: g) := fun {J2 H2} gr => ⟨gr.j, gr.jh, fun b u hb hu => by
    obtain ⟨nb, hu'⟩ := cutF_some hu
    have z : b ≠ a := fun z => hb (by simp [z])
    exact gr.old b u (fun hm => by
      rcases List.mem_cons.mp hm with hm | hm
      · exact z hm
      · rcases q3 b hm with q | q
        · exact hb (by simp [q])
        · exact nb q) (by rw [upd_ne z]; exact hu')⟩
  have gC : ∀ {J2 : Hp} {l : List Addr}, (∀ b ∈ l, J2 b = none ∧ (b ∈ a :: f' ∨ upd H a o' b = none)) → ∀ b ∈ l, J2 b = none ∧ (b ∈ a :: g ∨ cutF H f b = none) := fun {J2 l} h b hb => by
    obtain ⟨h1, h2⟩ := h b hb
    refine ⟨h1, ?_⟩
    rcases h2 with h2 | h2
    · rcases List.mem_cons.mp h2 with h2 | h2
      · exact .inl (by simp [h2])
      · rcases q3 b h2 with q | q
        · exact .inl (by simp [q])
        · exact .inr (cutF_in q)
    · refine .inr ?_
      by_cases hbf : b ∈ f
      · exact cutF_in hbf
      · rw [cutF_out hbf]
        have z : b ≠ a := fun z => by rw [z, upd_same] at h2; cases h2
        rw [upd_ne z] at h2
        exact h2
  refine ⟨f', ?_, by rw [e']; exact er⟩
  rw [e']
  refine ⟨by rw [List.getElem?_set_self li], n.rt, getP_putP p n.hg, upd_same, hs', q1, nd', fun b hb => (cond b hb).1, fun gr ho2 hs2 hts2 hn2 hf2 => ?_, fun gr ht2 hn2 hf2 hp2 => ?_⟩
  · rw [List.set_set, putP_putP p n.hg]
    exact n.cont (gG gr) ho2 hs2 hts2 hn2 (gC hf2)
  · rw [List.set_set, putP_putP p n.hg]
    exact n.all (gG gr) ht2 hn2 (gC hf2) hp2
end
@[simp] def qSdfK (fk : EC) (fn : NC) (q : PV) (ρ1 : Env) : Out PV := match q with
  | .pl i p => match atP ρ1 i p with
    | some (.dct l) => match pureD fk ρ1, pureT fn ρ1 with
      | some k, some t => if dOkK l k = true ∧ l.length < sizeLine then match keyIx l k with
          | some n => match l[n]? with
            | some (_, s) => .ok (mkPV i (p ++ [.k k]) s) ρ1
            | none => .bad
          | none => .ok (mkPV i (p ++ [.k k]) t) (putE i p (.dct (l ++ [(k, t)])) ρ1)
        else .bad
      | _, _ => .bad
    | _ => .bad
  | .val _ => .bad
@[simp] def qSdf (fq : QC) (fk : EC) (fn : NC) (ρ : Env) : Out PV := (fq ρ).bind (qSdfK fk fn)
theorem nkx_self {k : D} {l : List (D × Tr)} {t : Tr} (hx : keyIx l k = none) : keyIx (l ++ [(k, t)]) k = some l.length := by
  unfold keyIx at hx ⊢
  induction l with
  | nil => rw [List.nil_append, List.findIdx?_cons, decide_eq_true rfl]; rfl
  | cons p l ih =>
    rw [List.findIdx?_cons] at hx
    rw [List.cons_append, List.findIdx?_cons]
    cases hb : decide (nkOf p.1 = nkOf k) with
    | true => rw [hb] at hx; cases hx
    | false =>
      rw [hb] at hx
      have : l.findIdx? (fun p => decide (nkOf p.1 = nkOf k)) = none := by simpa using hx
      simp only [Bool.false_eq_true, if_false]
      rw [ih this]
      rfl
theorem dOkK_snoc {l : List (D × Tr)} {k : D} {t : Tr} (h : dOkK l k = true) : dOkK (l ++ [(k, t)]) k = true := by
  unfold dOkK at h ⊢
  rw [Bool.or_eq_true, Bool.and_eq_true, Bool.and_eq_true] at h ⊢
  rcases h with ⟨h0, h1⟩ | ⟨h0, h1⟩
  · exact .inl ⟨h0, by rw [List.all_append, h1]; simpa using h0⟩
  · exact .inr ⟨h0, by rw [List.all_append, h1]; simpa using h0⟩
section
variable {X : Cx} {Y : Yx} {o a b c e f : Expr} {pos apos : Pos}
end
end DL
namespace DL
open PySem PySem.Spec L2 PyProof.Rows
@[simp] def appK (i : Nat) (p : List Stp) (t : Tr) (ρ : Env) : SO := match atP ρ i p with
  | some (.lst xs) => if xs.length < sizeLine then .nx (putE i p (.lst (xs ++ [t])) ρ) else .bad
  | _ => .bad
@[simp] def sAppK (fn : NC) (q : PV) (ρ1 : Env) : SO := match q with
  | .pl i [] => match atP ρ1 i [] with
    | some (.lst _) => (fn ρ1).then (appK i [])
    | _ => .bad
  | .pl i (s :: p) => match atP ρ1 i (s :: p) with
    | some (.lst _) => match pureT fn ρ1 with
      | some t => appK i (s :: p) t ρ1
      | none => .bad
    | _ => .bad
  | .val _ => .bad
@[simp] def sAppQ (fq : QC) (fn : NC) (ρ : Env) : SO := (fq ρ).then (sAppK fn)
section
variable {X : Cx} {Y : Yx} {o e : Expr} {pos apos cpos : Pos}
end
def adrD (a : Addr) : D := .dict [(.dict [], .int (a : Nat))]
def isAdr (a : Addr) : D → Bool
  | .dict [(.dict [], .int z)] => decide (z = (a : Nat))
  | _ => false
@[simp] theorem isAdr_self (a : Addr) : isAdr a (adrD a) = true := by unfold isAdr adrD; simp
open Classical in
noncomputable def uni (f : Addr → SO) : SO := if ∀ a, f a = f 0 then f 0 else .bad
@[simp] def bkE (s i : Nat) (p : List Stp) (a : Addr) (ρ : Env) : Option Env := match ρ[s]?, atP ρ i p with
  | some (.own true (.tr u)), some (.dat d) => if isAdr a d = true then some (putE i p u (ρ.set s .un)) else none
  | _, _ => none
@[simp] def bkO (s i : Nat) (p : List Stp) (a : Addr) : SO → SO
  | .nx ρ => match bkE s i p a ρ with
    | some ρ' => .nx ρ'
    | none => .bad
  | .bk ρ => match bkE s i p a ρ with
    | some ρ' => .bk ρ'
    | none => .bad
  | .ct ρ => match bkE s i p a ρ with
    | some ρ' => .ct ρ'
    | none => .bad
  | .rt d ρ => match bkE s i p a ρ with
    | some ρ' => .rt d ρ'
    | none => .bad
  | .exc e ρ => match bkE s i p a ρ with
    | some ρ' => .exc e ρ'
    | none => .bad
  | _ => .bad
@[simp] def outE (s i : Nat) (p : List Stp) (a : Addr) (u : Tr) (ρ : Env) : Env := (putE i p (.dat (adrD a)) ρ).set s (.own true (.tr u))
noncomputable def sBorK (s : Nat) (cR : SC) (q : PV) (ρ1 : Env) : SO := match q with
  | .val d => if loose ρ1 s = true then cR (ρ1.set s (.d d)) else .bad
  | .pl _ [] => .bad
  | .pl i (x :: p) => match atP ρ1 i (x :: p) with
    | some (.dat _) => .bad
    | some u => if loose ρ1 s = true ∧ s ≠ i then uni fun a => bkO s i (x :: p) a (cR (outE s i (x :: p) a u ρ1)) else .bad
    | none => .bad
noncomputable def sBor (s : Nat) (fq : QC) (cR : SC) (ρ : Env) : SO := (fq ρ).then (sBorK s cR)
section
variable {K : Fg} {Y : Yx} {G : Gd} {J H : Hp} {σ : L2.St} {ρ : Env}
def Gd.pin (G : Gd) (s : Nat) (a : Addr) : Gd := ⟨G.P, G.H0, G.J0, (s, a) :: G.fx⟩
theorem ER.pin {s : Nat} {a : Addr} {o : Own} (e : ER K G J H σ ρ) (hi : ρ[s]? = some (.own false o)) (hs : σ[s]? = some (some (.ref a))) (hns : ∀ j b, (j, b) ∈ G.fx → j ≠ s) : ER K (G.pin s a) J H σ (ρ.set s (.own true o)) := by
  obtain ⟨fs, h, ap, q⟩ := e.ft
  obtain ⟨x, f, e1, e2, so⟩ := h.get hi
  have hl := (List.getElem?_eq_some_iff.mp hi).1
  cases so with
  | own ho =>
    have efs : fs.set s _ = fs := List.set_getElem_self (List.getElem?_eq_some_iff.mp e2).1
    rw [(List.getElem?_eq_some_iff.mp e2).2] at efs
    have h2 := SlsOk.setS (K := K) (J := J) (H := H) (s := .own true o) s _ e1 (.own ho) h
    rw [efs] at h2
    refine ⟨e.ex, e.j0, e.keep, e.pn, ⟨fs, h2, ap, q⟩, fun j b hj => ?_, fun j c l hj => ?_⟩
    · rcases List.mem_cons.mp hj with hj | hj
      · cases hj
        exact ⟨hs, _, by rw [List.getElem?_set_self hl], rfl⟩
      · obtain ⟨f1, o1, f2, f3⟩ := e.fx j b hj
        exact ⟨f1, o1, by rw [List.getElem?_set_ne (hns j b hj).symm]; exact f2, f3⟩
    · exact e.lkOwn (s := .own true o) (by intro o h; cases h) (fun _ _ => rfl) (.refl J) j c l hj
end
section
variable {X : Cx} {Y : Yx} {e : Expr} {pos : Pos} {rest : List Stmt}
end
end DL
namespace DL
open PySem PySem.Spec L2 PyProof.Rows
section
variable {X : Cx} {CX : CXT} {k : Nat} {f C : Addr} {fd : FuncData} {ps : List Str} {sp : Sp} {E : L2.St → XK} {x : Str} {p pos : Pos} {e : Expr} {es : List Expr} {t : TA}
theorem made_run {pins : List (Addr × Obj)} {σ : L2.St} {H : Hp} {s : Shared} {Q : VK} {ws : List Value} {vs : List V} (M : Mk X.K C f) (F : FnOk X.prog X.w X.K X.mg X.base CX k f fd ps sp) (hr : Room (k + 1) X.A) (hb : Binds X.K fd ps []) (tk : PassesAt CX X σ (E σ)) (I : Inv X pins σ H s) (rv : Vals vs ws)
    (hq : ∀ o d, H o = none → H d = none → d ≠ o → sp (.ref o :: vs) (upd (upd H d (.own o)) o (.ins C d [])) (fun v H2 => v = .non ∧ Q (.ref o) H2) (E σ)) : wpAny (model X.prog X.w) X.A (call (.ref C) ws) (EP X pins σ Q) X.xe s := by
  generalize hz : s.heap.objs.size = z at *
  have q0 := hq (z + 1) z (I.hok.fresh (by omega)) (I.hok.fresh (by omega)) (Nat.ne_of_lt (Nat.lt_succ_self z))
  have I1 := Inv.made (C := C) I
  rw [hz] at I1
  have r1 : Vals (V.ref (z + 1) :: vs) (Value.ref (z + 1) :: ws) := .cons rfl rv
  have len1 : (Value.ref (z + 1) :: ws).length = ps.length := by
    rw [← F.len _ _ _ _ q0]
    exact r1.length.symm
  have b1 := hb _ (Value.ref (z + 1) :: ws) I1.kIn (by rw [List.append_nil]; exact len1)
  rw [List.append_nil] at b1
  have run := F.run _ X.stack _ _ ⟨Value.ref (z + 1) :: ws, []⟩ _ _ _ (E σ) (hr.make C ws []) (I1.env0.make C ws []) b1 r1 q0
  refine wpAny_call (make_map (f := f) I.kIn M.makes M.init (beq_iff_eq.mp M.fn) ?_)
  rw [hz]
  refine codeAny_mono run fun r s' hr' => ?_
  match r, hr' with
  | .error _, hr' => exact tk pins _ _ _ s' I1 hr'
  | .ok (.ret _), hr' =>
    obtain ⟨v, H', I2, rv', ev, q1⟩ := I1.after hr'
    subst ev
    exact ⟨rv', ⟨V.ref (z + 1), H', I2, rfl, q1⟩⟩
  | .ok .next, hr' => exact hr'.elim
  | .ok .brk, hr' => exact hr'.elim
  | .ok .cont, hr' => exact hr'.elim
def tMk (C : Addr) (sp : Sp) (E : L2.St → XK) (t : TA) : TE := fun σ H Q => t σ H fun vs H1 => ∀ o d, H1 o = none → H1 d = none → d ≠ o → sp (.ref o :: vs) (upd (upd H1 d (.own o)) o (.ins C d [])) (fun v H2 => v = .non ∧ Q (.ref o) H2) (E σ)
theorem pe_mk (M : Mk X.K C f) (F : FnOk X.prog X.w X.K X.mg X.base CX k f fd ps sp) (hr : Room (k + 1) X.A) (hg : Gl X x) (hm : X.mg x = some (.ref C)) (hb : Binds X.K fd ps []) (tk : ∀ σ, PassesAt CX X σ (E σ)) (ha : PA X (e :: es) t)
    (hdb : (x == ("__debug__" : Str)) = false) (he : starEach (e :: es) X.env = (false, eval e X.env) :: starEach es X.env) (hpl : (backTo pos (starEach es X.env)).any (·.1) = false) : PE X (.Call (.Name x p) (e :: es) [] pos) (tMk C sp E t) :=
  ⟨fun pins s σ H Q I h => wpAny_Call_Name_kw (ld_glob I hg hm (PySem.W.callWith_K (h₀ := X.base) I.ok.mod.kin M.kp (thn (ha.run pos pins s σ H _ I h) fun us s1 ⟨vs, H1, I1, r, q⟩ => ⟨I1.kIn, made_run M F hr hb (tk σ) I1 r q⟩) he hpl) hdb)⟩
end
@[simp] def trMake (c : Str) (n : Nat) (mm : Own → List D → OO) (fa : Env → Out (List VV)) (ρ : Env) : Out Tr := (fa ρ).bind fun xs ρ1 => match vals xs with
  | some ds => if ds.length = n then (match mm (.tr (.obj c [])) ds with
    | .ret .none (.tr t) => .ok t ρ1
    | .exc e _ => .exc e ρ1
    | _ => .bad) else .bad
  | none => .bad
section
variable {X : Cx} {Y : Yx} {a b c e o : Expr} {pos : Pos}
theorem make_fin {mm : Own → List D → OO} {n : Nat} {cn : Str} {C : Addr} {G : Gd} {J : Hp} {σ : L2.St} {H : Hp} {ρ : Env} {ds : List D} {vs : List V} {Q : VK} (T : ClsF X.G cn C) (er : ER X.G G J H σ ρ) (rv : RpAll X.G J vs ds) (hl : ds.length = n)
    (h : PostT X.G Y G J σ (match mm (.tr (.obj cn [])) ds with
      | .ret .none (.tr t) => .ok t ρ
      | .exc e _ => .exc e ρ
      | _ => .bad) Q) : ∀ o d, H o = none → H d = none → d ≠ o → spO X.G Y.ct n mm (.ref o :: vs) (upd (upd H d (.own o)) o (.ins C d [])) (fun v H2 => v = .non ∧ Q (.ref o) H2) (WE Y.W σ) := by
  intro x dx nx ndx nex
  have hu : Same H (upd (upd H dx (.own x)) x (.ins C dx [])) := (same_new ndx).trans (same_new (by rw [upd_ne nex.symm]; exact nx))
  have Jx : J x = none := same_free er.ex nx
  have fresh : ∀ {J' : Hp} {l : List Addr}, (∀ b ∈ l, J' b = none ∧ (b ∈ [x] ∨ upd (upd H dx (.own x)) x (.ins C dx []) b = none)) → ∀ b ∈ l, H b = none := fun {J' l} hf b hb => by
    rcases (hf b hb).2 with z | z
    · have : b = x := by simpa using z
      rw [this]
      exact nx
    · cases hb2 : H b with
      | none => rfl
      | some u => rw [hu b u hb2] at z; cases z
  have old : ∀ {J' H' : Hp}, GrowO J (upd (upd H dx (.own x)) x (.ins C dx [])) J' H' [x] → ∀ b u, H b = some u → H' b = some u ∧ J' b = J b := fun {J' H'} g b u hb => by
    have ne : b ∉ [x] := fun z => by
      have : b = x := by simpa using z
      rw [this, nx] at hb
      cases hb
    exact g.old b u ne (hu b u hb)
  refine ⟨J, x, [], vs, .tr (.obj cn []), ds, rfl, er.ex.trans hu, ⟨x, [], rfl, .nod upd_same (.obj C dx [] cn [] T.g rfl List.nodup_nil) .nil, by simp⟩, fun b hb => ?_, rv, hl, ?_⟩
  · have : b = x := by simpa using hb
    rw [this]
    exact Jx
  · cases hm : mm (.tr (.obj cn [])) ds with
    | ret d o =>
      rw [hm] at h
      intro v J' H' r' g ho' hf' rv'
      cases o with
      | tr t =>
        cases d <;> first | exact h.elim | skip
        cases rv'
        obtain ⟨a, r, e1, ht, hn⟩ := ho'
        injection e1 with ea er'
        subst ea er'
        refine ⟨rfl, h _ J' H' _ g.j ht hn (er.grow ⟨g.j, fun b u hb => ?_, fun b u hb => ?_⟩)⟩
        · have nb : b ∉ x :: r' := fun z => by
            rw [(hf' b z).1] at hb
            cases hb
          rw [cutF_out nb]
          exact g.jh _ _ hb
        · obtain ⟨k1, k2⟩ := old g b u hb
          have nb : b ∉ x :: r' := fun z => by
            rw [fresh hf' b z] at hb
            cases hb
          exact ⟨by rw [cutF_out nb]; exact k1, k2⟩
      | _ => cases d <;> exact h.elim
    | exc ev o =>
      rw [hm] at h
      intro c dx' J' H' r' g ho' hf' hx
      exact h c dx' J' H' g.j (hx.ct rfl) (er.grow ⟨g.j, g.jh, fun b u hb => old g b u hb⟩)
    | bad =>
      rw [hm] at h
      exact h.elim
theorem dtr_make {mm : Own → List D → OO} {n k : Nat} {C f : Addr} {fd : FuncData} {ps : List Str} {cn : Str} {es : List Expr} {fa : Env → Out (List VV)} {p : Pos} (T : ClsF X.G cn C) (M : Mk X.G C f)
    (F : FnOk X.prog X.w X.G X.mg X.base (L2.CX X.prog X.w) k f fd ps (spO X.G Y.ct n mm)) (hr : Room (k + 1) X.A) (hm : X.mg cn = some (.ref C)) (hb : Binds X.G fd ps []) (tk : Takes' X Y) (ha : DA X Y (e :: es) fa)
    (hg : Gl X cn := by rfl) (hdb : (cn == ("__debug__" : Str)) = false := by decide) (he : starEach (e :: es) X.env = (false, eval e X.env) :: starEach es X.env := by rfl) (hpl : (backTo pos (starEach es X.env)).any (·.1) = false := by rfl) :
    DTr X Y (.Call (.Name cn p) (e :: es) [] pos) (trMake cn n mm fa) := by
  refine PE.imp (pe_mk M F hr hg hm hb tk ha hdb he hpl) fun σ H Q ⟨G, J, ρ, er, h⟩ => ⟨G, J, ρ, er, PostT.of h fun xs ρ1 vs J1 H1 s1 r1 e1 h1 => ?_⟩
  split at h1
  · rename_i ds hds
    split at h1
    · rename_i hl
      exact make_fin T e1 (vals_ok r1 hds) hl h1
    · exact h1.elim
  · exact h1.elim
end
@[simp] def pureA (fa : Env → Out (List VV)) (ρ : Env) : Option (List D) := match fa (hideE ρ) with
  | .ok xs _ => vals xs
  | _ => none
@[simp] def callT (i : Nat) (p : List Stp) (mm : Own → List D → OO) (u : Tr) (ds : List D) (ρ : Env) : Out VV := match mm (.tr u) ds with
  | .ret d (.tr u') => .ok (.val d) (putE i p u' ρ)
  | .exc e (.tr u') => .exc e (putE i p u' ρ)
  | _ => .bad
@[simp] def methK (c m : Str) (n : Nat) (mm : Own → List D → OO) (fa : Env → Out (List VV)) (q : PV) (ρ1 : Env) : Out VV := match q with
  | .pl i [] => match atP ρ1 i [] with
    | some (.obj c' l) => if c' = c ∧ fldIx l m = none then (fa ρ1).bind fun xs ρ2 => match vals xs, atP ρ2 i [] with
        | some ds, some (.obj c2 l2) => if ds.length = n then callT i [] mm (.obj c2 l2) ds ρ2 else .bad
        | _, _ => .bad
      else .bad
    | _ => .bad
  | .pl i (s :: p) => match atP ρ1 i (s :: p) with
    | some (.obj c' l) => if c' = c ∧ fldIx l m = none then match pureA fa ρ1 with
        | some ds => if ds.length = n then callT i (s :: p) mm (.obj c' l) ds ρ1 else .bad
        | none => .bad
      else .bad
    | _ => .bad
  | .val _ => .bad
@[simp] def eMethQ (c m : Str) (n : Nat) (mm : Own → List D → OO) (fq : QC) (fa : Env → Out (List VV)) (ρ : Env) : Out VV := (fq ρ).bind (methK c m n mm fa)
theorem fld_no {x : Str} : ∀ {fs : List (Str × V)} {l : List (Str × Tr)}, l.map (·.1) = fs.map (·.1) → fldIx l x = none → fs.lookup x = none
  | [], _, _, _ => rfl
  | _ :: _, [], e, _ => by simp at e
  | p :: fs, q :: l, e, h => by
    rw [List.map_cons, List.map_cons] at e
    injection e with e1 e2
    unfold fldIx at h
    rw [List.findIdx?_cons, e1] at h
    by_cases z : p.1 = x
    · rw [decide_eq_true z] at h
      cases h
    · rw [decide_eq_false z] at h
      have h : fldIx l x = none := by
        unfold fldIx
        simpa using h
      rw [show p = (p.1, p.2) from rfl, List.lookup_cons, show (x == p.1) = false from beq_eq_false_iff_ne.mpr fun q => z q.symm]
      exact fld_no e2 h
section
variable {X : Cx} {Y : Yx} {a b c e o : Expr} {pos : Pos}
theorem callT_fin {mm : Own → List D → OO} {n : Nat} {G : Gd} {J : Hp} {σ : L2.St} {H : Hp} {ρ : Env} {i : Nat} {p : List Stp} {u : Tr} {ds : List D} {vs : List V} {Q : VK} {a : Addr} (er : ER X.G G J H σ ρ) (hp : PlOk X.G G J H σ ρ i p (.ref a)) (hat : atP ρ i p = some u) (hd : ∀ d, u ≠ .dat d)
    (rv : RpAll X.G J vs ds) (hl : ds.length = n) (h : Post X.G Y G J σ (RV X.G σ) (callT i p mm u ds ρ) Q) : spO X.G Y.ct n mm (.ref a :: vs) H Q (WE Y.W σ) := by
  obtain ⟨fx, t0, a0, o0, ws, ts, g, ea, nd⟩ := hp.nodeOk hat hd
  cases ea
  have ep : ∀ u', putE i p u' ρ = ρ.set i (.own fx (.tr (putP t0 p u'))) := fun u' => by
    unfold putE
    rw [nd.hi]
  refine ⟨J, a, g, vs, .tr u, ds, rfl, er.ex, ⟨a, g, rfl, .nod nd.ho nd.hs nd.hts, nd.nd⟩, nd.hJ, rv, hl, ?_⟩
  unfold callT at h
  cases hm : mm (.tr u) ds with
  | ret d o' =>
    rw [hm] at h
    intro v J' H' r' gr ho' hf rv'
    cases o' with
    | tr u' =>
      obtain ⟨a', r2, e1, ht, hn⟩ := ho'
      injection e1 with ea er'
      subst ea er'
      refine h v J' H' gr.j rv' ?_
      rw [ep]
      exact nd.all gr ht hn hf (.inr ⟨_, rfl⟩)
    | _ => exact h.elim
  | exc ev o' =>
    rw [hm] at h
    intro c dx J' H' r' gr ho' hf hx
    cases o' with
    | tr u' =>
      obtain ⟨a', r2, e1, ht, hn⟩ := ho'
      injection e1 with ea er'
      subst ea er'
      refine h c dx J' H' gr.j (hx.ct rfl) ?_
      rw [ep]
      exact nd.all gr ht hn hf (.inr ⟨_, rfl⟩)
    | _ => exact h.elim
  | bad =>
    rw [hm] at h
    exact h.elim
theorem methQ_imp {n : Nat} {C : Addr} {cn m : Str} {mm : Own → List D → OO} {fq : QC} {fa : Env → Out (List VV)} {t : TA} (T : ClsF X.G cn C) (hfa : ∀ σ H Q, tA X.G Y fa σ H Q → t σ H Q) :
    ∀ σ H Q, tE X.G Y (eMethQ cn m n mm fq fa) σ H Q → tMethO C m (spO X.G Y.ct n mm) (WE Y.W) (tQ X.G Y fq) t σ H Q := fun σ H Q ⟨G, J, ρ, er, h⟩ => ⟨G, J, ρ, er, PostQ.bind h fun q ρ1 v J1 H1 s1 e1 p1 h1 => by
  unfold methK at h1
  split at h1
  · rename_i i
    split at h1
    · rename_i c' l hat
      split at h1
      · rename_i hc
        obtain ⟨hc, hl0⟩ := hc
        subst hc
        have p1 : PlOk X.G G J1 H1 σ ρ1 i [] v := p1
        obtain ⟨fx, t0, a0, o0, ws, ts, g, rfl, nd⟩ := p1.nodeOk hat (by intro d z; cases z)
        have ho0 := nd.ho
        have rt : σ[i]? = some (some (.ref a0)) := nd.rt rfl
        cases nd.hs with
        | obj C' dx fs c2 l2 k1 k2 k3 =>
          cases T.g.uniq k1
          refine ⟨a0, dx, fs, rfl, ho0, fld_no k2 hl0, hfa _ _ _ ⟨G, J1, ρ1, e1, Post.bind h1 fun xs ρ2 vs J2 H2 s2 r2 e2 h2 => ?_⟩⟩
          split at h2
          · rename_i ds c3 l3 hds hat2
            split at h2
            · rename_i hl
              obtain ⟨fx2, t2, hi2, _⟩ := atP_some hat2
              obtain ⟨v2, q1, q2⟩ := pl_root e2 hi2
              rw [rt] at q1
              cases q1
              exact callT_fin e2 q2 hat2 (by intro d z; cases z) (vals_ok r2 hds) hl h2
            · exact h2.elim
          · exact h2.elim
      · exact h1.elim
    · exact h1.elim
  · rename_i i s p
    split at h1
    · rename_i c' l hat
      split at h1
      · rename_i hc
        obtain ⟨hc, hl0⟩ := hc
        subst hc
        have p1 : PlOk X.G G J1 H1 σ ρ1 i (s :: p) v := p1
        obtain ⟨fx, t0, a0, o0, ws, ts, g, rfl, nd⟩ := p1.nodeOk hat (by intro d z; cases z)
        have ho0 := nd.ho
        cases nd.hs with
        | obj C' dx fs c2 l2 k1 k2 k3 =>
          cases T.g.uniq k1
          split at h1
          · rename_i ds hpa
            split at h1
            · rename_i hl
              unfold pureA at hpa
              split at hpa
              · rename_i xs ρ' hfx
                refine ⟨a0, dx, fs, rfl, ho0, fld_no k2 hl0, hfa _ _ _ (pure_A e1 hfx hpa fun vs J2 H2 g2 rv => ?_)⟩
                exact callT_fin (e1.grow g2) (p1.grow g2) hat (by intro d z; cases z) rv hl (Post.mono g2.j h1)
              · cases hpa
            · exact h1.elim
          · exact h1.elim
      · exact h1.elim
    · exact h1.elim
  · exact h1.elim⟩
theorem de_methQ {mm : Own → List D → OO} {n k : Nat} {C f : Addr} {fd : FuncData} {ps : List Str} {cn m : Str} {es : List Expr} {fq : QC} {fa : Env → Out (List VV)} {apos : Pos} {pl : Sem Bool} (T : ClsF X.G cn C) (hm : Meth X.G C m f)
    (F : FnOk X.prog X.w X.G X.mg X.base (L2.CX X.prog X.w) k f fd ps (spO X.G Y.ct n mm)) (hr : Room k X.A) (hb : Binds X.G fd ps []) (tk : Takes' X Y) (ho : DQ X Y o fq) (ha : DA X Y (e :: es) fa)
    (hst : starEach (e :: es) X.env = (false, eval e X.env) :: starEach es X.env := by rfl) (hpl : (backTo pos (starEach es X.env)).any (·.1) = false := by rfl) (ht : MethT X o m apos pos (e :: es) pl := by rfl) :
    DE X Y (.Call (.Attribute o m apos) (e :: es) [] pos) (eMethQ cn m n mm fq fa) := PE.imp (pe_methO ho T.cl hm F hr hb tk ha hst hpl ht) (methQ_imp T fun _ _ _ h => h)
end
end DL
namespace DL
open PySem PySem.Spec L2 PyProof.Rows
@[simp] def inK (b : Bool) (k : D) (q : PV) (ρ2 : Env) : Out VV := match q with
  | .pl i p => match atP ρ2 i p with
    | some (.dct l) => if dOkK l k = true then .ok (.val (.bool (b == (keyIx l k).isSome))) ρ2 else .bad
    | _ => .bad
  | .val d => match (if b = true then dInA k d else dNotInA k d) with
    | some c => .ok (.val c) ρ2
    | none => .bad
@[simp] def eInQ (b : Bool) (fk : EC) (fq : QC) (ρ : Env) : Out VV := (fk ρ).bind fun y ρ1 => match y with
  | .val k => (fq ρ1).bind (inK b k)
  | _ => .bad
@[simp] def eLenQ (fq : QC) (ρ : Env) : Out VV := (fq ρ).bind fun q ρ1 => match q with
  | .val d => match dLenA [d] with
    | some v => .ok (.val v) ρ1
    | none => .bad
  | .pl i p => match atP ρ1 i p with
    | some (.lst xs) => .ok (.val (.int xs.length)) ρ1
    | some (.dct l) => .ok (.val (.int l.length)) ρ1
    | _ => .bad
@[simp] def getK2 (i : Nat) (p : List Stp) (k dz : D) (ρ1 : Env) : Out PV := match atP ρ1 i p with
  | some (.dct l) => if dOkK l k = true then match keyIx l k with
      | some n => match l[n]? with
        | some (_, s) => .ok (mkPV i (p ++ [.k k]) s) ρ1
        | none => .bad
      | none => .ok (.val dz) ρ1
    else .bad
  | _ => .bad
@[simp] def getQK (fk fx : EC) (q : PV) (ρ1 : Env) : Out PV := match q with
  | .pl i [] => match atP ρ1 i [] with
    | some (.dct _) => (fk ρ1).bind fun y ρ2 => match y, pureD fx ρ2 with
      | .val k, some dz => getK2 i [] k dz ρ2
      | _, _ => .bad
    | _ => .bad
  | .pl i (s :: p) => match atP ρ1 i (s :: p) with
    | some (.dct _) => match pureD fk ρ1, pureD fx ρ1 with
      | some k, some dz => getK2 i (s :: p) k dz ρ1
      | _, _ => .bad
    | _ => .bad
  | .val (.dict l) => if isDct l = true then (fk ρ1).bind fun y ρ2 => match y, pureD fx ρ2 with
      | .val k, some dz => if dOkK l k = true then .ok (.val ((dLook l k).getD dz)) ρ2 else .bad
      | _, _ => .bad
    else .bad
  | .val _ => .bad
@[simp] def qGet2 (fq : QC) (fk fx : EC) (ρ : Env) : Out PV := (fq ρ).bind (getQK fk fx)
section
variable {X : Cx} {Y : Yx} {o a b c e f : Expr} {pos apos : Pos}
theorem pl_get {K : Fg} {G : Gd} {J H : Hp} {σ : L2.St} {ρ : Env} {i : Nat} {p : List Stp} {v y : V} {l : List (D × Tr)} {k : D} (er : ER K G J H σ ρ) (hp : PlOk K G J H σ ρ i p v) (hat : atP ρ i p = some (.dct l)) (hok : dOkK l k = true) (ry : Rp K H y k) :
    ∃ a ov, v = .ref a ∧ DGt K H a y ov ∧ ov.isSome = (keyIx l k).isSome ∧ ∀ n q s, keyIx l k = some n → l[n]? = some (q, s) → ∃ u, ov = some u ∧ PvOk K G J H σ ρ u (mkPV i (p ++ [.k k]) s) := by
  obtain ⟨fx, t0, a0, o0, vs, ts, g, rfl, nd⟩ := hp.nodeOk hat (by intro d z; cases z)
  obtain ⟨ov, gt, c⟩ := tree_get er.ex nd.ho nd.hs hok ry
  refine ⟨a0, ov, rfl, gt, ?_, fun n q s hn hs => ?_⟩
  · rcases c with ⟨rfl, c⟩ | ⟨n, u, rfl, c, _⟩ <;> rw [c] <;> rfl
  · rcases c with ⟨_, c⟩ | ⟨n', u, rfl, c, c2⟩
    · rw [hn] at c; cases c
    · rw [hn] at c
      cases c
      have hts := nd.hs.ch
      refine ⟨u, rfl, mkPV_ok (nd.child (s := .k k) (n := n) (c := s) (by rw [idxS_d, if_pos hok, hn]) (by rw [hts]; simp [hs]) c2) ?_⟩
      unfold atP rootT
      rw [nd.hi]
      simp only
      rw [getP_snoc p nd.hg, getP_cons, idxS_d, if_pos hok, hn]
      simp [hs]
theorem in_core {b : Bool} {fk : EC} {fq : QC} : ∀ σ H Q, tE X.G Y (eInQ b fk fq) σ H Q → tOp (rD X.G (if b = true then dInA else dNotInA)) (tE X.G Y fk) (tQ X.G Y fq) σ H Q ∨ tIn X.G b (tE X.G Y fk) (tQ X.G Y fq) σ H Q := fun σ H Q ⟨G, J, ρ, er, h⟩ => by
  unfold eInQ at h
  cases hfk : fk ρ with
  | bad => rw [hfk] at h; exact h.elim
  | exc ev ρ1 => rw [hfk] at h; exact .inl ⟨G, J, ρ, er, by rw [hfk]; exact h⟩
  | ok y ρ1 =>
    rw [hfk] at h
    cases y with
    | slot j => exact h.elim
    | val k =>
      have h : Post X.G Y G J σ (RV X.G σ) ((fq ρ1).bind (inK b k)) Q := h
      cases hfq : fq ρ1 with
      | bad => rw [hfq] at h; exact h.elim
      | exc ev ρ2 =>
        rw [hfq] at h
        exact .inl ⟨G, J, ρ, er, by
          rw [hfk]
          exact fun v J1 H1 s1 r1 e1 => ⟨G, J1, ρ1, e1, by rw [hfq]; exact fun c dx J2 H2 s2 x2 e2 => h c dx J2 H2 (s1.trans s2) x2 e2⟩⟩
      | ok q ρ2 =>
        rw [hfq] at h
        have h : Post X.G Y G J σ (RV X.G σ) (inK b k q ρ2) Q := h
        cases q with
        | val d =>
          refine .inl ⟨G, J, ρ, er, ?_⟩
          rw [hfk]
          intro v J1 H1 s1 r1 e1
          refine ⟨G, J1, ρ1, e1, ?_⟩
          rw [hfq]
          intro w J2 H2 s2 e2 p2
          unfold inK at h
          simp only at h
          split at h
          · rename_i c hc
            refine ⟨J2, k, d, c, e2.ex, .inl (dp_mono' s2 (show Rp X.G J1 v k from r1)), .inl p2, ?_, fun u J3 H3 g r => h u J3 H3 ((s1.trans s2).trans g.j) r (e2.grow g)⟩
            cases b <;> exact hc
          · exact h.elim
        | pl i p =>
          refine .inr ⟨G, J, ρ, er, ?_⟩
          rw [hfk]
          intro v J1 H1 s1 r1 e1
          refine ⟨G, J1, ρ1, e1, ?_⟩
          rw [hfq]
          intro w J2 H2 s2 e2 p2
          unfold inK at h
          simp only at h
          split at h
          · rename_i l hat
            split at h
            · rename_i hok
              obtain ⟨a0, ov, rfl, gt, hs, _⟩ := pl_get e2 p2 hat hok (dp_mono' (s2.trans e2.ex) (show Rp X.G J1 v k from r1))
              refine ⟨a0, ov, rfl, gt, ?_⟩
              rw [hs]
              refine (Post.mono (s1.trans s2) h).now ?_ e2
              have : (b == (keyIx l k).isSome) = if b = true then (keyIx l k).isSome else !(keyIx l k).isSome := by
                cases b <;> cases (keyIx l k).isSome <;> rfl
              rw [this]
              exact .bl _
            · exact h.elim
          · exact h.elim
theorem PT.or {X : Cx} {e : Expr} {t t' : TT} (h : PT X e t) (h' : PT X e t') : PT X e (fun σ H Q => t σ H Q ∨ t' σ H Q) := ⟨fun pins s σ H Q I hw => by
  rcases hw with hw | hw
  · exact h.run pins s σ H Q I hw
  · exact h'.run pins s σ H Q I hw⟩
theorem test_in {b : Bool} {fk : EC} {fq : QC} : ∀ σ H (Q : Bool → Hp → Prop), tT X.G Y (eTest (eInQ b fk fq)) σ H Q → tE X.G Y (eInQ b fk fq) σ H (fun x H1 => ∃ c, x = .bl c ∧ Q c H1) := fun σ H Q ⟨G, J, ρ, er, h⟩ => ⟨G, J, ρ, er, Post.bind h fun x ρ1 v J1 H1 s1 r1 e1 h1 => by
  split at h1
  · cases r1
    exact ⟨_, rfl, h1.now rfl e1⟩
  · exact h1.elim⟩
theorem dt_notInQ {fk : EC} {fq : QC} (hu : X.A.units + 65 < cLine) (he : DE X Y e fk) (ho : DQ X Y o fq) (hm : behindInMarks .NotIn o = false := by first | exact nomark _ | rfl) : DT X Y (.Compare e [.NotIn] [o] pos) (eTest (eInQ false fk fq)) :=
  PT.imp (PT.or (pt_cmpR (od_notInA hu) he ho hm) (pt_cmp (pc_nnotin (by omega) he ho) hm)) fun σ H Q h => in_core (b := false) _ _ _ (test_in _ _ _ h)
end
section
variable {X : Cx} {Y : Yx} {o a b c e f : Expr} {pos apos : Pos}
def rLenQ (K : Fg) : List V → Hp → VK → Prop := fun xs H Q => ∃ a n, xs = [.ref a] ∧ (((∃ vs, SqL K H a vs ∧ n = vs.length)) ∨ DLen K H a n) ∧ Q (.int n) H
theorem call_lenQ : CallR X (.builtin "len") (rLenQ X.G) := by
  intro pins s σ H xs us Q I r ⟨a, n, ex, d, q⟩
  rcases d with ⟨vs, d, rfl⟩ | d
  · exact call_len pins s σ H xs us Q I r ⟨.ref a, _, ex, .inl ⟨vs, d, rfl⟩, q⟩
  · exact call_nlen pins s σ H xs us Q I r ⟨a, n, ex, d, q⟩
theorem pl_dlen {K : Fg} {G : Gd} {J H : Hp} {σ : L2.St} {ρ : Env} {i : Nat} {p : List Stp} {v : V} {l : List (D × Tr)} (er : ER K G J H σ ρ) (hp : PlOk K G J H σ ρ i p v) (hat : atP ρ i p = some (.dct l)) : ∃ a, v = .ref a ∧ DLen K H a l.length := by
  obtain ⟨fx, t0, a0, o0, vs, ts, g, rfl, nd⟩ := hp.nodeOk hat (by intro d z; cases z)
  have ho0 := nd.ho
  refine ⟨a0, rfl, ?_⟩
  cases nd.hs with
  | dctK kvs l h1 h2 => exact .inl ⟨kvs, .inl ho0, by have := congrArg List.length h1; simpa using this⟩
  | dctN raw l h0 h1 h2 h3 h4 => exact .inr ⟨raw, ⟨.inl ho0, keys_ND er.ex h1 h2 h3⟩, by have := congrArg List.length h2; simpa using this⟩
theorem pl_llen {K : Fg} {G : Gd} {J H : Hp} {σ : L2.St} {ρ : Env} {i : Nat} {p : List Stp} {v : V} {l : List Tr} (er : ER K G J H σ ρ) (hp : PlOk K G J H σ ρ i p v) (hat : atP ρ i p = some (.lst l)) : ∃ a vs, v = .ref a ∧ H a = some (.lst vs) ∧ vs.length = l.length := by
  obtain ⟨fx, t0, a0, o0, vs, ts, g, rfl, nd⟩ := hp.nodeOk hat (by intro d z; cases z)
  have ho0 := nd.ho
  have hl := nd.hts.len
  cases nd.hs with
  | lst => exact ⟨a0, vs, rfl, ho0, hl⟩
theorem de_lenQ {fq : QC} {x : Str} {p : Pos} (hm : X.mg x = none) (hv : bootBuiltins x = some (.builtin "len")) (ho : DQ X Y e fq) (hg : Gl X x := by rfl) (hn : x ≠ "__name__" := by decide)
    (hdb : (x == ("__debug__" : Str)) = false := by decide) (he : starEach [e] X.env = (false, eval e X.env) :: starEach [] X.env := by rfl) (hpl : (backTo pos (starEach [] X.env)).any (·.1) = false := by rfl) : DE X Y (.Call (.Name x p) [e] [] pos) (eLenQ fq) := by
  refine PE.imp (pe_callB (CallR.or cd_lenA call_lenQ) hg hm hv (pa_cons ho pa_nil he) hn hdb he hpl) fun σ H Q ⟨G, J, ρ, er, h⟩ => ⟨G, J, ρ, er, PostQ.bind h fun q ρ1 v J1 H1 s1 e1 p1 h1 => ?_⟩
  cases q with
  | val d =>
    simp only at h1
    split at h1
    · rename_i c hc
      exact .inl ⟨J1, [d], c, e1.ex, ⟨.inl p1, trivial⟩, hc, fun u J3 H3 g r => h1 u J3 H3 g.j r (e1.grow g)⟩
    · exact h1.elim
  | pl i p =>
    simp only at h1
    split at h1
    · rename_i xs hat
      obtain ⟨a0, vs, rfl, k1, k2⟩ := pl_llen e1 p1 hat
      exact .inr ⟨a0, vs.length, rfl, .inl ⟨vs, .inl (.inl k1), rfl⟩, by rw [k2]; exact h1.now (.int _) e1⟩
    · rename_i l hat
      obtain ⟨a0, rfl, k1⟩ := pl_dlen e1 p1 hat
      exact .inr ⟨a0, _, rfl, .inr k1, h1.now (.int _) e1⟩
    · exact h1.elim
end
end DL
namespace DL
open PySem PySem.Spec L2 PyProof.Rows
def tDsp1 (K : Fg) (tk tv : TE) : TE := fun σ H Q => ∀ p, H p = none → tk σ (upd H p (.dK [])) fun y H1 => tv σ H1 fun z H2 => H2 p = some (.dK []) ∧ ∃ k b, y = .ref b ∧ NkAt K H2 y k ∧ k.depth ≤ 8 ∧ Q (.ref p) (upd H2 p (hoN K.w p [(k, b, z)]))
theorem pe_dsp1 {X : Cx} {pos : Pos} {k v : Expr} {tk tv : TE} (hu : X.A.units + 64 < cLine) (hk : PE X k tk) (hv : PE X v tv) : PE X (.Dict [some k] [v] pos) (tDsp1 X.G tk tv) := by
  refine ⟨fun pins s σ H Q I q => ?_⟩
  have fresh := I.hok.fresh (Nat.le_refl s.heap.objs.size)
  have I1 := I.laid (a := s.heap.objs.size) (o := .dK []) (h' := s.heap.push { cls := .type "dict", data := .dict #[] }) (t' := s.toks) (fun _ _ q => Heap.get?_push_of_some _ q) (Nat.le_refl _) (dk_empty s.heap I.big)
  have zp := zip_pairTrees [some k] [v] X.env pos rfl rfl
  rw [arm_eval_Dict, zp, dictDisplay_pairs (pairTrees [some k] [v] X.env pos) (by intro z; cases z) (show (1 : Nat) < 17 by decide)]
  refine wpAny_bind (wpAny_standAt (wpAny_bind (wpAny_subDictH (knd := nestedKind X.prog X.w) (show X.A.units + 8 < cLine by omega) (show (1 : Nat) ≤ 15 by decide) ?_)))
  refine pairTrees_cons_walk (thn (hk.run pins _ σ _ _ I1 (q _ fresh)) fun u s1 ⟨y, H1, I2, ry, q1⟩ => thn (hv.run pins s1 σ H1 _ I2 q1) fun w2 s2 ⟨z, H2, I3, rz, e, kk, b, ey, nk, dp, q2⟩ => pairTrees_nil_walk ?_)
  subst ey
  cases (show u = Value.ref b from ry)
  obtain ⟨hd, dd⟩ := emptyN I3 (.inl e)
  refine ⟨[(kk, b, w2)], ⟨rfl, rfl, nkey_is I3 nk dp, trivial⟩, dd, fun h' tk' dd' hs => wpAny_pure ⟨.ref s.heap.objs.size, _, ?_, rfl, q2⟩⟩
  have dd2 : h'.DictOfH (nestedKind X.prog X.w) s.heap.objs.size [(kk, b, w2)] := dd'
  obtain ⟨o, es, ep, ho, _⟩ := id dd2
  exact d_write I3 (by rw [e]; exact True.intro) hs ⟨o, ho⟩ (rawOk_obj (by rw [sizeLine_eq]; simp) hd (xs := [(kk, b, w2)]) (.cons ⟨rfl, rfl, rz⟩ .nil) dd2)
@[simp] def trDsp (fk : EC) (fn : NC) (ρ : Env) : Out Tr := match pureD fk ρ, pureT fn ρ with
  | some k, some t => if dOkK ([] : List (D × Tr)) k = true then .ok (.dct [(k, t)]) ρ else .bad
  | _, _ => .bad
section
variable {X : Cx} {Y : Yx} {a b c e k v : Expr} {pos : Pos}
theorem dsp_er {K : Fg} {G : Gd} {J H J3 H3 : Hp} {σ : L2.St} {ρ : Env} {f : List Addr} {p : Addr} {o : HO} (er : ER K G J H σ ρ) (hp : H p = none) (g : Grow J (upd H p (.dK [])) J3 (cutF H3 f)) : ER K G J3 (cutF (upd H3 p o) (p :: f)) σ ρ ∧ cutF H3 f p = some (.dK []) := by
  obtain ⟨gp, gj⟩ := g.old p _ upd_same
  have Jp : J3 p = none := by
    rw [gj]
    exact same_free er.ex hp
  refine ⟨er.grow ⟨g.j, fun b u hb => ?_, fun b u hb => ?_⟩, gp⟩
  · have z : b ≠ p := fun z => by rw [z, Jp] at hb; cases hb
    obtain ⟨nf, hb2⟩ := cutF_some (g.jh _ _ hb)
    rw [cutF_out (by simp [z, nf]), upd_ne z]
    exact hb2
  · have z : b ≠ p := ne_of_none hb hp
    obtain ⟨k1, k2⟩ := g.old b u (by rw [upd_ne z]; exact hb)
    obtain ⟨nf, hb2⟩ := cutF_some k1
    exact ⟨by rw [cutF_out (by simp [z, nf]), upd_ne z]; exact hb2, k2⟩
theorem dtr_dsp {fk : EC} {fn : NC} (hu : X.A.units + 64 < cLine) (hk : DE X Y k fk) (hv : DTr X Y v fn) : DTr X Y (.Dict [some k] [v] pos) (trDsp fk fn) := by
  refine PE.imp (PE.or (pe_disp (pps_cons hk hv pps_nil) rfl rfl (by intro z; cases z) (show (1 : Nat) ≤ 15 by decide)) (pe_dsp1 hu hk hv)) fun σ H Q ⟨G, J, ρ, er, h⟩ => ?_
  unfold trDsp at h
  split at h
  · rename_i kd t hkd ht
    split at h
    · rename_i hok
      unfold dOkK at hok
      rw [Bool.or_eq_true, Bool.and_eq_true, Bool.and_eq_true] at hok
      rcases hok with ⟨h0, _⟩ | ⟨h0, _⟩
      · refine .inl fun p hp => ?_
        obtain ⟨kk, rfl, _⟩ := kk0_some h0
        have e1 : ER X.G G J (upd H p (.dK [])) σ ρ := er.grow (Grow.side er.ex hp)
        refine pure_at e1 hkd fun y J2 H2 g2 ry => pure_T (e1.grow g2) ht fun z J3 H3 f g3 tz nf => ?_
        have g := g2.trans g3
        cases keyD_rp ry
        obtain ⟨e3, k3⟩ := dsp_er (o := .dK (mergeK [] [(kk, z)])) er hp g
        obtain ⟨npf, k4⟩ := cutF_some k3
        refine ⟨k4, [(kk, z)], rfl, (show (1 : Nat) ≤ 15 by decide), ?_⟩
        have em : mergeK [] [(kk, z)] = [(kk, z)] := rfl
        rw [em] at e3 ⊢
        have kf : ∀ b ∈ f, ∀ u, H3 b = some u → upd H3 p (.dK [(kk, z)]) b = some u := fun b hb u hu => by
          have ne : b ≠ p := fun q => npf (q ▸ hb)
          rw [upd_ne ne]
          exact hu
        have tr : TrAt X.G J3 (upd H3 p (.dK [(kk, z)])) (.ref p) (.dct [(keyD kk, t)]) (p :: (f ++ [])) := .nod upd_same (.dctK [(kk, z)] [(keyD kk, t)] rfl (by simp)) (.cons (tz.keep (.refl J3) kf) .nil)
        rw [List.append_nil] at tr
        exact (PostT.mono g.j h).now tr (List.nodup_cons.mpr ⟨npf, nf⟩) e3
      · refine .inr fun p hp => ?_
        obtain ⟨ds, nk, rfl, hnk, dp⟩ := kk1_some h0
        have e1 : ER X.G G J (upd H p (.dK [])) σ ρ := er.grow (Grow.side er.ex hp)
        refine pure_at e1 hkd fun y J2 H2 g2 ry => pure_T (e1.grow g2) ht fun z J3 H3 f g3 tz nf => ?_
        have g := g2.trans g3
        have ry3 : Rp X.G J3 y (.tuple ds) := dp_mono' g3.j ry
        obtain ⟨b, rfl⟩ : ∃ b, y = .ref b := by
          cases ry with
          | tup _ _ => exact ⟨_, rfl⟩
        obtain ⟨e3, k3⟩ := dsp_er (o := hoN X.G.w p [(nk, b, z)]) er hp g
        obtain ⟨npf, k4⟩ := cutF_some k3
        have s3 : Same J3 H3 := fun b u hb => (cutF_some (g.jh _ _ hb)).2
        refine ⟨k4, nk, b, rfl, nk_of_rp _ (dp_mono' s3 ry3) hnk, dp, ?_⟩
        have kf : ∀ b' ∈ f, ∀ u, H3 b' = some u → upd H3 p (hoN X.G.w p [(nk, b, z)]) b' = some u := fun b' hb u hu => by
          have ne : b' ≠ p := fun q => npf (q ▸ hb)
          rw [upd_ne ne]
          exact hu
        have tr : TrAt X.G J3 (upd H3 p (hoN X.G.w p [(nk, b, z)])) (.ref p) (.dct [(.tuple ds, t)]) (p :: (f ++ [])) := .nod upd_same (.dctN [(nk, b, z)] [(.tuple ds, t)] (by simp) (.cons ry3 .nil) (by simp [hnk]) (by simpa using dp) (by simp)) (.cons (tz.keep (.refl J3) kf) .nil)
        rw [List.append_nil] at tr
        exact (PostT.mono g.j h).now tr (List.nodup_cons.mpr ⟨npf, nf⟩) e3
    · exact h.elim
  · exact h.elim
@[simp] def eT (fn : NC) (ρ : Env) : Out VV := (fn ρ).bind fun t ρ1 => .ok (.val (toD t)) ρ1
theorem de_t {fn : NC} (h : DTr X Y e fn) : DE X Y e (eT fn) := by
  refine PE.imp (PE.lkT h) fun σ H Q ⟨G, J, ρ, er, h⟩ => ⟨G, J, ρ, er, ?_⟩
  unfold eT at h
  cases hf : fn ρ with
  | bad => rw [hf] at h; exact h.elim
  | exc ev ρ1 => rw [hf] at h; exact h
  | ok t ρ1 =>
    rw [hf] at h
    intro v J1 H1 f s1 ht hn e1
    have sj : Same J1 H1 := fun b u hb => (cutF_some (e1.ex _ _ hb)).2
    refine (frz_tr ht J1 H1 (.refl J1) sj (fun b hb => ⟨rfl, cutF_none e1.ex hb⟩) hn).bind fun H2 ⟨J2, k1, k2, k3, k4⟩ => .now (h v J2 H2 (s1.trans k1) k4 (e1.grow ⟨k1, k2, fun b u hb => ?_⟩))
    obtain ⟨nb, hb2⟩ := cutF_some hb
    exact ⟨(k3 b nb).1.trans hb2, (k3 b nb).2⟩
end
end DL
namespace DL
open PySem PySem.Spec L2 PyProof.Rows
@[simp] def qE (f : EC) (ρ : Env) : Out PV := (f ρ).bind fun x ρ1 => match x with
  | .val d => .ok (.val d) ρ1
  | _ => .bad
@[simp] def methN (c m : Str) (n : Nat) (mm : Own → List D → OO) (fa : Env → Out (List VV)) (t : Tr) (ρ1 : Env) : Out VV := match t with
  | .obj c' l => if c' = c ∧ fldIx l m = none then match pureA fa ρ1 with
      | some ds => if ds.length = n then (match mm (.tr (.obj c' l)) ds with
        | .ret d _ => .ok (.val d) ρ1
        | .exc e _ => .exc e ρ1
        | .bad => .bad) else .bad
      | none => .bad
    else .bad
  | _ => .bad
@[simp] def eMethN (c m : Str) (n : Nat) (mm : Own → List D → OO) (fn : NC) (fa : Env → Out (List VV)) (ρ : Env) : Out VV := (fn ρ).bind (methN c m n mm fa)
section
variable {X : Cx} {Y : Yx} {a b c e o : Expr} {pos : Pos}
theorem PostT.bindE {K : Fg} {Y : Yx} {G : Gd} {J : Hp} {σ : L2.St} {o : Out Tr} {k : Tr → Env → Out VV} {Q : VK} (h : Post K Y G J σ (RV K σ) (o.bind k) Q) {Q' : VK}
    (hk : ∀ t ρ v J' H' f, Same J J' → TrAt K J' H' v t f → f.Nodup → ER K G J' (cutF H' f) σ ρ → Post K Y G J' σ (RV K σ) (k t ρ) Q → Q' v H') : PostT K Y G J σ o Q' := by
  cases o with
  | ok t ρ => exact fun v J1 H1 f s1 ht hn e => hk t ρ v J1 H1 f s1 ht hn e (Post.mono s1 h)
  | exc e ρ => exact h
  | bad => exact h
theorem methN_imp {n : Nat} {C : Addr} {cn m : Str} {mm : Own → List D → OO} {fn : NC} {fa : Env → Out (List VV)} {t : TA} (T : ClsF X.G cn C) (hfa : ∀ σ H Q, tA X.G Y fa σ H Q → t σ H Q) :
    ∀ σ H Q, tE X.G Y (eMethN cn m n mm fn fa) σ H Q → tMethO C m (spO X.G Y.ct n mm) (WE Y.W) (tTr X.G Y fn) t σ H Q := fun σ H Q ⟨G, J, ρ, er, h⟩ => ⟨G, J, ρ, er, PostT.bindE h fun t ρ1 v J1 H1 f s1 ht hn e1 h1 => by
  unfold methN at h1
  split at h1
  · rename_i c' l
    split at h1
    · rename_i hc
      obtain ⟨hc, hl0⟩ := hc
      subst hc
      cases ht with
      | @nod a o _ vs ts g ho hs hts =>
        cases hs with
        | obj C' dx fs c2 l2 k1 k2 k3 =>
          cases T.g.uniq k1
          split at h1
          · rename_i ds hpa
            split at h1
            · rename_i hl
              unfold pureA at hpa
              split at hpa
              · rename_i xs ρ' hfx
                refine ⟨a, dx, fs, rfl, ho, fld_no k2 hl0, hfa _ _ _ (pure_A e1.up hfx hpa fun vs2 J2 H2 g2 rv => ?_)⟩
                have cg := cutF_grow e1.ex (fun b hb => (TrAt.nod ho (.obj C dx fs c' l k1 k2 k3) hts).known b hb) g2
                have e2 := e1.grow cg
                have t2 := (TrAt.nod ho (.obj C dx fs c' l k1 k2 k3) hts).keep g2.j fun b hb u hu => (g2.old b u hu).1
                refine ⟨J2, a, g, vs2, .tr (.obj c' l), ds, rfl, g2.jh, ⟨a, g, rfl, t2, hn⟩, fun b hb => cutF_none e2.ex hb, rv, hl, ?_⟩
                have h2 := Post.mono g2.j h1
                have back : ∀ {J' H' : Hp}, GrowO J2 H2 J' H' (a :: g) → ER X.G G J' H' σ ρ1 := fun {J' H'} gr => e2.grow ⟨gr.j, gr.jh, fun b u hb => by
                  obtain ⟨nb, hb2⟩ := cutF_some hb
                  exact gr.old b u nb hb2⟩
                cases hm : mm (.tr (.obj c' l)) ds with
                | ret d o' =>
                  rw [hm] at h2
                  exact fun v J' H' r' gr ho' hf rv' => h2 v J' H' gr.j rv' (back gr)
                | exc ev o' =>
                  rw [hm] at h2
                  exact fun c dx J' H' r' gr ho' hf hx => h2 c dx J' H' gr.j (hx.ct rfl) (back gr)
                | bad =>
                  rw [hm] at h2
                  exact h2.elim
              · cases hpa
            · exact h1.elim
          · exact h1.elim
    · exact h1.elim
  · exact h1.elim⟩
theorem de_methN {mm : Own → List D → OO} {n k : Nat} {C f : Addr} {fd : FuncData} {ps : List Str} {cn m : Str} {es : List Expr} {fn : NC} {fa : Env → Out (List VV)} {apos : Pos} {pl : Sem Bool} (T : ClsF X.G cn C) (hm : Meth X.G C m f)
    (F : FnOk X.prog X.w X.G X.mg X.base (L2.CX X.prog X.w) k f fd ps (spO X.G Y.ct n mm)) (hr : Room k X.A) (hb : Binds X.G fd ps []) (tk : Takes' X Y) (ho : DTr X Y o fn) (ha : DA X Y (e :: es) fa)
    (hst : starEach (e :: es) X.env = (false, eval e X.env) :: starEach es X.env := by rfl) (hpl : (backTo pos (starEach es X.env)).any (·.1) = false := by rfl) (ht : MethT X o m apos pos (e :: es) pl := by rfl) :
    DE X Y (.Call (.Attribute o m apos) (e :: es) [] pos) (eMethN cn m n mm fn fa) := PE.imp (pe_methO ho T.cl hm F hr hb tk ha hst hpl ht) (methN_imp T fun _ _ _ h => h)
end
@[simp] theorem leafs_nil : leafs [] = [] := rfl
@[simp] theorem leafs_dat (x : Str) (d : D) (r : List (Str × Tr)) : leafs ((x, .dat d) :: r) = (x, d) :: leafs r := rfl
@[simp] theorem leafs_lst (x : Str) (d : List Tr) (r : List (Str × Tr)) : leafs ((x, .lst d) :: r) = leafs r := rfl
@[simp] theorem leafs_dct (x : Str) (d : List (D × Tr)) (r : List (Str × Tr)) : leafs ((x, .dct d) :: r) = leafs r := rfl
@[simp] theorem leafs_obj (x c : Str) (d : List (Str × Tr)) (r : List (Str × Tr)) : leafs ((x, .obj c d) :: r) = leafs r := rfl
@[simp] theorem leafs_tup (x : Str) (d : List Tr) (r : List (Str × Tr)) : leafs ((x, .tup d) :: r) = leafs r := rfl
@[simp] def augF (c x : Str) (g : D → D → Option D) (i : Nat) (p : List Stp) (d0 dy : D) (ρ : Env) : SO := match g d0 dy, atP ρ i p with
  | some d3, some (.obj c' l) => if c' = c ∧ l.length < 1000 then .nx (putE i p (.obj c' (putTf l x (.dat d3))) ρ) else .bad
  | _, _ => .bad
@[simp] def sFldAugQ (c x : Str) (g : D → D → Option D) (pf : Env → Option PV) (fe : EC) (ρ : Env) : SO := match pf ρ with
  | some (.pl i p) => match atP ρ i p with
    | some (.obj c' l) => if c' = c then match (leafs l).lookup x with
        | some d0 => match p with
          | [] => (fe ρ).then fun y ρ1 => match y with
            | .val dy => augF c x g i [] d0 dy ρ1
            | _ => .bad
          | s :: q => match pureD fe ρ with
            | some dy => augF c x g i (s :: q) d0 dy ρ
            | none => .bad
        | none => .bad
      else .bad
    | _ => .bad
  | _ => .bad
section
variable {X : Cx} {Y : Yx} {o e : Expr} {pos tpos : Pos}
end
end DL
namespace DL
open PySem PySem.Spec L2 PyProof.Rows
def pairK : D → Option (D × D)
  | .tuple [k, v] => if kk0 k = true then some (k, v) else none
  | _ => none
@[simp] theorem pairK_t (k v : D) : pairK (.tuple [k, v]) = if kk0 k = true then some (k, v) else none := rfl
def mergeT (l : List (D × Tr)) (ps : List (D × D)) : List (D × Tr) := ps.foldl (fun acc p => putT acc p.1 (.dat p.2)) l
@[simp] theorem mergeT_nil (l : List (D × Tr)) : mergeT l [] = l := rfl
@[simp] theorem mergeT_cons (l : List (D × Tr)) (p : D × D) (ps : List (D × D)) : mergeT l (p :: ps) = mergeT (putT l p.1 (.dat p.2)) ps := rfl
section
variable {K : Fg} {J H : Hp}
theorem shK {a : Addr} {kvs : List (Key × V)} {l : List (D × Tr)} {kk : Key} (v' : V) (t' : Tr) (hm : l.map (·.1) = kvs.map (fun p => keyD p.1)) (hnd : (kvs.map (·.1)).Nodup) :
    ((putT l (keyD kk) t').map (·.1) = (putK kvs kk v').map (fun p => keyD p.1) ∧ ((putK kvs kk v').map (·.1)).Nodup) ∧ ((∃ n, n < (kvs.map (·.2)).length ∧ (putK kvs kk v').map (·.2) = (kvs.map (·.2)).set n v' ∧ (putT l (keyD kk) t').map (·.2) = (l.map (·.2)).set n t') ∨
      ((putK kvs kk v').map (·.2) = kvs.map (·.2) ++ [v'] ∧ (putT l (keyD kk) t').map (·.2) = l.map (·.2) ++ [t'])) := by
  cases hx : keyIx l (keyD kk) with
  | some n =>
    obtain ⟨p, hp, e⟩ := key_K hm hx
    have ep : putK kvs kk v' = setV kvs n v' := by
      unfold putK
      rw [any_key hp e]
      exact putK_set hnd hp e
    have et : putT l (keyD kk) t' = setV l n t' := by unfold putT; rw [hx]
    have hn := (List.getElem?_eq_some_iff.mp hp).1
    refine ⟨⟨?_, by rw [ep, setV_fst]; exact hnd⟩, .inl ⟨n, by simpa using hn, by rw [ep, setV_snd], by rw [et, setV_snd]⟩⟩
    have := congrArg (List.map keyD) (setV_fst kvs n v')
    rw [List.map_map, List.map_map] at this
    rw [et, ep, setV_fst, hm]
    exact this.symm
  | none =>
    have no := key_K0 hm hx
    have ep : putK kvs kk v' = kvs ++ [(kk, v')] := by
      unfold putK
      rw [any_no no]
      rfl
    have et : putT l (keyD kk) t' = l ++ [(keyD kk, t')] := by unfold putT; rw [hx]
    refine ⟨⟨by rw [et, ep, List.map_append, List.map_append, hm]; rfl, ?_⟩, .inr ⟨by rw [ep, List.map_append]; rfl, by rw [et, List.map_append]; rfl⟩⟩
    rw [ep, List.map_append]
    refine List.nodup_append.mpr ⟨hnd, by simp, fun x hx y hy e => ?_⟩
    obtain ⟨p, hp, rfl⟩ := List.mem_map.mp hx
    exact no p hp (by rw [e]; simpa using hy)
theorem trs_nil : ∀ {vs : List V} {ts : List Tr} {f : List Addr}, TrAts K J H vs ts f → f = [] → TrAts K J H vs ts [] := fun h e => e ▸ h
theorem merge_ok : ∀ (more : List (Key × V)) (ps : List (D × D)) {kvs : List (Key × V)} {l : List (D × Tr)}, Paired (fun (kv : Key × V) (p : D × D) => p.1 = keyD kv.1 ∧ Rp K J kv.2 p.2) more ps → l.map (·.1) = kvs.map (fun p => keyD p.1) → (kvs.map (·.1)).Nodup → TrAts K J H (kvs.map (·.2)) (l.map (·.2)) [] →
    (mergeT l ps).map (·.1) = (mergeK kvs more).map (fun p => keyD p.1) ∧ ((mergeK kvs more).map (·.1)).Nodup ∧ TrAts K J H ((mergeK kvs more).map (·.2)) ((mergeT l ps).map (·.2)) []
  | [], _, _, _, .nil, hm, hn, ht => ⟨hm, hn, ht⟩
  | kv :: more, p :: ps, kvs, l, .cons ⟨e, r⟩ h, hm, hn, ht => by
    obtain ⟨⟨q1, q2⟩, q3⟩ := shK (kk := kv.1) kv.2 (.dat p.2) hm hn (a := 0)
    have t2 : TrAts K J H ((putK kvs kv.1 kv.2).map (·.2)) ((putT l (keyD kv.1) (.dat p.2)).map (·.2)) [] := by
      rcases q3 with ⟨n, k1, k2, k3⟩ | ⟨k2, k3⟩
      · obtain ⟨f', z1, _, z3⟩ := ht.setv (n := n) (.refl J) (fun b hb => nomatch hb) (TrAt.dat (H := H) r) k1 List.nodup_nil List.nodup_nil (fun b hb => nomatch hb)
        rw [k2, k3]
        refine trs_nil z1 (List.eq_nil_iff_forall_not_mem.mpr fun b hb => ?_)
        rcases z3 b hb with z | z <;> cases z
      · obtain ⟨f', z1, _, z3⟩ := ht.addv (.refl J) (fun b hb => nomatch hb) (TrAt.dat (H := H) r) List.nodup_nil List.nodup_nil (fun b hb => nomatch hb)
        rw [k2, k3]
        refine trs_nil z1 (List.eq_nil_iff_forall_not_mem.mpr fun b hb => ?_)
        rcases z3 b hb with z | z <;> cases z
    have e2 : mergeT l (p :: ps) = mergeT (putT l (keyD kv.1) (.dat p.2)) ps := by rw [mergeT_cons, e]
    rw [e2]
    exact merge_ok more ps h q1 q2 t2
theorem pairs_at : ∀ {ds : List D} {ps : List (D × D)} {vs : List V}, ds.mapM pairK = some ps → RpAll K J vs ds → ∃ (as : List Addr) (kvs : List (Key × V)), vs = as.map V.ref ∧ Paired (fun p kv => SqT K J p [kV kv.1, kv.2]) as kvs ∧ Paired (fun (kv : Key × V) (p : D × D) => p.1 = keyD kv.1 ∧ Rp K J kv.2 p.2) kvs ps
  | [], ps, vs, h, r => by
    cases r
    simp at h
    subst h
    exact ⟨[], [], rfl, .nil, .nil⟩
  | d :: ds, ps, vs, h, r => by
    rw [List.mapM_cons] at h
    cases hd : pairK d with
    | none => rw [hd] at h; cases h
    | some p =>
      rw [hd] at h
      cases hr : ds.mapM pairK with
      | none => rw [hr] at h; cases h
      | some qs =>
        rw [hr] at h
        cases h
        cases r with
        | cons r1 r2 =>
          obtain ⟨as, kvs, rfl, k2, k3⟩ := pairs_at hr r2
          unfold pairK at hd
          split at hd
          · rename_i k v
            split at hd
            · rename_i h0
              cases hd
              obtain ⟨kk, rfl, _⟩ := kk0_some h0
              cases r1 with
              | @tup a xs _ hs ha =>
                cases ha with
                | cons a1 a2 =>
                  cases a2 with
                  | cons b1 b2 =>
                    cases b2
                    cases keyD_rp a1
                    exact ⟨a :: as, (kk, _) :: kvs, rfl, .cons hs k2, .cons ⟨rfl, b1⟩ k3⟩
            · cases hd
          · cases hd
end
@[simp] def trDictP (fa : Env → Out (List VV)) (ρ : Env) : Out Tr := (fa ρ).bind fun xs ρ1 => match vals xs with
  | some [.list ds] => match ds.mapM pairK with
    | some ps => .ok (.dct (mergeT [] ps)) ρ1
    | none => .bad
  | _ => .bad
section
variable {X : Cx} {Y : Yx} {e : Expr} {pos : Pos}
theorem paired_up {K : Fg} {J H : Hp} (s : Same J H) : ∀ {as : List Addr} {kvs : List (Key × V)}, Paired (fun p kv => SqT K J p [kV kv.1, kv.2]) as kvs → Paired (fun p kv => SqT K H p [kV kv.1, kv.2]) as kvs
  | _, _, .nil => .nil
  | _, _, .cons h t => .cons (same_t s h) (paired_up s t)
theorem dtr_dictP {x : Str} {p : Pos} {fa : Env → Out (List VV)} (hcalm : X.calm = true) (hm : X.mg x = none) (hv : bootBuiltins x = some (.type "dict")) (ha : DA X Y [e] fa) (hg : Gl X x := by rfl) (hn : x ≠ "__name__" := by decide)
    (hdb : (x == ("__debug__" : Str)) = false := by decide) (he : starEach [e] X.env = (false, eval e X.env) :: starEach [] X.env := by rfl) (hpl : (backTo pos (starEach [] X.env)).any (·.1) = false := by rfl) : DTr X Y (.Call (.Name x p) [e] [] pos) (trDictP fa) := by
  refine PE.imp (pe_callTy (call_dictP hcalm) hg hm hv ha hn hdb he hpl) fun σ H Q ⟨G, J, ρ, er, h⟩ => ⟨G, J, ρ, er, PostT.of h fun xs ρ1 vs J1 H1 s1 r1 e1 h1 => ?_⟩
  split at h1
  · rename_i ds hds
    split at h1
    · rename_i ps hps
      have rr := vals_ok r1 hds
      cases rr with
      | cons r2 r3 =>
        cases r3
        cases r2 with
        | @lst a ws _ hs ha =>
          obtain ⟨as, kvs, rfl, k2, k3⟩ := pairs_at hps ha
          refine ⟨a, as, kvs, rfl, same_l e1.ex hs, paired_up e1.ex k2, fun q hq => ?_⟩
          obtain ⟨z1, z2, z3⟩ := merge_ok (H := upd H1 q (.dK (mergeK [] kvs))) kvs ps (kvs := []) (l := []) k3 rfl List.nodup_nil .nil
          exact h1.now (f := [q]) (.nod upd_same (.dctK _ _ z1 z2) z3) (by simp) (by rw [cutF_new hq]; exact e1)
    · exact h1.elim
  · exact h1.elim
end
end DL
namespace DL
open PySem PySem.Spec L2 PyProof.Rows
def minB (x : D) (xs : List D) : D := xs.foldl (fun a y => if ltB y a then y else a) x
def minOk (xs : List D) : Bool := pairsOk xs && decide (PyData.depthAll xs ≤ 60)
def dMinA : List D → Option D
  | [.list (.tuple a :: xs)] => if minOk (.tuple a :: xs) = true then some (minB (.tuple a) xs) else none
  | ds => dMin ds
@[simp] theorem dMinA_t (a xs : List D) : dMinA [.list (.tuple a :: xs)] = if minOk (.tuple a :: xs) = true then some (minB (.tuple a) xs) else none := rfl
@[simp] theorem dMinA_i (i : Int) (xs : List D) : dMinA [.list (.int i :: xs)] = dMin [.list (.int i :: xs)] := rfl
@[simp] theorem dMinA_2 (i j : Int) : dMinA [.int i, .int j] = dMin [.int i, .int j] := rfl
theorem cmpIn_B {prog : Program} {w : World} {A : Around} {s : Shared} {vs : Array Value} {xs : List D} {as : List Addr} (hr : ReadsAll s.heap vs.toList xs as) (ok : pairsOk xs = true) (hu : A.units + PyData.depthAll xs < cLine) :
    CmpIn prog w A .Lt s.heap (fun i v => vs[i]? = some v) (fun i j => ltB (xs.getD i .none) (xs.getD j .none)) := by
  intro i j vi vj s' Q E keep hi hj q
  obtain ⟨bs, r1, _, m1, d1⟩ := PySem.W.readsAll_atA hr i vi hi
  obtain ⟨cs, r2, _, m2, d2⟩ := PySem.W.readsAll_atA hr j vj hj
  have p1 := pairsOk_at ok m1 m2
  exact rc_lt _ _ A s' vi vj _ _ p1.1 (pairsOk_at ok m2 m2).1 p1.2 (by omega) (PySem.W.reads_keeps keep r1) (PySem.W.reads_keeps keep r2) prog w E Q q
theorem min_lst {prog : Program} {w : World} {A : Around} {E : Value → Shared → Prop} {s : Shared} {l : Addr} {vs : Array Value} {x : D} {xs : List D} {as : List Addr} {Q : Value → Shared → Prop} (hh : A.handled = none) (hl : s.heap.IsList l vs) (hr : ReadsAll s.heap vs.toList (x :: xs) as) (ok : pairsOk (x :: xs) = true)
    (hu : A.units + 1 + PyData.depthAll (x :: xs) < cLine) (h : ∀ (i : Nat) v h' tk, vs[i]? = some v → (x :: xs)[i]? = some (minB x xs) → (∀ b o, s.heap.get? b = some o → h'.get? b = some o) → Q v { s with heap := h', toks := tk }) :
    wpAny (model prog w) A (call (.builtin "min") [.ref l]) Q E s := by
  have hn : vs.size = xs.length + 1 := PySem.W.readsAll_len hr
  refine call_min_walkH (PySem.W.iter_listW (A := A.in1) hh hl fun s₂ e W st hfp hw hk => ⟨_, _, _, _, _, _, _, s.heap, _, rfl, W, st, hfp, by omega, hw, hk, cmpIn_B (A := A.in1) hr ok (by show A.units + 1 + _ < _; exact hu), fun v s' hP m => ?_⟩)
  obtain ⟨h', tk, rfl, hk'⟩ := PySem.W.moved_old e rfl m
  obtain ⟨bs, r, hlt, _, _⟩ := PySem.W.readsAll_atA hr _ v hP
  have e1 : vs.size - 1 = xs.length := by omega
  have e2 := (PySem.W.argBest_fold ltB PyData.none x xs xs.length (Nat.le_refl _)).2
  rw [List.take_length] at e2
  rw [e1] at hP hlt
  refine h _ v h' tk hP ?_ hk'
  rw [List.getD_eq_getElem?_getD, List.getElem?_eq_getElem hlt] at e2
  rw [List.getElem?_eq_getElem hlt]
  exact congrArg some e2
section
variable {X : Cx}
theorem cd_minA (hc : X.calm = true) (hu : X.A.units + 64 < cLine) : CallD X (.builtin "min") dMinA := by
  intro pins s σ H xs us Q I r ⟨J, dsx, d, sj, w, e, q⟩
  unfold dMinA at e
  split at e
  · rename_i a ds
    split at e
    · rename_i hok
      cases e
      unfold minOk at hok
      rw [Bool.and_eq_true, decide_eq_true_iff] at hok
      obtain ⟨v, rfl, wv⟩ := wks1 w
      obtain ⟨b, vs, rfl, h1, r1⟩ := wv.list sj
      obtain rfl := Vals.ref1 r
      obtain ⟨its, rv, ht, hz⟩ := I.list h1
      have od : orddL (.tuple a :: ds) = true := by
        have : ∀ l : List D, (∀ x ∈ l, ordd x = true) → orddL l = true := by
          intro l
          induction l with
          | nil => intro _; rfl
          | cons x l ih =>
            intro h
            unfold orddL
            rw [h x (by simp), ih fun y hy => h y (List.mem_cons_of_mem _ hy)]
            rfl
        exact this _ fun x hx => (pairsOk_at hok.1 hx hx).1
      have dp : DpAll X.G H vs (.tuple a :: ds) := rps_dp _ vs (orddL_lay _ od) (dps_mono sj _ _ r1)
      obtain ⟨as, ra⟩ := Dp.readsAll I _ vs its dp rv
      refine min_lst (I.ok.hd hc) ht.isList ra hok.1 (by omega) fun i v h' tk hv hd hk => ?_
      obtain ⟨u, k1, k2⟩ := dps_get r1 hd
      obtain ⟨u', k3, k4⟩ := rv.get k1
      rw [← Array.getElem?_toList, k3] at hv
      cases hv
      exact ⟨u, H, I.kept (t' := tk) hk, k4, q u J H (.refl sj) k2⟩
    · cases e
  · exact cd_min hc pins s σ H xs us Q I r ⟨J, _, d, sj, w, e, q⟩
end
end DL
namespace DL
open PySem PySem.Spec L2 PyProof.Rows
def ltOk (d e : D) : Bool := ordd d && (ordd e && (cmpOk d e && decide (d.depth ≤ 60)))
def dLtA : D → D → Option D
  | .tuple a, .tuple b => if ltOk (.tuple a) (.tuple b) = true then some (.bool (ltB (.tuple a) (.tuple b))) else none
  | d, e => dLt d e
@[simp] theorem dLtA_t (a b : List D) : dLtA (.tuple a) (.tuple b) = if ltOk (.tuple a) (.tuple b) = true then some (.bool (ltB (.tuple a) (.tuple b))) else none := rfl
@[simp] theorem dLtA_i (i j : Int) : dLtA (.int i) (.int j) = some (.bool (decide (i < j))) := rfl
@[simp] theorem dLtA_s (a b : Str) : dLtA (.str a) (.str b) = some (.bool (decide (a.cps.toList < b.cps.toList))) := rfl
section
variable {X : Cx}
theorem od_ltA (hu : X.A.units + 64 < cLine) : OpD X (compareOp .Lt) dLtA := by
  intro pins s σ H x y v u Q I rx ry ⟨J, dx, dy, d, sj, wx, wy, e, q⟩
  unfold dLtA at e
  split at e
  · rename_i a b
    split at e
    · rename_i hok
      cases e
      unfold ltOk at hok
      simp only [Bool.and_eq_true, decide_eq_true_iff] at hok
      obtain ⟨h1, h2, h3, h4⟩ := hok
      obtain ⟨as, r1⟩ := Dp.reads I _ x v (rp_dp _ _ (ordd_lay _ h1) (wx.rp sj)) rx
      obtain ⟨bs, r2⟩ := Dp.reads I _ y u (rp_dp _ _ (ordd_lay _ h2) (wy.rp sj)) ry
      exact rc_lt _ _ X.A s v u as bs h1 h2 h3 (by omega) r1 r2 X.prog X.w X.xe (EP X pins σ Q) ⟨.bl _, H, I, rfl, q _ J H (.refl sj) (.bl _)⟩
    · cases e
  · exact od_lt pins s σ H x y v u Q I rx ry ⟨J, _, _, d, sj, wx, wy, e, q⟩
end
end DL
namespace DL
open PySem PySem.Spec L2 PyProof.Rows
open PySem.AutoSeq1 (wpAny_loadPart')
open PySem.MeetsSeq PySem.MeetsSeq2 PySem.MeetsSeq3
section
variable {X : Cx} {Y : Yx} {e : Expr} {pos : Pos}
@[simp] def sExtD (i : Nat) (f : EC) (ρ : Env) : SO := match ρ[i]? with
  | some (.own _ (.lst _)) => (f ρ).then fun y ρ1 => match y with
    | .val (.list ys) => match ρ1[i]? with
      | some (.own fx (.lst xs)) => if xs.length + ys.length ≤ sizeLine then .nx (ρ1.set i (.own fx (.lst (xs ++ ys)))) else .bad
      | _ => .bad
    | _ => .bad
  | _ => .bad
end
end DL
namespace DL
open PySem PySem.Spec L2 PyProof.Rows
section
variable {K : Fg} {G : Gd} {J H J' H' : Hp} {σ : L2.St} {ρ : Env}
end
section
variable {X : Cx} {Y : Yx} {e : Expr}
end
end DL
namespace DL
open PySem PySem.Spec L2 PyProof.Rows
section
variable {K : Fg} {J H : Hp}
theorem TrAts.ext {vs : List V} {ts : List Tr} {f : List Addr} (h : TrAts K J H vs ts f) : ∀ {ws : List V} {ds : List D}, RpAll K J ws ds → TrAts K J H (vs ++ ws) (ts ++ ds.map .dat) f
  | _, _, .nil => by simpa using h
  | _, _, .cons (v := w) (vs := ws) (d := d) (ds := ds) r rs => by
    have h1 := (h.snoc r).ext rs
    simpa using h1
end
@[simp] def sExtT (i : Nat) (f : EC) (ρ : Env) : SO := match ρ[i]? with
  | some (.own _ (.tr (.lst _))) => (f ρ).then fun y ρ1 => match y with
    | .val (.list ys) => match ρ1[i]? with
      | some (.own fx (.tr (.lst xs))) => if xs.length + ys.length ≤ sizeLine then .nx (ρ1.set i (.own fx (.tr (.lst (xs ++ ys.map .dat))))) else .bad
      | _ => .bad
    | _ => .bad
  | _ => .bad
section
variable {X : Cx} {Y : Yx} {e : Expr} {pos : Pos}
end
end DL
namespace DL
open PySem PySem.Spec L2 PyProof.Rows
section
variable {X : Cx} {Y : Yx}
theorem md_sindex : MtD X "str.index" dSIndex := by
  refine md_of mt_sindex fun x xs H Q ⟨J, dx, ds, d, s, wx, w, e, q⟩ => ?_
  unfold dSIndex at e
  split at e
  · rename_i a b
    split at e
    · rename_i i rest ho
      cases e
      cases wx.str
      obtain ⟨v, rfl, wv⟩ := wks1 w
      cases wv.str
      exact ⟨a, b, i, rest, rfl, rfl, ho, q _ J H (.refl s) (.int _)⟩
    · cases e
  · cases e
@[simp] def nMeth (g : D → List D → Option (List D)) (fo : EC) (fa : Env → Out (List VV)) (ρ : Env) : Out (List D) := (fo ρ).bind fun o ρ1 => match deref ρ1 o with
  | some d0 => if dTy "str" d0 = true then (fa ρ1).bind fun xs ρ2 => match deref ρ2 o, derefs ρ2 xs with
      | some dx, some ds => match g dx ds with
        | some d => .ok d ρ2
        | none => .bad
      | _, _ => .bad
    else .bad
  | none => .bad
end
end DL
namespace DL
open PySem PySem.Spec L2 PyProof.Rows
section
variable {X : Cx} {Y : Yx} {e : Expr} {pos : Pos}
@[simp] def sExtO (i : Nat) (f : EC) (ρ : Env) : SO := match ρ[i]? with
  | some (.own _ (.lst _)) => (f ρ).then fun y ρ1 => match deref ρ1 y with
    | some (.list ys) => match ρ1[i]? with
      | some (.own fx (.lst xs)) => if xs.length + ys.length ≤ sizeLine then .nx (ρ1.set i (.own fx (.lst (xs ++ ys)))) else .bad
      | _ => .bad
    | _ => .bad
  | _ => .bad
end
end DL
namespace DL
open PySem PySem.Spec L2 PyProof.Rows
section
variable {X : Cx} {Y : Yx} {e : Expr} {pos : Pos}
@[simp] def ePopAt (i : Nat) (f : EC) (ρ : Env) : Out VV := match ρ[i]? with
  | some (.own _ (.lst _)) => (f ρ).bind fun y ρ1 => match y with
    | .val (.int k) => match ρ1[i]? with
      | some (.own fx (.lst xs)) => match ixN xs.length k with
        | some j => match xs[j]? with
          | some d => if xs.length ≤ 100000 then .ok (.val d) (ρ1.set i (.own fx (.lst (xs.eraseIdx j)))) else .bad
          | none => .bad
        | none => .bad
      | _ => .bad
    | _ => .bad
  | _ => .bad
end
end DL
namespace DL
open PySem PySem.Spec L2 PyProof.Rows
abbrev sgns (x : Str) : List D := x.cps.toList.map fun c => .str ⟨#[c]⟩
def nListS : List D → Option (List D)
  | [.str x] => if x.cps.size ≤ 10000 then some (sgns x) else none
  | xs => nListA xs
def nSortedS : List D → Option (List D)
  | [.str x] => if x.cps.size ≤ 10000 ∧ srtOk (sgns x) = true then some (srtB (sgns x)) else none
  | xs => nSortedA xs
@[simp] theorem nListS_s (x : Str) : nListS [.str x] = if x.cps.size ≤ 10000 then some (sgns x) else none := rfl
@[simp] theorem nSortedS_s (x : Str) : nSortedS [.str x] = if x.cps.size ≤ 10000 ∧ srtOk (sgns x) = true then some (srtB (sgns x)) else none := rfl
section
variable {X : Cx}
end
end DL
namespace DL
open PySem PySem.Spec L2 PyProof.Rows
def revS (a : Str) : Str := ⟨a.cps.toList.reverse.toArray⟩
def dRevS : D → Option D
  | .str a => if a.cps.size ≤ 10000 then some (.str (revS a)) else none
  | d => dRev d
@[simp] theorem dRevS_s (a : Str) : dRevS (.str a) = if a.cps.size ≤ 10000 then some (.str (revS a)) else none := rfl
@[simp] theorem dRevS_l (xs : List D) : dRevS (.list xs) = some (.list xs.reverse) := rfl
@[simp] theorem dRevS_t (xs : List D) : dRevS (.tuple xs) = some (.tuple xs.reverse) := rfl
@[simp] def eRevS (f : EC) (ρ : Env) : Out VV := (f ρ).bind fun x ρ1 => match deref ρ1 x with
  | some d => match dRevS d with
    | some d' => .ok (.val d') ρ1
    | none => .bad
  | none => .bad
end DL
namespace DL
open PySem PySem.Spec L2 PyProof.Rows
def dcRun (vs : List Nat) (set : D → Env → Option Env) (t : TC) (fk fv : EC) : List D → Env → List (D × D) → Out (List (D × D))
  | [], ρ, acc => .ok acc ρ
  | d :: ds, ρ, acc => match set d ρ with
    | none => .bad
    | some ρ1 => match t ρ1 with
      | .ok true ρ2 => match fk ρ2 with
        | .ok (.val k) ρ3 => match fv ρ3 with
          | .ok (.val v) ρ4 => if kk0 k = true ∧ acc.length < sizeLine ∧ allPlain ρ4 vs = true then dcRun vs set t fk fv ds (wipeE ρ4 vs) (acc ++ [(k, v)]) else .bad
          | _ => .bad
        | _ => .bad
      | .ok false ρ2 => if allPlain ρ2 vs = true then dcRun vs set t fk fv ds (wipeE ρ2 vs) acc else .bad
      | _ => .bad
@[simp] def trDc (vs : List Nat) (fi : Env → Out (List D)) (set : D → Env → Option Env) (t : TC) (fk fv : EC) (ρ : Env) : Out Tr := (fi ρ).bind fun ds ρ1 => if allPlain ρ1 vs = true then
    match dcRun vs set t fk fv ds (wipeE ρ1 vs) [] with
    | .ok ps ρ2 => .ok (.dct (mergeT [] ps)) (backE ρ1 ρ2 vs)
    | _ => .bad
  else .bad
section
variable {K : Fg} {Y : Yx}
end
section
variable {X : Cx} {Y : Yx}
end
section
end
end DL
namespace DL
open PySem PySem.Spec L2 PyProof.Rows
def dLIndex : D → List D → Option D
  | .list ds, [d] => if SeqAt.shaped (.list ds) = true ∧ SeqAt.shaped d = true then (ds.findIdx? fun z => PyData.eqv z d).map fun j => .int (j : Nat) else none
  | _, _ => none
@[simp] theorem dLIndex_l (ds : List D) (d : D) : dLIndex (.list ds) [d] = if SeqAt.shaped (.list ds) = true ∧ SeqAt.shaped d = true then (ds.findIdx? fun z => PyData.eqv z d).map fun j => .int (j : Nat) else none := rfl
section
variable {X : Cx} {Y : Yx}
end
end DL
namespace L2
open PySem PySem.Spec PyProof.Rows
section
variable {X : Cx}
end
end L2
namespace DL
open PySem PySem.Spec L2 PyProof.Rows
section
variable {X : Cx} {Y : Yx}
end
end DL
namespace DL
open PySem PySem.Spec L2 PyProof.Rows
def dMinS : List D → Option D
  | [.list (.str a :: xs)] => if minOk (.str a :: xs) = true then some (minB (.str a) xs) else none
  | ds => dMinA ds
@[simp] theorem dMinS_s (a : Str) (xs : List D) : dMinS [.list (.str a :: xs)] = if minOk (.str a :: xs) = true then some (minB (.str a) xs) else none := rfl
section
variable {X : Cx}
end
end DL
namespace DL
open PySem PySem.Spec L2 PyProof.Rows
def onceI (ns : List Int) : List Int := ns.foldl step_dedup []
def intO : D → Option Int
  | .int i => some i
  | _ => none
def dLenSet : D → Option D
  | .list ds => (ds.mapM intO).bind fun ns => if ns.length ≤ 4000 then some (.int ((onceI ns).length : Nat)) else none
  | _ => none
theorem mapM_intO (ns : List Int) : (ns.map PyData.int).mapM intO = some ns := by
  induction ns with
  | nil => rfl
  | cons n ns ih => rw [List.map_cons, List.mapM_cons, ih]; rfl
@[simp] theorem dLenSet_i (ns : List Int) : dLenSet (.list (ns.map .int)) = if ns.length ≤ 4000 then some (.int ((onceI ns).length : Nat)) else none := by
  show ((ns.map PyData.int).mapM intO).bind _ = _
  rw [mapM_intO]
  rfl
theorem intO_some : ∀ {ds : List D} {ns : List Int}, ds.mapM intO = some ns → ds = ns.map .int
  | [], ns, h => by cases h; rfl
  | d :: ds, ns, h => by
    rw [List.mapM_cons] at h
    cases d with
    | int i =>
      cases hr : ds.mapM intO with
      | none => rw [hr] at h; cases h
      | some m =>
        rw [hr] at h
        cases h
        rw [intO_some hr]
        rfl
    | _ => cases h
theorem once_met (ns : List Int) : firstMet (fun i => ns.getD i 0) ns.length = onceI ns := by
  have e : (List.range ns.length).map (fun i => ns.getD i 0) = ns := List.ext_getElem (by simp) fun i h1 h2 => by
    rw [List.getElem_map, List.getElem_range, List.getD_eq_getElem?_getD, List.getElem?_eq_getElem h2, Option.getD_some]
  unfold firstMet onceI
  rw [e]
theorem rp_ints {K : Fg} {J : Hp} : ∀ {vs : List V} {ns : List Int}, RpAll K J vs (ns.map .int) → vs = ns.map V.int
  | [], [], _ => rfl
  | v :: vs, n :: ns, h => by
    cases h with
    | cons h1 h2 =>
      cases h1
      rw [rp_ints h2]
      rfl
  | [], _ :: _, h => by cases h
  | _ :: _, [], h => by cases h
@[simp] def eLenSet (f : EC) (ρ : Env) : Out VV := (f ρ).bind fun x ρ1 => match x with
  | .val d => match dLenSet d with
    | some n => .ok (.val n) ρ1
    | none => .bad
  | _ => .bad
section
variable {X : Cx} {Y : Yx} {a : Expr} {f : EC} {ta : TE} {p p2 q pos : Pos}
theorem pe_manyOf (calm : X.calm = true) (gl : Gl X "len") (nl : X.mg "len" = none) (gs : Gl X "set") (ns_ : X.mg "set" = none) (arg : PE X a ta) (one : starEach [a] X.env = (false, eval a X.env) :: starEach [] X.env := by rfl) :
    PE X (.Call (.Name "len" p) [.Call (.Name "set" p2) [a] [] q] [] pos) (fun σ H Q => ta σ H fun x H1 => ∃ (l : Addr) (ns : List Int), x = .ref l ∧ SqL X.K H1 l (ns.map V.int) ∧ ns.length ≤ 4000 ∧ Q (.int ((onceI ns).length : Nat)) H1) := by
  constructor
  intro pins s σ H Q I h
  refine Call_ (ld_blt I gl nl boot_len ?_)
  refine callWith_builtin1 (args_cons ?_ rfl) rfl rfl
  refine Call_ (ld_blt I gs ns_ boot_set ?_)
  refine callWith_type1 (args_cons (thn (arg.run pins s σ H _ I h) fun v s1 got => args_nil ?_) one) one rfl
  obtain ⟨x, H1, I1, r1, l, ns, rfl, sq, small, fin⟩ := got
  cases r1
  obtain ⟨its, vals, plain, _⟩ := I1.list sq
  have size : its.toArray.size = ns.length := by
    have := vals.length
    rw [List.length_map] at this
    rw [List.size_toArray, this]
  refine PySem.call_set_list (I1.ok.hd calm) plain.isList (by simpa using RZ.intsAre_vals vals) (by rw [size]; unfold scanBound; omega) fun h' tk made kept => ?_
  refine args_nil ?_
  rw [size, once_met] at made
  obtain ⟨o, es, ep, t, at_, ex, dat, _, _, _, fits, many⟩ := made
  have I2 : Inv X pins σ H1 { s1 with heap := h', toks := tk } := I1.kept fun b o e => kept b o (Heap.lt_size e) e
  have le : (onceI ns).length ≤ ns.length := by
    have := firstMet_length_le (fun i => ns.getD i 0) ns.length
    rw [once_met] at this
    exact this
  exact call_len_set at_ ex dat fits (by rw [many]; omega) ⟨.int (onceI ns).length, H1, I2.tok _, ⟨_, by rw [many]⟩, fin⟩
theorem de_lenSet (calm : X.calm = true) (nl : X.mg "len" = none) (ns_ : X.mg "set" = none) (arg : DE X Y a f) (gl : Gl X "len" := by rfl) (gs : Gl X "set" := by rfl) (one : starEach [a] X.env = (false, eval a X.env) :: starEach [] X.env := by rfl) :
    DE X Y (.Call (.Name "len" p) [.Call (.Name "set" p2) [a] [] q] [] pos) (eLenSet f) := by
  refine PE.imp (pe_manyOf calm gl nl gs ns_ arg one) fun σ H Q ⟨G, J, ρ, er, h⟩ => ⟨G, J, ρ, er, Post.bind h fun x ρ1 v J1 H1 s1 r1 e1 h1 => ?_⟩
  cases x with
  | val d =>
    simp only at h1
    cases hd : dLenSet d with
    | none => rw [hd] at h1; exact h1.elim
    | some n =>
      rw [hd] at h1
      cases d with
      | list ds =>
        have hd : (ds.mapM intO).bind (fun ns => if ns.length ≤ 4000 then some (PyData.int ((onceI ns).length : Nat)) else none) = some n := hd
        cases hm : ds.mapM intO with
        | none => rw [hm] at hd; cases hd
        | some ns =>
          rw [hm] at hd
          have hd : (if ns.length ≤ 4000 then some (PyData.int ((onceI ns).length : Nat)) else none) = some n := hd
          split at hd
          · rename_i small
            cases hd
            obtain rfl := intO_some hm
            cases r1 with
            | lst sq al =>
              obtain rfl := rp_ints al
              exact ⟨_, ns, rfl, same_l e1.ex sq, small, h1 _ J1 H1 (.refl _) (.int _) e1⟩
          · cases hd
      | _ => cases hd
  | slot i => exact h1.elim
end
end DL
namespace DL
open PySem PySem.Spec L2 PyProof.Rows
def lenAt (ρ : Env) (i : Nat) : Int := match atP ρ i [] with
  | some (.dct l) => (l.length : Nat)
  | _ => 0
@[simp] def qSdfLK (i : Nat) (fk : EC) (q : PV) (ρ1 : Env) : Out PV := match q with
  | .pl j [] => if j = i then qSdfK fk (fun ρ => .ok (.dat (.int (lenAt ρ1 i))) ρ) (.pl j []) ρ1 else .bad
  | _ => .bad
@[simp] def qSdfL (i : Nat) (fk : EC) (ρ : Env) : Out PV := (qVar i ρ).bind (qSdfLK i fk)
section
variable {X : Cx} {Y : Yx} {e : Expr} {pos apos p : Pos}
theorem pe_lenVar (i : Nat) {x : Str} {npos : Pos} (nl : X.mg "len" = none) (hN : X.N[i]? = some x := by rfl) (hv : Vis X.env.scope x := by first | exact Or.inl rfl | exact Or.inr (Or.inl rfl) | exact Or.inr (Or.inr rfl)) (hd : (x == ("__debug__" : Str)) = false := by decide)
    (hcd : (x == ("__classdict__" : Str)) = false := by decide) (hg : Gl X "len" := by rfl) (one : starEach [Expr.Name x npos] X.env = (false, eval (Expr.Name x npos) X.env) :: starEach [] X.env := by rfl) (hpl : (backTo pos (starEach [] X.env)).any (·.1) = false := by rfl) :
    PE X (.Call (.Name "len" p) [.Name x npos] [] pos) (fun σ H Q => ∃ a n, σ[i]? = some (some (V.ref a)) ∧ DLen X.G H a n ∧ Q (.int (n : Nat)) H) := by
  refine PE.imp (pe_callB call_nlen hg nl boot_len (pa_cons (pe_var (i := i) hN hv hd hcd) pa_nil one) (by decide) (by decide) one hpl) fun σ H Q ⟨a, n, h1, h2, h3⟩ => ?_
  exact ⟨.ref a, h1, a, n, rfl, h2, h3⟩
theorem dq_sdfL (i : Nat) {x : Str} {npos npos2 lpos : Pos} {fk : EC} (hu : X.A.units + 64 < cLine) (nl : X.mg "len" = none) (he : DE X Y e fk) (hN : X.N[i]? = some x := by rfl) (hv : Vis X.env.scope x := by first | exact Or.inl rfl | exact Or.inr (Or.inl rfl) | exact Or.inr (Or.inr rfl)) (hd : (x == ("__debug__" : Str)) = false := by decide)
    (hcd : (x == ("__classdict__" : Str)) = false := by decide) (hg : Gl X "len" := by rfl) (one : starEach [Expr.Name x npos2] X.env = (false, eval (Expr.Name x npos2) X.env) :: starEach [] X.env := by rfl) (hpl : (backTo lpos (starEach [] X.env)).any (·.1) = false := by rfl)
    (m : M2 X (.Name x npos) "setdefault" apos e (.Call (.Name "len" p) [.Name x npos2] [] lpos) pos := by exact ⟨rfl, rfl, rfl, rfl⟩) :
    DQ X Y (.Call (.Attribute (.Name x npos) "setdefault" apos) [e, .Call (.Name "len" p) [.Name x npos2] [] lpos] [] pos) (qSdfL i fk) := by
  refine PE.imp (pe_nsdf hu (dq_var (Y := Y) i hN hv hd hcd) he (pe_lenVar (p := p) (pos := lpos) i nl hN hv hd hcd hg one hpl) m) fun σ H Q ⟨G, J, ρ, er, h⟩ => ⟨G, J, ρ, er, PostQ.bindQ h fun q ρ1 v J1 H1 s1 e1 p1 h1 => ?_⟩
  unfold qSdfLK at h1
  split at h1
  · rename_i j
    split at h1
    · rename_i hj
      subst hj
      unfold qSdfK at h1
      simp only at h1
      split at h1
      · rename_i l hat
        split at h1
        · rename_i k t hk ht
          have et : t = .dat (.int (lenAt ρ1 j)) := by
            unfold pureT at ht
            exact (Option.some.inj ht).symm
          subst et
          split at h1
          · rename_i hok
            obtain ⟨hok, hlen⟩ := hok
            have p1 : PlOk X.G G J1 H1 σ ρ1 j [] v := p1
            obtain ⟨fx, t0, a0, o0, vs, ts, g, rfl, nd⟩ := p1.nodeOk hat (by intro d z; cases z)
            have hdt : IsDt X.G H1 a0 := by
              have ho0 := nd.ho
              cases nd.hs with
              | dctK kvs l h1 h2 => exact .inl (.inl ⟨_, .inl ho0⟩)
              | dctN raw l h0 h1 h2 h3 h4 => exact .inr ⟨_, .inl ho0⟩
            have root : σ[j]? = some (some (V.ref a0)) := by
              obtain ⟨_, _, _, _, _, hr, _⟩ := p1
              exact hr rfl
            have en : lenAt ρ1 j = (l.length : Nat) := by
              unfold lenAt
              rw [hat]
            rw [en] at h1
            refine ⟨a0, rfl, hdt, pure_at e1 hk fun y J2 H2 g2 ry => ?_⟩
            have e3 : ER X.G G J2 H2 σ ρ1 := e1.grow g2
            have p3 : PlOk X.G G J2 H2 σ ρ1 j [] (.ref a0) := p1.grow g2
            obtain ⟨a9, ea9, dl⟩ := pl_dlen e3 p3 hat
            cases ea9
            refine ⟨a0, l.length, root, dl, ?_⟩
            split at h1
            · rename_i n hn
              split at h1
              · rename_i q s hs
                obtain ⟨a1, u, ea, gt, hv⟩ := step_dct0 (q := mkPV j ([] ++ [.k k]) s) e3 p3 hat (dp_mono' e3.ex ry) (by
                  unfold stepK
                  rw [hat]
                  simp only [hok, if_true, hn, hs])
                cases ea
                exact .inl ⟨u, gt, (PostQ.mono g2.j h1).now e3 hv⟩
              · exact h1.elim
            · rename_i hn
              have e4 : ER X.G G J2 (cutF H2 []) σ ρ1 := by rw [cutF_nil]; exact e3
              have p4 : PlOk X.G G J2 (cutF H2 []) σ ρ1 j [] (.ref a0) := by rw [cutF_nil]; exact p3
              obtain ⟨fx3, t3, a3, o3, vs3, ts3, g3', ea, nd3⟩ := p4.nodeOk hat (by intro d z; cases z)
              cases ea
              obtain ⟨o', vs', ts', q1, q2, q3, q4⟩ := tree_put e4.ex nd3.ho nd3.hs hok hlen ry (V.int (l.length : Nat)) (.dat (.int (l.length : Nat)))
              rw [show putT l k (.dat (.int (l.length : Nat))) = l ++ [(k, .dat (.int (l.length : Nat)))] by unfold putT; rw [hn]] at q3
              obtain ⟨g', nd4, e5⟩ := nd3.put e4 q3 (TrAt.dat (Rp.int _)) List.nodup_nil q4
              have hvl : vs3.length = ts3.length := nd3.hts.len
              have hts' : ts' = (l ++ [(k, Tr.dat (.int (l.length : Nat)))]).map (·.2) := q3.ch
              have hl3 : ts3.length = l.length := by rw [nd3.hs.ch]; simp
              have happ : vs' = vs3 ++ [V.int (l.length : Nat)] := by
                rcases q4 with ⟨m, hm, rfl, rfl⟩ | ⟨rfl, _⟩
                · have := congrArg List.length hts'
                  simp at this
                  omega
                · rfl
              have pc := nd4.child (s := .k k) (n := l.length) (c := .dat (.int (l.length : Nat))) (v1 := V.int (l.length : Nat)) (by rw [idxS_d, if_pos (dOkK_snoc hok), nkx_self hn]) (by rw [hts']; simp) (by rw [happ, List.getElem?_append_right (by omega)]; simp [hvl, hl3])
              exact .inr ⟨_, q2 hn _ cutF_same, (PostQ.mono g2.j h1).now e5 (mkPV_ok pc (by
                unfold atP rootT
                rw [nd4.hi]
                simp only
                rw [getP_snoc [] nd4.hg, getP_cons, idxS_d, if_pos (dOkK_snoc hok), nkx_self hn]
                simp))⟩
          · exact h1.elim
        · exact h1.elim
      · exact h1.elim
    · exact h1.elim
  · exact h1.elim
end
end DL
namespace LW
open PySem PySem.Spec L2 DL PyProof.Rows
noncomputable section
def top (i : Nat) : Stmt := PySem.Challenge.pw_joinedagain_k43_all_words_with_places.main.body.getD i (.Pass ⟨0, 0, 0, 0⟩)
abbrev s_is_integer : Stmt := top 6
abbrev s_met : Stmt := top 9
abbrev s_kinds_of : Stmt := top 10
abbrev s_least_of : Stmt := top 11
abbrev s_Placer_init : Stmt := inClass (top 14) 0
abbrev s_Placer_row_of : Stmt := inClass (top 14) 1
abbrev s_Placer_made : Stmt := inClass (top 12) 1
abbrev s_all_words : Stmt := top 15
abbrev s__law_tape : Stmt := top 17
abbrev s__law_draw : Stmt := top 18
abbrev s__law_pick : Stmt := top 19
abbrev s__law_signs : Stmt := top 20
abbrev s__law_string : Stmt := top 21
abbrev s__law_takes : Stmt := top 22
abbrev s__law_least_states : Stmt := top 23
abbrev s__law_all : Stmt := top 24
abbrev s__law_call : Stmt := top 25
abbrev s__law_is_one : Stmt := top 26
abbrev s_law : Stmt := top 27
abbrev si_BadTongue : Stmt := inClass (top 2) 0
def d_MOST_LEVEL : D := (.int 9)
def d_MOST_AUTOMATON : D := (.int 2000)
def sub_ : String → String → Bool := fun x y => x == y
def c_is_integer : SC :=
    (sRet (eAndV (eIsi ["int"] (eVar 0)) (eAndV (eNotV (eIsi ["bool"] (eVar 0))) (eChain dLe dLe (eVar 1) (eVar 0) (eVar 2)))))
def m_is_integer : List D → FO := fnP c_is_integer 0
def b_met_0 : SC :=
    sFg true [4] (sIf (eTest (eInQ false (eVar 4) (qVar 2)))
    (sSeq (sPutQ (pVar 2) (eVar 4) (trD (eC (.bool true))))
    (sApp 1 (eVar 4)))
    sNx)
def L_met_0 : SC :=
    sPre [4] (sFg true [4] (sFor (eIterA (eBin dIxA (eBin dIxA (eVar 0) (eBin dIxA (eVar 1) (eVar 3))) (eC (.int 0)))) (setN 4) b_met_0))
def b_met_1 : SC :=
    sFg true [4] (sSeq L_met_0
    (sAsg (eBin dAdd (eVar 3) (eC (.int 1))) (setN 3)))
def t_met_1001 : TC :=
    (eTest (eBin dLtA (eVar 3) (eCallB dLenA (aCons (eVar 1) aNil))))
def L_met_1 : SC :=
    sPre [4] (sFg true [3, 4] (sWhile (fun _ => fuelN) t_met_1001 b_met_1))
def c_met : SC :=
    (sSeq (sNew 1 (nLst (aCons (eC (.int 0)) aNil)))
    (sSeq (sSetT 2 (trDsp (eC (.int 0)) (trD (eC (.bool true)))))
    (sSeq (sAsg (eC (.int 0)) (setN 3))
    (sSeq L_met_1
    (sRet (eVar 1))))))
def m_met : List D → FO := fnP c_met 4
def b_kinds_of_0 : SC :=
    sFg true [4] (sPutQ (pVar 3) (eVar 4) (trD (eQ (qSdfL 2 (eBin dIxA (eBin dIxA (eVar 0) (eVar 4)) (eC (.int 1)))))))
def L_kinds_of_0 : SC :=
    sPre [4] (sFg true [4] (sFor (eIterA (eVar 1)) (setN 4) b_kinds_of_0))
def e_kinds_of_0 : EC :=
    (eQ (qIx (qVar 3) (eVar 8)))
def lc_kinds_of_0 : DL.Env → Out (List D) :=
    nLc [8] (eIterA (eBin dIxA (eBin dIxA (eVar 0) (eVar 4)) (eC (.int 0)))) (setN 8) tYesD e_kinds_of_0
def b_kinds_of_1 : SC :=
    sFg true [4, 7] (sSeq (sAsg (eTup (aCons (eQ (qIx (qVar 3) (eVar 4))) (aCons (eCallB dTuple (aCons (eN lc_kinds_of_0) aNil)) aNil))) (setN 7))
    (sPutQ (pVar 6) (eVar 4) (trD (eQ (qSdfL 2 (eVar 7))))))
def L_kinds_of_1 : SC :=
    sPre [4, 7] (sFg true [4, 7] (sFor (eIterA (eVar 1)) (setN 4) b_kinds_of_1))
def b_kinds_of_2 : SC :=
    sFg true [4, 6, 7] (sSeq (sAsg (eLenQ (qVar 2)) (setN 5))
    (sSeq (sSetT 2 trE)
    (sSeq (sSetT 6 trE)
    (sSeq L_kinds_of_1
    (sSetT 3 (trD (eQ (qVar 6))))))))
def t_kinds_of_1002 : TC :=
    (eTest (eBin dGt (eLenQ (qVar 2)) (eVar 5)))
def L_kinds_of_2 : SC :=
    sPre [4, 6, 7] (sFg true [2, 4, 5, 6, 7, 8] (sWhile (fun _ => fuelN) t_kinds_of_1002 b_kinds_of_2))
def c_kinds_of : SC :=
    (sSeq (sSetT 2 trE)
    (sSeq (sSetT 3 trE)
    (sSeq L_kinds_of_0
    (sSeq (sAsg (eC (.int 0)) (setN 5))
    (sSeq L_kinds_of_2
    (sRet (eQ (qVar 3))))))))
def m_kinds_of : List D → FO := fnP c_kinds_of 7
def b_least_of_0 : SC :=
    sFg true [] (sIf (eTest (eInQ false (eBin dIxA (eVar 1) (eVar 7)) (qVar 2)))
    (sSeq (sPutQ (pVar 2) (eBin dIxA (eVar 1) (eVar 7)) (trD (eCallB dLenA (aCons (eVar 3) aNil))))
    (sApp 3 (eVar 7)))
    sNx)
def L_least_of_0 : SC :=
    sPre [] (sFg true [] (sFor (eIterA (eVar 5)) (setN 7) b_least_of_0))
def e_least_of_0 : EC :=
    (eQ (qIx (qVar 2) (eBin dIxA (eVar 1) (eVar 7))))
def lc_least_of_0 : DL.Env → Out (List D) :=
    nLc [7] (eIterA (eVar 5)) (setN 7) tYesD e_least_of_0
def b_least_of_1 : SC :=
    sFg true [5, 6] (sSeq (sAsg (eBin dIxA (eVar 0) (eBin dIxA (eVar 3) (eCallB dLenA (aCons (eVar 4) aNil)))) (setTup 2 (setCons (setN 5) (setCons (setN 6) setNil))))
    (sSeq L_least_of_0
    (sApp 4 (eTup (aCons (eCallB dTuple (aCons (eN lc_least_of_0) aNil)) (aCons (eVar 6) aNil))))))
def t_least_of_1001 : TC :=
    (eTest (eBin dLtA (eCallB dLenA (aCons (eVar 4) aNil)) (eCallB dLenA (aCons (eVar 3) aNil))))
def L_least_of_1 : SC :=
    sPre [5, 6] (sFg true [5, 6, 7] (sWhile (fun _ => fuelN) t_least_of_1001 b_least_of_1))
def c_least_of : SC :=
    (sSeq (sAsg (eCall 2 m_kinds_of (aCons (eVar 0) (aCons (eCall 1 m_met (aCons (eVar 0) aNil)) aNil))) (setN 1))
    (sSeq (sSetT 2 (trDsp (eBin dIxA (eVar 1) (eC (.int 0))) (trD (eC (.int 0)))))
    (sSeq (sNew 3 (nLst (aCons (eC (.int 0)) aNil)))
    (sSeq (sNew 4 (nLst aNil))
    (sSeq L_least_of_1
    (sRet (eTup (aCons (eC (.str (tx [97, 117, 116, 111, 109, 97, 116, 111, 110]))) (aCons (eCallB dTuple (aCons (eVar 4) aNil)) aNil)))))))))
def m_least_of : List D → FO := fnP c_least_of 7
def c_Placer_init : SC :=
    (sSeq (sFldQ "Placer" "left" (pVar 0) (trD (eVar 1)))
    (sFldQ "Placer" "right" (pVar 0) (trD (eVar 2))))
def m_Placer_init : Own → List D → OO := fnO c_Placer_init 0
def e_Placer_row_of_0 : EC :=
    (eTup aNil)
def lc_Placer_row_of_0 : DL.Env → Out (List D) :=
    nLc [2] (eRng1 (aCons (eC (.int 28)) aNil)) (setN 2) tYesD e_Placer_row_of_0
def e_Placer_row_of_1 : EC :=
    (eVar 5)
def lc_Placer_row_of_1 : DL.Env → Out (List D) :=
    nLc [2] (eRng1 (aCons (eC (.int 26)) aNil)) (setN 2) tYesD e_Placer_row_of_1
def c_Placer_row_of : SC :=
    (sSeq (sIf (eTest (eBin dEq (eVar 1) (eTup aNil)))
    (sRet (eTup (aCons (eN lc_Placer_row_of_0) (aCons (eC (.int 0)) aNil))))
    sNx)
    (sSeq (sAsg (eVar 1) (setTup 2 (setCons (setN 3) (setCons (setN 4) setNil))))
    (sSeq (sAsg (eTup (aCons (eCallB dMinA (aCons (eBin dAdd (eVar 3) (eC (.int 1))) (aCons (eCallB dMaxA (aCons (eQ (qFldV "Placer" "left" 0 0)) (aCons (eQ (qFldV "Placer" "right" 1 0)) aNil))) aNil))) (aCons (eVar 4) aNil))) (setN 5))
    (sSeq (sNew 6 (nBin nAdd (eN lc_Placer_row_of_1) (eN (nLst (aCons (eTup aNil) aNil)))))
    (sSeq (sApp 6 (eIf (eTest (eBin dGe (eVar 3) (eQ (qFldV "Placer" "left" 0 0)))) (eTup (aCons (eC (.int 0)) (aCons (eC (.bool true)) aNil))) (eTup aNil)))
    (sRet (eTup (aCons (eFrz 6) (aCons (eCallB dInt (aCons (eBin dGe (eVar 3) (eIf (eTruth (eVar 4)) (eQ (qFldV "Placer" "right" 1 0)) (eC (.int 1)))) aNil)) aNil)))))))))
def m_Placer_row_of : Own → List D → OO := fnO c_Placer_row_of 5
def b_Placer_made_0 : SC :=
    sFg true [] (sIf (eTest (eInQ false (eVar 7) (qVar 2)))
    (sSeq (sIf (eTest (eBin dEq (eCallB dLenA (aCons (eVar 3) aNil)) (eC d_MOST_AUTOMATON)))
    (sRaise "TooFar")
    sNx)
    (sSeq (sPutQ (pVar 2) (eVar 7) (trD (eCallB dLenA (aCons (eVar 3) aNil))))
    (sApp 3 (eVar 7))))
    sNx)
def L_Placer_made_0 : SC :=
    sPre [] (sFg true [] (sFor (eIterA (eVar 5)) (setN 7) b_Placer_made_0))
def e_Placer_made_0 : EC :=
    (eQ (qIx (qVar 2) (eVar 7)))
def lc_Placer_made_0 : DL.Env → Out (List D) :=
    nLc [7] (eIterA (eVar 5)) (setN 7) tYesD e_Placer_made_0
def b_Placer_made_1 : SC :=
    sFg true [5, 6] (sSeq (sAsg (eMethQ "Placer" "row_of" 1 m_Placer_row_of (qVar 0) (aCons (eBin dIxA (eVar 3) (eCallB dLenA (aCons (eVar 4) aNil))) aNil)) (setTup 2 (setCons (setN 5) (setCons (setN 6) setNil))))
    (sSeq L_Placer_made_0
    (sApp 4 (eTup (aCons (eCallB dTuple (aCons (eN lc_Placer_made_0) aNil)) (aCons (eVar 6) aNil))))))
def t_Placer_made_1001 : TC :=
    (eTest (eBin dLtA (eCallB dLenA (aCons (eVar 4) aNil)) (eCallB dLenA (aCons (eVar 3) aNil))))
def L_Placer_made_1 : SC :=
    sPre [5, 6] (sFg true [5, 6, 7] (sWhile (fun _ => fuelN) t_Placer_made_1001 b_Placer_made_1))
def c_Placer_made : SC :=
    (sSeq (sSetT 2 (trDsp (eVar 1) (trD (eC (.int 0)))))
    (sSeq (sNew 3 (nLst (aCons (eVar 1) aNil)))
    (sSeq (sNew 4 (nLst aNil))
    (sSeq L_Placer_made_1
    (sRet (eCall 1 m_least_of (aCons (eFrz 4) aNil)))))))
def m_Placer_made : Own → List D → OO := fnO c_Placer_made 6
def c_all_words : SC :=
    (sSeq (sIf (eOr (eNot (eTruth (eCall 3 m_is_integer (aCons (eVar 0) (aCons (eC (.int 1)) (aCons (eC d_MOST_LEVEL) aNil)))))) (eNot (eTruth (eCall 3 m_is_integer (aCons (eVar 1) (aCons (eC (.int 1)) (aCons (eC d_MOST_LEVEL) aNil)))))))
    (sRaiseI "BadTongue" ["kind", "name"] (aCons (eC (.str (tx [108, 101, 97, 115, 116]))) (aCons (eC (.str (tx []))) aNil)))
    sNx)
    (sRet (eMethN "Placer" "made" 1 m_Placer_made (trMake "Placer" 2 m_Placer_init (aCons (eVar 0) (aCons (eVar 1) aNil))) (aCons (eTup (aCons (eC (.int 0)) (aCons (eC (.bool false)) aNil))) aNil))))
def m_all_words : List D → FO := fnP c_all_words 0
def b__law_tape_0 : SC :=
    sFg true [] (sAsg (eBin dMod (eCallB dInt (aCons (eBin dAdd (eBin dMulA (eVar 1) (eC (.int 31))) (eVar 2)) aNil)) (eC (.int 1000003))) (setN 1))
def L__law_tape_0 : SC :=
    sPre [] (sFg true [] (sFor (eIter (eVar 0)) (setN 2) b__law_tape_0))
def e__law_tape_0 : EC :=
    (eCallB dAbs (aCons (eCallB dInt (aCons (eVar 2) aNil)) aNil))
def lc__law_tape_0 : DL.Env → Out (List D) :=
    nLc [2] (eIter (eVar 0)) (setN 2) tYesD e__law_tape_0
def c__law_tape : SC :=
    (sSeq (sAsg (eC (.int 7)) (setN 1))
    (sSeq L__law_tape_0
    (sRetTape lc__law_tape_0 (eBin dAdd (eVar 1) (eC (.int 1))))))
def m__law_tape : List D → FO := fnP c__law_tape 2
abbrev m__law_draw := drawM
def c__law_pick : SC :=
    (sRet (eBin dIx (eVar 1) (eCallO 0 1 m__law_draw (aCons (eCallB dLen (aCons (eVar 1) aNil)) aNil))))
def m__law_pick : Own → List D → OO := fnO c__law_pick 0
def c__law_signs : SC :=
    (sRet (eC (.str (tx [97, 98, 99, 100, 101, 102, 103, 104, 105, 106, 107, 108, 109, 110, 111, 112, 113, 114, 115, 116, 117, 118, 119, 120, 121, 122, 45, 124]))))
def m__law_signs : List D → FO := fnP c__law_signs 0
def e__law_string_0 : EC :=
    (eBin dIx (eVar 1) (eCallO 0 1 m__law_draw (aCons (eCallB dLen (aCons (eVar 1) aNil)) aNil)))
def lc__law_string_0 : DL.Env → Out (List D) :=
    nLc [4] (eRng1 (aCons (eBin dAdd (eVar 2) (eCallO 0 1 m__law_draw (aCons (eBin dAdd (eBin dSub (eVar 3) (eVar 2)) (eC (.int 1))) aNil))) aNil)) (setN 4) tYesD e__law_string_0
def c__law_string : SC :=
    (sRet (eMeth "str" dJoin (eC (.str (tx []))) (aCons (eN lc__law_string_0) aNil)))
def m__law_string : Own → List D → OO := fnO c__law_string 1
def b__law_takes_0 : SC :=
    sFg true [3] (sAsg (eBin dIx (eBin dIx (eBin dIx (eBin dIx (eVar 0) (eC (.int 1))) (eVar 2)) (eC (.int 0))) (eMeth "str" dSIndex (eCall0 m__law_signs) (aCons (eVar 3) aNil))) (setN 2))
def L__law_takes_0 : SC :=
    sPre [3] (sFg true [3] (sFor (eIter (eVar 1)) (setN 3) b__law_takes_0))
def c__law_takes : SC :=
    (sSeq (sAsg (eC (.int 0)) (setN 2))
    (sSeq L__law_takes_0
    (sRet (eBin dEq (eBin dIx (eBin dIx (eBin dIx (eVar 0) (eC (.int 1))) (eVar 2)) (eC (.int 1))) (eC (.int 1))))))
def m__law_takes : List D → FO := fnP c__law_takes 2
def b__law_least_states_0 : SC :=
    sFg true [] (sIf (eTest (eBin dNotInA (eVar 3) (eVar 1)))
    (sApp 1 (eVar 3))
    sNx)
def L__law_least_states_0 : SC :=
    sPre [] (sFg true [] (sFor (eIterA (eBin dIxA (eBin dIxA (eVar 0) (eBin dIxA (eVar 1) (eVar 2))) (eC (.int 0)))) (setN 3) b__law_least_states_0))
def b__law_least_states_1 : SC :=
    sFg true [] (sSeq L__law_least_states_0
    (sAsg (eBin dAdd (eVar 2) (eC (.int 1))) (setN 2)))
def t__law_least_states_1001 : TC :=
    (eTest (eBin dLtA (eVar 2) (eCallB dLenA (aCons (eVar 1) aNil))))
def L__law_least_states_1 : SC :=
    sPre [] (sFg true [2] (sWhile (fun _ => fuelN) t__law_least_states_1001 b__law_least_states_1))
def e__law_least_states_0 : EC :=
    (eTup (aCons (eVar 5) (aCons (eBin dIxA (eBin dIxA (eVar 0) (eVar 5)) (eC (.int 1))) aNil)))
def lc__law_least_states_0 : DL.Env → Out (List D) :=
    nLc [5] (eIterA (eFrz 1)) (setN 5) tYesD e__law_least_states_0
def e__law_least_states_1 : EC :=
    (eBin dIxA (eVar 4) (eVar 5))
def lc__law_least_states_1 : DL.Env → Out (List D) :=
    nLc [5] (eIterA (eFrz 1)) (setN 5) tYesD e__law_least_states_1
def e__law_least_states_2 : EC :=
    (eBin dIxA (eVar 4) (eVar 5))
def lc__law_least_states_2 : DL.Env → Out (List D) :=
    nLc [5] (eIterA (eFrz 1)) (setN 5) tYesD e__law_least_states_2
def e__law_least_states_3 : EC :=
    (eBin dIxA (eVar 4) (eVar 3))
def lc__law_least_states_3 : DL.Env → Out (List D) :=
    nLc [3] (eIterA (eBin dIxA (eBin dIxA (eVar 0) (eVar 5)) (eC (.int 0)))) (setN 3) tYesD e__law_least_states_3
def b__law_least_states_2 : SC :=
    sFg true [9] (sSeq (sAsg (eTup (aCons (eBin dIxA (eVar 4) (eVar 5)) (aCons (eCallB dTuple (aCons (eN lc__law_least_states_3) aNil)) aNil))) (setN 9))
    (sPutQ (pVar 8) (eVar 5) (trD (eQ (qSdfL 7 (eVar 9))))))
def L__law_least_states_2 : SC :=
    sPre [9] (sFg true [9] (sFor (eIterA (eFrz 1)) (setN 5) b__law_least_states_2))
def b__law_least_states_3 : SC :=
    sFg true [7, 8, 9] (sSeq (sAsg (eLenSet (eN lc__law_least_states_2)) (setN 6))
    (sSeq (sSetT 7 trE)
    (sSeq (sSetT 8 trE)
    (sSeq L__law_least_states_2
    (sAsg (eQ (qVar 8)) (setN 4))))))
def t__law_least_states_1003 : TC :=
    (eTest (eBin dGt (eLenSet (eN lc__law_least_states_1)) (eVar 6)))
def L__law_least_states_3 : SC :=
    sPre [7, 8, 9] (sFg true [5, 6, 7, 8, 9] (sWhile (fun _ => fuelN) t__law_least_states_1003 b__law_least_states_3))
def b__law_least_states_4 : SC :=
    sFg true [] (sIf (eTest (eInQ false (eBin dIxA (eVar 4) (eVar 3)) (qVar 10)))
    (sSeq (sPutQ (pVar 10) (eBin dIxA (eVar 4) (eVar 3)) (trD (eCallB dLenA (aCons (eVar 11) aNil))))
    (sApp 11 (eVar 3)))
    sNx)
def L__law_least_states_4 : SC :=
    sPre [] (sFg true [] (sFor (eIterA (eVar 13)) (setN 3) b__law_least_states_4))
def e__law_least_states_4 : EC :=
    (eQ (qIx (qVar 10) (eBin dIxA (eVar 4) (eVar 3))))
def lc__law_least_states_4 : DL.Env → Out (List D) :=
    nLc [3] (eIterA (eVar 13)) (setN 3) tYesD e__law_least_states_4
def b__law_least_states_5 : SC :=
    sFg true [13, 14] (sSeq (sAsg (eBin dIxA (eVar 0) (eBin dIxA (eVar 11) (eCallB dLenA (aCons (eVar 12) aNil)))) (setTup 2 (setCons (setN 13) (setCons (setN 14) setNil))))
    (sSeq L__law_least_states_4
    (sApp 12 (eTup (aCons (eCallB dTuple (aCons (eN lc__law_least_states_4) aNil)) (aCons (eVar 14) aNil))))))
def t__law_least_states_1005 : TC :=
    (eTest (eBin dLtA (eCallB dLenA (aCons (eVar 12) aNil)) (eCallB dLenA (aCons (eVar 11) aNil))))
def L__law_least_states_5 : SC :=
    sPre [13, 14] (sFg true [3, 13, 14] (sWhile (fun _ => fuelN) t__law_least_states_1005 b__law_least_states_5))
def c__law_least_states : SC :=
    (sSeq (sNew 1 (nLst (aCons (eC (.int 0)) aNil)))
    (sSeq (sAsg (eC (.int 0)) (setN 2))
    (sSeq L__law_least_states_1
    (sSeq (sAsg (eT (trDictP (aCons (eN lc__law_least_states_0) aNil))) (setN 4))
    (sSeq (sAsg (eC (.int 0)) (setN 6))
    (sSeq L__law_least_states_3
    (sSeq (sSetT 10 (trDsp (eBin dIxA (eVar 4) (eC (.int 0))) (trD (eC (.int 0)))))
    (sSeq (sNew 11 (nLst (aCons (eC (.int 0)) aNil)))
    (sSeq (sNew 12 (nLst aNil))
    (sSeq L__law_least_states_5
    (sRet (eCallB dTuple (aCons (eVar 12) aNil)))))))))))))
def m__law_least_states : List D → FO := fnP c__law_least_states 14
def e__law_all_0 : EC :=
    (eBin dAdd (eVar 6) (eVar 7))
def lc__law_all_0 : DL.Env → Out (List D) :=
    nLc [7] (eIter (eVar 0)) (setN 7) tYesD e__law_all_0
def b__law_all_0 : SC :=
    sFg true [6] (sAsg (eBin dAdd (eVar 5) (eN lc__law_all_0)) (setN 5))
def L__law_all_0 : SC :=
    sPre [6] (sFg true [6] (sFor (eIter (eVar 3)) (setN 6) b__law_all_0))
def b__law_all_1 : SC :=
    sFg true [4, 5, 6] (sSeq (sAsg (eN (nLst aNil)) (setN 5))
    (sSeq L__law_all_0
    (sSeq (sAsg (eVar 5) (setN 3))
    (sAsg (eBin dAdd (eVar 2) (eVar 3)) (setN 2)))))
def L__law_all_1 : SC :=
    sPre [4, 5, 6] (sFg true [3, 4, 5, 6, 7] (sFor (eRng1 (aCons (eVar 1) aNil)) (setN 4) b__law_all_1))
def c__law_all : SC :=
    (sSeq (sAsg (eN (nLst (aCons (eC (.str (tx []))) aNil))) (setN 2))
    (sSeq (sAsg (eN (nLst (aCons (eC (.str (tx []))) aNil))) (setN 3))
    (sSeq L__law_all_1
    (sRet (eVar 2)))))
def m__law_all : List D → FO := fnP c__law_all 6
def c__law_call : SC :=
    (sSeq (sTryM sub_ (sAsg (eCall 2 m_all_words (aCons (eVar 0) (aCons (eVar 1) aNil))) (setN 2))
    [.named "BadTongue" 3 (xFld "BadTongue" "kind")])
    (sRet (eVar 2)))
def m__law_call : List D → FO := fnP c__law_call 2
def e__law_is_one_0 : EC :=
    (eCallB dLen (aCons (eVar 4) aNil))
def lc__law_is_one_0 : DL.Env → Out (List D) :=
    nLc [4] (eIter (eSl dSl (eVar 3) oNone (oSome (eBin dSub (eCallB dLen (aCons (eVar 3) aNil)) (eC (.int 1)))))) (setN 4) tYesD e__law_is_one_0
def c__law_is_one : SC :=
    (sSeq (sAsg (eMeth "str" dSplit (eVar 0) (aCons (eC (.str (tx [124]))) aNil)) (setN 3))
    (sSeq (sIf (eOr (eTest (eBin dIn (eC (.str (tx [45]))) (eVar 0))) (eTest (eBin dEq (eVar 0) (eC (.str (tx []))))))
    (sRet (eC (.bool false)))
    sNx)
    (sSeq (sIf (eTest (eBin dEq (eCallB dLen (aCons (eVar 3) aNil)) (eC (.int 1))))
    (sRet (eC (.bool true)))
    sNx)
    (sRet (eAndV (eBin dGe (eCallB dMinA (aCons (eN lc__law_is_one_0) aNil)) (eVar 1)) (eBin dGe (eCallB dLen (aCons (eBin dIx (eVar 3) (eBin dSub (eCallB dLen (aCons (eVar 3) aNil)) (eC (.int 1)))) aNil)) (eVar 2)))))))
def m__law_is_one : List D → FO := fnP c__law_is_one 2
def e_law_0 : EC :=
    (eCallO 1 3 m__law_string (aCons (eC (.str (tx [97, 98, 122, 124]))) (aCons (eC (.int 0)) (aCons (eC (.int 16)) aNil))))
def lc_law_0 : DL.Env → Out (List D) :=
    nLc [6] (eRng1 (aCons (eC (.int 12)) aNil)) (setN 6) tYesD e_law_0
def e_law_1 : EC :=
    (eCallO 1 3 m__law_string (aCons (eC (.str (tx [97, 98, 45, 124]))) (aCons (eC (.int 1)) (aCons (eC (.int 6)) aNil))))
def lc_law_1 : DL.Env → Out (List D) :=
    nLc [6] (eRng1 (aCons (eC (.int 6)) aNil)) (setN 6) tYesD e_law_1
def b_law_0 : SC :=
    sFg true [7] (sIf (eTest (eBin dNe (eCall 2 m__law_takes (aCons (eVar 4) (aCons (eVar 7) aNil))) (eCall 3 m__law_is_one (aCons (eVar 7) (aCons (eVar 2) (aCons (eVar 3) aNil))))))
    (sRet (eC (.bool false)))
    sNx)
def L_law_0 : SC :=
    sPre [7] (sFg true [7] (sFor (eIter (eVar 5)) (setN 7) b_law_0))
def c_law : SC :=
    (sSeq (sCallN 1 1 m__law_tape (aCons (eVar 0) aNil))
    (sSeq (sPar 2 3 (aCons (eBin dAdd (eC (.int 1)) (eCallO 1 1 m__law_draw (aCons (eC (.int 5)) aNil))) (aCons (eBin dAdd (eC (.int 1)) (eCallO 1 1 m__law_draw (aCons (eC (.int 5)) aNil))) aNil)))
    (sSeq (sAsg (eCall 2 m__law_call (aCons (eVar 2) (aCons (eVar 3) aNil))) (setN 4))
    (sSeq (sIf (eOr (eNot (eTruth (eIsi ["tuple"] (eVar 4)))) (eTest (eBin dNe (eBin dIx (eVar 4) (eC (.int 1))) (eCall 1 m__law_least_states (aCons (eBin dIx (eVar 4) (eC (.int 1))) aNil)))))
    (sRet (eC (.bool false)))
    sNx)
    (sSeq (sAsg (eBin dAdd (eBin dAdd (eCall 2 m__law_all (aCons (eC (.str (tx [97, 124]))) (aCons (eC (.int 6)) aNil))) (eN lc_law_0)) (eN lc_law_1)) (setN 5))
    (sSeq L_law_0
    (sSeq (sAsg (eCallO 1 1 m__law_pick (aCons (eN (nLst (aCons (eC (.int 0)) (aCons (eC (.int 10)) (aCons (eC .none) (aCons (eC (.bool true)) (aCons (eC (.str (tx [50]))) aNil))))))) aNil)) (setN 8))
    (sRet (eBin dEq (eTup (aCons (eCall 2 m__law_call (aCons (eVar 8) (aCons (eVar 3) aNil))) (aCons (eCall 2 m__law_call (aCons (eVar 2) (aCons (eVar 8) aNil))) aNil))) (eTup (aCons (eC (.str (tx [108, 101, 97, 115, 116]))) (aCons (eC (.str (tx [108, 101, 97, 115, 116]))) aNil))))))))))))
def m_law : List D → FO := fnP c_law 8
structure Facts (K : Fg) (mg : Str → Option Value) where
  a_is_integer : Addr
  d_is_integer : FuncData
  a_met : Addr
  d_met : FuncData
  a_kinds_of : Addr
  d_kinds_of : FuncData
  a_least_of : Addr
  d_least_of : FuncData
  a_Placer_init : Addr
  d_Placer_init : FuncData
  a_Placer_row_of : Addr
  d_Placer_row_of : FuncData
  a_Placer_made : Addr
  d_Placer_made : FuncData
  a_all_words : Addr
  d_all_words : FuncData
  a__law_tape : Addr
  d__law_tape : FuncData
  a__law_draw : Addr
  d__law_draw : FuncData
  a__law_pick : Addr
  d__law_pick : FuncData
  a__law_signs : Addr
  d__law_signs : FuncData
  a__law_string : Addr
  d__law_string : FuncData
  a__law_takes : Addr
  d__law_takes : FuncData
  a__law_least_states : Addr
  d__law_least_states : FuncData
  a__law_all : Addr
  d__law_all : FuncData
  a__law_call : Addr
  d__law_call : FuncData
  a__law_is_one : Addr
  d__law_is_one : FuncData
  a_law : Addr
  d_law : FuncData
  C_BadTongue : Addr
  i_BadTongue : Addr
  e_BadTongue : FuncData
  C_TooFar : Addr
  F_is_integer : Fun K "is_integer" "is_integer" s_is_integer a_is_integer d_is_integer
  m_is_integer : mg "is_integer" = some (.ref a_is_integer)
  b_is_integer : Binds K d_is_integer ["value", "low", "high"] []
  F_met : Fun K "met" "met" s_met a_met d_met
  m_met : mg "met" = some (.ref a_met)
  b_met : Binds K d_met ["states"] []
  F_kinds_of : Fun K "kinds_of" "kinds_of" s_kinds_of a_kinds_of d_kinds_of
  m_kinds_of : mg "kinds_of" = some (.ref a_kinds_of)
  b_kinds_of : Binds K d_kinds_of ["states", "order"] []
  F_least_of : Fun K "least_of" "least_of" s_least_of a_least_of d_least_of
  m_least_of : mg "least_of" = some (.ref a_least_of)
  b_least_of : Binds K d_least_of ["states"] []
  F_Placer_init : Fun K "__init__" "Placer.__init__" s_Placer_init a_Placer_init d_Placer_init
  C_Placer : Addr
  k_Placer : ClsF K "Placer" C_Placer
  M_Placer : Mk K C_Placer a_Placer_init
  m_Placer : mg "Placer" = some (.ref C_Placer)
  b_Placer_init : Binds K d_Placer_init ["self", "left", "right"] []
  F_Placer_row_of : Fun K "row_of" "Placer.row_of" s_Placer_row_of a_Placer_row_of d_Placer_row_of
  b_Placer_row_of : Binds K d_Placer_row_of ["self", "state"] []
  F_Placer_made : Fun K "made" "Maker.made" s_Placer_made a_Placer_made d_Placer_made
  b_Placer_made : Binds K d_Placer_made ["self", "first"] []
  F_all_words : Fun K "all_words" "all_words" s_all_words a_all_words d_all_words
  m_all_words : mg "all_words" = some (.ref a_all_words)
  b_all_words : Binds K d_all_words ["left", "right"] []
  F__law_tape : Fun K "_law_tape" "_law_tape" s__law_tape a__law_tape d__law_tape
  m__law_tape : mg "_law_tape" = some (.ref a__law_tape)
  b__law_tape : Binds K d__law_tape ["script"] []
  F__law_draw : Fun K "_law_draw" "_law_draw" s__law_draw a__law_draw d__law_draw
  m__law_draw : mg "_law_draw" = some (.ref a__law_draw)
  b__law_draw : Binds K d__law_draw ["tape", "many"] []
  F__law_pick : Fun K "_law_pick" "_law_pick" s__law_pick a__law_pick d__law_pick
  m__law_pick : mg "_law_pick" = some (.ref a__law_pick)
  b__law_pick : Binds K d__law_pick ["tape", "row"] []
  F__law_signs : Fun K "_law_signs" "_law_signs" s__law_signs a__law_signs d__law_signs
  m__law_signs : mg "_law_signs" = some (.ref a__law_signs)
  b__law_signs : Binds K d__law_signs [] []
  F__law_string : Fun K "_law_string" "_law_string" s__law_string a__law_string d__law_string
  m__law_string : mg "_law_string" = some (.ref a__law_string)
  b__law_string : Binds K d__law_string ["tape", "letters", "low", "high"] []
  F__law_takes : Fun K "_law_takes" "_law_takes" s__law_takes a__law_takes d__law_takes
  m__law_takes : mg "_law_takes" = some (.ref a__law_takes)
  b__law_takes : Binds K d__law_takes ["automaton", "text"] []
  F__law_least_states : Fun K "_law_least_states" "_law_least_states" s__law_least_states a__law_least_states d__law_least_states
  m__law_least_states : mg "_law_least_states" = some (.ref a__law_least_states)
  b__law_least_states : Binds K d__law_least_states ["rows"] []
  F__law_all : Fun K "_law_all" "_law_all" s__law_all a__law_all d__law_all
  m__law_all : mg "_law_all" = some (.ref a__law_all)
  b__law_all : Binds K d__law_all ["letters", "most"] []
  F__law_call : Fun K "_law_call" "_law_call" s__law_call a__law_call d__law_call
  m__law_call : mg "_law_call" = some (.ref a__law_call)
  b__law_call : Binds K d__law_call ["left", "right"] []
  F__law_is_one : Fun K "_law_is_one" "_law_is_one" s__law_is_one a__law_is_one d__law_is_one
  m__law_is_one : mg "_law_is_one" = some (.ref a__law_is_one)
  b__law_is_one : Binds K d__law_is_one ["text", "left", "right"] []
  F_law : Fun K "law" "law" s_law a_law d_law
  m_law : mg "law" = some (.ref a_law)
  b_law : Binds K d_law ["script"] []
  w_Placer_row_of : Meth K C_Placer "row_of" a_Placer_row_of
  w_Placer_made : Meth K C_Placer "made" a_Placer_made
  nf_Placer_left : NoAttr K C_Placer "left"
  nf_Placer_right : NoAttr K C_Placer "right"
  FI_BadTongue : Fun K "__init__" "BadTongue.__init__" si_BadTongue i_BadTongue e_BadTongue
  x_BadTongue : ExI K mg "BadTongue" C_BadTongue i_BadTongue e_BadTongue ["self", "kind", "name"]
  xf_BadTongue : XfC K C_BadTongue
  nf_BadTongue_kind : PySem.W.findIn K (.ref C_BadTongue) "kind" = some none
  nf_BadTongue_name : PySem.W.findIn K (.ref C_BadTongue) "name" = some none
  x_TooFar : ExC K mg "TooFar" C_TooFar
  g_MOST_LEVEL : GlD K mg "MOST_LEVEL" d_MOST_LEVEL
  g_MOST_AUTOMATON : GlD K mg "MOST_AUTOMATON" d_MOST_AUTOMATON
  z_abs : mg "abs" = none
  z_bool : mg "bool" = none
  z_dict : mg "dict" = none
  z_int : mg "int" = none
  z_isinstance : mg "isinstance" = none
  z_len : mg "len" = none
  z_max : mg "max" = none
  z_min : mg "min" = none
  z_range : mg "range" = none
  z_set : mg "set" = none
  z_tuple : mg "tuple" = none
  sub_ok : SubT K (fun x => if x = "BadTongue" then some (.ref C_BadTongue) else if x = "TooFar" then some (.ref C_TooFar) else none) sub_
def ct {K : Fg} {mg : Str → Option Value} (T : Facts K mg) : String → Option Value := fun x => if x = "BadTongue" then some (.ref T.C_BadTongue) else if x = "TooFar" then some (.ref T.C_TooFar) else none
theorem ct_BadTongue {K : Fg} {mg : Str → Option Value} (T : Facts K mg) : ct T "BadTongue" = some (.ref T.C_BadTongue) := by simp [ct]
theorem ct_TooFar {K : Fg} {mg : Str → Option Value} (T : Facts K mg) : ct T "TooFar" = some (.ref T.C_TooFar) := by simp [ct]
section
variable {P : Program} {K : Fg} {mg : Str → Option Value} {base : Heap}
theorem sci_BadTongue : FnScope ["self", "kind", "name"] ["self", "kind", "name"] (defScope si_BadTongue) := ⟨rfl, rfl, rfl, by decide +kernel, rfl, by decide +kernel, by decide +kernel⟩
theorem ok_i_BadTongue (T : Facts K mg) : FnOk P K.w K mg base (L2.CX P K.w) 1 T.i_BadTongue T.e_BadTongue ["self", "kind", "name"] (spI2 K T.C_BadTongue "kind" "name") := fn_i2 T.x_BadTongue.o T.nf_BadTongue_kind T.nf_BadTongue_name T.FI_BadTongue sci_BadTongue rfl rfl rfl rfl
theorem sc_is_integer : FnScope ["value", "low", "high"] ["value", "low", "high"] (defScope s_is_integer) := ⟨rfl, rfl, rfl, by decide +kernel, rfl, by decide +kernel, by decide +kernel⟩
theorem ok_is_integer (T : Facts K mg) : FnOk P K.w K mg base (L2.CX P K.w) 1 T.a_is_integer T.d_is_integer ["value", "low", "high"] (spP K (ct T) 3 m_is_integer) :=
  fn_p T.F_is_integer sc_is_integer rfl rfl fun cdv A outer s H E hr =>
    (dss_one (ds_ret (de_and (de_isi (de_var 0) T.z_isinstance T.z_int bt_int) (de_and (de_not (de_isi (de_var 0) T.z_isinstance T.z_bool bt_bool)) (de_one (de_chain od_le od_le (de_var 1) (de_var 0) (de_var 2)))))))
theorem sc_met : FnScope ["states", "order", "known", "at", "n"] ["states"] (defScope s_met) := ⟨rfl, rfl, rfl, by decide +kernel, rfl, by decide +kernel, by decide +kernel⟩
theorem ok_met (T : Facts K mg) : FnOk P K.w K mg base (L2.CX P K.w) 1 T.a_met T.d_met ["states"] (spP K (ct T) 1 m_met) :=
  fn_p T.F_met sc_met rfl rfl fun cdv A outer s H E hr =>
    (dss_cons (ds_new 1 (dn_lst (da_cons de_int da_nil)) sc_met.nd)
    (dss_cons (ds_setT 2 (dtr_dsp (hu64 hr) de_int (dtr_d de_bl)) sc_met.nd)
    (dss_cons (ds_asg de_int (dg_name 3 sc_met.nd))
    (dss_cons (ds_pre [4] (ds_fg true [3, 4] (ds_while (fun _ => fuelN) (passes_of rfl) (dt_cmp (od_ltA (hu64 hr)) (de_var 3) (de_callB cd_lenA T.z_len bt_len (da_cons (de_var 1) da_nil)))
    (dss_fg true [4] (dss_cons (ds_pre [4] (ds_fg true [4] (ds_for (passes_of rfl) rfl (di_seqA (de_ixA (hu64 hr) (de_ixA (hu64 hr) (de_var 0) (de_ixA (hu64 hr) (de_var 1) (de_var 3))) de_int)) (dg_name 4 sc_met.nd)
    (dss_fg true [4] (dss_one (ds_if (dt_notInQ (hu65 hr) (de_var 4) (dq_var 2))
    (dss_cons (ds_putQ (hu64 hr) (dtr_d de_bl) (dpl_var 2) (de_var 4))
    (dss_one (ds_app 1 (de_var 4))))
    dss_nil))))))
    (dss_one (ds_asg (de_op od_add (de_var 3) de_int) (dg_name 3 sc_met.nd))))))))
    (dss_one (ds_ret (de_var 1)))))))
theorem sc_kinds_of : FnScope ["states", "order", "names", "kind", "number", "many", "later", "sign", "n"] ["states", "order"] (defScope s_kinds_of) := ⟨rfl, rfl, rfl, by decide +kernel, rfl, by decide +kernel, by decide +kernel⟩
theorem ok_kinds_of (T : Facts K mg) : FnOk P K.w K mg base (L2.CX P K.w) 1 T.a_kinds_of T.d_kinds_of ["states", "order"] (spP K (ct T) 2 m_kinds_of) :=
  fn_p T.F_kinds_of sc_kinds_of rfl rfl fun cdv A outer s H E hr =>
    (dss_cons (ds_setT 2 dtr_e sc_kinds_of.nd)
    (dss_cons (ds_setT 3 dtr_e sc_kinds_of.nd)
    (dss_cons (ds_pre [4] (ds_fg true [4] (ds_for (passes_of rfl) rfl (di_seqA (de_var 1)) (dg_name 4 sc_kinds_of.nd)
    (dss_fg true [4] (dss_one (ds_putQ (hu64 hr) (dtr_d (de_q (dq_sdfL 2 (hu64 hr) T.z_len (de_ixA (hu64 hr) (de_ixA (hu64 hr) (de_var 0) (de_var 4)) de_int)))) (dpl_var 3) (de_var 4)))))))
    (dss_cons (ds_asg de_int (dg_name 5 sc_kinds_of.nd))
    (dss_cons (ds_pre [4, 6, 7] (ds_fg true [2, 4, 5, 6, 7, 8] (ds_while (fun _ => fuelN) (passes_of rfl) (dt_cmp od_gt (de_lenQ T.z_len bt_len (dq_var 2)) (de_var 5))
    (dss_fg true [4, 6, 7] (dss_cons (ds_asg (de_lenQ T.z_len bt_len (dq_var 2)) (dg_name 5 sc_kinds_of.nd))
    (dss_cons (ds_setT 2 dtr_e sc_kinds_of.nd)
    (dss_cons (ds_setT 6 dtr_e sc_kinds_of.nd)
    (dss_cons (ds_pre [4, 7] (ds_fg true [4, 7] (ds_for (passes_of rfl) rfl (di_seqA (de_var 1)) (dg_name 4 sc_kinds_of.nd)
    (dss_fg true [4, 7] (dss_cons (ds_asg (de_tup (da_cons (de_q (dq_ix (hu64 hr) (dq_var 3) (de_var 4))) (da_cons (de_callTy cd_tuple T.z_tuple bt_tuple (da_cons (de_n (dn_lc (own := [("n", 8)]) rfl sc_kinds_of.nd (di_seqA (de_ixA (hu64 hr) (de_ixA (hu64 hr) (de_var 0) (de_var 4)) de_int)) (blkOk_by (by kernel_rfl)) (by decide) (fun _ _ _ _ _ => (dg_name 8 sc_kinds_of.nd)) (fun _ _ _ _ _ => dts_nil) (fun _ _ _ _ _ => (de_q (dq_ix (hu64 hr) (dq_var 3) (de_var 8)))))) da_nil)) da_nil))) (dg_name 7 sc_kinds_of.nd))
    (dss_one (ds_putQ (hu64 hr) (dtr_d (de_q (dq_sdfL 2 (hu64 hr) T.z_len (de_var 7)))) (dpl_var 6) (de_var 4))))))))
    (dss_one (ds_setT 3 (dtr_d (de_q (dq_var 6))) sc_kinds_of.nd))))))))))
    (dss_one (ds_ret (de_q (dq_var 3)))))))))
theorem sc_least_of : FnScope ["states", "kind", "names", "firsts", "found", "nexts", "out", "n"] ["states"] (defScope s_least_of) := ⟨rfl, rfl, rfl, by decide +kernel, rfl, by decide +kernel, by decide +kernel⟩
theorem ok_least_of (T : Facts K mg) : FnOk P K.w K mg base (L2.CX P K.w) 2 T.a_least_of T.d_least_of ["states"] (spP K (ct T) 1 m_least_of) :=
  fn_p T.F_least_of sc_least_of rfl rfl fun cdv A outer s H E hr =>
    (dss_cons (ds_asg (de_call (ok_kinds_of T) (hr.mono (by decide)) T.m_kinds_of T.F_kinds_of.kp T.b_kinds_of (takes_at (takes_of rfl rfl rfl rfl)) (da_cons (de_var 0) (da_cons (de_call (ok_met T) (hr.mono (by decide)) T.m_met T.F_met.kp T.b_met (takes_at (takes_of rfl rfl rfl rfl)) (da_cons (de_var 0) da_nil)) da_nil))) (dg_name 1 sc_least_of.nd))
    (dss_cons (ds_setT 2 (dtr_dsp (hu64 hr) (de_ixA (hu64 hr) (de_var 1) de_int) (dtr_d de_int)) sc_least_of.nd)
    (dss_cons (ds_new 3 (dn_lst (da_cons de_int da_nil)) sc_least_of.nd)
    (dss_cons (ds_new 4 (dn_lst da_nil) sc_least_of.nd)
    (dss_cons (ds_pre [5, 6] (ds_fg true [5, 6, 7] (ds_while (fun _ => fuelN) (passes_of rfl) (dt_cmp (od_ltA (hu64 hr)) (de_callB cd_lenA T.z_len bt_len (da_cons (de_var 4) da_nil)) (de_callB cd_lenA T.z_len bt_len (da_cons (de_var 3) da_nil)))
    (dss_fg true [5, 6] (dss_cons (ds_asg (de_ixA (hu64 hr) (de_var 0) (de_ixA (hu64 hr) (de_var 3) (de_callB cd_lenA T.z_len bt_len (da_cons (de_var 4) da_nil)))) (dg_tup rfl (dgs_cons (dg_name 5 sc_least_of.nd) (dgs_cons (dg_name 6 sc_least_of.nd) dgs_nil))))
    (dss_cons (ds_pre [] (ds_fg true [] (ds_for (passes_of rfl) rfl (di_seqA (de_var 5)) (dg_name 7 sc_least_of.nd)
    (dss_fg true [] (dss_one (ds_if (dt_notInQ (hu65 hr) (de_ixA (hu64 hr) (de_var 1) (de_var 7)) (dq_var 2))
    (dss_cons (ds_putQ (hu64 hr) (dtr_d (de_callB cd_lenA T.z_len bt_len (da_cons (de_var 3) da_nil))) (dpl_var 2) (de_ixA (hu64 hr) (de_var 1) (de_var 7)))
    (dss_one (ds_app 3 (de_var 7))))
    dss_nil))))))
    (dss_one (ds_app 4 (de_tup (da_cons (de_callTy cd_tuple T.z_tuple bt_tuple (da_cons (de_n (dn_lc (own := [("n", 7)]) rfl sc_least_of.nd (di_seqA (de_var 5)) (blkOk_by (by kernel_rfl)) (by decide) (fun _ _ _ _ _ => (dg_name 7 sc_least_of.nd)) (fun _ _ _ _ _ => dts_nil) (fun _ _ _ _ _ => (de_q (dq_ix (hu64 hr) (dq_var 2) (de_ixA (hu64 hr) (de_var 1) (de_var 7))))))) da_nil)) (da_cons (de_var 6) da_nil)))))))))))
    (dss_one (ds_ret (de_tup (da_cons (de_strT (by decide +kernel)) (da_cons (de_callTy cd_tuple T.z_tuple bt_tuple (da_cons (de_var 4) da_nil)) da_nil))))))))))
theorem sc_Placer_init : FnScope ["self", "left", "right"] ["self", "left", "right"] (defScope s_Placer_init) := ⟨rfl, rfl, rfl, by decide +kernel, rfl, by decide +kernel, by decide +kernel⟩
theorem ok_Placer_init (T : Facts K mg) : FnOk P K.w K mg base (L2.CX P K.w) 1 T.a_Placer_init T.d_Placer_init ["self", "left", "right"] (spO K (ct T) 2 m_Placer_init) :=
  fn_o T.F_Placer_init sc_Placer_init rfl rfl fun cdv A outer s H E hr =>
    (dss_cons (ds_fldQ T.k_Placer T.nf_Placer_left (dtr_d (de_var 1)) (dpl_var 0))
    (dss_one (ds_fldQ T.k_Placer T.nf_Placer_right (dtr_d (de_var 2)) (dpl_var 0))))
theorem sc_Placer_row_of : FnScope ["self", "state", "k", "many", "is_placed", "later", "nexts"] ["self", "state"] (defScope s_Placer_row_of) := ⟨rfl, rfl, rfl, by decide +kernel, rfl, by decide +kernel, by decide +kernel⟩
theorem ok_Placer_row_of (T : Facts K mg) : FnOk P K.w K mg base (L2.CX P K.w) 1 T.a_Placer_row_of T.d_Placer_row_of ["self", "state"] (spO K (ct T) 1 m_Placer_row_of) :=
  fn_o T.F_Placer_row_of sc_Placer_row_of rfl rfl fun cdv A outer s H E hr =>
    (dss_cons (ds_if (dt_cmp (od_eq (hu64 hr)) (de_var 1) (de_tup da_nil))
    (dss_one (ds_ret (de_tup (da_cons (de_n (dn_lc (own := [("k", 2)]) rfl sc_Placer_row_of.nd (di_range1 T.z_range (da_cons de_int da_nil)) (blkOk_by (by kernel_rfl)) (by decide) (fun _ _ _ _ _ => (dg_name 2 sc_Placer_row_of.nd)) (fun _ _ _ _ _ => dts_nil) (fun _ _ _ _ _ => (de_tup da_nil)))) (da_cons de_int da_nil)))))
    dss_nil)
    (dss_cons (ds_asg (de_var 1) (dg_tup rfl (dgs_cons (dg_name 3 sc_Placer_row_of.nd) (dgs_cons (dg_name 4 sc_Placer_row_of.nd) dgs_nil))))
    (dss_cons (ds_asg (de_tup (da_cons (de_callB (cd_minA rfl (hu64 hr)) T.z_min bt_min (da_cons (de_op od_add (de_var 3) de_int) (da_cons (de_callB (cd_maxA rfl (hu64 hr)) T.z_max bt_max (da_cons (de_q (dq_fldV 0 T.k_Placer T.nf_Placer_left)) (da_cons (de_q (dq_fldV 0 T.k_Placer T.nf_Placer_right)) da_nil))) da_nil))) (da_cons (de_var 4) da_nil))) (dg_name 5 sc_Placer_row_of.nd))
    (dss_cons (ds_new 6 (dn_op on_add (de_n (dn_lc (own := [("k", 2)]) rfl sc_Placer_row_of.nd (di_range1 T.z_range (da_cons de_int da_nil)) (blkOk_by (by kernel_rfl)) (by decide) (fun _ _ _ _ _ => (dg_name 2 sc_Placer_row_of.nd)) (fun _ _ _ _ _ => dts_nil) (fun _ _ _ _ _ => (de_var 5)))) (de_n (dn_lst (da_cons (de_tup da_nil) da_nil)))) sc_Placer_row_of.nd)
    (dss_cons (ds_app 6 (de_if (dt_cmp od_ge (de_var 3) (de_q (dq_fldV 0 T.k_Placer T.nf_Placer_left))) (de_tup (da_cons de_int (da_cons de_bl da_nil))) (de_tup da_nil)))
    (dss_one (ds_ret (de_tup (da_cons (de_frz 6) (da_cons (de_callTy cd_int T.z_int bt_int (da_cons (de_cmp od_ge (de_var 3) (de_if (dt_truth (de_var 4)) (de_q (dq_fldV 0 T.k_Placer T.nf_Placer_right)) de_int)) da_nil)) da_nil))))))))))
theorem sc_Placer_made : FnScope ["self", "first", "names", "order", "rows", "nexts", "out", "later"] ["self", "first"] (defScope s_Placer_made) := ⟨rfl, rfl, rfl, by decide +kernel, rfl, by decide +kernel, by decide +kernel⟩
theorem ok_Placer_made (T : Facts K mg) : FnOk P K.w K mg base (L2.CX P K.w) 3 T.a_Placer_made T.d_Placer_made ["self", "first"] (spO K (ct T) 1 m_Placer_made) :=
  fn_o T.F_Placer_made sc_Placer_made rfl rfl fun cdv A outer s H E hr =>
    (dss_cons (ds_setT 2 (dtr_dsp (hu64 hr) (de_var 1) (dtr_d de_int)) sc_Placer_made.nd)
    (dss_cons (ds_new 3 (dn_lst (da_cons (de_var 1) da_nil)) sc_Placer_made.nd)
    (dss_cons (ds_new 4 (dn_lst da_nil) sc_Placer_made.nd)
    (dss_cons (ds_pre [5, 6] (ds_fg true [5, 6, 7] (ds_while (fun _ => fuelN) (passes_of rfl) (dt_cmp (od_ltA (hu64 hr)) (de_callB cd_lenA T.z_len bt_len (da_cons (de_var 4) da_nil)) (de_callB cd_lenA T.z_len bt_len (da_cons (de_var 3) da_nil)))
    (dss_fg true [5, 6] (dss_cons (ds_asg (de_methQ T.k_Placer T.w_Placer_row_of (ok_Placer_row_of T) (hr.mono (by decide)) T.b_Placer_row_of (takes_at (takes_of rfl rfl rfl rfl)) (dq_var 0) (da_cons (de_ixA (hu64 hr) (de_var 3) (de_callB cd_lenA T.z_len bt_len (da_cons (de_var 4) da_nil))) da_nil)) (dg_tup rfl (dgs_cons (dg_name 5 sc_Placer_made.nd) (dgs_cons (dg_name 6 sc_Placer_made.nd) dgs_nil))))
    (dss_cons (ds_pre [] (ds_fg true [] (ds_for (passes_of rfl) rfl (di_seqA (de_var 5)) (dg_name 7 sc_Placer_made.nd)
    (dss_fg true [] (dss_one (ds_if (dt_notInQ (hu65 hr) (de_var 7) (dq_var 2))
    (dss_cons (ds_if (dt_cmp (od_eq (hu64 hr)) (de_callB cd_lenA T.z_len bt_len (da_cons (de_var 3) da_nil)) (de_glob T.g_MOST_AUTOMATON))
    (dss_one (ds_raise0 (x := "TooFar") T.x_TooFar (ct_TooFar T) rfl (takes_of rfl rfl rfl rfl)))
    dss_nil)
    (dss_cons (ds_putQ (hu64 hr) (dtr_d (de_callB cd_lenA T.z_len bt_len (da_cons (de_var 3) da_nil))) (dpl_var 2) (de_var 7))
    (dss_one (ds_app 3 (de_var 7)))))
    dss_nil))))))
    (dss_one (ds_app 4 (de_tup (da_cons (de_callTy cd_tuple T.z_tuple bt_tuple (da_cons (de_n (dn_lc (own := [("later", 7)]) rfl sc_Placer_made.nd (di_seqA (de_var 5)) (blkOk_by (by kernel_rfl)) (by decide) (fun _ _ _ _ _ => (dg_name 7 sc_Placer_made.nd)) (fun _ _ _ _ _ => dts_nil) (fun _ _ _ _ _ => (de_q (dq_ix (hu64 hr) (dq_var 2) (de_var 7)))))) da_nil)) (da_cons (de_var 6) da_nil)))))))))))
    (dss_one (ds_ret (de_call (ok_least_of T) (hr.mono (by decide)) T.m_least_of T.F_least_of.kp T.b_least_of (takes_at (takes_of rfl rfl rfl rfl)) (da_cons (de_frz 4) da_nil))))))))
theorem sc_all_words : FnScope ["left", "right"] ["left", "right"] (defScope s_all_words) := ⟨rfl, rfl, rfl, by decide +kernel, rfl, by decide +kernel, by decide +kernel⟩
theorem ok_all_words (T : Facts K mg) : FnOk P K.w K mg base (L2.CX P K.w) 4 T.a_all_words T.d_all_words ["left", "right"] (spP K (ct T) 2 m_all_words) :=
  fn_p T.F_all_words sc_all_words rfl rfl fun cdv A outer s H E hr =>
    (dss_cons (ds_if (L2.PW.pt (dw_or (dt_not (dt_truth (de_call (ok_is_integer T) (hr.mono (by decide)) T.m_is_integer T.F_is_integer.kp T.b_is_integer (takes_at (takes_of rfl rfl rfl rfl)) (da_cons (de_var 0) (da_cons de_int (da_cons (de_glob T.g_MOST_LEVEL) da_nil)))))) (dw_or1 (dt_not (dt_truth (de_call (ok_is_integer T) (hr.mono (by decide)) T.m_is_integer T.F_is_integer.kp T.b_is_integer (takes_at (takes_of rfl rfl rfl rfl)) (da_cons (de_var 1) (da_cons de_int (da_cons (de_glob T.g_MOST_LEVEL) da_nil)))))))))
    (dss_one (ds_raise2 (x := "BadTongue") (k := 1) T.x_BadTongue (ok_i_BadTongue T) (hr.mono (by decide)) (ct_BadTongue T) rfl (takes_of rfl rfl rfl rfl) (da_cons (de_strT (by decide +kernel)) (da_cons (de_strT (by decide +kernel)) da_nil))))
    dss_nil)
    (dss_one (ds_ret (de_methN T.k_Placer T.w_Placer_made (ok_Placer_made T) (hr.mono (by decide)) T.b_Placer_made (takes_at (takes_of rfl rfl rfl rfl)) (dtr_make T.k_Placer T.M_Placer (ok_Placer_init T) (hr.mono (by decide)) T.m_Placer T.b_Placer_init (takes_at (takes_of rfl rfl rfl rfl)) (da_cons (de_var 0) (da_cons (de_var 1) da_nil))) (da_cons (de_tup (da_cons de_int (da_cons de_bl da_nil))) da_nil)))))
theorem sc__law_tape : FnScope ["script", "seed", "cell"] ["script"] (defScope s__law_tape) := ⟨rfl, rfl, rfl, by decide +kernel, rfl, by decide +kernel, by decide +kernel⟩
theorem ok__law_tape (T : Facts K mg) : FnOk P K.w K mg base (L2.CX P K.w) 1 T.a__law_tape T.d__law_tape ["script"] (spP K (ct T) 1 m__law_tape) :=
  fn_p T.F__law_tape sc__law_tape rfl rfl fun cdv A outer s H E hr =>
    (dss_cons (ds_asg de_int (dg_name 1 sc__law_tape.nd))
    (dss_cons (ds_pre [] (ds_fg true [] (ds_for (passes_of rfl) rfl (di_seq (de_var 0)) (dg_name 2 sc__law_tape.nd)
    (dss_fg true [] (dss_one (ds_asg (de_op od_mod (de_callTy cd_int T.z_int bt_int (da_cons (de_op od_add (de_op od_mulA (de_var 1) de_int) (de_var 2)) da_nil)) de_int) (dg_name 1 sc__law_tape.nd)))))))
    (dss_one (ds_retTape (dn_lc (own := [("cell", 2)]) rfl sc__law_tape.nd (di_seq (de_var 0)) (blkOk_by (by kernel_rfl)) (by decide) (fun _ _ _ _ _ => (dg_name 2 sc__law_tape.nd)) (fun _ _ _ _ _ => dts_nil) (fun _ _ _ _ _ => (de_callB cd_abs T.z_abs bt_abs (da_cons (de_callTy cd_int T.z_int bt_int (da_cons (de_var 2) da_nil)) da_nil)))) (de_op od_add (de_var 1) de_int)))))
theorem sc__law_draw : FnScope ["tape", "many", "cells", "number"] ["tape", "many"] (defScope s__law_draw) := ⟨rfl, rfl, rfl, by decide +kernel, rfl, by decide +kernel, by decide +kernel⟩
theorem ok__law_draw (T : Facts K mg) : FnOk P K.w K mg base (L2.CX P K.w) 1 T.a__law_draw T.d__law_draw ["tape", "many"] (spO K (ct T) 1 m__law_draw) :=
  fn_d (j := 2) T.F__law_draw sc__law_draw rfl rfl draw_ok draw_ok2 draw_ok3 fun cdv A outer s H E hr =>
    (dss_cons (ds_tpC 0 2 sc__law_draw.nd)
    (dss_cons (ds_while tpFuel (passes_of rfl) (L2.PW.pt (dw_and (dt_cmp od_gt (de_tpLen 0 2 T.z_len) de_int) (dw_and1 (dt_cmp (od_eq (hu64 hr)) (de_tpAt 0 2) de_int)))) (dss_one (ds_tpPop 0 2)))
    (dss_cons (ds_if (dt_cmp od_gt (de_tpLen 0 2 T.z_len) de_int) (dss_cons (ds_asg (de_tpAt 0 2) (dg_name 3 sc__law_draw.nd)) (dss_cons (ds_tpSet 0 2 (de_op od_fdiv (de_var 3) (de_var 1))) (dss_one (ds_ret (de_op od_mod (de_callTy cd_int T.z_int bt_int (da_cons (de_var 3) da_nil)) (de_var 1)))))) dss_nil)
    (dss_cons (ds_tpSeed 0 (de_op od_mod (de_callTy cd_int T.z_int bt_int (da_cons (de_op od_add (de_op od_mul (de_tpSeed 0) de_int) de_int) da_nil)) de_int))
    (dss_one (ds_ret (de_op od_mod (de_callTy cd_int T.z_int bt_int (da_cons (de_op od_fdiv (de_tpSeed 0) de_int) da_nil)) (de_var 1))))))))
theorem sc__law_pick : FnScope ["tape", "row"] ["tape", "row"] (defScope s__law_pick) := ⟨rfl, rfl, rfl, by decide +kernel, rfl, by decide +kernel, by decide +kernel⟩
theorem ok__law_pick (T : Facts K mg) : FnOk P K.w K mg base (L2.CX P K.w) 2 T.a__law_pick T.d__law_pick ["tape", "row"] (spO K (ct T) 1 m__law_pick) :=
  fn_o T.F__law_pick sc__law_pick rfl rfl fun cdv A outer s H E hr =>
    (dss_one (ds_ret (de_ix od_ix (de_var 1) (de_callO 0 (ok__law_draw T) (hr.mono (by decide)) T.m__law_draw T.F__law_draw.kp T.b__law_draw (takes_at (takes_of rfl rfl rfl rfl)) (da_cons (de_callB cd_len T.z_len bt_len (da_cons (de_var 1) da_nil)) da_nil)))))
theorem sc__law_signs : FnScope [] [] (defScope s__law_signs) := ⟨rfl, rfl, rfl, by decide +kernel, rfl, by decide +kernel, by decide +kernel⟩
theorem ok__law_signs (T : Facts K mg) : FnOk P K.w K mg base (L2.CX P K.w) 1 T.a__law_signs T.d__law_signs [] (spP K (ct T) 0 m__law_signs) :=
  fn_p T.F__law_signs sc__law_signs rfl rfl fun cdv A outer s H E hr =>
    (dss_one (ds_ret (de_strT (by decide +kernel))))
theorem sc__law_string : FnScope ["tape", "letters", "low", "high", "k"] ["tape", "letters", "low", "high"] (defScope s__law_string) := ⟨rfl, rfl, rfl, by decide +kernel, rfl, by decide +kernel, by decide +kernel⟩
theorem ok__law_string (T : Facts K mg) : FnOk P K.w K mg base (L2.CX P K.w) 2 T.a__law_string T.d__law_string ["tape", "letters", "low", "high"] (spO K (ct T) 3 m__law_string) :=
  fn_o T.F__law_string sc__law_string rfl rfl fun cdv A outer s H E hr =>
    (dss_one (ds_ret (de_meth PySem.F.plainAttrs_str PySem.F.slot_str_join PySem.F.type_str_join md_join (de_strT (by decide +kernel)) (da_cons (de_n (dn_lc (own := [("k", 4)]) rfl sc__law_string.nd (di_range1 T.z_range (da_cons (de_op od_add (de_var 2) (de_callO 0 (ok__law_draw T) (hr.mono (by decide)) T.m__law_draw T.F__law_draw.kp T.b__law_draw (takes_at (takes_of rfl rfl rfl rfl)) (da_cons (de_op od_add (de_op od_sub (de_var 3) (de_var 2)) de_int) da_nil))) da_nil)) (blkOk_by (by kernel_rfl)) (by decide) (fun _ _ _ _ _ => (dg_name 4 sc__law_string.nd)) (fun _ _ _ _ _ => dts_nil) (fun _ _ _ _ _ => (de_ix od_ix (de_var 1) (de_callO 0 (ok__law_draw T) (hr.mono (by decide)) T.m__law_draw T.F__law_draw.kp T.b__law_draw takes_no (da_cons (de_callB cd_len T.z_len bt_len (da_cons (de_var 1) da_nil)) da_nil)))))) da_nil))))
theorem sc__law_takes : FnScope ["automaton", "text", "state", "sign"] ["automaton", "text"] (defScope s__law_takes) := ⟨rfl, rfl, rfl, by decide +kernel, rfl, by decide +kernel, by decide +kernel⟩
theorem ok__law_takes (T : Facts K mg) : FnOk P K.w K mg base (L2.CX P K.w) 2 T.a__law_takes T.d__law_takes ["automaton", "text"] (spP K (ct T) 2 m__law_takes) :=
  fn_p T.F__law_takes sc__law_takes rfl rfl fun cdv A outer s H E hr =>
    (dss_cons (ds_asg de_int (dg_name 2 sc__law_takes.nd))
    (dss_cons (ds_pre [3] (ds_fg true [3] (ds_for (passes_of rfl) rfl (di_seq (de_var 1)) (dg_name 3 sc__law_takes.nd)
    (dss_fg true [3] (dss_one (ds_asg (de_ix od_ix (de_ix od_ix (de_ix od_ix (de_ix od_ix (de_var 0) de_int) (de_var 2)) de_int) (de_meth PySem.F.plainAttrs_str PySem.F.slot_str_index PySem.F.type_str_index md_sindex (de_call0 (ok__law_signs T) (hr.mono (by decide)) T.m__law_signs T.F__law_signs.kp T.b__law_signs) (da_cons (de_var 3) da_nil))) (dg_name 2 sc__law_takes.nd)))))))
    (dss_one (ds_ret (de_cmp (od_eq (hu64 hr)) (de_ix od_ix (de_ix od_ix (de_ix od_ix (de_var 0) de_int) (de_var 2)) de_int) de_int)))))
theorem sc__law_least_states : FnScope ["rows", "order", "at", "m", "kind", "s", "many", "names", "later", "sign", "place", "firsts", "found", "nexts", "out"] ["rows"] (defScope s__law_least_states) := ⟨rfl, rfl, rfl, by decide +kernel, rfl, by decide +kernel, by decide +kernel⟩
theorem ok__law_least_states (T : Facts K mg) : FnOk P K.w K mg base (L2.CX P K.w) 1 T.a__law_least_states T.d__law_least_states ["rows"] (spP K (ct T) 1 m__law_least_states) :=
  fn_p T.F__law_least_states sc__law_least_states rfl rfl fun cdv A outer s H E hr =>
    (dss_cons (ds_new 1 (dn_lst (da_cons de_int da_nil)) sc__law_least_states.nd)
    (dss_cons (ds_asg de_int (dg_name 2 sc__law_least_states.nd))
    (dss_cons (ds_pre [] (ds_fg true [2] (ds_while (fun _ => fuelN) (passes_of rfl) (dt_cmp (od_ltA (hu64 hr)) (de_var 2) (de_callB cd_lenA T.z_len bt_len (da_cons (de_var 1) da_nil)))
    (dss_fg true [] (dss_cons (ds_pre [] (ds_fg true [] (ds_for (passes_of rfl) rfl (di_seqA (de_ixA (hu64 hr) (de_ixA (hu64 hr) (de_var 0) (de_ixA (hu64 hr) (de_var 1) (de_var 2))) de_int)) (dg_name 3 sc__law_least_states.nd)
    (dss_fg true [] (dss_one (ds_if (dt_cmp (od_notInA (hu65 hr)) (de_var 3) (de_var 1))
    (dss_one (ds_app 1 (de_var 3)))
    dss_nil))))))
    (dss_one (ds_asg (de_op od_add (de_var 2) de_int) (dg_name 2 sc__law_least_states.nd))))))))
    (dss_cons (ds_asg (de_t (dtr_dictP rfl T.z_dict bt_dict (da_cons (de_n (dn_lc (own := [("s", 5)]) rfl sc__law_least_states.nd (di_seqA (de_frz 1)) (blkOk_by (by kernel_rfl)) (by decide) (fun _ _ _ _ _ => (dg_name 5 sc__law_least_states.nd)) (fun _ _ _ _ _ => dts_nil) (fun _ _ _ _ _ => (de_tup (da_cons (de_var 5) (da_cons (de_ixA (hu64 hr) (de_ixA (hu64 hr) (de_var 0) (de_var 5)) de_int) da_nil)))))) da_nil))) (dg_name 4 sc__law_least_states.nd))
    (dss_cons (ds_asg de_int (dg_name 6 sc__law_least_states.nd))
    (dss_cons (ds_pre [7, 8, 9] (ds_fg true [5, 6, 7, 8, 9] (ds_while (fun _ => fuelN) (passes_of rfl) (dt_cmp od_gt (de_lenSet rfl T.z_len T.z_set (de_n (dn_lc (own := [("s", 5)]) rfl sc__law_least_states.nd (di_seqA (de_frz 1)) (blkOk_by (by kernel_rfl)) (by decide) (fun _ _ _ _ _ => (dg_name 5 sc__law_least_states.nd)) (fun _ _ _ _ _ => dts_nil) (fun _ _ _ _ _ => (de_ixA (hu64 hr) (de_var 4) (de_var 5)))))) (de_var 6))
    (dss_fg true [7, 8, 9] (dss_cons (ds_asg (de_lenSet rfl T.z_len T.z_set (de_n (dn_lc (own := [("s", 5)]) rfl sc__law_least_states.nd (di_seqA (de_frz 1)) (blkOk_by (by kernel_rfl)) (by decide) (fun _ _ _ _ _ => (dg_name 5 sc__law_least_states.nd)) (fun _ _ _ _ _ => dts_nil) (fun _ _ _ _ _ => (de_ixA (hu64 hr) (de_var 4) (de_var 5)))))) (dg_name 6 sc__law_least_states.nd))
    (dss_cons (ds_setT 7 dtr_e sc__law_least_states.nd)
    (dss_cons (ds_setT 8 dtr_e sc__law_least_states.nd)
    (dss_cons (ds_pre [9] (ds_fg true [9] (ds_for (passes_of rfl) rfl (di_seqA (de_frz 1)) (dg_name 5 sc__law_least_states.nd)
    (dss_fg true [9] (dss_cons (ds_asg (de_tup (da_cons (de_ixA (hu64 hr) (de_var 4) (de_var 5)) (da_cons (de_callTy cd_tuple T.z_tuple bt_tuple (da_cons (de_n (dn_lc (own := [("m", 3)]) rfl sc__law_least_states.nd (di_seqA (de_ixA (hu64 hr) (de_ixA (hu64 hr) (de_var 0) (de_var 5)) de_int)) (blkOk_by (by kernel_rfl)) (by decide) (fun _ _ _ _ _ => (dg_name 3 sc__law_least_states.nd)) (fun _ _ _ _ _ => dts_nil) (fun _ _ _ _ _ => (de_ixA (hu64 hr) (de_var 4) (de_var 3))))) da_nil)) da_nil))) (dg_name 9 sc__law_least_states.nd))
    (dss_one (ds_putQ (hu64 hr) (dtr_d (de_q (dq_sdfL 7 (hu64 hr) T.z_len (de_var 9)))) (dpl_var 8) (de_var 5))))))))
    (dss_one (ds_asg (de_q (dq_var 8)) (dg_name 4 sc__law_least_states.nd)))))))))))
    (dss_cons (ds_setT 10 (dtr_dsp (hu64 hr) (de_ixA (hu64 hr) (de_var 4) de_int) (dtr_d de_int)) sc__law_least_states.nd)
    (dss_cons (ds_new 11 (dn_lst (da_cons de_int da_nil)) sc__law_least_states.nd)
    (dss_cons (ds_new 12 (dn_lst da_nil) sc__law_least_states.nd)
    (dss_cons (ds_pre [13, 14] (ds_fg true [3, 13, 14] (ds_while (fun _ => fuelN) (passes_of rfl) (dt_cmp (od_ltA (hu64 hr)) (de_callB cd_lenA T.z_len bt_len (da_cons (de_var 12) da_nil)) (de_callB cd_lenA T.z_len bt_len (da_cons (de_var 11) da_nil)))
    (dss_fg true [13, 14] (dss_cons (ds_asg (de_ixA (hu64 hr) (de_var 0) (de_ixA (hu64 hr) (de_var 11) (de_callB cd_lenA T.z_len bt_len (da_cons (de_var 12) da_nil)))) (dg_tup rfl (dgs_cons (dg_name 13 sc__law_least_states.nd) (dgs_cons (dg_name 14 sc__law_least_states.nd) dgs_nil))))
    (dss_cons (ds_pre [] (ds_fg true [] (ds_for (passes_of rfl) rfl (di_seqA (de_var 13)) (dg_name 3 sc__law_least_states.nd)
    (dss_fg true [] (dss_one (ds_if (dt_notInQ (hu65 hr) (de_ixA (hu64 hr) (de_var 4) (de_var 3)) (dq_var 10))
    (dss_cons (ds_putQ (hu64 hr) (dtr_d (de_callB cd_lenA T.z_len bt_len (da_cons (de_var 11) da_nil))) (dpl_var 10) (de_ixA (hu64 hr) (de_var 4) (de_var 3)))
    (dss_one (ds_app 11 (de_var 3))))
    dss_nil))))))
    (dss_one (ds_app 12 (de_tup (da_cons (de_callTy cd_tuple T.z_tuple bt_tuple (da_cons (de_n (dn_lc (own := [("m", 3)]) rfl sc__law_least_states.nd (di_seqA (de_var 13)) (blkOk_by (by kernel_rfl)) (by decide) (fun _ _ _ _ _ => (dg_name 3 sc__law_least_states.nd)) (fun _ _ _ _ _ => dts_nil) (fun _ _ _ _ _ => (de_q (dq_ix (hu64 hr) (dq_var 10) (de_ixA (hu64 hr) (de_var 4) (de_var 3))))))) da_nil)) (da_cons (de_var 14) da_nil)))))))))))
    (dss_one (ds_ret (de_callTy cd_tuple T.z_tuple bt_tuple (da_cons (de_var 12) da_nil))))))))))))))
theorem sc__law_all : FnScope ["letters", "most", "found", "layer", "k", "later", "text", "letter"] ["letters", "most"] (defScope s__law_all) := ⟨rfl, rfl, rfl, by decide +kernel, rfl, by decide +kernel, by decide +kernel⟩
theorem ok__law_all (T : Facts K mg) : FnOk P K.w K mg base (L2.CX P K.w) 1 T.a__law_all T.d__law_all ["letters", "most"] (spP K (ct T) 2 m__law_all) :=
  fn_p T.F__law_all sc__law_all rfl rfl fun cdv A outer s H E hr =>
    (dss_cons (ds_asg (de_n (dn_lst (da_cons (de_strT (by decide +kernel)) da_nil))) (dg_name 2 sc__law_all.nd))
    (dss_cons (ds_asg (de_n (dn_lst (da_cons (de_strT (by decide +kernel)) da_nil))) (dg_name 3 sc__law_all.nd))
    (dss_cons (ds_pre [4, 5, 6] (ds_fg true [3, 4, 5, 6, 7] (ds_for (passes_of rfl) rfl (di_range1 T.z_range (da_cons (de_var 1) da_nil)) (dg_name 4 sc__law_all.nd)
    (dss_fg true [4, 5, 6] (dss_cons (ds_asg (de_n (dn_lst da_nil)) (dg_name 5 sc__law_all.nd))
    (dss_cons (ds_pre [6] (ds_fg true [6] (ds_for (passes_of rfl) rfl (di_seq (de_var 3)) (dg_name 6 sc__law_all.nd)
    (dss_fg true [6] (dss_one (ds_asg (de_op od_add (de_var 5) (de_n (dn_lc (own := [("letter", 7)]) rfl sc__law_all.nd (di_seq (de_var 0)) (blkOk_by (by kernel_rfl)) (by decide) (fun _ _ _ _ _ => (dg_name 7 sc__law_all.nd)) (fun _ _ _ _ _ => dts_nil) (fun _ _ _ _ _ => (de_op od_add (de_var 6) (de_var 7)))))) (dg_name 5 sc__law_all.nd)))))))
    (dss_cons (ds_asg (de_var 5) (dg_name 3 sc__law_all.nd))
    (dss_one (ds_asg (de_op od_add (de_var 2) (de_var 3)) (dg_name 2 sc__law_all.nd))))))))))
    (dss_one (ds_ret (de_var 2))))))
theorem sc__law_call : FnScope ["left", "right", "told", "error"] ["left", "right"] (defScope s__law_call) := ⟨rfl, rfl, rfl, by decide +kernel, rfl, by decide +kernel, by decide +kernel⟩
theorem ok__law_call (T : Facts K mg) : FnOk P K.w K mg base (L2.CX P K.w) 5 T.a__law_call T.d__law_call ["left", "right"] (spP K (ct T) 2 m__law_call) :=
  fn_p T.F__law_call sc__law_call rfl rfl fun cdv A outer s H E hr =>
    (dss_cons (ds_tryM rfl rfl sc__law_call.nd (takes_of rfl rfl rfl rfl) (fun W pn xe tk hp => (dss_one (ds_asg (de_call (ok_all_words T) (hr.mono (by decide)) T.m_all_words T.F_all_words.kp T.b_all_words (takes_at tk) (da_cons (de_var 0) (da_cons (de_var 1) da_nil))) (dg_name 2 sc__law_call.nd))))
    (dh_named 3 T.sub_ok (ct_BadTongue T) T.x_BadTongue.g (dx_fld T.xf_BadTongue (ct_BadTongue T) T.nf_BadTongue_kind)
    dh_nil))
    (dss_one (ds_ret (de_var 2))))
theorem sc__law_is_one : FnScope ["text", "left", "right", "parts", "part"] ["text", "left", "right"] (defScope s__law_is_one) := ⟨rfl, rfl, rfl, by decide +kernel, rfl, by decide +kernel, by decide +kernel⟩
theorem ok__law_is_one (T : Facts K mg) : FnOk P K.w K mg base (L2.CX P K.w) 1 T.a__law_is_one T.d__law_is_one ["text", "left", "right"] (spP K (ct T) 3 m__law_is_one) :=
  fn_p T.F__law_is_one sc__law_is_one rfl rfl fun cdv A outer s H E hr =>
    (dss_cons (ds_asg (de_meth PySem.F.plainAttrs_str PySem.F.slot_str_split PySem.F.type_str_split md_split (de_var 0) (da_cons (de_strT (by decide +kernel)) da_nil)) (dg_name 3 sc__law_is_one.nd))
    (dss_cons (ds_if (L2.PW.pt (dw_or (dt_cmp (od_in (hu65 hr)) (de_strT (by decide +kernel)) (de_var 0)) (dw_or1 (dt_cmp (od_eq (hu64 hr)) (de_var 0) (de_strT (by decide +kernel))))))
    (dss_one (ds_ret de_bl))
    dss_nil)
    (dss_cons (ds_if (dt_cmp (od_eq (hu64 hr)) (de_callB cd_len T.z_len bt_len (da_cons (de_var 3) da_nil)) de_int)
    (dss_one (ds_ret de_bl))
    dss_nil)
    (dss_one (ds_ret (de_and (de_cmp od_ge (de_callB (cd_minA rfl (hu64 hr)) T.z_min bt_min (da_cons (de_n (dn_lc (own := [("part", 4)]) rfl sc__law_is_one.nd (di_seq (de_sl od_sl (de_var 3) do_none (do_some (de_op od_sub (de_callB cd_len T.z_len bt_len (da_cons (de_var 3) da_nil)) de_int)))) (blkOk_by (by kernel_rfl)) (by decide) (fun _ _ _ _ _ => (dg_name 4 sc__law_is_one.nd)) (fun _ _ _ _ _ => dts_nil) (fun _ _ _ _ _ => (de_callB cd_len T.z_len bt_len (da_cons (de_var 4) da_nil))))) da_nil)) (de_var 1)) (de_one (de_cmp od_ge (de_callB cd_len T.z_len bt_len (da_cons (de_ix od_ix (de_var 3) (de_op od_sub (de_callB cd_len T.z_len bt_len (da_cons (de_var 3) da_nil)) de_int)) da_nil)) (de_var 2)))))))))
theorem sc_law : FnScope ["script", "tape", "left", "right", "told", "texts", "k", "text", "odd"] ["script"] (defScope s_law) := ⟨rfl, rfl, rfl, by decide +kernel, rfl, by decide +kernel, by decide +kernel⟩
theorem ok_law (T : Facts K mg) : FnOk P K.w K mg base (L2.CX P K.w) 6 T.a_law T.d_law ["script"] (spP K (ct T) 1 m_law) :=
  fn_p T.F_law sc_law rfl rfl fun cdv A outer s H E hr =>
    (dss_cons (ds_callN 1 (ok__law_tape T) (hr.mono (by decide)) T.m__law_tape T.F__law_tape.kp T.b__law_tape (takes_at (takes_of rfl rfl rfl rfl)) (da_cons (de_var 0) da_nil) sc_law.nd)
    (dss_cons (ds_par 2 3 rfl sc_law.nd (da_cons (de_op od_add de_int (de_callO 1 (ok__law_draw T) (hr.mono (by decide)) T.m__law_draw T.F__law_draw.kp T.b__law_draw (takes_at (takes_of rfl rfl rfl rfl)) (da_cons de_int da_nil))) (da_cons (de_op od_add de_int (de_callO 1 (ok__law_draw T) (hr.mono (by decide)) T.m__law_draw T.F__law_draw.kp T.b__law_draw (takes_at (takes_of rfl rfl rfl rfl)) (da_cons de_int da_nil))) da_nil)))
    (dss_cons (ds_asg (de_call (ok__law_call T) (hr.mono (by decide)) T.m__law_call T.F__law_call.kp T.b__law_call (takes_at (takes_of rfl rfl rfl rfl)) (da_cons (de_var 2) (da_cons (de_var 3) da_nil))) (dg_name 4 sc_law.nd))
    (dss_cons (ds_if (L2.PW.pt (dw_or (dt_not (dt_truth (de_isi (de_var 4) T.z_isinstance T.z_tuple bt_tuple))) (dw_or1 (dt_cmp (od_ne (hu64 hr)) (de_ix od_ix (de_var 4) de_int) (de_call (ok__law_least_states T) (hr.mono (by decide)) T.m__law_least_states T.F__law_least_states.kp T.b__law_least_states (takes_at (takes_of rfl rfl rfl rfl)) (da_cons (de_ix od_ix (de_var 4) de_int) da_nil))))))
    (dss_one (ds_ret de_bl))
    dss_nil)
    (dss_cons (ds_asg (de_op od_add (de_op od_add (de_call (ok__law_all T) (hr.mono (by decide)) T.m__law_all T.F__law_all.kp T.b__law_all (takes_at (takes_of rfl rfl rfl rfl)) (da_cons (de_strT (by decide +kernel)) (da_cons de_int da_nil))) (de_n (dn_lc (own := [("k", 6)]) rfl sc_law.nd (di_range1 T.z_range (da_cons de_int da_nil)) (blkOk_by (by kernel_rfl)) (by decide) (fun _ _ _ _ _ => (dg_name 6 sc_law.nd)) (fun _ _ _ _ _ => dts_nil) (fun _ _ _ _ _ => (de_callO 1 (ok__law_string T) (hr.mono (by decide)) T.m__law_string T.F__law_string.kp T.b__law_string takes_no (da_cons (de_strT (by decide +kernel)) (da_cons de_int (da_cons de_int da_nil)))))))) (de_n (dn_lc (own := [("k", 6)]) rfl sc_law.nd (di_range1 T.z_range (da_cons de_int da_nil)) (blkOk_by (by kernel_rfl)) (by decide) (fun _ _ _ _ _ => (dg_name 6 sc_law.nd)) (fun _ _ _ _ _ => dts_nil) (fun _ _ _ _ _ => (de_callO 1 (ok__law_string T) (hr.mono (by decide)) T.m__law_string T.F__law_string.kp T.b__law_string takes_no (da_cons (de_strT (by decide +kernel)) (da_cons de_int (da_cons de_int da_nil)))))))) (dg_name 5 sc_law.nd))
    (dss_cons (ds_pre [7] (ds_fg true [7] (ds_for (passes_of rfl) rfl (di_seq (de_var 5)) (dg_name 7 sc_law.nd)
    (dss_fg true [7] (dss_one (ds_if (dt_cmp (od_ne (hu64 hr)) (de_call (ok__law_takes T) (hr.mono (by decide)) T.m__law_takes T.F__law_takes.kp T.b__law_takes (takes_at (takes_of rfl rfl rfl rfl)) (da_cons (de_var 4) (da_cons (de_var 7) da_nil))) (de_call (ok__law_is_one T) (hr.mono (by decide)) T.m__law_is_one T.F__law_is_one.kp T.b__law_is_one (takes_at (takes_of rfl rfl rfl rfl)) (da_cons (de_var 7) (da_cons (de_var 2) (da_cons (de_var 3) da_nil)))))
    (dss_one (ds_ret de_bl))
    dss_nil))))))
    (dss_cons (ds_asg (de_callO 1 (ok__law_pick T) (hr.mono (by decide)) T.m__law_pick T.F__law_pick.kp T.b__law_pick (takes_at (takes_of rfl rfl rfl rfl)) (da_cons (de_n (dn_lst (da_cons de_int (da_cons de_int (da_cons de_non (da_cons de_bl (da_cons (de_strT (by decide +kernel)) da_nil))))))) da_nil)) (dg_name 8 sc_law.nd))
    (dss_one (ds_ret (de_cmp (od_eq (hu64 hr)) (de_tup (da_cons (de_call (ok__law_call T) (hr.mono (by decide)) T.m__law_call T.F__law_call.kp T.b__law_call (takes_at (takes_of rfl rfl rfl rfl)) (da_cons (de_var 8) (da_cons (de_var 3) da_nil))) (da_cons (de_call (ok__law_call T) (hr.mono (by decide)) T.m__law_call T.F__law_call.kp T.b__law_call (takes_at (takes_of rfl rfl rfl rfl)) (da_cons (de_var 2) (da_cons (de_var 8) da_nil))) da_nil))) (de_tup (da_cons (de_strT (by decide +kernel)) (da_cons (de_strT (by decide +kernel)) da_nil)))))))))))))
end
theorem all_mk {l : PySem.W.OpenLaw} {w : World} {K : PySem.W.Frag} {h : Heap} {mg : Str → Option Value} {fa : Addr} (X : K.In h) (G : h.Ns mainGlobals mg) (hfa : mg "law" = some (.ref fa))
    {f_is_integer : Addr} {oc_is_integer kV_is_integer dc_is_integer pm_is_integer cd_is_integer ct_is_integer : Value} {od_is_integer an_is_integer : Option Addr} {sl_is_integer : Array (Option Value)}
    {f_met : Addr} {oc_met kV_met dc_met pm_met cd_met ct_met : Value} {od_met an_met : Option Addr} {sl_met : Array (Option Value)}
    {f_kinds_of : Addr} {oc_kinds_of kV_kinds_of dc_kinds_of pm_kinds_of cd_kinds_of ct_kinds_of : Value} {od_kinds_of an_kinds_of : Option Addr} {sl_kinds_of : Array (Option Value)}
    {f_least_of : Addr} {oc_least_of kV_least_of dc_least_of pm_least_of cd_least_of ct_least_of : Value} {od_least_of an_least_of : Option Addr} {sl_least_of : Array (Option Value)}
    {C_Placer : Addr}
    {f_Placer_init : Addr} {oc_Placer_init kV_Placer_init dc_Placer_init pm_Placer_init cd_Placer_init ct_Placer_init : Value} {od_Placer_init an_Placer_init : Option Addr} {sl_Placer_init : Array (Option Value)}
    {f_Placer_row_of : Addr} {oc_Placer_row_of kV_Placer_row_of dc_Placer_row_of pm_Placer_row_of cd_Placer_row_of ct_Placer_row_of : Value} {od_Placer_row_of an_Placer_row_of : Option Addr} {sl_Placer_row_of : Array (Option Value)}
    {f_Placer_made : Addr} {oc_Placer_made kV_Placer_made dc_Placer_made pm_Placer_made cd_Placer_made ct_Placer_made : Value} {od_Placer_made an_Placer_made : Option Addr} {sl_Placer_made : Array (Option Value)}
    {f_all_words : Addr} {oc_all_words kV_all_words dc_all_words pm_all_words cd_all_words ct_all_words : Value} {od_all_words an_all_words : Option Addr} {sl_all_words : Array (Option Value)}
    {f__law_tape : Addr} {oc__law_tape kV__law_tape dc__law_tape pm__law_tape cd__law_tape ct__law_tape : Value} {od__law_tape an__law_tape : Option Addr} {sl__law_tape : Array (Option Value)}
    {f__law_draw : Addr} {oc__law_draw kV__law_draw dc__law_draw pm__law_draw cd__law_draw ct__law_draw : Value} {od__law_draw an__law_draw : Option Addr} {sl__law_draw : Array (Option Value)}
    {f__law_pick : Addr} {oc__law_pick kV__law_pick dc__law_pick pm__law_pick cd__law_pick ct__law_pick : Value} {od__law_pick an__law_pick : Option Addr} {sl__law_pick : Array (Option Value)}
    {f__law_signs : Addr} {oc__law_signs kV__law_signs dc__law_signs pm__law_signs cd__law_signs ct__law_signs : Value} {od__law_signs an__law_signs : Option Addr} {sl__law_signs : Array (Option Value)}
    {f__law_string : Addr} {oc__law_string kV__law_string dc__law_string pm__law_string cd__law_string ct__law_string : Value} {od__law_string an__law_string : Option Addr} {sl__law_string : Array (Option Value)}
    {f__law_takes : Addr} {oc__law_takes kV__law_takes dc__law_takes pm__law_takes cd__law_takes ct__law_takes : Value} {od__law_takes an__law_takes : Option Addr} {sl__law_takes : Array (Option Value)}
    {f__law_least_states : Addr} {oc__law_least_states kV__law_least_states dc__law_least_states pm__law_least_states cd__law_least_states ct__law_least_states : Value} {od__law_least_states an__law_least_states : Option Addr} {sl__law_least_states : Array (Option Value)}
    {f__law_all : Addr} {oc__law_all kV__law_all dc__law_all pm__law_all cd__law_all ct__law_all : Value} {od__law_all an__law_all : Option Addr} {sl__law_all : Array (Option Value)}
    {f__law_call : Addr} {oc__law_call kV__law_call dc__law_call pm__law_call cd__law_call ct__law_call : Value} {od__law_call an__law_call : Option Addr} {sl__law_call : Array (Option Value)}
    {f__law_is_one : Addr} {oc__law_is_one kV__law_is_one dc__law_is_one pm__law_is_one cd__law_is_one ct__law_is_one : Value} {od__law_is_one an__law_is_one : Option Addr} {sl__law_is_one : Array (Option Value)}
    {f_law : Addr} {oc_law kV_law dc_law pm_law cd_law ct_law : Value} {od_law an_law : Option Addr} {sl_law : Array (Option Value)}
    {C_BadTongue : Addr}
    {nm_BadTongue} {q_BadTongue} {N_BadTongue} {bs_BadTongue} {bm_BadTongue} {sn_BadTongue} {sub_BadTongue} {ab_BadTongue} {col_BadTongue} {dd_BadTongue} {k0_BadTongue} {k1_BadTongue} {k2_BadTongue} {k3_BadTongue} {k5_BadTongue}
    {fi_BadTongue : Addr}
    {oci_BadTongue kVi_BadTongue dci_BadTongue pmi_BadTongue cdi_BadTongue cti_BadTongue : Value} {odi_BadTongue ani_BadTongue : Option Addr} {sli_BadTongue : Array (Option Value)}
    {C_TooFar : Addr}
    {t_MOST_LEVEL : Tok}
    {t_MOST_AUTOMATON : Tok}
    (a_is_integer : PySem.W.nsIn K mainGlobals "is_integer" = some (some (.ref f_is_integer)))
    (l_is_integer : K.lookup f_is_integer = some ⟨oc_is_integer, od_is_integer, .func (PySem.W.fnOf "is_integer" "is_integer" (defArgs s_is_integer) (defBody s_is_integer) (defScope s_is_integer) .none kV_is_integer dc_is_integer pm_is_integer an_is_integer cd_is_integer ct_is_integer), sl_is_integer⟩)
    (c_is_integer : PySem.W.codeIn K cd_is_integer "is_integer" = true)
    (k_is_integer : PySem.W.keepIn K (.ref f_is_integer) = true)
    (a_met : PySem.W.nsIn K mainGlobals "met" = some (some (.ref f_met)))
    (l_met : K.lookup f_met = some ⟨oc_met, od_met, .func (PySem.W.fnOf "met" "met" (defArgs s_met) (defBody s_met) (defScope s_met) .none kV_met dc_met pm_met an_met cd_met ct_met), sl_met⟩)
    (c_met : PySem.W.codeIn K cd_met "met" = true)
    (k_met : PySem.W.keepIn K (.ref f_met) = true)
    (a_kinds_of : PySem.W.nsIn K mainGlobals "kinds_of" = some (some (.ref f_kinds_of)))
    (l_kinds_of : K.lookup f_kinds_of = some ⟨oc_kinds_of, od_kinds_of, .func (PySem.W.fnOf "kinds_of" "kinds_of" (defArgs s_kinds_of) (defBody s_kinds_of) (defScope s_kinds_of) .none kV_kinds_of dc_kinds_of pm_kinds_of an_kinds_of cd_kinds_of ct_kinds_of), sl_kinds_of⟩)
    (c_kinds_of : PySem.W.codeIn K cd_kinds_of "kinds_of" = true)
    (k_kinds_of : PySem.W.keepIn K (.ref f_kinds_of) = true)
    (a_least_of : PySem.W.nsIn K mainGlobals "least_of" = some (some (.ref f_least_of)))
    (l_least_of : K.lookup f_least_of = some ⟨oc_least_of, od_least_of, .func (PySem.W.fnOf "least_of" "least_of" (defArgs s_least_of) (defBody s_least_of) (defScope s_least_of) .none kV_least_of dc_least_of pm_least_of an_least_of cd_least_of ct_least_of), sl_least_of⟩)
    (c_least_of : PySem.W.codeIn K cd_least_of "least_of" = true)
    (k_least_of : PySem.W.keepIn K (.ref f_least_of) = true)
    (a_Placer : PySem.W.nsIn K mainGlobals "Placer" = some (some (.ref C_Placer)))
    (pg_Placer : PySem.W.plainGet K C_Placer Str.empty = true)
    (hd_Placer : PySem.W.hasDictIn K C_Placer = true)
    (po_Placer : PySem.W.plainOver K C_Placer = true)
    (sa_Placer : PySem.W.findIn K (.ref C_Placer) "__setattr__" = some (some (.builtin "object.__setattr__")))
    (mk_Placer : PySem.W.makesIn K C_Placer = true)
    (kc_Placer : PySem.W.keepIn K (.ref C_Placer) = true)
    (nf_Placer_left : PySem.W.findIn K (.ref C_Placer) "left" = some none)
    (nf_Placer_right : PySem.W.findIn K (.ref C_Placer) "right" = some none)
    (at_Placer_init : PySem.W.findIn K (.ref C_Placer) "__init__" = some (some (.ref f_Placer_init)))
    (l_Placer_init : K.lookup f_Placer_init = some ⟨oc_Placer_init, od_Placer_init, .func (PySem.W.fnOf "__init__" "Placer.__init__" (defArgs s_Placer_init) (defBody s_Placer_init) (defScope s_Placer_init) .none kV_Placer_init dc_Placer_init pm_Placer_init an_Placer_init cd_Placer_init ct_Placer_init), sl_Placer_init⟩)
    (c_Placer_init : PySem.W.codeIn K cd_Placer_init "Placer.__init__" = true)
    (k_Placer_init : PySem.W.keepIn K (.ref f_Placer_init) = true)
    (fn_Placer_init : PySem.W.isFn K (.ref f_Placer_init) = true)
    (at_Placer_row_of : PySem.W.findIn K (.ref C_Placer) "row_of" = some (some (.ref f_Placer_row_of)))
    (l_Placer_row_of : K.lookup f_Placer_row_of = some ⟨oc_Placer_row_of, od_Placer_row_of, .func (PySem.W.fnOf "row_of" "Placer.row_of" (defArgs s_Placer_row_of) (defBody s_Placer_row_of) (defScope s_Placer_row_of) .none kV_Placer_row_of dc_Placer_row_of pm_Placer_row_of an_Placer_row_of cd_Placer_row_of ct_Placer_row_of), sl_Placer_row_of⟩)
    (c_Placer_row_of : PySem.W.codeIn K cd_Placer_row_of "Placer.row_of" = true)
    (k_Placer_row_of : PySem.W.keepIn K (.ref f_Placer_row_of) = true)
    (fn_Placer_row_of : PySem.W.isFn K (.ref f_Placer_row_of) = true)
    (at_Placer_made : PySem.W.findIn K (.ref C_Placer) "made" = some (some (.ref f_Placer_made)))
    (l_Placer_made : K.lookup f_Placer_made = some ⟨oc_Placer_made, od_Placer_made, .func (PySem.W.fnOf "made" "Maker.made" (defArgs s_Placer_made) (defBody s_Placer_made) (defScope s_Placer_made) .none kV_Placer_made dc_Placer_made pm_Placer_made an_Placer_made cd_Placer_made ct_Placer_made), sl_Placer_made⟩)
    (c_Placer_made : PySem.W.codeIn K cd_Placer_made "Maker.made" = true)
    (k_Placer_made : PySem.W.keepIn K (.ref f_Placer_made) = true)
    (fn_Placer_made : PySem.W.isFn K (.ref f_Placer_made) = true)
    (a_all_words : PySem.W.nsIn K mainGlobals "all_words" = some (some (.ref f_all_words)))
    (l_all_words : K.lookup f_all_words = some ⟨oc_all_words, od_all_words, .func (PySem.W.fnOf "all_words" "all_words" (defArgs s_all_words) (defBody s_all_words) (defScope s_all_words) .none kV_all_words dc_all_words pm_all_words an_all_words cd_all_words ct_all_words), sl_all_words⟩)
    (c_all_words : PySem.W.codeIn K cd_all_words "all_words" = true)
    (k_all_words : PySem.W.keepIn K (.ref f_all_words) = true)
    (a__law_tape : PySem.W.nsIn K mainGlobals "_law_tape" = some (some (.ref f__law_tape)))
    (l__law_tape : K.lookup f__law_tape = some ⟨oc__law_tape, od__law_tape, .func (PySem.W.fnOf "_law_tape" "_law_tape" (defArgs s__law_tape) (defBody s__law_tape) (defScope s__law_tape) .none kV__law_tape dc__law_tape pm__law_tape an__law_tape cd__law_tape ct__law_tape), sl__law_tape⟩)
    (c__law_tape : PySem.W.codeIn K cd__law_tape "_law_tape" = true)
    (k__law_tape : PySem.W.keepIn K (.ref f__law_tape) = true)
    (a__law_draw : PySem.W.nsIn K mainGlobals "_law_draw" = some (some (.ref f__law_draw)))
    (l__law_draw : K.lookup f__law_draw = some ⟨oc__law_draw, od__law_draw, .func (PySem.W.fnOf "_law_draw" "_law_draw" (defArgs s__law_draw) (defBody s__law_draw) (defScope s__law_draw) .none kV__law_draw dc__law_draw pm__law_draw an__law_draw cd__law_draw ct__law_draw), sl__law_draw⟩)
    (c__law_draw : PySem.W.codeIn K cd__law_draw "_law_draw" = true)
    (k__law_draw : PySem.W.keepIn K (.ref f__law_draw) = true)
    (a__law_pick : PySem.W.nsIn K mainGlobals "_law_pick" = some (some (.ref f__law_pick)))
    (l__law_pick : K.lookup f__law_pick = some ⟨oc__law_pick, od__law_pick, .func (PySem.W.fnOf "_law_pick" "_law_pick" (defArgs s__law_pick) (defBody s__law_pick) (defScope s__law_pick) .none kV__law_pick dc__law_pick pm__law_pick an__law_pick cd__law_pick ct__law_pick), sl__law_pick⟩)
    (c__law_pick : PySem.W.codeIn K cd__law_pick "_law_pick" = true)
    (k__law_pick : PySem.W.keepIn K (.ref f__law_pick) = true)
    (a__law_signs : PySem.W.nsIn K mainGlobals "_law_signs" = some (some (.ref f__law_signs)))
    (l__law_signs : K.lookup f__law_signs = some ⟨oc__law_signs, od__law_signs, .func (PySem.W.fnOf "_law_signs" "_law_signs" (defArgs s__law_signs) (defBody s__law_signs) (defScope s__law_signs) .none kV__law_signs dc__law_signs pm__law_signs an__law_signs cd__law_signs ct__law_signs), sl__law_signs⟩)
    (c__law_signs : PySem.W.codeIn K cd__law_signs "_law_signs" = true)
    (k__law_signs : PySem.W.keepIn K (.ref f__law_signs) = true)
    (a__law_string : PySem.W.nsIn K mainGlobals "_law_string" = some (some (.ref f__law_string)))
    (l__law_string : K.lookup f__law_string = some ⟨oc__law_string, od__law_string, .func (PySem.W.fnOf "_law_string" "_law_string" (defArgs s__law_string) (defBody s__law_string) (defScope s__law_string) .none kV__law_string dc__law_string pm__law_string an__law_string cd__law_string ct__law_string), sl__law_string⟩)
    (c__law_string : PySem.W.codeIn K cd__law_string "_law_string" = true)
    (k__law_string : PySem.W.keepIn K (.ref f__law_string) = true)
    (a__law_takes : PySem.W.nsIn K mainGlobals "_law_takes" = some (some (.ref f__law_takes)))
    (l__law_takes : K.lookup f__law_takes = some ⟨oc__law_takes, od__law_takes, .func (PySem.W.fnOf "_law_takes" "_law_takes" (defArgs s__law_takes) (defBody s__law_takes) (defScope s__law_takes) .none kV__law_takes dc__law_takes pm__law_takes an__law_takes cd__law_takes ct__law_takes), sl__law_takes⟩)
    (c__law_takes : PySem.W.codeIn K cd__law_takes "_law_takes" = true)
    (k__law_takes : PySem.W.keepIn K (.ref f__law_takes) = true)
    (a__law_least_states : PySem.W.nsIn K mainGlobals "_law_least_states" = some (some (.ref f__law_least_states)))
    (l__law_least_states : K.lookup f__law_least_states = some ⟨oc__law_least_states, od__law_least_states, .func (PySem.W.fnOf "_law_least_states" "_law_least_states" (defArgs s__law_least_states) (defBody s__law_least_states) (defScope s__law_least_states) .none kV__law_least_states dc__law_least_states pm__law_least_states an__law_least_states cd__law_least_states ct__law_least_states), sl__law_least_states⟩)
    (c__law_least_states : PySem.W.codeIn K cd__law_least_states "_law_least_states" = true)
    (k__law_least_states : PySem.W.keepIn K (.ref f__law_least_states) = true)
    (a__law_all : PySem.W.nsIn K mainGlobals "_law_all" = some (some (.ref f__law_all)))
    (l__law_all : K.lookup f__law_all = some ⟨oc__law_all, od__law_all, .func (PySem.W.fnOf "_law_all" "_law_all" (defArgs s__law_all) (defBody s__law_all) (defScope s__law_all) .none kV__law_all dc__law_all pm__law_all an__law_all cd__law_all ct__law_all), sl__law_all⟩)
    (c__law_all : PySem.W.codeIn K cd__law_all "_law_all" = true)
    (k__law_all : PySem.W.keepIn K (.ref f__law_all) = true)
    (a__law_call : PySem.W.nsIn K mainGlobals "_law_call" = some (some (.ref f__law_call)))
    (l__law_call : K.lookup f__law_call = some ⟨oc__law_call, od__law_call, .func (PySem.W.fnOf "_law_call" "_law_call" (defArgs s__law_call) (defBody s__law_call) (defScope s__law_call) .none kV__law_call dc__law_call pm__law_call an__law_call cd__law_call ct__law_call), sl__law_call⟩)
    (c__law_call : PySem.W.codeIn K cd__law_call "_law_call" = true)
    (k__law_call : PySem.W.keepIn K (.ref f__law_call) = true)
    (a__law_is_one : PySem.W.nsIn K mainGlobals "_law_is_one" = some (some (.ref f__law_is_one)))
    (l__law_is_one : K.lookup f__law_is_one = some ⟨oc__law_is_one, od__law_is_one, .func (PySem.W.fnOf "_law_is_one" "_law_is_one" (defArgs s__law_is_one) (defBody s__law_is_one) (defScope s__law_is_one) .none kV__law_is_one dc__law_is_one pm__law_is_one an__law_is_one cd__law_is_one ct__law_is_one), sl__law_is_one⟩)
    (c__law_is_one : PySem.W.codeIn K cd__law_is_one "_law_is_one" = true)
    (k__law_is_one : PySem.W.keepIn K (.ref f__law_is_one) = true)
    (a_law : PySem.W.nsIn K mainGlobals "law" = some (some (.ref f_law)))
    (l_law : K.lookup f_law = some ⟨oc_law, od_law, .func (PySem.W.fnOf "law" "law" (defArgs s_law) (defBody s_law) (defScope s_law) .none kV_law dc_law pm_law an_law cd_law ct_law), sl_law⟩)
    (c_law : PySem.W.codeIn K cd_law "law" = true)
    (k_law : PySem.W.keepIn K (.ref f_law) = true)
    (a_BadTongue : PySem.W.nsIn K mainGlobals "BadTongue" = some (some (.ref C_BadTongue)))
    (kc_BadTongue : PySem.W.keepIn K (.ref C_BadTongue) = true)
    (eC_BadTongue : PySem.W.subIn K (.ref C_BadTongue) (.type "BaseException") = some true)
    (tC_BadTongue : PySem.W.typeIn K (.ref C_BadTongue) = some (.type "type"))
    (xL_BadTongue : K.lookup C_BadTongue = some (excClassObj nm_BadTongue q_BadTongue C_BadTongue N_BadTongue bs_BadTongue bm_BadTongue true sn_BadTongue sub_BadTongue ab_BadTongue col_BadTongue dd_BadTongue k0_BadTongue k1_BadTongue k2_BadTongue k3_BadTongue k5_BadTongue "ValueError.__new__"))
    (hb_BadTongue : PySem.HandSPX.refsVE bm_BadTongue = true)
    (sa_BadTongue : PySem.W.findIn K (.ref C_BadTongue) "__setattr__" = some (some (.builtin "object.__setattr__")))
    (ga_BadTongue : PySem.W.findIn K (.ref C_BadTongue) "__getattribute__" = some (some (.builtin "BaseException.__getattribute__")))
    (gg_BadTongue : PySem.W.findIn K (.ref C_BadTongue) "__getattr__" = some none)
    (hC_BadTongue : PySem.W.hasDictIn K C_BadTongue = true)
    (iC_BadTongue : PySem.W.findIn K (.ref C_BadTongue) "__init__" = some (some (.ref fi_BadTongue)))
    (ti_BadTongue : PySem.W.typeIn K (.ref fi_BadTongue) = some (.type "function"))
    (li_BadTongue : K.lookup fi_BadTongue = some ⟨oci_BadTongue, odi_BadTongue, .func (PySem.W.fnOf "__init__" "BadTongue.__init__" (defArgs si_BadTongue) (defBody si_BadTongue) (defScope si_BadTongue) .none kVi_BadTongue dci_BadTongue pmi_BadTongue ani_BadTongue cdi_BadTongue cti_BadTongue), sli_BadTongue⟩)
    (ci_BadTongue : PySem.W.codeIn K cdi_BadTongue "BadTongue.__init__" = true)
    (ki_BadTongue : PySem.W.keepIn K (.ref fi_BadTongue) = true)
    (nf_BadTongue_kind : PySem.W.findIn K (.ref C_BadTongue) "kind" = some none)
    (nf_BadTongue_name : PySem.W.findIn K (.ref C_BadTongue) "name" = some none)
    (a_TooFar : PySem.W.nsIn K mainGlobals "TooFar" = some (some (.ref C_TooFar)))
    (kc_TooFar : PySem.W.keepIn K (.ref C_TooFar) = true)
    (eC_TooFar : PySem.W.subIn K (.ref C_TooFar) (.type "BaseException") = some true)
    (tC_TooFar : PySem.W.typeIn K (.ref C_TooFar) = some (.type "type"))
    (q_TooFar : PySem.W.excIn K C_TooFar [.type "ValueError", .type "Exception", .type "BaseException", .type "object"] "ValueError.__new__" = true)
    (a_MOST_LEVEL : PySem.W.nsIn K mainGlobals "MOST_LEVEL" = some (some (.int 9 t_MOST_LEVEL)))
    (a_MOST_AUTOMATON : PySem.W.nsIn K mainGlobals "MOST_AUTOMATON" = some (some (.int 2000 t_MOST_AUTOMATON)))
    (z_abs : PySem.W.nsIn K mainGlobals "abs" = some none)
    (z_bool : PySem.W.nsIn K mainGlobals "bool" = some none)
    (z_dict : PySem.W.nsIn K mainGlobals "dict" = some none)
    (z_int : PySem.W.nsIn K mainGlobals "int" = some none)
    (z_isinstance : PySem.W.nsIn K mainGlobals "isinstance" = some none)
    (z_len : PySem.W.nsIn K mainGlobals "len" = some none)
    (z_max : PySem.W.nsIn K mainGlobals "max" = some none)
    (z_min : PySem.W.nsIn K mainGlobals "min" = some none)
    (z_range : PySem.W.nsIn K mainGlobals "range" = some none)
    (z_set : PySem.W.nsIn K mainGlobals "set" = some none)
    (z_tuple : PySem.W.nsIn K mainGlobals "tuple" = some none)
    (i_BadTongue : PySem.W.isClsIn K C_BadTongue = true)
    (e_BadTongue_BadTongue : PySem.W.subIn K (.ref C_BadTongue) (.ref C_BadTongue) = some true)
    (e_BadTongue_TooFar : PySem.W.subIn K (.ref C_BadTongue) (.ref C_TooFar) = some false)
    (i_TooFar : PySem.W.isClsIn K C_TooFar = true)
    (e_TooFar_BadTongue : PySem.W.subIn K (.ref C_TooFar) (.ref C_BadTongue) = some false)
    (e_TooFar_TooFar : PySem.W.subIn K (.ref C_TooFar) (.ref C_TooFar) = some true)
    : ∃ fd : FuncData, (∀ (s : Shared) (v : Value), BindsTo s fd ⟨[v], []⟩ [("script", v)]) ∧ ∀ base : Heap, K.In base → base.Ns mainGlobals mg → FnOk l.prog w K mg base (L2.CX l.prog w) 6 fa fd ["script"] (spTrue ⟨K, w⟩ m_law) := by
  have e := hfa.symm.trans (PySem.W.mg_of X G a_law)
  cases e
  have F_is_integer := fun_mk (st := s_is_integer) l_is_integer c_is_integer k_is_integer
  have B_is_integer := F_is_integer.binds (ps := ["value", "low", "high"]) fun _ _ _ _ _ _ us hl => match us, hl with | [_, _, _], _ => rfl
  have F_met := fun_mk (st := s_met) l_met c_met k_met
  have B_met := F_met.binds (ps := ["states"]) fun _ _ _ _ _ _ us hl => match us, hl with | [_], _ => rfl
  have F_kinds_of := fun_mk (st := s_kinds_of) l_kinds_of c_kinds_of k_kinds_of
  have B_kinds_of := F_kinds_of.binds (ps := ["states", "order"]) fun _ _ _ _ _ _ us hl => match us, hl with | [_, _], _ => rfl
  have F_least_of := fun_mk (st := s_least_of) l_least_of c_least_of k_least_of
  have B_least_of := F_least_of.binds (ps := ["states"]) fun _ _ _ _ _ _ us hl => match us, hl with | [_], _ => rfl
  have F_Placer_init := fun_mk (st := s_Placer_init) l_Placer_init c_Placer_init k_Placer_init
  have B_Placer_init := F_Placer_init.binds (ps := ["self", "left", "right"]) fun _ _ _ _ _ _ us hl => match us, hl with | [_, _, _], _ => rfl
  have F_Placer_row_of := fun_mk (st := s_Placer_row_of) l_Placer_row_of c_Placer_row_of k_Placer_row_of
  have B_Placer_row_of := F_Placer_row_of.binds (ps := ["self", "state"]) fun _ _ _ _ _ _ us hl => match us, hl with | [_, _], _ => rfl
  have F_Placer_made := fun_mk (st := s_Placer_made) l_Placer_made c_Placer_made k_Placer_made
  have B_Placer_made := F_Placer_made.binds (ps := ["self", "first"]) fun _ _ _ _ _ _ us hl => match us, hl with | [_, _], _ => rfl
  have F_all_words := fun_mk (st := s_all_words) l_all_words c_all_words k_all_words
  have B_all_words := F_all_words.binds (ps := ["left", "right"]) fun _ _ _ _ _ _ us hl => match us, hl with | [_, _], _ => rfl
  have F__law_tape := fun_mk (st := s__law_tape) l__law_tape c__law_tape k__law_tape
  have B__law_tape := F__law_tape.binds (ps := ["script"]) fun _ _ _ _ _ _ us hl => match us, hl with | [_], _ => rfl
  have F__law_draw := fun_mk (st := s__law_draw) l__law_draw c__law_draw k__law_draw
  have B__law_draw := F__law_draw.binds (ps := ["tape", "many"]) fun _ _ _ _ _ _ us hl => match us, hl with | [_, _], _ => rfl
  have F__law_pick := fun_mk (st := s__law_pick) l__law_pick c__law_pick k__law_pick
  have B__law_pick := F__law_pick.binds (ps := ["tape", "row"]) fun _ _ _ _ _ _ us hl => match us, hl with | [_, _], _ => rfl
  have F__law_signs := fun_mk (st := s__law_signs) l__law_signs c__law_signs k__law_signs
  have B__law_signs := F__law_signs.binds (ps := []) fun _ _ _ _ _ _ us hl => match us, hl with | [], _ => rfl
  have F__law_string := fun_mk (st := s__law_string) l__law_string c__law_string k__law_string
  have B__law_string := F__law_string.binds (ps := ["tape", "letters", "low", "high"]) fun _ _ _ _ _ _ us hl => match us, hl with | [_, _, _, _], _ => rfl
  have F__law_takes := fun_mk (st := s__law_takes) l__law_takes c__law_takes k__law_takes
  have B__law_takes := F__law_takes.binds (ps := ["automaton", "text"]) fun _ _ _ _ _ _ us hl => match us, hl with | [_, _], _ => rfl
  have F__law_least_states := fun_mk (st := s__law_least_states) l__law_least_states c__law_least_states k__law_least_states
  have B__law_least_states := F__law_least_states.binds (ps := ["rows"]) fun _ _ _ _ _ _ us hl => match us, hl with | [_], _ => rfl
  have F__law_all := fun_mk (st := s__law_all) l__law_all c__law_all k__law_all
  have B__law_all := F__law_all.binds (ps := ["letters", "most"]) fun _ _ _ _ _ _ us hl => match us, hl with | [_, _], _ => rfl
  have F__law_call := fun_mk (st := s__law_call) l__law_call c__law_call k__law_call
  have B__law_call := F__law_call.binds (ps := ["left", "right"]) fun _ _ _ _ _ _ us hl => match us, hl with | [_, _], _ => rfl
  have F__law_is_one := fun_mk (st := s__law_is_one) l__law_is_one c__law_is_one k__law_is_one
  have B__law_is_one := F__law_is_one.binds (ps := ["text", "left", "right"]) fun _ _ _ _ _ _ us hl => match us, hl with | [_, _, _], _ => rfl
  have F_law := fun_mk (st := s_law) l_law c_law k_law
  have B_law := F_law.binds (ps := ["script"]) fun _ _ _ _ _ _ us hl => match us, hl with | [_], _ => rfl
  have FI_BadTongue := fun_mk (st := si_BadTongue) li_BadTongue ci_BadTongue ki_BadTongue
  have BI_BadTongue := FI_BadTongue.binds (ps := ["self", "kind", "name"]) fun _ _ _ _ _ _ us hl => match us, hl with | [_, _, _], _ => rfl
  have SUB : SubT ⟨K, w⟩ (fun x => if x = "BadTongue" then some (.ref C_BadTongue) else if x = "TooFar" then some (.ref C_TooFar) else none) sub_ := ⟨fun x y c d hx hy => by
    try dsimp only at hx hy
    repeat' split at hx
    all_goals first | (cases hx; done) | skip
    all_goals (repeat' split at hy)
    all_goals first | (cases hy; done) | skip
    all_goals (subst_vars; cases hx; cases hy; first | exact exm2 eC_BadTongue i_BadTongue tC_BadTongue e_BadTongue_BadTongue | exact exm2 eC_TooFar i_TooFar tC_TooFar e_BadTongue_TooFar | exact exm2 eC_BadTongue i_BadTongue tC_BadTongue e_TooFar_BadTongue | exact exm2 eC_TooFar i_TooFar tC_TooFar e_TooFar_TooFar)⟩
  exact ⟨PySem.W.fnOf "law" "law" (defArgs s_law) (defBody s_law) (defScope s_law) .none kV_law dc_law pm_law an_law cd_law ct_law, fun s v => .of_eq rfl, fun base _ _ => FnOk.imp (ok_law (K := ⟨K, w⟩) (mg := mg) {
    a_is_integer := f_is_integer,
    d_is_integer := PySem.W.fnOf "is_integer" "is_integer" (defArgs s_is_integer) (defBody s_is_integer) (defScope s_is_integer) .none kV_is_integer dc_is_integer pm_is_integer an_is_integer cd_is_integer ct_is_integer,
    F_is_integer := F_is_integer,
    m_is_integer := PySem.W.mg_of X G a_is_integer,
    b_is_integer := B_is_integer,
    a_met := f_met,
    d_met := PySem.W.fnOf "met" "met" (defArgs s_met) (defBody s_met) (defScope s_met) .none kV_met dc_met pm_met an_met cd_met ct_met,
    F_met := F_met,
    m_met := PySem.W.mg_of X G a_met,
    b_met := B_met,
    a_kinds_of := f_kinds_of,
    d_kinds_of := PySem.W.fnOf "kinds_of" "kinds_of" (defArgs s_kinds_of) (defBody s_kinds_of) (defScope s_kinds_of) .none kV_kinds_of dc_kinds_of pm_kinds_of an_kinds_of cd_kinds_of ct_kinds_of,
    F_kinds_of := F_kinds_of,
    m_kinds_of := PySem.W.mg_of X G a_kinds_of,
    b_kinds_of := B_kinds_of,
    a_least_of := f_least_of,
    d_least_of := PySem.W.fnOf "least_of" "least_of" (defArgs s_least_of) (defBody s_least_of) (defScope s_least_of) .none kV_least_of dc_least_of pm_least_of an_least_of cd_least_of ct_least_of,
    F_least_of := F_least_of,
    m_least_of := PySem.W.mg_of X G a_least_of,
    b_least_of := B_least_of,
    a_Placer_init := f_Placer_init,
    d_Placer_init := PySem.W.fnOf "__init__" "Placer.__init__" (defArgs s_Placer_init) (defBody s_Placer_init) (defScope s_Placer_init) .none kV_Placer_init dc_Placer_init pm_Placer_init an_Placer_init cd_Placer_init ct_Placer_init,
    F_Placer_init := F_Placer_init,
    b_Placer_init := B_Placer_init,
    C_Placer := C_Placer,
    k_Placer := ⟨a_Placer, ⟨pg_Placer, hd_Placer, po_Placer, sa_Placer⟩⟩,
    M_Placer := ⟨mk_Placer, at_Placer_init, fn_Placer_init, kc_Placer⟩,
    m_Placer := PySem.W.mg_of X G a_Placer,
    nf_Placer_left := nf_Placer_left,
    nf_Placer_right := nf_Placer_right,
    a_Placer_row_of := f_Placer_row_of,
    d_Placer_row_of := PySem.W.fnOf "row_of" "Placer.row_of" (defArgs s_Placer_row_of) (defBody s_Placer_row_of) (defScope s_Placer_row_of) .none kV_Placer_row_of dc_Placer_row_of pm_Placer_row_of an_Placer_row_of cd_Placer_row_of ct_Placer_row_of,
    F_Placer_row_of := F_Placer_row_of,
    b_Placer_row_of := B_Placer_row_of,
    w_Placer_row_of := ⟨at_Placer_row_of, fn_Placer_row_of, k_Placer_row_of⟩,
    a_Placer_made := f_Placer_made,
    d_Placer_made := PySem.W.fnOf "made" "Maker.made" (defArgs s_Placer_made) (defBody s_Placer_made) (defScope s_Placer_made) .none kV_Placer_made dc_Placer_made pm_Placer_made an_Placer_made cd_Placer_made ct_Placer_made,
    F_Placer_made := F_Placer_made,
    b_Placer_made := B_Placer_made,
    w_Placer_made := ⟨at_Placer_made, fn_Placer_made, k_Placer_made⟩,
    a_all_words := f_all_words,
    d_all_words := PySem.W.fnOf "all_words" "all_words" (defArgs s_all_words) (defBody s_all_words) (defScope s_all_words) .none kV_all_words dc_all_words pm_all_words an_all_words cd_all_words ct_all_words,
    F_all_words := F_all_words,
    m_all_words := PySem.W.mg_of X G a_all_words,
    b_all_words := B_all_words,
    a__law_tape := f__law_tape,
    d__law_tape := PySem.W.fnOf "_law_tape" "_law_tape" (defArgs s__law_tape) (defBody s__law_tape) (defScope s__law_tape) .none kV__law_tape dc__law_tape pm__law_tape an__law_tape cd__law_tape ct__law_tape,
    F__law_tape := F__law_tape,
    m__law_tape := PySem.W.mg_of X G a__law_tape,
    b__law_tape := B__law_tape,
    a__law_draw := f__law_draw,
    d__law_draw := PySem.W.fnOf "_law_draw" "_law_draw" (defArgs s__law_draw) (defBody s__law_draw) (defScope s__law_draw) .none kV__law_draw dc__law_draw pm__law_draw an__law_draw cd__law_draw ct__law_draw,
    F__law_draw := F__law_draw,
    m__law_draw := PySem.W.mg_of X G a__law_draw,
    b__law_draw := B__law_draw,
    a__law_pick := f__law_pick,
    d__law_pick := PySem.W.fnOf "_law_pick" "_law_pick" (defArgs s__law_pick) (defBody s__law_pick) (defScope s__law_pick) .none kV__law_pick dc__law_pick pm__law_pick an__law_pick cd__law_pick ct__law_pick,
    F__law_pick := F__law_pick,
    m__law_pick := PySem.W.mg_of X G a__law_pick,
    b__law_pick := B__law_pick,
    a__law_signs := f__law_signs,
    d__law_signs := PySem.W.fnOf "_law_signs" "_law_signs" (defArgs s__law_signs) (defBody s__law_signs) (defScope s__law_signs) .none kV__law_signs dc__law_signs pm__law_signs an__law_signs cd__law_signs ct__law_signs,
    F__law_signs := F__law_signs,
    m__law_signs := PySem.W.mg_of X G a__law_signs,
    b__law_signs := B__law_signs,
    a__law_string := f__law_string,
    d__law_string := PySem.W.fnOf "_law_string" "_law_string" (defArgs s__law_string) (defBody s__law_string) (defScope s__law_string) .none kV__law_string dc__law_string pm__law_string an__law_string cd__law_string ct__law_string,
    F__law_string := F__law_string,
    m__law_string := PySem.W.mg_of X G a__law_string,
    b__law_string := B__law_string,
    a__law_takes := f__law_takes,
    d__law_takes := PySem.W.fnOf "_law_takes" "_law_takes" (defArgs s__law_takes) (defBody s__law_takes) (defScope s__law_takes) .none kV__law_takes dc__law_takes pm__law_takes an__law_takes cd__law_takes ct__law_takes,
    F__law_takes := F__law_takes,
    m__law_takes := PySem.W.mg_of X G a__law_takes,
    b__law_takes := B__law_takes,
    a__law_least_states := f__law_least_states,
    d__law_least_states := PySem.W.fnOf "_law_least_states" "_law_least_states" (defArgs s__law_least_states) (defBody s__law_least_states) (defScope s__law_least_states) .none kV__law_least_states dc__law_least_states pm__law_least_states an__law_least_states cd__law_least_states ct__law_least_states,
    F__law_least_states := F__law_least_states,
    m__law_least_states := PySem.W.mg_of X G a__law_least_states,
    b__law_least_states := B__law_least_states,
    a__law_all := f__law_all,
    d__law_all := PySem.W.fnOf "_law_all" "_law_all" (defArgs s__law_all) (defBody s__law_all) (defScope s__law_all) .none kV__law_all dc__law_all pm__law_all an__law_all cd__law_all ct__law_all,
    F__law_all := F__law_all,
    m__law_all := PySem.W.mg_of X G a__law_all,
    b__law_all := B__law_all,
    a__law_call := f__law_call,
    d__law_call := PySem.W.fnOf "_law_call" "_law_call" (defArgs s__law_call) (defBody s__law_call) (defScope s__law_call) .none kV__law_call dc__law_call pm__law_call an__law_call cd__law_call ct__law_call,
    F__law_call := F__law_call,
    m__law_call := PySem.W.mg_of X G a__law_call,
    b__law_call := B__law_call,
    a__law_is_one := f__law_is_one,
    d__law_is_one := PySem.W.fnOf "_law_is_one" "_law_is_one" (defArgs s__law_is_one) (defBody s__law_is_one) (defScope s__law_is_one) .none kV__law_is_one dc__law_is_one pm__law_is_one an__law_is_one cd__law_is_one ct__law_is_one,
    F__law_is_one := F__law_is_one,
    m__law_is_one := PySem.W.mg_of X G a__law_is_one,
    b__law_is_one := B__law_is_one,
    a_law := fa,
    d_law := PySem.W.fnOf "law" "law" (defArgs s_law) (defBody s_law) (defScope s_law) .none kV_law dc_law pm_law an_law cd_law ct_law,
    F_law := F_law,
    m_law := PySem.W.mg_of X G a_law,
    b_law := B_law,
    C_BadTongue := C_BadTongue,
    i_BadTongue := fi_BadTongue,
    e_BadTongue := PySem.W.fnOf "__init__" "BadTongue.__init__" (defArgs si_BadTongue) (defBody si_BadTongue) (defScope si_BadTongue) .none kVi_BadTongue dci_BadTongue pmi_BadTongue ani_BadTongue cdi_BadTongue cti_BadTongue,
    FI_BadTongue := FI_BadTongue,
    x_BadTongue := ⟨⟨⟨_, _, _, _, _, _, _, _, _, _, _, _, _, _, _, xL_BadTongue, hb_BadTongue⟩, sa_BadTongue, eC_BadTongue, tC_BadTongue, kc_BadTongue⟩, PySem.W.mg_of X G a_BadTongue, iC_BadTongue, ti_BadTongue, BI_BadTongue⟩,
    xf_BadTongue := ⟨ga_BadTongue, gg_BadTongue, eC_BadTongue, hC_BadTongue⟩,
    nf_BadTongue_kind := nf_BadTongue_kind,
    nf_BadTongue_name := nf_BadTongue_name,
    C_TooFar := C_TooFar,
    x_TooFar := ⟨PySem.W.mg_of X G a_TooFar, q_TooFar, kc_TooFar, eC_TooFar, tC_TooFar⟩,
    g_MOST_LEVEL := gl_int (PySem.W.mg_of X G a_MOST_LEVEL),
    g_MOST_AUTOMATON := gl_int (PySem.W.mg_of X G a_MOST_AUTOMATON),
    z_abs := PySem.W.mg_none_of X G z_abs,
    z_bool := PySem.W.mg_none_of X G z_bool,
    z_dict := PySem.W.mg_none_of X G z_dict,
    z_int := PySem.W.mg_none_of X G z_int,
    z_isinstance := PySem.W.mg_none_of X G z_isinstance,
    z_len := PySem.W.mg_none_of X G z_len,
    z_max := PySem.W.mg_none_of X G z_max,
    z_min := PySem.W.mg_none_of X G z_min,
    z_range := PySem.W.mg_none_of X G z_range,
    z_set := PySem.W.mg_none_of X G z_set,
    z_tuple := PySem.W.mg_none_of X G z_tuple,
    sub_ok := SUB }) (fun vs H Q E => spTrue_imp vs H Q E)⟩
end
end LW
namespace LW
open PySem PySem.Spec L2 DL PyProof.Rows
section
variable {α β : Type} [DecidableEq α] [DecidableEq β]
def add1 (o : List α) (x : α) : List α := if x ∈ o then o else o ++ [x]
def addA (o : List α) (xs : List α) : List α := xs.foldl add1 o
theorem addA_cons (o : List α) (x : α) (xs : List α) : addA o (x :: xs) = addA (add1 o x) xs := rfl
theorem add1_nd {o : List α} (h : o.Nodup) (x : α) : (add1 o x).Nodup := by
  unfold add1
  split
  · exact h
  · rename_i hx
    exact List.nodup_append.mpr ⟨h, by simp, fun a ha b hb e => hx (by rw [← List.mem_singleton.mp hb, ← e]; exact ha)⟩
theorem addA_nd : ∀ (xs : List α) {o : List α}, o.Nodup → (addA o xs).Nodup
  | [], _, h => h
  | x :: xs, _, h => addA_nd xs (add1_nd h x)
theorem mem_add1 {o : List α} {x y : α} : y ∈ add1 o x ↔ y ∈ o ∨ y = x := by
  unfold add1
  split
  · rename_i h
    constructor
    · exact .inl
    · rintro (h1 | rfl)
      · exact h1
      · exact h
  · simp
theorem mem_addA : ∀ (xs : List α) {o : List α} {y : α}, y ∈ addA o xs ↔ y ∈ o ∨ y ∈ xs
  | [], _, _ => by simp [addA]
  | x :: xs, o, y => by
    rw [addA_cons, mem_addA xs, mem_add1, List.mem_cons, or_assoc]
theorem add1_pre (o : List α) (x : α) : ∃ t, add1 o x = o ++ t := by
  unfold add1
  split
  · exact ⟨[], by simp⟩
  · exact ⟨[x], rfl⟩
theorem addA_pre : ∀ (xs : List α) (o : List α), ∃ t, addA o xs = o ++ t
  | [], o => ⟨[], by simp [addA]⟩
  | x :: xs, o => by
    obtain ⟨t, ht⟩ := add1_pre o x
    obtain ⟨t', ht'⟩ := addA_pre xs (add1 o x)
    exact ⟨t ++ t', by rw [addA_cons, ht', ht, List.append_assoc]⟩
def ixO : List α → α → Nat
  | [], _ => 0
  | y :: o, x => if y = x then 0 else ixO o x + 1
theorem ixO_lt : ∀ {o : List α} {x : α}, x ∈ o → ixO o x < o.length
  | y :: o, x, h => by
    unfold ixO
    split
    · simp
    · rename_i hn
      have : x ∈ o := by
        rcases List.mem_cons.mp h with rfl | h
        · exact absurd rfl hn
        · exact h
      have := ixO_lt this
      simp
      omega
theorem ixO_get : ∀ {o : List α} {x : α}, x ∈ o → o[ixO o x]? = some x
  | y :: o, x, h => by
    unfold ixO
    split
    · rename_i e
      rw [e]
      rfl
    · rename_i hn
      have : x ∈ o := by
        rcases List.mem_cons.mp h with rfl | h
        · exact absurd rfl hn
        · exact h
      rw [List.getElem?_cons_succ, ixO_get this]
theorem ixO_pre : ∀ {o t : List α} {x : α}, x ∈ o → ixO (o ++ t) x = ixO o x
  | y :: o, t, x, h => by
    show (if y = x then 0 else ixO (o ++ t) x + 1) = if y = x then 0 else ixO o x + 1
    split
    · rfl
    · rename_i hn
      have : x ∈ o := by
        rcases List.mem_cons.mp h with rfl | h
        · exact absurd rfl hn
        · exact h
      rw [ixO_pre this]
theorem ixO_self : ∀ {o : List α} (nd : o.Nodup) (i : Nat) (hi : i < o.length), ixO o o[i] = i
  | y :: o, nd, 0, hi => by
    show (if y = y then 0 else _) = 0
    rw [if_pos rfl]
  | y :: o, nd, i + 1, hi => by
    have nd := List.nodup_cons.mp nd
    have hi : i < o.length := by simpa using hi
    show (if y = o[i] then 0 else ixO o o[i] + 1) = i + 1
    rw [if_neg fun e => nd.1 (by rw [e]; exact List.getElem_mem hi), ixO_self nd.2 i hi]
theorem idx_addA {o : List α} (xs : List α) {x : α} (h : x ∈ o) : ixO (addA o xs) x = ixO o x := by
  obtain ⟨t, ht⟩ := addA_pre xs o
  rw [ht, ixO_pre h]
theorem idx_inj {o : List α} {x y : α} (hx : x ∈ o) (hy : y ∈ o) (h : ixO o x = ixO o y) : x = y := by
  have h1 := ixO_get hx
  rw [h, ixO_get hy] at h1
  exact (Option.some.inj h1).symm
def numF (xs : List α) : List Nat := xs.map fun x => ixO (addA [] xs) x
theorem add1_map (g : α → β) {o : List α} {x : α} (hg : ∀ y ∈ o, g y = g x → y = x) : add1 (o.map g) (g x) = (add1 o x).map g := by
  unfold add1
  by_cases h : x ∈ o
  · rw [if_pos h, if_pos (List.mem_map_of_mem h)]
  · rw [if_neg h, if_neg]
    · simp
    · intro hm
      obtain ⟨y, hy, e⟩ := List.mem_map.mp hm
      rw [← hg y hy e] at h
      exact h hy
theorem addA_map (g : α → β) : ∀ (xs o : List α), (∀ x ∈ o ++ xs, ∀ y ∈ o ++ xs, g x = g y → x = y) → addA (o.map g) (xs.map g) = (addA o xs).map g
  | [], _, _ => rfl
  | x :: xs, o, hg => by
    rw [List.map_cons, addA_cons, addA_cons, add1_map g fun y hy e => hg y (by simp [hy]) x (by simp) e]
    refine addA_map g xs _ fun a ha b hb e => hg a ?_ b ?_ e
    · rcases List.mem_append.mp ha with h | h
      · rcases mem_add1.mp h with h | rfl
        · simp [h]
        · simp
      · simp [h]
    · rcases List.mem_append.mp hb with h | h
      · rcases mem_add1.mp h with h | rfl
        · simp [h]
        · simp
      · simp [h]
theorem idx_map (g : α → β) : ∀ (o : List α) {x : α}, (∀ y ∈ o, g y = g x → y = x) → ixO (o.map g) (g x) = ixO o x
  | [], _, _ => rfl
  | a :: o, x, h => by
    have ih := idx_map g o (x := x) fun y hy => h y (by simp [hy])
    show (if g a = g x then 0 else ixO (o.map g) (g x) + 1) = if a = x then 0 else ixO o x + 1
    by_cases e : a = x
    · subst e
      rw [if_pos rfl, if_pos rfl]
    · have : ¬ g a = g x := fun e2 => e (h a (by simp) e2)
      rw [if_neg this, if_neg e, ih]
def InjL (g : α → β) (xs : List α) : Prop := ∀ x ∈ xs, ∀ y ∈ xs, g x = g y → x = y
theorem numF_map {g : α → β} {xs : List α} (h : InjL g xs) : numF (xs.map g) = numF xs := by
  unfold numF
  have e := addA_map g xs [] (by unfold InjL at h; simpa using h)
  rw [show ([] : List α).map g = [] from rfl] at e
  rw [e, List.map_map]
  refine List.map_congr_left fun x hx => ?_
  exact idx_map g _ fun y hy e => h y (by simpa using (mem_addA xs).mp hy) x hx e
def cnt (xs : List α) : Nat := (addA [] xs).length
theorem cnt_map {g : α → β} {xs : List α} (h : InjL g xs) : cnt (xs.map g) = cnt xs := by
  unfold cnt
  have e := addA_map g xs [] (by unfold InjL at h; simpa using h)
  rw [show ([] : List α).map g = [] from rfl] at e
  rw [e, List.length_map]
theorem num_inj (xs : List α) : InjL (fun x => ixO (addA [] xs) x) xs := fun x hx y hy e => idx_inj ((mem_addA xs).mpr (.inr hx)) ((mem_addA xs).mpr (.inr hy)) e
theorem cnt_num (xs : List α) : cnt (numF xs) = cnt xs := cnt_map (num_inj xs)
theorem nd_le : ∀ {l m : List α}, l.Nodup → l ⊆ m → l.length ≤ m.length
  | [], _, _, _ => Nat.zero_le _
  | a :: l, m, nd, hs => by
    have nd := List.nodup_cons.mp nd
    have hm := hs (List.mem_cons_self (a := a) (l := l))
    have := nd_le nd.2 (m := m.erase a) fun x hx => (List.mem_erase_of_ne (fun e => nd.1 (by rw [← e]; exact hx))).mpr (hs (by simp [hx]))
    rw [List.length_erase_of_mem hm] at this
    have := List.length_pos_of_mem hm
    rw [List.length_cons]
    omega
theorem cnt_le (xs : List α) : cnt xs ≤ xs.length := nd_le (addA_nd xs (o := []) List.nodup_nil) fun x hx => by simpa using (mem_addA xs).mp hx
theorem cnt_pos {xs : List α} (h : xs ≠ []) : 0 < cnt xs := by
  cases xs with
  | nil => exact absurd rfl h
  | cons x xs => exact List.length_pos_of_mem ((mem_addA (x :: xs) (o := [])).mpr (.inr (List.mem_cons_self)))
theorem pigeon {P : List α} {Q : List β} {g : α → β} (hq : Q.Nodup) (hs : ∀ y ∈ Q, ∃ x ∈ P, g x = y) (hl : P.length ≤ Q.length) : InjL g P := fun x hx y hy e => by
  by_cases h : x = y
  · exact h
  · exfalso
    have sub : Q ⊆ (P.erase x).map g := fun z hz => by
      obtain ⟨w, hw, rfl⟩ := hs z hz
      by_cases hwx : w = x
      · subst hwx
        exact List.mem_map.mpr ⟨y, (List.mem_erase_of_ne (fun e2 => h e2.symm)).mpr hy, e.symm⟩
      · exact List.mem_map_of_mem ((List.mem_erase_of_ne hwx).mpr hw)
    have h1 := nd_le hq sub
    rw [List.length_map, List.length_erase_of_mem hx] at h1
    have := List.length_pos_of_mem hx
    omega
end
abbrev Au := List (List Nat × Nat)
def rwA (A : Au) (s : Nat) : List Nat × Nat := A.getD s ([], 0)
def nx (A : Au) (s c : Nat) : Nat := (rwA A s).1.getD c 0
def goA (A : Au) (s : Nat) : List Nat → Nat
  | [] => s
  | c :: w => goA A (nx A s c) w
def Lg (A : Au) (s : Nat) (w : List Nat) : Nat := (rwA A (goA A s w)).2
def Wd28 (w : List Nat) : Prop := ∀ c ∈ w, c < 28
def Sam (A : Au) (s : Nat) (B : Au) (t : Nat) : Prop := ∀ w, Wd28 w → Lg A s w = Lg B t w
theorem Lg_cons (A : Au) (s c : Nat) (w : List Nat) : Lg A s (c :: w) = Lg A (nx A s c) w := rfl
theorem Sam.next {A B : Au} {s t : Nat} (h : Sam A s B t) {c : Nat} (hc : c < 28) : Sam A (nx A s c) B (nx B t c) := fun w hw => h (c :: w) fun x hx => by
  rcases List.mem_cons.mp hx with rfl | hx
  · exact hc
  · exact hw x hx
theorem Sam.out {A B : Au} {s t : Nat} (h : Sam A s B t) : (rwA A s).2 = (rwA B t).2 := h [] fun x hx => nomatch hx
theorem Sam.symm {A B : Au} {s t : Nat} (h : Sam A s B t) : Sam B t A s := fun w hw => (h w hw).symm
theorem Sam.trans {A B C : Au} {s t u : Nat} (h : Sam A s B t) (h2 : Sam B t C u) : Sam A s C u := fun w hw => (h w hw).trans (h2 w hw)
structure AuOk (A : Au) : Prop where
  n1 : 1 ≤ A.length
  n2 : A.length ≤ 100
  row : ∀ q ∈ A, q.1.length = 28 ∧ (∀ m ∈ q.1, m < A.length) ∧ q.2 ≤ 1
section
variable {A : Au} (h : AuOk A)
theorem rwA_mem {s : Nat} (hs : s < A.length) : rwA A s ∈ A := by
  unfold rwA
  rw [List.getD_eq_getElem?_getD, List.getElem?_eq_getElem hs]
  exact List.getElem_mem hs
theorem rwA_get {s : Nat} (hs : s < A.length) : A[s]? = some (rwA A s) := by
  unfold rwA
  rw [List.getD_eq_getElem?_getD, List.getElem?_eq_getElem hs]
  rfl
include h
theorem nx_lt {s c : Nat} (hs : s < A.length) (hc : c < 28) : nx A s c < A.length := by
  obtain ⟨h1, h2, _⟩ := h.row _ (rwA_mem hs)
  unfold nx
  rw [List.getD_eq_getElem?_getD, List.getElem?_eq_getElem (by omega)]
  exact h2 _ (List.getElem_mem _)
theorem nx_row {s : Nat} (hs : s < A.length) : (rwA A s).1 = (List.range 28).map (nx A s) := by
  obtain ⟨h1, _, _⟩ := h.row _ (rwA_mem hs)
  refine List.ext_getElem (by simp [h1]) fun i i1 i2 => ?_
  rw [List.getElem_map, List.getElem_range]
  unfold nx
  rw [List.getD_eq_getElem?_getD, List.getElem?_eq_getElem i1]
  rfl
end
def metW (A : Au) : Nat → List Nat → Nat → List Nat
  | 0, o, _ => o
  | f + 1, o, i => if h : i < o.length then metW A f (addA o (rwA A o[i]).1) (i + 1) else o
def metF (A : Au) : List Nat := metW A (A.length + 1) [0] 0
structure Met (A : Au) (o : List Nat) : Prop where
  nd : o.Nodup
  z : 0 ∈ o
  lt : ∀ s ∈ o, s < A.length
  cl : ∀ s ∈ o, ∀ c, c < 28 → nx A s c ∈ o
structure MetI (A : Au) (o : List Nat) (i : Nat) : Prop where
  nd : o.Nodup
  z : 0 ∈ o
  lt : ∀ s ∈ o, s < A.length
  cl : ∀ j, ∀ hj : j < o.length, j < i → ∀ c, c < 28 → nx A o[j] c ∈ o
  le : i ≤ o.length
theorem lt_len {n : Nat} {o : List Nat} (nd : o.Nodup) (h : ∀ s ∈ o, s < n) : o.length ≤ n := by
  have := nd_le nd (m := List.range n) fun s hs => List.mem_range.mpr (h s hs)
  simpa using this
section
variable {A : Au} (h : AuOk A)
include h
theorem MetI.step {o : List Nat} {i : Nat} (I : MetI A o i) (hi : i < o.length) : MetI A (addA o (rwA A o[i]).1) (i + 1) := by
  obtain ⟨t, ht⟩ := addA_pre (rwA A o[i]).1 o
  have hs := I.lt _ (List.getElem_mem hi)
  refine ⟨addA_nd _ I.nd, (mem_addA _).mpr (.inl I.z), fun s m => ?_, fun j hj hji c hc => ?_, ?_⟩
  · rcases (mem_addA _).mp m with m | m
    · exact I.lt s m
    · exact (h.row _ (rwA_mem hs)).2.1 s m
  · have hjo : j < o.length := by omega
    have e : (addA o (rwA A o[i]).1)[j] = o[j] := by
      simp only [ht]
      exact List.getElem_append_left hjo
    rw [e]
    refine (mem_addA _).mpr ?_
    by_cases hj2 : j < i
    · exact .inl (I.cl j hjo hj2 c hc)
    · have : j = i := by omega
      subst this
      right
      rw [nx_row h hs]
      exact List.mem_map_of_mem (List.mem_range.mpr hc)
  · rw [ht, List.length_append]
    omega
theorem metW_ok : ∀ (f : Nat) (o : List Nat) (i : Nat), MetI A o i → A.length < f + i → Met A (metW A f o i)
  | 0, o, i, I, hf => by
    have := lt_len I.nd I.lt
    have := I.le
    omega
  | f + 1, o, i, I, hf => by
    unfold metW
    by_cases hi : i < o.length
    · rw [dif_pos hi]
      exact metW_ok f _ _ (I.step h hi) (by omega)
    · rw [dif_neg hi]
      refine ⟨I.nd, I.z, I.lt, fun s hs c hc => ?_⟩
      obtain ⟨j, hj, rfl⟩ := List.getElem_of_mem hs
      exact I.cl j hj (by omega) c hc
theorem met0 : MetI A [0] 0 := ⟨by simp, by simp, fun s hs => by
  have := h.n1
  have : s = 0 := by simpa using hs
  omega, fun j _ hj => absurd hj (Nat.not_lt_zero _), Nat.zero_le _⟩
theorem metF_ok : Met A (metF A) := metW_ok h _ _ _ (met0 h) (by omega)
end
section
variable (A : Au) (o : List Nat)
def kf (K : List Nat) (s : Nat) : Nat := K.getD (ixO o s) 0
def sgn (K : List Nat) (s : Nat) : Nat × List Nat := (kf o K s, (rwA A s).1.map (kf o K))
def labK (K : List Nat) : List (Nat × List Nat) := o.map (sgn A o K)
def stepK (K : List Nat) : List Nat := numF (labK A o K)
def outK : List Nat := o.map fun s => (rwA A s).2
def mooW : Nat → List Nat → Nat → List Nat
  | 0, K, _ => K
  | f + 1, K, m => if m < cnt K then mooW f (stepK A o K) (cnt K) else K
end
theorem kf_map {α : Type} [DecidableEq α] {o : List Nat} (g : Nat → Nat) {s : Nat} (hs : s ∈ o) : kf o (o.map g) s = g s := by
  unfold kf
  have h1 := ixO_lt hs
  rw [List.getD_eq_getElem?_getD, List.getElem?_map, ixO_get hs]
  rfl
theorem kf_of {o : List Nat} (g : Nat → Nat) {s : Nat} (hs : s ∈ o) : kf o (o.map g) s = g s := kf_map (α := Nat) g hs
theorem kf_mapK {o K : List Nat} (hK : K.length = o.length) (g : Nat → Nat) {s : Nat} (hs : s ∈ o) : kf o (K.map g) s = g (kf o K s) := by
  unfold kf
  have h1 := ixO_lt hs
  rw [List.getD_eq_getElem?_getD, List.getD_eq_getElem?_getD, List.getElem?_map, List.getElem?_eq_getElem (by omega)]
  rfl
theorem kf_mem {o K : List Nat} (hK : K.length = o.length) {s : Nat} (hs : s ∈ o) : kf o K s ∈ K := by
  unfold kf
  have h1 := ixO_lt hs
  rw [List.getD_eq_getElem?_getD, List.getElem?_eq_getElem (by omega)]
  exact List.getElem_mem _
theorem mem_kf {o K : List Nat} (nd : o.Nodup) (hK : K.length = o.length) {k : Nat} (hk : k ∈ K) : ∃ s ∈ o, kf o K s = k := by
  obtain ⟨i, hi, rfl⟩ := List.getElem_of_mem hk
  refine ⟨o[i]'(by omega), List.getElem_mem _, ?_⟩
  unfold kf
  rw [ixO_self nd, List.getD_eq_getElem?_getD, List.getElem?_eq_getElem hi]
  rfl
theorem stepK_eq (A : Au) (o K : List Nat) : stepK A o K = o.map fun s => ixO (addA [] (labK A o K)) (sgn A o K s) := by
  unfold stepK numF
  rw [labK, List.map_map]
  rfl
theorem stepK_len (A : Au) (o K : List Nat) : (stepK A o K).length = o.length := by rw [stepK_eq, List.length_map]
theorem kf_step {A : Au} {o K : List Nat} {s t : Nat} (hs : s ∈ o) (ht : t ∈ o) : kf o (stepK A o K) s = kf o (stepK A o K) t ↔ sgn A o K s = sgn A o K t := by
  rw [stepK_eq, kf_of _ hs, kf_of _ ht]
  constructor
  · exact fun e => idx_inj ((mem_addA _).mpr (.inr (List.mem_map_of_mem hs))) ((mem_addA _).mpr (.inr (List.mem_map_of_mem ht))) e
  · exact fun e => by rw [e]
structure KndI (A : Au) (o K : List Nat) : Prop where
  len : K.length = o.length
  a : ∀ s ∈ o, ∀ t ∈ o, Sam A s A t → kf o K s = kf o K t
  b : ∀ s ∈ o, ∀ t ∈ o, kf o K s = kf o K t → (rwA A s).2 = (rwA A t).2
section
variable {A : Au} (h : AuOk A) {o : List Nat} (M : Met A o)
include h M
theorem sgn_iff {K : List Nat} {s t : Nat} (hs : s ∈ o) (ht : t ∈ o) : sgn A o K s = sgn A o K t ↔ kf o K s = kf o K t ∧ ∀ c, c < 28 → kf o K (nx A s c) = kf o K (nx A t c) := by
  unfold sgn
  rw [nx_row h (M.lt s hs), nx_row h (M.lt t ht), List.map_map, List.map_map, Prod.mk.injEq]
  constructor
  · rintro ⟨h1, h2⟩
    refine ⟨h1, fun c hc => ?_⟩
    have := List.map_inj_left.mp h2 c (List.mem_range.mpr hc)
    exact this
  · rintro ⟨h1, h2⟩
    exact ⟨h1, List.map_congr_left fun c hc => h2 c (List.mem_range.mp hc)⟩
theorem KndI.step {K : List Nat} (I : KndI A o K) : KndI A o (stepK A o K) := by
  refine ⟨stepK_len A o K, fun s hs t ht e => ?_, fun s hs t ht e => ?_⟩
  · refine (kf_step hs ht).mpr ((sgn_iff h M hs ht).mpr ⟨I.a s hs t ht e, fun c hc => ?_⟩)
    exact I.a _ (M.cl s hs c hc) _ (M.cl t ht c hc) (e.next hc)
  · exact I.b s hs t ht ((sgn_iff h M hs ht).mp ((kf_step hs ht).mp e)).1
theorem step_fine {K : List Nat} {s t : Nat} (hs : s ∈ o) (ht : t ∈ o) (e : kf o (stepK A o K) s = kf o (stepK A o K) t) : kf o K s = kf o K t :=
  ((sgn_iff h M hs ht).mp ((kf_step hs ht).mp e)).1
theorem step_same {K : List Nat} (hK : K.length = o.length) (hc : cnt (stepK A o K) ≤ cnt K) {s t : Nat} (hs : s ∈ o) (ht : t ∈ o) (e : kf o K s = kf o K t) : kf o (stepK A o K) s = kf o (stepK A o K) t := by
  have hS := stepK_len A o K
  let g : Nat → Nat := fun k => match o.find? (fun s => decide (kf o (stepK A o K) s = k)) with
    | some s => kf o K s
    | none => 0
  have gk : ∀ s ∈ o, g (kf o (stepK A o K) s) = kf o K s := fun s hs => by
    show (match o.find? (fun u => decide (kf o (stepK A o K) u = kf o (stepK A o K) s)) with | some s => kf o K s | none => 0) = _
    cases hf : o.find? (fun u => decide (kf o (stepK A o K) u = kf o (stepK A o K) s)) with
    | none =>
      have := List.find?_eq_none.mp hf s hs
      simp at this
    | some u =>
      have h1 := List.find?_some hf
      exact step_fine h M (List.mem_of_find?_eq_some hf) hs (by simpa using h1)
  have inj : InjL g (addA [] (stepK A o K)) := by
    refine pigeon (addA_nd _ List.nodup_nil) (fun y hy => ?_) hc (Q := addA [] K)
    have hy : y ∈ K := by simpa using (mem_addA _).mp hy
    obtain ⟨u, hu, rfl⟩ := mem_kf M.nd hK hy
    exact ⟨_, (mem_addA _).mpr (.inr (kf_mem hS hu)), gk u hu⟩
  refine inj _ ((mem_addA _).mpr (.inr (kf_mem hS hs))) _ ((mem_addA _).mpr (.inr (kf_mem hS ht))) ?_
  rw [gk s hs, gk t ht, e]
structure KndD (A : Au) (o K : List Nat) : Prop where
  len : K.length = o.length
  i : ∀ s ∈ o, ∀ t ∈ o, kf o K s = kf o K t ↔ Sam A s A t
theorem done_of {K : List Nat} (I : KndI A o K) (hc : cnt (stepK A o K) ≤ cnt K) : KndD A o (stepK A o K) := by
  have I2 := I.step h M
  refine ⟨I2.len, fun s hs t ht => ⟨fun e w hw => ?_, I2.a s hs t ht⟩⟩
  have go : ∀ (w : List Nat) (s t : Nat), s ∈ o → t ∈ o → kf o (stepK A o K) s = kf o (stepK A o K) t → Wd28 w → Lg A s w = Lg A t w := by
    intro w
    induction w with
    | nil => exact fun s t hs ht e _ => I2.b s hs t ht e
    | cons c w ih =>
      intro s t hs ht e hw
      have hc28 : c < 28 := hw c (by simp)
      rw [Lg_cons, Lg_cons]
      refine ih _ _ (M.cl s hs c hc28) (M.cl t ht c hc28) ?_ fun x hx => hw x (by simp [hx])
      have := ((sgn_iff h M hs ht).mp ((kf_step hs ht).mp e)).2 c hc28
      exact step_same h M I.len hc (M.cl s hs c hc28) (M.cl t ht c hc28) this
  exact go w s t hs ht e hw
theorem mooW_ok : ∀ (f : Nat) (K : List Nat) (m : Nat), KndI A o K → (cnt K ≤ m → ∃ K0, KndI A o K0 ∧ K = stepK A o K0 ∧ cnt K0 = m) → o.length < f + cnt K → KndD A o (mooW A o f K m)
  | 0, K, m, I, hm, hf => by
    have := cnt_le K
    have := I.len
    omega
  | f + 1, K, m, I, hm, hf => by
    unfold mooW
    by_cases hc : m < cnt K
    · rw [if_pos hc]
      by_cases he : cnt (stepK A o K) ≤ cnt K
      · have := done_of h M I he
        cases f with
        | zero => exact this
        | succ f =>
          unfold mooW
          rw [if_neg (by omega)]
          exact this
      · exact mooW_ok f _ _ (I.step h M) (fun hle => absurd hle he) (by omega)
    · rw [if_neg hc]
      obtain ⟨K0, I0, rfl, e0⟩ := hm (by omega)
      exact done_of h M I0 (by omega)
theorem outK_ok : KndI A o (outK A o) := by
  refine ⟨by simp [outK], fun s hs t ht e => ?_, fun s hs t ht e => ?_⟩
  · unfold outK
    rw [kf_of _ hs, kf_of _ ht]
    exact e.out
  · unfold outK at e
    rw [kf_of _ hs, kf_of _ ht] at e
    exact e
theorem step_names {K : List Nat} (hK : K.length = o.length) {g : Nat → Nat} (hg : InjL g K) : stepK A o (K.map g) = stepK A o K := by
  unfold stepK
  have e : labK A o (K.map g) = (labK A o K).map fun p => (g p.1, p.2.map g) := by
    unfold labK
    rw [List.map_map]
    refine List.map_congr_left fun s hs => ?_
    show sgn A o (K.map g) s = (g (kf o K s), ((rwA A s).1.map (kf o K)).map g)
    unfold sgn
    rw [kf_mapK hK g hs, List.map_map, nx_row h (M.lt s hs), List.map_map, List.map_map]
    congr 1
    refine List.map_congr_left fun c hc => ?_
    exact kf_mapK hK g (M.cl s hs c (List.mem_range.mp hc))
  rw [e]
  refine numF_map fun p hp q hq e => ?_
  obtain ⟨s, hs, rfl⟩ := List.mem_map.mp hp
  obtain ⟨t, ht, rfl⟩ := List.mem_map.mp hq
  rw [Prod.mk.injEq] at e
  refine (sgn_iff h M hs ht).mpr ⟨hg _ (kf_mem hK hs) _ (kf_mem hK ht) e.1, fun c hc => ?_⟩
  have e2 := e.2
  unfold sgn at e2
  simp only at e2
  rw [nx_row h (M.lt s hs), nx_row h (M.lt t ht), List.map_map, List.map_map, List.map_map, List.map_map] at e2
  have := List.map_inj_left.mp e2 c (List.mem_range.mpr hc)
  exact hg _ (kf_mem hK (M.cl s hs c hc)) _ (kf_mem hK (M.cl t ht c hc)) this
def kindF (A : Au) (o : List Nat) : List Nat := mooW A o (o.length + 1) (outK A o) 0
theorem kind_names {K : List Nat} (hK : K.length = o.length) {g : Nat → Nat} (hg : InjL g K) (h0 : 0 < cnt K) (f : Nat) : mooW A o (f + 1) (K.map g) 0 = mooW A o (f + 1) K 0 := by
  unfold mooW
  rw [cnt_map hg, if_pos h0, if_pos h0, step_names h M hK hg]
theorem out_ne : outK A o ≠ [] := by
  unfold outK
  intro e
  have := M.z
  rw [List.map_eq_nil_iff.mp e] at this
  cases this
theorem kindF_ok : KndD A o (kindF A o) := mooW_ok h M _ _ _ (outK_ok h M) (fun hle => absurd (cnt_pos (out_ne h M)) (by omega)) (by omega)
theorem kindF_num : mooW A o (o.length + 1) (numF (outK A o)) 0 = kindF A o :=
  kind_names h M (by simp [outK]) (num_inj _) (cnt_pos (out_ne h M)) _
end
section
variable (A : Au) (o K : List Nat)
def addF1 (F : List Nat) (m : Nat) : List Nat := if kf o K m ∈ F.map (kf o K) then F else F ++ [m]
def addF (F ms : List Nat) : List Nat := ms.foldl (addF1 o K) F
def lstW : Nat → List Nat → Nat → List Nat
  | 0, F, _ => F
  | f + 1, F, i => if h : i < F.length then lstW f (addF o K F (rwA A F[i]).1) (i + 1) else F
def rowQ (F : List Nat) (s : Nat) : List Nat × Nat := ((rwA A s).1.map fun m => ixO (F.map (kf o K)) (kf o K m), (rwA A s).2)
def frsF : List Nat := lstW A o K (A.length + 1) [0] 0
def lstF : Au := (frsF A o K).map (rowQ A o K (frsF A o K))
end
theorem addF_cons (o K F : List Nat) (m : Nat) (ms : List Nat) : addF o K F (m :: ms) = addF o K (addF1 o K F m) ms := rfl
theorem addF1_pre (o K F : List Nat) (m : Nat) : ∃ t, addF1 o K F m = F ++ t := by
  unfold addF1
  split
  · exact ⟨[], by simp⟩
  · exact ⟨[m], rfl⟩
theorem addF_pre (o K : List Nat) : ∀ (ms F : List Nat), ∃ t, addF o K F ms = F ++ t
  | [], F => ⟨[], by simp [addF]⟩
  | m :: ms, F => by
    obtain ⟨t, ht⟩ := addF1_pre o K F m
    obtain ⟨t', ht'⟩ := addF_pre o K ms (addF1 o K F m)
    exact ⟨t ++ t', by rw [addF_cons, ht', ht, List.append_assoc]⟩
theorem addF1_in (o K F : List Nat) (m : Nat) : kf o K m ∈ (addF1 o K F m).map (kf o K) := by
  unfold addF1
  split
  · assumption
  · simp
theorem addF_in (o K : List Nat) : ∀ (ms F : List Nat) {m : Nat}, m ∈ ms → kf o K m ∈ (addF o K F ms).map (kf o K)
  | a :: ms, F, m, h => by
    rw [addF_cons]
    rcases List.mem_cons.mp h with rfl | h
    · obtain ⟨t, ht⟩ := addF_pre o K ms (addF1 o K F m)
      rw [ht, List.map_append]
      exact List.mem_append_left _ (addF1_in o K F m)
    · exact addF_in o K ms _ h
theorem addF1_nd {o K F : List Nat} (h : (F.map (kf o K)).Nodup) (m : Nat) : ((addF1 o K F m).map (kf o K)).Nodup := by
  unfold addF1
  split
  · exact h
  · rename_i hn
    rw [List.map_append]
    exact List.nodup_append.mpr ⟨h, by simp, fun a ha b hb e => hn (by rw [← List.mem_singleton.mp hb, ← e]; exact ha)⟩
theorem addF_nd {o K : List Nat} : ∀ (ms : List Nat) {F : List Nat}, (F.map (kf o K)).Nodup → ((addF o K F ms).map (kf o K)).Nodup
  | [], _, h => h
  | m :: ms, _, h => addF_nd ms (addF1_nd h m)
theorem addF_mem {o K : List Nat} : ∀ (ms : List Nat) {F : List Nat} {x : Nat}, x ∈ addF o K F ms → x ∈ F ∨ x ∈ ms
  | [], _, _, h => .inl h
  | m :: ms, F, x, h => by
    rcases addF_mem ms h with h | h
    · unfold addF1 at h
      split at h
      · exact .inl h
      · rcases List.mem_append.mp h with h | h
        · exact .inl h
        · exact .inr (by rw [List.mem_singleton.mp h]; simp)
    · exact .inr (List.mem_cons_of_mem _ h)
structure FrI (A : Au) (o K F : List Nat) (i : Nat) : Prop where
  nd : (F.map (kf o K)).Nodup
  z : F[0]? = some 0
  sub : ∀ s ∈ F, s ∈ o
  cl : ∀ j, ∀ hj : j < F.length, j < i → ∀ c, c < 28 → kf o K (nx A F[j] c) ∈ F.map (kf o K)
  le : i ≤ F.length
structure FrD (A : Au) (o K F : List Nat) : Prop where
  nd : (F.map (kf o K)).Nodup
  z : F[0]? = some 0
  sub : ∀ s ∈ F, s ∈ o
  cl : ∀ s ∈ F, ∀ c, c < 28 → kf o K (nx A s c) ∈ F.map (kf o K)
theorem nd_of_map {F : List Nat} {g : Nat → Nat} (h : (F.map g).Nodup) : F.Nodup := List.Pairwise.of_map g (fun _ _ hne e => hne (congrArg g e)) h
section
variable {A : Au} (h : AuOk A) {o : List Nat} (M : Met A o) {K : List Nat}
include h M
theorem FrI.len {F : List Nat} {i : Nat} (I : FrI A o K F i) : F.length ≤ A.length := lt_len (nd_of_map I.nd) fun s hs => M.lt s (I.sub s hs)
theorem FrI.step {F : List Nat} {i : Nat} (I : FrI A o K F i) (hi : i < F.length) : FrI A o K (addF o K F (rwA A F[i]).1) (i + 1) := by
  obtain ⟨t, ht⟩ := addF_pre o K (rwA A F[i]).1 F
  have hso := I.sub _ (List.getElem_mem hi)
  have hs := M.lt _ hso
  refine ⟨addF_nd _ I.nd, ?_, fun s m => ?_, fun j hj hji c hc => ?_, ?_⟩
  · rw [ht, List.getElem?_append_left (by omega)]
    exact I.z
  · rcases addF_mem _ m with m | m
    · exact I.sub s m
    · rw [nx_row h hs] at m
      obtain ⟨c, hc, rfl⟩ := List.mem_map.mp m
      exact M.cl _ hso c (List.mem_range.mp hc)
  · have hjo : j < F.length := by omega
    have e : (addF o K F (rwA A F[i]).1)[j] = F[j] := by
      simp only [ht]
      exact List.getElem_append_left hjo
    rw [e]
    by_cases hj2 : j < i
    · rw [ht, List.map_append]
      exact List.mem_append_left _ (I.cl j hjo hj2 c hc)
    · have : j = i := by omega
      subst this
      refine addF_in o K _ _ ?_
      rw [nx_row h hs]
      exact List.mem_map_of_mem (List.mem_range.mpr hc)
  · rw [ht, List.length_append]
    omega
theorem lstW_ok : ∀ (f : Nat) (F : List Nat) (i : Nat), FrI A o K F i → A.length < f + i → FrD A o K (lstW A o K f F i)
  | 0, F, i, I, hf => by
    have := I.len h M
    have := I.le
    omega
  | f + 1, F, i, I, hf => by
    unfold lstW
    by_cases hi : i < F.length
    · rw [dif_pos hi]
      exact lstW_ok f _ _ (I.step h M hi) (by omega)
    · rw [dif_neg hi]
      refine ⟨I.nd, I.z, I.sub, fun s hs c hc => ?_⟩
      obtain ⟨j, hj, rfl⟩ := List.getElem_of_mem hs
      exact I.cl j hj (by omega) c hc
theorem fr0 : FrI A o K [0] 0 := ⟨by simp, rfl, fun s hs => by rw [List.mem_singleton.mp hs]; exact M.z, fun j _ hj => absurd hj (Nat.not_lt_zero _), Nat.zero_le _⟩
theorem frsF_ok : FrD A o K (frsF A o K) := lstW_ok h M _ _ _ (fr0 h M) (by omega)
theorem FrD.len {F : List Nat} (D : FrD A o K F) : F.length ≤ A.length := lt_len (nd_of_map D.nd) fun s hs => M.lt s (D.sub s hs)
theorem lst_ok {F : List Nat} (D : FrD A o K F) : AuOk (F.map (rowQ A o K F)) := by
  have l0 : 1 ≤ F.length := (List.getElem?_eq_some_iff.mp D.z).1
  refine ⟨by rw [List.length_map]; exact l0, by rw [List.length_map]; have := D.len h M; have := h.n2; omega, fun q hq => ?_⟩
  obtain ⟨s, hs, rfl⟩ := List.mem_map.mp hq
  have hso := D.sub s hs
  have hlt := M.lt s hso
  obtain ⟨r1, r2, r3⟩ := h.row _ (rwA_mem hlt)
  refine ⟨by unfold rowQ; rw [List.length_map]; exact r1, fun m hm => ?_, r3⟩
  unfold rowQ at hm
  obtain ⟨n, hn, rfl⟩ := List.mem_map.mp hm
  rw [nx_row h hlt] at hn
  obtain ⟨c, hc, rfl⟩ := List.mem_map.mp hn
  have := ixO_lt (D.cl s hs c (List.mem_range.mp hc))
  rw [List.length_map] at this ⊢
  exact this
theorem rwQ {F : List Nat} {i : Nat} (hi : i < F.length) : rwA (F.map (rowQ A o K F)) i = rowQ A o K F F[i] := by
  unfold rwA
  rw [List.getD_eq_getElem?_getD, List.getElem?_map, List.getElem?_eq_getElem hi]
  rfl
theorem lst_sam {F : List Nat} (D : FrD A o K F) (KD : KndD A o K) : ∀ (w : List Nat) (i : Nat) (hi : i < F.length), Wd28 w → Lg (F.map (rowQ A o K F)) i w = Lg A F[i] w
  | [], i, hi, _ => by
    show (rwA (F.map (rowQ A o K F)) i).2 = _
    rw [rwQ h M hi]
    rfl
  | c :: w, i, hi, hw => by
    have hc : c < 28 := hw c (by simp)
    have hm := List.getElem_mem hi
    have hso := D.sub _ hm
    have hin := D.cl _ hm c hc
    have e1 : nx (F.map (rowQ A o K F)) i c = ixO (F.map (kf o K)) (kf o K (nx A F[i] c)) := by
      unfold nx
      rw [rwQ h M hi]
      unfold rowQ
      simp only
      rw [nx_row h (M.lt _ hso), List.map_map, List.getD_eq_getElem?_getD, List.getElem?_map, List.getElem?_range hc, Option.map_some, Option.getD_some, List.getD_eq_getElem?_getD, List.getElem?_map, List.getElem?_range hc]
      rfl
    have hlt := ixO_lt hin
    rw [List.length_map] at hlt
    have hg := ixO_get hin
    rw [List.getElem?_map, List.getElem?_eq_getElem hlt] at hg
    have hk : kf o K F[ixO (F.map (kf o K)) (kf o K (nx A F[i] c))] = kf o K (nx A F[i] c) := by simpa using hg
    have sm := (KD.i _ (D.sub _ (List.getElem_mem hlt)) _ (M.cl _ hso c hc)).mp hk
    have hw' : Wd28 w := fun x hx => hw x (by simp [hx])
    rw [Lg_cons, Lg_cons, e1, lst_sam D KD w _ hlt hw']
    exact sm w hw'
end
structure TwoI (A : Au) (o K F : List Nat) (B : Au) (p L G : List Nat) : Prop where
  len : F.length = G.length
  fo : ∀ s ∈ F, s ∈ o
  gp : ∀ s ∈ G, s ∈ p
  sam : ∀ i (h1 : i < F.length) (h2 : i < G.length), Sam A F[i] B G[i]
section
variable {A : Au} {o K F : List Nat} {B : Au} {p L G : List Nat} (KD : KndD A o K) (LD : KndD B p L)
include KD LD
theorem ix_same (I : TwoI A o K F B p L G) : ∀ {m n : Nat}, m ∈ o → n ∈ p → Sam A m B n → ixO (F.map (kf o K)) (kf o K m) = ixO (G.map (kf p L)) (kf p L n) := by
  intro m n hm hn e
  have go : ∀ (F G : List Nat), TwoI A o K F B p L G → ixO (F.map (kf o K)) (kf o K m) = ixO (G.map (kf p L)) (kf p L n) := by
    intro F
    induction F with
    | nil =>
      intro G I
      have := I.len
      cases G with
      | nil => rfl
      | cons g G => simp at this
    | cons f F ih =>
      intro G I
      cases G with
      | nil =>
        have := I.len
        simp at this
      | cons g G =>
        have I2 : TwoI A o K F B p L G := ⟨by have := I.len; simpa using this, fun s hs => I.fo s (by simp [hs]), fun s hs => I.gp s (by simp [hs]), fun i h1 h2 => I.sam (i + 1) (by simp; omega) (by simp; omega)⟩
        have s0 := I.sam 0 (by simp) (by simp)
        have s0 : Sam A f B g := s0
        have hf := I.fo f (by simp)
        have hg := I.gp g (by simp)
        have iff : kf o K f = kf o K m ↔ kf p L g = kf p L n := by
          rw [KD.i f hf m hm, LD.i g hg n hn]
          exact ⟨fun x => s0.symm.trans (x.trans e), fun x => s0.trans (x.trans e.symm)⟩
        show (if kf o K f = kf o K m then 0 else ixO (F.map (kf o K)) (kf o K m) + 1) = if kf p L g = kf p L n then 0 else ixO (G.map (kf p L)) (kf p L n) + 1
        by_cases hx : kf o K f = kf o K m
        · rw [if_pos hx, if_pos (iff.mp hx)]
        · rw [if_neg hx, if_neg (fun y => hx (iff.mpr y)), ih G I2]
  exact go F G I
theorem in_same (I : TwoI A o K F B p L G) {m n : Nat} (hm : m ∈ o) (hn : n ∈ p) (e : Sam A m B n) : kf o K m ∈ F.map (kf o K) ↔ kf p L n ∈ G.map (kf p L) := by
  constructor
  · intro h
    obtain ⟨s, hs, es⟩ := List.mem_map.mp h
    obtain ⟨i, hi, rfl⟩ := List.getElem_of_mem hs
    have hg : i < G.length := by have := I.len; omega
    have s1 := (KD.i _ (I.fo _ hs) _ hm).mp es
    refine List.mem_map.mpr ⟨G[i], List.getElem_mem hg, (LD.i _ (I.gp _ (List.getElem_mem hg)) _ hn).mpr ?_⟩
    exact (I.sam i hi hg).symm.trans (s1.trans e)
  · intro h
    obtain ⟨s, hs, es⟩ := List.mem_map.mp h
    obtain ⟨i, hi, rfl⟩ := List.getElem_of_mem hs
    have hf : i < F.length := by have := I.len; omega
    have s1 := (LD.i _ (I.gp _ hs) _ hn).mp es
    refine List.mem_map.mpr ⟨F[i], List.getElem_mem hf, (KD.i _ (I.fo _ (List.getElem_mem hf)) _ hm).mpr ?_⟩
    exact (I.sam i hf hi).trans (s1.trans e.symm)
theorem TwoI.add1 (I : TwoI A o K F B p L G) {m n : Nat} (hm : m ∈ o) (hn : n ∈ p) (e : Sam A m B n) : TwoI A o K (addF1 o K F m) B p L (addF1 p L G n) := by
  unfold addF1
  by_cases hx : kf o K m ∈ F.map (kf o K)
  · rw [if_pos hx, if_pos ((in_same KD LD I hm hn e).mp hx)]
    exact I
  · rw [if_neg hx, if_neg fun y => hx ((in_same KD LD I hm hn e).mpr y)]
    have hl := I.len
    refine ⟨by simp [hl], fun s hs => ?_, fun s hs => ?_, fun i h1 h2 => ?_⟩
    · rcases List.mem_append.mp hs with h | h
      · exact I.fo s h
      · rw [List.mem_singleton.mp h]; exact hm
    · rcases List.mem_append.mp hs with h | h
      · exact I.gp s h
      · rw [List.mem_singleton.mp h]; exact hn
    · by_cases hi : i < F.length
      · rw [List.getElem_append_left hi, List.getElem_append_left (by omega)]
        exact I.sam i hi (by omega)
      · have h1' : i = F.length := by simp at h1; omega
        subst h1'
        rw [List.getElem_append_right (by omega), List.getElem_append_right (by omega)]
        simpa [hl] using e
end
section
variable {A : Au} {o K : List Nat} {B : Au} {p L : List Nat} (hA : AuOk A) (hB : AuOk B) (MA : Met A o) (MB : Met B p) (KD : KndD A o K) (LD : KndD B p L)
include KD LD in
theorem TwoI.addR : ∀ (cs : List Nat) {F G : List Nat} (f g : Nat → Nat), TwoI A o K F B p L G → (∀ c ∈ cs, f c ∈ o ∧ g c ∈ p ∧ Sam A (f c) B (g c)) → TwoI A o K (addF o K F (cs.map f)) B p L (addF p L G (cs.map g))
  | [], _, _, _, _, I, _ => I
  | c :: cs, F, G, f, g, I, hh => by
    obtain ⟨h1, h2, h3⟩ := hh c (by simp)
    rw [List.map_cons, List.map_cons, addF_cons, addF_cons]
    exact TwoI.addR cs f g (I.add1 KD LD h1 h2 h3) fun x hx => hh x (by simp [hx])
include hA hB MA MB KD LD
theorem TwoI.step {F G : List Nat} (I : TwoI A o K F B p L G) {i : Nat} (h1 : i < F.length) (h2 : i < G.length) : TwoI A o K (addF o K F (rwA A F[i]).1) B p L (addF p L G (rwA B G[i]).1) := by
  have hf := I.fo _ (List.getElem_mem h1)
  have hg := I.gp _ (List.getElem_mem h2)
  rw [nx_row hA (MA.lt _ hf), nx_row hB (MB.lt _ hg)]
  refine TwoI.addR KD LD _ _ _ I fun c hc => ?_
  have hc := List.mem_range.mp hc
  exact ⟨MA.cl _ hf c hc, MB.cl _ hg c hc, (I.sam i h1 h2).next hc⟩
theorem two_go : ∀ (f g : Nat) (F G : List Nat) (i : Nat), TwoI A o K F B p L G → FrI A o K F i → FrI B p L G i → A.length < f + i → B.length < g + i → TwoI A o K (lstW A o K f F i) B p L (lstW B p L g G i)
  | 0, _, F, G, i, _, I, _, hf, _ => by
    have := I.len hA MA
    have := I.le
    omega
  | _ + 1, 0, F, G, i, _, _, J, _, hg => by
    have := J.len hB MB
    have := J.le
    omega
  | f + 1, g + 1, F, G, i, T, I, J, hf, hg => by
    unfold lstW
    have hl := T.len
    by_cases hi : i < F.length
    · have hi2 : i < G.length := by omega
      rw [dif_pos hi, dif_pos hi2]
      exact two_go f g _ _ _ (T.step hA hB MA MB KD LD hi hi2) (I.step hA MA hi) (J.step hB MB hi2) (by omega) (by omega)
    · rw [dif_neg hi, dif_neg (by omega)]
      exact T
theorem lst_two (e : Sam A 0 B 0) : lstF A o K = lstF B p L := by
  have T0 : TwoI A o K [0] B p L [0] := ⟨rfl, fun s hs => by rw [List.mem_singleton.mp hs]; exact MA.z, fun s hs => by rw [List.mem_singleton.mp hs]; exact MB.z, fun i h1 h2 => by
    have : i = 0 := by simp at h1; omega
    subst this
    exact e⟩
  have T : TwoI A o K (frsF A o K) B p L (frsF B p L) := two_go hA hB MA MB KD LD _ _ _ _ _ T0 (fr0 hA MA) (fr0 hB MB) (by omega) (by omega)
  have hl := T.len
  unfold lstF
  refine List.ext_getElem (by simp [hl]) fun i h1 h2 => ?_
  rw [List.length_map] at h1 h2
  rw [List.getElem_map, List.getElem_map]
  have hf := T.fo _ (List.getElem_mem h1)
  have hg := T.gp _ (List.getElem_mem h2)
  unfold rowQ
  rw [nx_row hA (MA.lt _ hf), nx_row hB (MB.lt _ hg), List.map_map, List.map_map, Prod.mk.injEq]
  refine ⟨List.map_congr_left fun c hc => ?_, (T.sam i h1 h2).out⟩
  have hc := List.mem_range.mp hc
  exact ix_same KD LD T (MA.cl _ hf c hc) (MB.cl _ hg c hc) ((T.sam i h1 h2).next hc)
end
abbrev intN (l : List Nat) : List DL.D := l.map fun (n : Nat) => .int (n : Int)
def sAut : Tx := [97, 117, 116, 111, 109, 97, 116, 111, 110]
def rwD (q : List Nat × Nat) : DL.D := .tuple [.tuple (intN q.1), .int (q.2 : Nat)]
def auD (A : Au) : DL.D := .tuple [.str (tx sAut), .tuple (A.map rwD)]
theorem int_ok (i a b : Int) : m_is_integer [.int i, .int a, .int b] = .ret (.bool (decide (a ≤ i) && decide (i ≤ b))) := by
  by_cases h : a ≤ i <;> simp [m_is_integer, c_is_integer, fnP, h]
def sgs : Tx := [97, 98, 99, 100, 101, 102, 103, 104, 105, 106, 107, 108, 109, 110, 111, 112, 113, 114, 115, 116, 117, 118, 119, 120, 121, 122, 45, 124]
def sgi (c : Ch) : Nat := sgs.idxOf c
theorem sgi_lt : ∀ c ∈ sgs, sgi c < 28 := by decide
theorem sg_ix : ∀ c ∈ sgs, dSIndex (.str (tx sgs)) [.str (tx [c])] = some (.int (sgi c : Nat)) := by
  intro c hc
  simp only [sgs, List.mem_cons, List.not_mem_nil, or_false] at hc
  rcases hc with rfl | rfl | rfl | rfl | rfl | rfl | rfl | rfl | rfl | rfl | rfl | rfl | rfl | rfl | rfl | rfl | rfl | rfl | rfl | rfl | rfl | rfl | rfl | rfl | rfl | rfl | rfl | rfl <;> kernel_rfl
theorem forRun_one {set : DL.D → DL.Env → Option DL.Env} {body : SC} {d : DL.D} {ds : List DL.D} {ρ ρ1 ρ2 : DL.Env} (h1 : set d ρ = some ρ1) (h2 : body ρ1 = .nx ρ2) : forRun set body (d :: ds) ρ = forRun set body ds ρ2 := by
  rw [forRun, h1]
  simp only
  rw [h2]
abbrev cdW (w : Tx) : List Nat := w.map sgi
abbrev OkT (w : Tx) : Prop := ∀ c ∈ w, c ∈ sgs
theorem cdW_ok {w : Tx} (h : OkT w) : Wd28 (cdW w) := fun x hx => by
  obtain ⟨c, hc, rfl⟩ := List.mem_map.mp hx
  exact sgi_lt c (h c hc)
section
variable {A : Au} (h : AuOk A)
theorem au_1 (A : Au) : dIx (auD A) (.int 1) = some (.tuple (A.map rwD)) := by simp [auD]
include h in
theorem au_row {s : Nat} (hs : s < A.length) : dIx (.tuple (A.map rwD)) (.int (s : Nat)) = some (rwD (rwA A s)) := by
  have z : (A.map rwD).length ≤ sizeLine := by rw [List.length_map]; exact le_line (by have := h.n2; omega)
  rw [dIx_t, atI_map, atI_some (rwA_get hs)]
  rfl
theorem rw_0 (q : List Nat × Nat) : dIx (rwD q) (.int 0) = some (.tuple (intN q.1)) := by simp [rwD]
theorem rw_1 (q : List Nat × Nat) : dIx (rwD q) (.int 1) = some (.int (q.2 : Nat)) := by simp [rwD]
include h in
theorem nx_ix {s c : Nat} (hs : s < A.length) (hc : c < 28) : dIx (.tuple (intN (rwA A s).1)) (.int (c : Nat)) = some (.int (nx A s c : Nat)) := by
  obtain ⟨h1, _, _⟩ := h.row _ (rwA_mem hs)
  have hg : (rwA A s).1[c]? = some (nx A s c) := by
    unfold nx
    rw [List.getD_eq_getElem?_getD, List.getElem?_eq_getElem (by omega)]
    rfl
  rw [dIx_t, atI_map, atI_some hg]
  rfl
include h
theorem go_lt : ∀ (w : List Nat) {s : Nat}, s < A.length → Wd28 w → goA A s w < A.length
  | [], _, hs, _ => hs
  | c :: w, _, hs, hw => go_lt w (nx_lt h hs (hw c (by simp))) fun x hx => hw x (by simp [hx])
def tkB (A : Au) (w : Tx) : Bool := decide (Lg A 0 (cdW w) = 1)
theorem ltakes_loop (T : SV) : ∀ (w : Tx) (s : Nat), OkT w → s < A.length → forRun (setN 3) b__law_takes_0 (w.map fun c => .str (tx [c])) [.d (auD A), T, .d (.int (s : Nat)), .un] = .nx [.d (auD A), T, .d (.int (goA A s (cdW w) : Nat)), .un]
  | [], s, _, _ => by simp [forRun, goA]
  | c :: w, s, hw, hs => by
    have hc := hw c (by simp)
    have ih := ltakes_loop T w (nx A s (sgi c)) (fun x hx => hw x (by simp [hx])) (nx_lt h hs (sgi_lt c hc))
    have i1 := au_1 A
    have i2 := au_row h hs
    have i3 := rw_0 (rwA A s)
    have i4 := nx_ix h hs (sgi_lt c hc)
    have i5 := sg_ix c hc
    have i6 : m__law_signs [] = .ret (.str (tx sgs)) := by kernel_rfl
    rw [List.map_cons]
    refine (forRun_one (ρ1 := [.d (auD A), T, .d (.int (s : Nat)), .d (.str (tx [c]))]) (by simp) (ρ2 := [.d (auD A), T, .d (.int (nx A s (sgi c) : Nat)), .un]) ?_).trans ih
    generalize auD A = V at *
    generalize A.map rwD = R at *
    generalize rwD (rwA A s) = Q at *
    generalize intN (rwA A s).1 = NX at *
    generalize tx sgs = SG at *
    simp [-dIx_t, b__law_takes_0, i1, i2, i3, i4, i5, i6, dTy]
theorem ltakes_ok {w : Tx} (hw : OkT w) (hl : w.length ≤ 1000) : m__law_takes [auD A, .str (tx w)] = .ret (.bool (tkB A w)) := by
  have e := ltakes_loop h (.d (.str (tx w))) w 0 hw h.n1
  have e : forRun (setN 3) b__law_takes_0 (chrs w) [.d (auD A), .d (.str (tx w)), .d (.int 0), .un] = .nx [.d (auD A), .d (.str (tx w)), .d (.int (goA A 0 (cdW w) : Nat)), .un] := e
  have i1 := au_1 A
  have i2 := au_row h (go_lt h (cdW w) h.n1 (cdW_ok hw))
  have i3 := rw_1 (rwA A (goA A 0 (cdW w)))
  have hi : (((rwA A (goA A 0 (cdW w))).2 : Nat) : Int) = 1 ↔ (rwA A (goA A 0 (cdW w))).2 = 1 := by omega
  unfold tkB Lg
  generalize auD A = V at *
  generalize A.map rwD = R at *
  generalize rwD (rwA A (goA A 0 (cdW w))) = Q at *
  simp [-dIx_t, m__law_takes, c__law_takes, fnP, L__law_takes_0, e, i1, i2, i3, hi]
end
structure KdO {τ : Type} (kd : τ → DL.D) : Prop where
  inj : ∀ a b, (nkOf (kd a) = nkOf (kd b)) ↔ a = b
  ok : (∀ a, kk0 (kd a) = true) ∨ ∀ a, kk1 (kd a) = true
def kvT {τ α β : Type} (kd : τ → DL.D) (f : α → β) (l : List (τ × α)) : List (DL.D × β) := l.map fun p => (kd p.1, f p.2)
@[simp] theorem kvT_len {τ α β : Type} (kd : τ → DL.D) (f : α → β) (l : List (τ × α)) : (kvT kd f l).length = l.length := by simp [kvT]
section
variable {τ α β : Type} [DecidableEq τ]
def lk : List (τ × α) → τ → Option α
  | [], _ => none
  | p :: l, s => if p.1 = s then some p.2 else lk l s
def upd : List (τ × α) → τ → α → List (τ × α)
  | [], s, a => [(s, a)]
  | p :: l, s, a => if p.1 = s then (p.1, a) :: l else p :: upd l s a
theorem upd_cons (p : τ × α) (l : List (τ × α)) (s : τ) (a : α) : upd (p :: l) s a = if p.1 = s then (p.1, a) :: l else p :: upd l s a := rfl
variable {kd : τ → DL.D} (hk : KdO kd)
include hk
theorem kv_ok (f : α → β) (l : List (τ × α)) (s : τ) : dOkK (kvT kd f l) (kd s) = true := by
  unfold dOkK kvT
  rcases hk.ok with h | h <;> simp [h]
theorem kv_cons (f : α → β) (p : τ × α) (l : List (τ × α)) (s : τ) : keyIx (kvT kd f (p :: l)) (kd s) = if p.1 = s then some 0 else (keyIx (kvT kd f l) (kd s)).map (· + 1) := by
  unfold keyIx kvT
  rw [List.map_cons, List.findIdx?_cons]
  simp only [hk.inj]
  by_cases h : p.1 = s
  · simp [h]
  · simp [h]
theorem kv_some {f : α → β} {s : τ} {a : α} : ∀ {l : List (τ × α)}, lk l s = some a → ∃ n, keyIx (kvT kd f l) (kd s) = some n ∧ (kvT kd f l)[n]? = some (kd s, f a)
  | p :: l, h => by
    unfold lk at h
    rw [kv_cons hk]
    by_cases hp : p.1 = s
    · rw [if_pos hp] at h ⊢
      cases h
      exact ⟨0, rfl, by rw [← hp]; rfl⟩
    · rw [if_neg hp] at h ⊢
      obtain ⟨n, h1, h2⟩ := kv_some h
      exact ⟨n + 1, by rw [h1]; rfl, h2⟩
theorem kv_none {f : α → β} {s : τ} : ∀ {l : List (τ × α)}, lk l s = none → keyIx (kvT kd f l) (kd s) = none
  | [], _ => rfl
  | p :: l, h => by
    unfold lk at h
    rw [kv_cons hk]
    by_cases hp : p.1 = s
    · rw [if_pos hp] at h
      cases h
    · rw [if_neg hp] at h ⊢
      rw [kv_none h]
      rfl
theorem kv_put (f : α → Tr) (s : τ) (a : α) : ∀ l : List (τ × α), putT (kvT kd f l) (kd s) (f a) = kvT kd f (upd l s a)
  | [] => rfl
  | p :: l => by
    have ih := kv_put f s a l
    unfold putT at ih ⊢
    rw [kv_cons hk]
    unfold upd
    by_cases h : p.1 = s
    · rw [if_pos h, if_pos h]
      rfl
    · rw [if_neg h, if_neg h]
      cases hx : keyIx (kvT kd f l) (kd s) with
      | none =>
        rw [hx] at ih
        show kvT kd f (p :: l) ++ [(kd s, f a)] = kvT kd f (p :: upd l s a)
        unfold kvT at ih ⊢
        rw [List.map_cons, List.map_cons, ← ih]
        rfl
      | some n =>
        rw [hx] at ih
        show setV (kvT kd f (p :: l)) (n + 1) (f a) = kvT kd f (p :: upd l s a)
        unfold kvT at ih ⊢
        rw [List.map_cons, List.map_cons, setV_s]
        exact congrArg _ ih
theorem kv_look (f : α → β) (s : τ) : ∀ l : List (τ × α), dLook (kvT kd f l) (kd s) = (lk l s).map f
  | [] => rfl
  | p :: l => by
    have ih := kv_look f s l
    unfold dLook kvT at ih ⊢
    rw [List.map_cons, List.find?_cons]
    simp only [hk.inj]
    unfold lk
    by_cases h : p.1 = s
    · simp [h]
    · simp only [h, decide_false, if_false]
      exact ih
end
section
variable {τ α : Type} [DecidableEq τ]
theorem upd_new {s : τ} {a : α} : ∀ {l : List (τ × α)}, lk l s = none → upd l s a = l ++ [(s, a)]
  | [], _ => rfl
  | p :: l, h => by
    unfold lk at h
    by_cases e : p.1 = s
    · rw [if_pos e] at h
      cases h
    · rw [if_neg e] at h
      rw [upd_cons, if_neg e, upd_new h]
      rfl
abbrev numT (N : List τ) : List (τ × Nat) := N.zipIdx
theorem lk_zip : ∀ (N : List τ) (k : Nat) (x : τ), lk (N.zipIdx k) x = if x ∈ N then some (k + ixO N x) else none
  | [], _, _ => rfl
  | y :: N, k, x => by
    rw [List.zipIdx_cons]
    unfold lk
    by_cases e : y = x
    · subst e
      rw [if_pos rfl, if_pos (List.mem_cons_self)]
      unfold ixO
      rw [if_pos rfl, Nat.add_zero]
    · rw [if_neg e, lk_zip N (k + 1) x]
      have e2 : ixO (y :: N) x = ixO N x + 1 := if_neg e
      rw [e2]
      by_cases h : x ∈ N
      · rw [if_pos h, if_pos (List.mem_cons_of_mem _ h)]
        congr 1
        omega
      · rw [if_neg h, if_neg]
        intro hm
        rcases List.mem_cons.mp hm with rfl | hm
        · exact e rfl
        · exact h hm
theorem lk_num (N : List τ) (x : τ) : lk (numT N) x = if x ∈ N then some (ixO N x) else none := by
  rw [lk_zip, Nat.zero_add]
theorem num_more (N : List τ) (x : τ) : numT (N ++ [x]) = numT N ++ [(x, N.length)] := by
  rw [numT, List.zipIdx_append]
  simp
end
abbrev kdN (n : Nat) : DL.D := .int (n : Int)
theorem kdo_N : KdO kdN := ⟨fun a b => by simp [kdN, nkOf]; omega, .inl fun _ => rfl⟩
abbrev nuT {τ : Type} [DecidableEq τ] (kd : τ → DL.D) (N : List τ) : List (DL.D × Tr) := kvT kd (fun n : Nat => Tr.dat (.int (n : Int))) (numT N)
abbrev knT (o : List Nat) : List (DL.D × Tr) := kvT kdN (fun _ : Unit => Tr.dat (.bool true)) (o.map fun s => (s, ()))
theorem lk_unit : ∀ (o : List Nat) (x : Nat), lk (o.map fun s => (s, ())) x = if x ∈ o then some () else none
  | [], _ => rfl
  | y :: o, x => by
    rw [List.map_cons]
    unfold lk
    by_cases e : y = x
    · subst e
      rw [if_pos rfl, if_pos (List.mem_cons_self)]
    · rw [if_neg e, lk_unit o x]
      by_cases h : x ∈ o
      · rw [if_pos h, if_pos (List.mem_cons_of_mem _ h)]
      · rw [if_neg h, if_neg]
        intro hm
        rcases List.mem_cons.mp hm with rfl | hm
        · exact e rfl
        · exact h hm
theorem kn_in {o : List Nat} {x : Nat} (h : x ∈ o) : ∃ n, keyIx (knT o) (.int (x : Nat)) = some n := by
  have e := lk_unit o x
  rw [if_pos h] at e
  obtain ⟨n, h1, _⟩ := kv_some kdo_N (f := fun _ : Unit => Tr.dat (.bool true)) e
  exact ⟨n, h1⟩
theorem kn_no {o : List Nat} {x : Nat} (h : x ∉ o) : keyIx (knT o) (.int (x : Nat)) = none := by
  have e := lk_unit o x
  rw [if_neg h] at e
  exact kv_none kdo_N (f := fun _ : Unit => Tr.dat (.bool true)) e
theorem kn_put {o : List Nat} {x : Nat} (h : x ∉ o) : putT (knT o) (.int (x : Nat)) (.dat (.bool true)) = knT (o ++ [x]) := by
  have e := lk_unit o x
  rw [if_neg h] at e
  have := kv_put kdo_N (fun _ : Unit => Tr.dat (.bool true)) x () (o.map fun s => (s, ()))
  rw [upd_new e] at this
  unfold knT
  rw [List.map_append]
  exact this
theorem kn_ok (o : List Nat) (x : Nat) : dOkK (knT o) (.int (x : Nat)) = true := kv_ok kdo_N _ _ _
abbrev MtE (R : SV) (o : List Nat) (i : Nat) : DL.Env := [R, .own false (.lst (intN o)), .own false (.tr (.dct (knT o))), .d (.int (i : Nat)), .un]
theorem met_one (R : SV) (i : Nat) (m : Nat) {o : List Nat} (ho : o.length ≤ 1000) : b_met_0 [R, .own false (.lst (intN o)), .own false (.tr (.dct (knT o))), .d (.int (i : Nat)), .d (.int (m : Nat))] = .nx (MtE R (add1 o m) i) := by
  have z1 : (intN o).length < sizeLine := by rw [List.length_map]; exact lt_line (by omega)
  have z2 : (knT o).length < sizeLine := by simp; exact lt_line (by omega)
  have k0 := kn_ok o m
  by_cases h : m ∈ o
  · obtain ⟨n, k1⟩ := kn_in h
    have e : add1 o m = o := by unfold add1; rw [if_pos h]
    unfold MtE
    rw [e]
    generalize knT o = KT at *
    generalize intN o = ON at *
    simp [b_met_0, k0, k1]
  · have k1 := kn_no h
    have k2 := kn_put h
    have e : add1 o m = o ++ [m] := by unfold add1; rw [if_neg h]
    have e2 : intN (o ++ [m]) = intN o ++ [.int (m : Nat)] := by rw [intN, List.map_append]; rfl
    unfold MtE
    rw [e, e2, ← k2]
    generalize knT o = KT at *
    generalize intN o = ON at *
    simp [b_met_0, k0, k1, z1, z2]
theorem met_all (R : SV) (i : Nat) : ∀ (ms : List Nat) (o : List Nat), o.length + ms.length ≤ 1000 → forRun (setN 4) b_met_0 (intN ms) (MtE R o i) = .nx (MtE R (addA o ms) i)
  | [], o, _ => by simp [forRun, addA]
  | m :: ms, o, h => by
    have h : o.length + (ms.length + 1) ≤ 1000 := h
    have hl : (add1 o m).length ≤ o.length + 1 := by unfold add1; split <;> simp
    have ih := met_all R i ms (add1 o m) (by omega)
    rw [addA_cons, ← ih]
    exact forRun_one (by simp) (met_one R i m (by omega))
theorem MetI.len {A : Au} {o : List Nat} {i : Nat} (I : MetI A o i) : o.length ≤ A.length := lt_len I.nd I.lt
section
variable {A : Au} (h : AuOk A)
include h
theorem met_ok : m_met [.list (A.map rwD)] = .ret (.list (intN (metF A))) := by
  have hn := h.n2
  obtain ⟨st, e1, ⟨I1, I2⟩, e2⟩ := while_go (S := List Nat × Nat) (t := t_met_1001) (body := b_met_1) (fun s => MtE (.d (.list (A.map rwD))) s.1 s.2)
    (fun s => MetI A s.1 s.2 ∧ metW A (A.length + 1 - s.2) s.1 s.2 = metF A) (fun s => A.length + 1 - s.2) (fun s => s.1.length ≤ s.2) (fun s ⟨I, e⟩ => by
      obtain ⟨o, i⟩ := s
      simp only at I e ⊢
      have hl := I.len
      have hle := I.le
      have z : o.length ≤ sizeLine := le_line (by omega)
      have lo : (intN o).length = o.length := List.length_map ..
      by_cases hi : i < o.length
      · refine .inr ⟨?_, (addA o (rwA A o[i]).1, i + 1), .inl ?_, ⟨I.step h hi, ?_⟩, by simp only; omega⟩
        · have hi' : (i : Int) < ((o.length : Nat) : Int) := by omega
          generalize intN o = ON at *
          simp [t_met_1001, lo, z, hi']
        · have hs := I.lt _ (List.getElem_mem hi)
          have g1 : dIxA (.list (intN o)) (.int (i : Nat)) = some (.int (o[i] : Nat)) := by
            rw [dIxA_l, dIx_l, atI_map, atI_some (List.getElem?_eq_getElem hi)]
            rfl
          have g2 : dIxA (.list (A.map rwD)) (.int (o[i] : Nat)) = some (rwD (rwA A o[i])) := by
            rw [dIxA_l, dIx_l, atI_map, atI_some (rwA_get hs)]
            rfl
          have g3 : dIxA (rwD (rwA A o[i])) (.int 0) = some (.tuple (intN (rwA A o[i]).1)) := by simp [rwD]
          have hr := (h.row _ (rwA_mem hs)).1
          have ml := met_all (.d (.list (A.map rwD))) i (rwA A o[i]).1 o (by omega)
          generalize rwD (rwA A o[i]) = Q at *
          have l0 : L_met_0 (MtE (.d (.list (A.map rwD))) o i) = .nx (MtE (.d (.list (A.map rwD))) (addA o (rwA A o[i]).1) i) := by
            unfold MtE at *
            generalize A.map rwD = R at *
            generalize intN (rwA A o[i]).1 = NX at *
            generalize o[i] = oi at *
            generalize intN o = ON at *
            generalize knT o = KT at *
            unfold L_met_0
            simp [-dIxA_l, -dIxA_t, g1, g2, g3, ml]
          unfold MtE at *
          generalize A.map rwD = R at *
          generalize addA o (rwA A o[i]).1 = o2 at *
          simp [b_met_1, l0]
        · rw [show A.length + 1 - i = (A.length + 1 - (i + 1)) + 1 by omega] at e
          unfold metW at e
          rw [dif_pos hi] at e
          exact e
      · refine .inl ⟨?_, by omega⟩
        have hi' : ¬ (i : Int) < ((o.length : Nat) : Int) := by omega
        generalize intN o = ON at *
        simp [t_met_1001, lo, z, hi']) fuelN ([0], 0) ⟨met0 h, rfl⟩ (by simp [fuelN]; omega)
  have e3 : st.1 = metF A := by
    rw [← I2]
    cases hf : A.length + 1 - st.2 with
    | zero => rfl
    | succ n =>
      unfold metW
      rw [dif_neg (by omega)]
  rw [e3] at e1
  have k1 : knT [0] = [(.int 0, .dat (.bool true))] := rfl
  have e1 : whileRun t_met_1001 b_met_1 fuelN [.d (.list (A.map rwD)), .own false (.lst [.int 0]), .own false (.tr (.dct [(.int 0, .dat (.bool true))])), .d (.int 0), .un] = .nx (MtE (.d (.list (A.map rwD))) (metF A) st.2) := e1
  have d0 : dOkK ([] : List (DL.D × Tr)) (.int 0) = true := rfl
  generalize A.map rwD = R at *
  generalize metF A = MF at *
  unfold MtE at e1
  generalize knT MF = KT at *
  generalize intN MF = ON at *
  have l1 : L_met_1 [.d (.list R), .own false (.lst [.int 0]), .own false (.tr (.dct [(.int 0, .dat (.bool true))])), .d (.int 0), .un] = .nx [.d (.list R), .own false (.lst ON), .own false (.tr (.dct KT)), .un, .un] := by
    unfold L_met_1
    simp [e1]
  simp [m_met, c_met, fnP, d0, l1]
end
abbrev kdS (p : Nat × List Nat) : DL.D := .tuple [.int (p.1 : Nat), .tuple (intN p.2)]
theorem nks_ints : ∀ l : List Nat, nksOf (intN l) = some (l.map fun (n : Nat) => NestedKey.num (n : Int))
  | [] => rfl
  | n :: l => by
    have ih := nks_ints l
    show nksOf (.int (n : Nat) :: intN l) = _
    rw [nksOf, nkOf, ih]
    rfl
theorem nat_keys : ∀ {a b : List Nat}, (a.map fun (n : Nat) => NestedKey.num (n : Int)) = b.map (fun (n : Nat) => NestedKey.num (n : Int)) → a = b
  | [], [], _ => rfl
  | [], _ :: _, h => by simp at h
  | _ :: _, [], h => by simp at h
  | x :: a, y :: b, h => by
    rw [List.map_cons, List.map_cons] at h
    injection h with h1 h2
    injection h1 with h1
    rw [nat_keys h2, show x = y by omega]
theorem dep_ints : ∀ l : List Nat, NestedKey.depthAll (l.map fun (n : Nat) => NestedKey.num (n : Int)) = 0
  | [] => rfl
  | n :: l => by
    rw [List.map_cons, NestedKey.depthAll, dep_ints l]
    rfl
theorem kdo_S : KdO kdS := by
  refine ⟨fun a b => ?_, .inr fun a => ?_⟩
  · obtain ⟨a1, a2⟩ := a
    obtain ⟨b1, b2⟩ := b
    simp only [kdS, nkOf, nksOf, nks_ints, Option.map_some, Option.bind_some]
    constructor
    · intro h
      simp at h
      obtain ⟨h1, h2⟩ := h
      rw [show a1 = b1 by omega, nat_keys h2]
    · intro h
      cases h
      rfl
  · obtain ⟨a1, a2⟩ := a
    simp [kk1, kdS, nkOf, nksOf, nks_ints, NestedKey.depth, NestedKey.depthAll, dep_ints]
abbrev kdL (o : List Nat) (f : Nat → Nat) : List (Nat × Nat) := o.map fun s => (s, f s)
abbrev kdT (o : List Nat) (f : Nat → Nat) : List (DL.D × Tr) := kvT kdN (fun n : Nat => Tr.dat (.int (n : Int))) (kdL o f)
abbrev kdD (o : List Nat) (f : Nat → Nat) : DL.D := .dict (kvT kdN (fun n : Nat => PyData.int (n : Int)) (kdL o f))
theorem lk_kd (f : Nat → Nat) : ∀ (o : List Nat) (s : Nat), lk (kdL o f) s = if s ∈ o then some (f s) else none
  | [], _ => rfl
  | y :: o, x => by
    rw [kdL, List.map_cons]
    unfold lk
    by_cases e : y = x
    · subst e
      rw [if_pos rfl, if_pos (List.mem_cons_self)]
    · rw [if_neg e, lk_kd f o x]
      by_cases h : x ∈ o
      · rw [if_pos h, if_pos (List.mem_cons_of_mem _ h)]
      · rw [if_neg h, if_neg]
        intro hm
        rcases List.mem_cons.mp hm with rfl | hm
        · exact e rfl
        · exact h hm
theorem kd_toD (o : List Nat) (f : Nat → Nat) : ((kdT o f).map fun p => (p.1, toD p.2)) = kvT kdN (fun n : Nat => PyData.int (n : Int)) (kdL o f) := by
  unfold kdT kvT
  rw [List.map_map]
  refine List.map_congr_left fun p _ => ?_
  show (kdN p.1, toD (.dat (.int (p.2 : Nat)))) = _
  rw [toD]
theorem kdD_ix {o : List Nat} (f : Nat → Nat) {s : Nat} (hs : s ∈ o) : dIxA (kdD o f) (.int (s : Nat)) = some (.int (f s : Nat)) := by
  have e := lk_kd f o s
  rw [if_pos hs] at e
  unfold kdD
  rw [dIxA_d, if_pos (kv_ok kdo_N _ _ s), kv_look kdo_N, e]
  rfl
def KSl (o : List Nat) (f : Nat → Nat) (sl : SV) : Prop := sl = .d (kdD o f) ∨ sl = .own false (.tr (.dct (kdT o f)))
theorem ksl_read {o : List Nat} {f : Nat → Nat} {sl : SV} (h : KSl o f sl) {s : Nat} (hs : s ∈ o) (i : Nat) (g : EC) (ρ : DL.Env) (h1 : ρ[i]? = some sl) (h2 : g ρ = .ok (.val (.int (s : Nat))) ρ) : eQ (qIx (qVar i) g) ρ = .ok (.val (.int (f s : Nat))) ρ := by
  rcases h with rfl | rfl
  · have e := kdD_ix f hs
    generalize kdD o f = V at *
    simp [h1, h2, e]
  · have e := lk_kd f o s
    rw [if_pos hs] at e
    obtain ⟨n, k1, k2⟩ := kv_some kdo_N (f := fun n : Nat => Tr.dat (.int (n : Int))) e
    have k0 : dOkK (kdT o f) (.int (s : Nat)) = true := kv_ok kdo_N _ _ s
    have k1 : keyIx (kdT o f) (.int (s : Nat)) = some n := k1
    have k2 : (kdT o f)[n]? = some (.int (s : Nat), .dat (.int (f s : Nat))) := k2
    generalize kdT o f = KT at *
    simp [h1, h2, stepK, atP, rootT, k0, k1, k2]
section
variable {τ : Type} [DecidableEq τ] {kd : τ → DL.D} (hk : KdO kd)
include hk
theorem nu_in {N : List τ} {x : τ} (h : x ∈ N) : ∃ n, keyIx (nuT kd N) (kd x) = some n ∧ (nuT kd N)[n]? = some (kd x, .dat (.int (ixO N x : Nat))) := by
  have e := lk_num N x
  rw [if_pos h] at e
  exact kv_some hk (f := fun n : Nat => Tr.dat (.int (n : Int))) e
theorem nu_no {N : List τ} {x : τ} (h : x ∉ N) : keyIx (nuT kd N) (kd x) = none := by
  have e := lk_num N x
  rw [if_neg h] at e
  exact kv_none hk (f := fun n : Nat => Tr.dat (.int (n : Int))) e
omit hk in
theorem nu_more (N : List τ) (x : τ) : nuT kd (N ++ [x]) = nuT kd N ++ [(kd x, .dat (.int (N.length : Nat)))] := by
  unfold nuT kvT
  rw [num_more, List.map_append]
  rfl
theorem nu_ok (N : List τ) (x : τ) : dOkK (nuT kd N) (kd x) = true := kv_ok hk _ _ _
end
theorem kd_put {o : List Nat} (f : Nat → Nat) {s : Nat} (h : s ∉ o) : putT (kdT o f) (.int (s : Nat)) (.dat (.int (f s : Nat))) = kdT (o ++ [s]) f := by
  have e := lk_kd f o s
  rw [if_neg h] at e
  have := kv_put kdo_N (fun n : Nat => Tr.dat (.int (n : Int))) s (f s) (kdL o f)
  rw [upd_new e] at this
  unfold kdT kdL
  rw [List.map_append]
  exact this
theorem kd_ok (o : List Nat) (f : Nat → Nat) (s : Nat) : dOkK (kdT o f) (.int (s : Nat)) = true := kv_ok kdo_N _ _ _
theorem ixO_new {τ : Type} [DecidableEq τ] : ∀ {N : List τ} {x : τ}, x ∉ N → ixO (N ++ [x]) x = N.length
  | [], x, _ => if_pos rfl
  | y :: N, x, h => by
    have e : ¬ y = x := fun e => h (by rw [e]; exact List.mem_cons_self)
    show (if y = x then 0 else ixO (N ++ [x]) x + 1) = N.length + 1
    rw [if_neg e, ixO_new fun hm => h (List.mem_cons_of_mem _ hm)]
abbrev K0E (R O : SV) (N pre : List Nat) (f : Nat → Nat) : DL.Env := [R, O, .own false (.tr (.dct (nuT kdN N))), .own false (.tr (.dct (kdT pre f))), .un, .un, .un, .un, .un]
section
variable {A : Au} (h : AuOk A)
include h
theorem k0_body (O : SV) {N pre : List Nat} {f : Nat → Nat} {s : Nat} (hs : s < A.length) (hp : s ∉ pre) (hN : N.length ≤ 1000) (hl : pre.length ≤ 1000) (hf : f s = ixO (add1 N (rwA A s).2) (rwA A s).2) :
    b_kinds_of_0 [.d (.list (A.map rwD)), O, .own false (.tr (.dct (nuT kdN N))), .own false (.tr (.dct (kdT pre f))), .d (.int (s : Nat)), .un, .un, .un, .un] = .nx (K0E (.d (.list (A.map rwD))) O (add1 N (rwA A s).2) (pre ++ [s]) f) := by
  have g2 : dIxA (.list (A.map rwD)) (.int (s : Nat)) = some (rwD (rwA A s)) := by
    rw [dIxA_l, dIx_l, atI_map, atI_some (rwA_get hs)]
    rfl
  have g3 : dIxA (rwD (rwA A s)) (.int 1) = some (.int ((rwA A s).2 : Nat)) := by simp [rwD]
  have k0 := kd_ok pre f s
  have k1 := kd_put f hp
  have n0 := nu_ok kdo_N N (rwA A s).2
  have z1 : (nuT kdN N).length = N.length := by simp
  have z2 : N.length < sizeLine := lt_line (by omega)
  have z3 : (kdT pre f).length < sizeLine := by simp; exact lt_line (by omega)
  unfold K0E
  rw [← k1, hf]
  generalize rwD (rwA A s) = Q at *
  generalize (rwA A s).2 = x at *
  by_cases hx : x ∈ N
  · obtain ⟨n, n1, n2⟩ := nu_in kdo_N hx
    have ea : add1 N x = N := if_pos hx
    rw [ea]
    generalize nuT kdN N = NT at *
    generalize kdT pre f = KT at *
    generalize A.map rwD = R at *
    simp [-dIxA_l, -dIxA_t, b_kinds_of_0, g2, g3, k0, n0, n1, n2, z1, z2, z3, atP, rootT]
  · have n1 := nu_no kdo_N hx
    have n2 := nu_more (kd := kdN) N x
    have ea : add1 N x = N ++ [x] := if_neg hx
    have ei := ixO_new hx
    rw [ea, ei, n2]
    generalize nuT kdN N = NT at *
    generalize kdT pre f = KT at *
    generalize A.map rwD = R at *
    simp [-dIxA_l, -dIxA_t, b_kinds_of_0, g2, g3, k0, n0, n1, z1, z2, z3, atP, rootT, lenAt]
end
theorem addA_app {α : Type} [DecidableEq α] (o xs ys : List α) : addA o (xs ++ ys) = addA (addA o xs) ys := List.foldl_append
def out0 (A : Au) (s : Nat) : Nat := (rwA A s).2
def numOf {α : Type} [DecidableEq α] (o : List Nat) (lab : Nat → α) (s : Nat) : Nat := ixO (addA [] (o.map lab)) (lab s)
theorem numOf_at {α : Type} [DecidableEq α] {o pre post : List Nat} {s : Nat} (e : o = pre ++ s :: post) (lab : Nat → α) : numOf o lab s = ixO (add1 (addA [] (pre.map lab)) (lab s)) (lab s) := by
  unfold numOf
  rw [e, List.map_append, List.map_cons, addA_app, addA_cons]
  exact idx_addA _ (mem_add1.mpr (.inr rfl))
theorem add1_step {α : Type} [DecidableEq α] (pre : List Nat) (lab : Nat → α) (s : Nat) : add1 (addA [] (pre.map lab)) (lab s) = addA [] ((pre ++ [s]).map lab) := by
  rw [List.map_append, addA_app]
  rfl
theorem addA_le {α : Type} [DecidableEq α] (xs : List α) : (addA [] xs).length ≤ xs.length := cnt_le xs
section
variable {A : Au} (h : AuOk A) {o : List Nat} (M : Met A o)
include h M
theorem Met.len : o.length ≤ 100 := by
  have := lt_len M.nd M.lt
  have := h.n2
  omega
theorem k0_loop (O : SV) : ∀ (post pre : List Nat), o = pre ++ post → forRun (setN 4) b_kinds_of_0 (intN post) (K0E (.d (.list (A.map rwD))) O (addA [] (pre.map (out0 A))) pre (numOf o (out0 A))) = .nx (K0E (.d (.list (A.map rwD))) O (addA [] (o.map (out0 A))) o (numOf o (out0 A)))
  | [], pre, e => by
    have e : o = pre := by simpa using e
    subst e
    simp [forRun]
  | s :: post, pre, e => by
    have ih := k0_loop O post (pre ++ [s]) (by simp [e])
    have hl := Met.len h M
    have hs : s ∈ o := by rw [e]; simp
    have hp : s ∉ pre := fun hm => by
      have := M.nd
      rw [e] at this
      exact (List.nodup_append.mp this).2.2 s hm s (by simp) rfl
    have hle : pre.length ≤ o.length := by rw [e]; simp
    have hN := addA_le (pre.map (out0 A))
    rw [List.length_map] at hN
    have st := k0_body h O (N := addA [] (pre.map (out0 A))) (f := numOf o (out0 A)) (M.lt s hs) hp (by omega) (by omega) (numOf_at e (out0 A))
    have e1 : add1 (addA [] (pre.map (out0 A))) (rwA A s).2 = addA [] ((pre ++ [s]).map (out0 A)) := add1_step pre (out0 A) s
    rw [e1] at st
    rw [← ih]
    exact forRun_one (by simp) st
abbrev K1E (R O : SV) (N : List (Nat × List Nat)) (sl : SV) (m : Nat) (pre : List Nat) (f : Nat → Nat) : DL.Env := [R, O, .own false (.tr (.dct (nuT kdS N))), sl, .un, .d (.int (m : Nat)), .own false (.tr (.dct (kdT pre f))), .un, .un]
def sg0 (A : Au) (f : Nat → Nat) (s : Nat) : Nat × List Nat := (f s, (rwA A s).1.map f)
theorem k1_lc (O : SV) (N : List (Nat × List Nat)) {sl : SV} {g : Nat → Nat} (hsl : KSl o g sl) (m : Nat) {s : Nat} (hs : s ∈ o) (L : SV) :
    lc_kinds_of_0 [.d (.list (A.map rwD)), O, .own false (.tr (.dct (nuT kdS N))), sl, .d (.int (s : Nat)), .d (.int (m : Nat)), L, .un, .un] = .ok (intN ((rwA A s).1.map g)) [.d (.list (A.map rwD)), O, .own false (.tr (.dct (nuT kdS N))), sl, .d (.int (s : Nat)), .d (.int (m : Nat)), L, .un, .un] := by
  have hlt := M.lt s hs
  have g2 : dIxA (.list (A.map rwD)) (.int (s : Nat)) = some (rwD (rwA A s)) := by
    rw [dIxA_l, dIx_l, atI_map, atI_some (rwA_get hlt)]
    rfl
  have g3 : dIxA (rwD (rwA A s)) (.int 0) = some (.tuple (intN (rwA A s).1)) := by simp [rwD]
  have r1 := (h.row _ (rwA_mem hlt)).1
  have mem : ∀ x ∈ (rwA A s).1, x ∈ o := fun x hx => by
    rw [nx_row h hlt] at hx
    obtain ⟨c, hc, rfl⟩ := List.mem_map.mp hx
    exact M.cl s hs c (List.mem_range.mp hc)
  have rd := fun x hx => ksl_read hsl (mem x hx) 3 (eVar 8)
  have e : intN ((rwA A s).1.map g) = (rwA A s).1.map fun x => .int (g x : Nat) := by rw [intN, List.map_map]; rfl
  rw [e]
  generalize rwD (rwA A s) = Q at *
  generalize (rwA A s).1 = nxs at *
  generalize nuT kdS N = NT at *
  generalize A.map rwD = R at *
  exact nlc_map nxs (fun x => .int (x : Nat)) _ (by simp [-dIxA_l, -dIxA_t, g2, g3]) (by simp) (by simp; rfl) (by simp) (by omega) fun x hx => ⟨[.d (.list R), O, .own false (.tr (.dct NT)), sl, .d (.int (s : Nat)), .d (.int (m : Nat)), L, .un, .d (.int (x : Nat))], by simp, by
    rw [e_kinds_of_0]
    exact rd x hx _ rfl (by simp), by simp, by simp⟩
theorem k1_body (O : SV) {N : List (Nat × List Nat)} {pre : List Nat} {sl : SV} {g f : Nat → Nat} (hsl : KSl o g sl) (m : Nat) {s : Nat} (hs : s ∈ o) (hp : s ∉ pre) (hN : N.length ≤ 1000) (hl : pre.length ≤ 1000) (hf : f s = ixO (add1 N (sg0 A g s)) (sg0 A g s)) :
    b_kinds_of_1 [.d (.list (A.map rwD)), O, .own false (.tr (.dct (nuT kdS N))), sl, .d (.int (s : Nat)), .d (.int (m : Nat)), .own false (.tr (.dct (kdT pre f))), .un, .un] = .nx (K1E (.d (.list (A.map rwD))) O (add1 N (sg0 A g s)) sl m (pre ++ [s]) f) := by
  have c1 := k1_lc h M O N hsl m hs (.own false (.tr (.dct (kdT pre f))))
  have r1 := (h.row _ (rwA_mem (M.lt s hs))).1
  have rd := ksl_read hsl hs 3 (eVar 4) [.d (.list (A.map rwD)), O, .own false (.tr (.dct (nuT kdS N))), sl, .d (.int (s : Nat)), .d (.int (m : Nat)), .own false (.tr (.dct (kdT pre f))), .un, .un] rfl (by simp)
  have z0 : (intN ((rwA A s).1.map g)).length ≤ sizeLine := by rw [List.length_map, List.length_map]; exact le_line (by omega)
  have zt : (2 : Nat) ≤ sizeLine := le_line (by decide)
  have k0 := kd_ok pre f s
  have k1 := kd_put f hp
  have n0 := nu_ok kdo_S N (sg0 A g s)
  have z1 : (nuT kdS N).length = N.length := by simp
  have z2 : N.length < sizeLine := lt_line (by omega)
  have z3 : (kdT pre f).length < sizeLine := by simp; exact lt_line (by omega)
  have ks : kdS (sg0 A g s) = .tuple [.int (g s : Nat), .tuple (intN ((rwA A s).1.map g))] := rfl
  have first : (sAsg (eTup (aCons (eQ (qIx (qVar 3) (eVar 4))) (aCons (eCallB dTuple (aCons (eN lc_kinds_of_0) aNil)) aNil))) (setN 7)) [.d (.list (A.map rwD)), O, .own false (.tr (.dct (nuT kdS N))), sl, .d (.int (s : Nat)), .d (.int (m : Nat)), .own false (.tr (.dct (kdT pre f))), .un, .un] =
      .nx [.d (.list (A.map rwD)), O, .own false (.tr (.dct (nuT kdS N))), sl, .d (.int (s : Nat)), .d (.int (m : Nat)), .own false (.tr (.dct (kdT pre f))), .d (kdS (sg0 A g s)), .un] := by
    rw [ks]
    generalize intN ((rwA A s).1.map g) = GN at *
    generalize nuT kdS N = NT at *
    generalize kdT pre f = KT at *
    generalize A.map rwD = R at *
    simp [-eQ, -qIx, -qVar, rd, c1, z0, zt]
  have fg : ∀ (c1 c2 : SC) (ρ ρ1 : DL.Env) (is : List Nat), c1 ρ = .nx ρ1 → sFg true is (sSeq c1 c2) ρ = sFg true is c2 ρ1 := fun c1 c2 ρ ρ1 is e => by
    simp [e]
  unfold b_kinds_of_1
  rw [fg _ _ _ _ _ first]
  unfold K1E
  rw [← k1, hf]
  generalize sg0 A g s = x at *
  by_cases hx : x ∈ N
  · obtain ⟨n, n1, n2⟩ := nu_in kdo_S hx
    have ea : add1 N x = N := if_pos hx
    rw [ea]
    generalize nuT kdS N = NT at *
    generalize kdS x = KX at *
    generalize kdT pre f = KT at *
    generalize A.map rwD = R at *
    simp [k0, n0, n1, n2, z1, z2, z3, atP, rootT]
  · have n1 := nu_no kdo_S hx
    have n2 := nu_more (kd := kdS) N x
    have ea : add1 N x = N ++ [x] := if_neg hx
    have ei := ixO_new hx
    rw [ea, ei, n2]
    generalize nuT kdS N = NT at *
    generalize kdS x = KX at *
    generalize kdT pre f = KT at *
    generalize A.map rwD = R at *
    simp [k0, n0, n1, z1, z2, z3, atP, rootT, lenAt]
theorem k1_loop (O : SV) {sl : SV} {g : Nat → Nat} (hsl : KSl o g sl) (m : Nat) : ∀ (post pre : List Nat), o = pre ++ post → forRun (setN 4) b_kinds_of_1 (intN post) (K1E (.d (.list (A.map rwD))) O (addA [] (pre.map (sg0 A g))) sl m pre (numOf o (sg0 A g))) = .nx (K1E (.d (.list (A.map rwD))) O (addA [] (o.map (sg0 A g))) sl m o (numOf o (sg0 A g)))
  | [], pre, e => by
    have e : o = pre := by simpa using e
    subst e
    simp [forRun]
  | s :: post, pre, e => by
    have ih := k1_loop O hsl m post (pre ++ [s]) (by simp [e])
    have hl := Met.len h M
    have hs : s ∈ o := by rw [e]; simp
    have hp : s ∉ pre := fun hm => by
      have := M.nd
      rw [e] at this
      exact (List.nodup_append.mp this).2.2 s hm s (by simp) rfl
    have hle : pre.length ≤ o.length := by rw [e]; simp
    have hN := addA_le (pre.map (sg0 A g))
    rw [List.length_map] at hN
    have st := k1_body h M O (N := addA [] (pre.map (sg0 A g))) (f := numOf o (sg0 A g)) hsl m hs hp (by omega) (by omega) (numOf_at e (sg0 A g))
    have e1 : add1 (addA [] (pre.map (sg0 A g))) (sg0 A g s) = addA [] ((pre ++ [s]).map (sg0 A g)) := add1_step pre (sg0 A g) s
    rw [e1] at st
    rw [← ih]
    exact forRun_one (by simp) st
end
theorem map_sg {A : Au} (h : AuOk A) {o : List Nat} (M : Met A o) (g : Nat → Nat) : labK A o (o.map g) = o.map (sg0 A g) := by
  unfold labK
  refine List.map_congr_left fun s hs => ?_
  unfold sgn sg0
  rw [kf_of g hs, nx_row h (M.lt s hs), List.map_map, List.map_map]
  congr 1
  exact List.map_congr_left fun c hc => kf_of g (M.cl s hs c (List.mem_range.mp hc))
theorem map_step {A : Au} (h : AuOk A) {o : List Nat} (M : Met A o) (g : Nat → Nat) : stepK A o (o.map g) = o.map (numOf o (sg0 A g)) := by
  unfold stepK
  rw [map_sg h M]
  unfold numF
  rw [List.map_map]
  rfl
theorem map_out (A : Au) (o : List Nat) : numF (outK A o) = o.map (numOf o (out0 A)) := by
  unfold numF outK
  rw [List.map_map]
  rfl
theorem kdD_congr {o : List Nat} {f g : Nat → Nat} (h : ∀ s ∈ o, f s = g s) : kdD o f = kdD o g := by
  unfold kdD kdL
  rw [List.map_congr_left fun s hs => by rw [h s hs]]
section
variable {A : Au} (h : AuOk A) {o : List Nat} (M : Met A o)
include h M
structure KwS where
  m : Nat
  g : Nat → Nat
  nt : List (DL.D × Tr)
  sl : SV
omit h M in
abbrev KwE (R O : SV) (s : KwS) : DL.Env := [R, O, .own false (.tr (.dct s.nt)), s.sl, .un, .d (.int (s.m : Nat)), .un, .un, .un]
theorem kw_body {s : KwS} (hsl : KSl o s.g s.sl) (hn : s.nt.length = cnt (o.map s.g)) : b_kinds_of_2 (KwE (.d (.list (A.map rwD))) (.d (.list (intN o))) s) =
    .nx (KwE (.d (.list (A.map rwD))) (.d (.list (intN o))) ⟨cnt (o.map s.g), numOf o (sg0 A s.g), nuT kdS (addA [] (o.map (sg0 A s.g))), .d (kdD o (numOf o (sg0 A s.g)))⟩) := by
  obtain ⟨m, g, nt, sl⟩ := s
  simp only at hsl hn ⊢
  have lp := k1_loop h M (.d (.list (intN o))) hsl (cnt (o.map g)) o [] rfl
  have e0 : addA [] (([] : List Nat).map (sg0 A g)) = [] := rfl
  rw [e0] at lp
  have lp : forRun (setN 4) b_kinds_of_1 (intN o) [.d (.list (A.map rwD)), .d (.list (intN o)), .own false (.tr (.dct [])), sl, .un, .d (.int (cnt (o.map g) : Nat)), .own false (.tr (.dct [])), .un, .un] = .nx (K1E (.d (.list (A.map rwD))) (.d (.list (intN o))) (addA [] (o.map (sg0 A g))) sl (cnt (o.map g)) o (numOf o (sg0 A g))) := lp
  have td := kd_toD o (numOf o (sg0 A g))
  have lo : loose [SV.d (.list (A.map rwD)), .d (.list (intN o)), .own false (.tr (.dct (nuT kdS (addA [] (o.map (sg0 A g)))))), sl, .un, .d (.int (cnt (o.map g) : Nat)), .own false (.tr (.dct (kdT o (numOf o (sg0 A g))))), .un, .un] 3 = true := by
    rcases hsl with rfl | rfl
    · rfl
    · rfl
  unfold K1E at lp
  unfold KwE
  simp only
  unfold kdD
  rw [← td]
  generalize kdT o (numOf o (sg0 A g)) = KT at *
  generalize nuT kdS (addA [] (o.map (sg0 A g))) = NT at *
  generalize cnt (o.map g) = cn at *
  generalize A.map rwD = R at *
  generalize intN o = ON at *
  have l1 : L_kinds_of_1 [.d (.list R), .d (.list ON), .own false (.tr (.dct [])), sl, .un, .d (.int (cn : Nat)), .own false (.tr (.dct [])), .un, .un] = .nx [.d (.list R), .d (.list ON), .own false (.tr (.dct NT)), sl, .un, .d (.int (cn : Nat)), .own false (.tr (.dct KT)), .un, .un] := by
    unfold L_kinds_of_1
    simp [lp]
  have ln : ((nt.length : Nat) : Int) = (cn : Nat) := by rw [hn]
  rcases hsl with rfl | rfl
  · generalize kdD o g = KD at *
    simp [b_kinds_of_2, l1, ln, atP, rootT]
  · generalize kdT o g = KD at *
    simp [b_kinds_of_2, l1, ln, atP, rootT]
end
section
variable {A : Au} (h : AuOk A) {o : List Nat} (M : Met A o)
include h M
theorem kw_test {s : KwS} (hn : s.nt.length = cnt (o.map s.g)) (R O : SV) : t_kinds_of_1002 (KwE R O s) = .ok (decide (s.m < cnt (o.map s.g))) (KwE R O s) := by
  obtain ⟨m, g, nt, sl⟩ := s
  simp only at hn ⊢
  have e : ((m : Nat) : Int) < ((nt.length : Nat) : Int) ↔ m < cnt (o.map g) := by rw [hn]; omega
  generalize cnt (o.map g) = cn at *
  by_cases hc : m < cn
  · have e2 := e.mpr hc
    simp [t_kinds_of_1002, e2, hc, atP, rootT]
  · have e2 : ¬ ((m : Nat) : Int) < ((nt.length : Nat) : Int) := fun x => hc (e.mp x)
    simp [t_kinds_of_1002, e2, hc, atP, rootT]
theorem kinds_ok : m_kinds_of [.list (A.map rwD), .list (intN o)] = .ret (kdD o (kf o (kindF A o))) := by
  have hlo := Met.len h M
  have l0 := k0_loop h M (.d (.list (intN o))) o [] rfl
  have e0 : addA [] (([] : List Nat).map (out0 A)) = [] := rfl
  rw [e0] at l0
  have l0 : forRun (setN 4) b_kinds_of_0 (intN o) [.d (.list (A.map rwD)), .d (.list (intN o)), .own false (.tr (.dct [])), .own false (.tr (.dct [])), .un, .un, .un, .un, .un] = .nx (K0E (.d (.list (A.map rwD))) (.d (.list (intN o))) (addA [] (o.map (out0 A))) o (numOf o (out0 A))) := l0
  obtain ⟨st, e1, ⟨i1, i2, f, i3, i4⟩, e2⟩ := while_go (S := KwS) (t := t_kinds_of_1002) (body := b_kinds_of_2) (KwE (.d (.list (A.map rwD))) (.d (.list (intN o))))
    (fun s => KSl o s.g s.sl ∧ s.nt.length = cnt (o.map s.g) ∧ ∃ f, mooW A o f (o.map s.g) s.m = kindF A o ∧ o.length < f + s.m) (fun s => o.length + 1 - s.m) (fun s => ¬ s.m < cnt (o.map s.g)) (fun s ⟨I1, I2, f, I3, I4⟩ => by
      have tt := kw_test h M I2 (.d (.list (A.map rwD))) (.d (.list (intN o)))
      have hc := cnt_le (o.map s.g)
      rw [List.length_map] at hc
      by_cases hm : s.m < cnt (o.map s.g)
      · rw [decide_eq_true hm] at tt
        refine .inr ⟨tt, _, .inl (kw_body h M I1 I2), ⟨.inl rfl, ?_, ?_⟩, ?_⟩
        · simp only
          rw [← map_step h M, stepK, cnt_num, map_sg h M]
          simp
          rfl
        · cases f with
          | zero => omega
          | succ f =>
            refine ⟨f, ?_, by simp only; omega⟩
            unfold mooW at I3
            rw [if_pos hm, map_step h M] at I3
            exact I3
        · simp only
          omega
      · rw [decide_eq_false hm] at tt
        exact .inl ⟨tt, hm⟩) fuelN ⟨0, numOf o (out0 A), nuT kdN (addA [] (o.map (out0 A))), .own false (.tr (.dct (kdT o (numOf o (out0 A)))))⟩
    ⟨.inr rfl, by
      simp only
      rw [← map_out, cnt_num]
      simp
      rfl, o.length + 1, by
      simp only
      rw [← map_out]
      exact kindF_num h M, by simp only; omega⟩ (by simp [fuelN]; omega)
  have ek : o.map st.g = kindF A o := by
    rw [← i3]
    cases f with
    | zero => rfl
    | succ f => unfold mooW; rw [if_neg e2]
  have fin : kdD o (kf o (kindF A o)) = kdD o st.g := kdD_congr fun s hs => by rw [← ek, kf_of _ hs]
  rw [fin]
  have td := kd_toD o st.g
  have e1 : whileRun t_kinds_of_1002 b_kinds_of_2 fuelN [.d (.list (A.map rwD)), .d (.list (intN o)), .own false (.tr (.dct (nuT kdN (addA [] (o.map (out0 A)))))), .own false (.tr (.dct (kdT o (numOf o (out0 A))))), .un, .d (.int 0), .un, .un, .un] = .nx (KwE (.d (.list (A.map rwD))) (.d (.list (intN o))) st) := e1
  obtain ⟨m, g, nt, sl⟩ := st
  simp only at *
  unfold K0E at l0
  unfold KwE at e1
  simp only at e1
  generalize kdT o (numOf o (out0 A)) = KT0 at *
  generalize nuT kdN (addA [] (o.map (out0 A))) = NT0 at *
  generalize A.map rwD = R at *
  generalize intN o = ON at *
  have l1 : L_kinds_of_0 [.d (.list R), .d (.list ON), .own false (.tr (.dct [])), .own false (.tr (.dct [])), .un, .un, .un, .un, .un] = .nx [.d (.list R), .d (.list ON), .own false (.tr (.dct NT0)), .own false (.tr (.dct KT0)), .un, .un, .un, .un, .un] := by
    unfold L_kinds_of_0
    simp [l0]
  have l2 : L_kinds_of_2 [.d (.list R), .d (.list ON), .own false (.tr (.dct NT0)), .own false (.tr (.dct KT0)), .un, .d (.int 0), .un, .un, .un] = .nx [.d (.list R), .d (.list ON), .un, sl, .un, .un, .un, .un, .un] := by
    unfold L_kinds_of_2
    rcases i1 with rfl | rfl
    · simp [e1]
    · simp [e1]
  rcases i1 with rfl | rfl
  · generalize kdD o g = KD at *
    simp [m_kinds_of, c_kinds_of, fnP, l1, l2]
  · unfold kdD
    rw [← td]
    generalize kdT o g = KD at *
    simp [m_kinds_of, c_kinds_of, fnP, l1, l2, frzE, atP, rootT]
end
theorem nu_put {τ : Type} [DecidableEq τ] {kd : τ → DL.D} (hk : KdO kd) {N : List τ} {x : τ} (h : x ∉ N) : putT (nuT kd N) (kd x) (.dat (.int (N.length : Nat))) = nuT kd (N ++ [x]) := by
  have e := lk_num N x
  rw [if_neg h] at e
  have e2 := kv_put hk (fun n : Nat => Tr.dat (.int (n : Int))) x N.length (numT N)
  rw [upd_new e, ← num_more] at e2
  exact e2
theorem rowQ_more {A : Au} {o K F t : List Nat} {s : Nat} (h : ∀ m ∈ (rwA A s).1, kf o K m ∈ F.map (kf o K)) : rowQ A o K (F ++ t) s = rowQ A o K F s := by
  unfold rowQ
  rw [List.map_append, Prod.mk.injEq]
  refine ⟨List.map_congr_left fun m hm => ixO_pre (h m hm), rfl⟩
theorem frI_row {A : Au} (h : AuOk A) {o : List Nat} (M : Met A o) {K F : List Nat} {i : Nat} (I : FrI A o K F i) {j : Nat} (hj : j < F.length) (hji : j < i) : ∀ m ∈ (rwA A F[j]).1, kf o K m ∈ F.map (kf o K) := fun m hm => by
  rw [nx_row h (M.lt _ (I.sub _ (List.getElem_mem hj)))] at hm
  obtain ⟨c, hc, rfl⟩ := List.mem_map.mp hm
  exact I.cl j hj hji c (List.mem_range.mp hc)
abbrev fdQ (A : Au) (o K F : List Nat) (i : Nat) : List DL.D := (F.take i).map fun s => rwD (rowQ A o K F s)
theorem fdQ_step {A : Au} (h : AuOk A) {o : List Nat} (M : Met A o) {K F : List Nat} {i : Nat} (I : FrI A o K F i) (hi : i < F.length) :
    fdQ A o K (addF o K F (rwA A F[i]).1) (i + 1) = fdQ A o K F i ++ [rwD (rowQ A o K (addF o K F (rwA A F[i]).1) F[i])] := by
  obtain ⟨t, ht⟩ := addF_pre o K (rwA A F[i]).1 F
  have e1 : (addF o K F (rwA A F[i]).1).take (i + 1) = F.take i ++ [F[i]] := by
    rw [ht, List.take_append_of_le_length (by omega), List.take_succ_eq_append_getElem hi]
  unfold fdQ
  rw [e1, List.map_append]
  congr 1
  refine List.map_congr_left fun s hs => ?_
  obtain ⟨j, hj, rfl⟩ := List.getElem_of_mem hs
  rw [List.length_take] at hj
  have hj1 : j < F.length := by omega
  have e2 : (F.take i)[j] = F[j] := List.getElem_take
  simp only [e2]
  rw [ht, rowQ_more (frI_row h M I hj1 (by omega))]
theorem ksl_d {o : List Nat} {f : Nat → Nat} {s : Nat} (hs : s ∈ o) : dIxA (kdD o f) (.int (s : Nat)) = some (.int (f s : Nat)) := kdD_ix f hs
abbrev LoE (R : SV) (o K F : List Nat) (FD NX OUT v : SV) : DL.Env := [R, .d (kdD o (kf o K)), .own false (.tr (.dct (nuT kdN (F.map (kf o K))))), .own false (.lst (intN F)), FD, NX, OUT, v]
theorem lo_body (R FD NX OUT : SV) {o K F : List Nat} {m : Nat} (hm : m ∈ o) (hF : F.length ≤ 1000) :
    b_least_of_0 (LoE R o K F FD NX OUT (.d (.int (m : Nat)))) = .nx (LoE R o K (addF1 o K F m) FD NX OUT (.d (.int (m : Nat)))) := by
  have kx := ksl_d (f := kf o K) hm
  have n0 := nu_ok kdo_N (F.map (kf o K)) (kf o K m)
  have z1 : (intN F).length = F.length := List.length_map ..
  have z2 : (intN F).length < sizeLine := by rw [z1]; exact lt_line (by omega)
  have z3 : (intN F).length ≤ sizeLine := Nat.le_of_lt z2
  have z5 : F.length < sizeLine := lt_line (by omega)
  have z6 : F.length ≤ sizeLine := Nat.le_of_lt z5
  have z4 : (nuT kdN (F.map (kf o K))).length < sizeLine := by simp; exact lt_line (by omega)
  unfold LoE
  by_cases hx : kf o K m ∈ F.map (kf o K)
  · obtain ⟨n, n1, n2⟩ := nu_in kdo_N hx
    have ea : addF1 o K F m = F := if_pos hx
    rw [ea]
    generalize kdD o (kf o K) = KD at *
    generalize nuT kdN (F.map (kf o K)) = NT at *
    generalize intN F = FN at *
    generalize kf o K m = km at *
    simp [b_least_of_0, kx, n0, n1, n2, atP, rootT]
  · have n1 := nu_no kdo_N hx
    have n2 := nu_put kdo_N hx
    rw [List.length_map] at n2
    have ea : addF1 o K F m = F ++ [m] := if_neg hx
    have e2 : intN (F ++ [m]) = intN F ++ [.int (m : Nat)] := by rw [intN, List.map_append]; rfl
    have e3 : (F ++ [m]).map (kf o K) = F.map (kf o K) ++ [kf o K m] := by rw [List.map_append]; rfl
    rw [ea, e2, e3, ← n2]
    generalize kdD o (kf o K) = KD at *
    generalize nuT kdN (F.map (kf o K)) = NT at *
    generalize intN F = FN at *
    generalize kf o K m = km at *
    simp [b_least_of_0, kx, n0, n1, z1, z3, z4, z5, z6, atP, rootT]
theorem addF1_len (o K F : List Nat) (m : Nat) : (addF1 o K F m).length ≤ F.length + 1 := by
  unfold addF1
  split <;> simp
def PlS (v : SV) : Prop := v = .un ∨ ∃ d, v = .d d
theorem lo_all (R FD NX OUT : SV) {o K : List Nat} : ∀ (ms F : List Nat) (v : SV), PlS v → (∀ m ∈ ms, m ∈ o) → F.length + ms.length ≤ 1000 →
    ∃ v', PlS v' ∧ forRun (setN 7) b_least_of_0 (intN ms) (LoE R o K F FD NX OUT v) = .nx (LoE R o K (addF o K F ms) FD NX OUT v')
  | [], F, v, hv, _, _ => ⟨v, hv, by simp [forRun, addF]⟩
  | m :: ms, F, v, hv, hm, hl => by
    have hl : F.length + (ms.length + 1) ≤ 1000 := hl
    have h1 := addF1_len o K F m
    obtain ⟨v', h2, h3⟩ := lo_all R FD NX OUT (K := K) ms (addF1 o K F m) (.d (.int (m : Nat))) (.inr ⟨_, rfl⟩) (fun x hx => hm x (by simp [hx])) (by omega)
    refine ⟨v', h2, ?_⟩
    rw [addF_cons, ← h3]
    exact forRun_one (by rcases hv with rfl | ⟨d, rfl⟩ <;> simp [LoE]) (lo_body R FD NX OUT (hm m (by simp)) (by omega))
theorem lo_lc (R FD OUT : SV) {o K F ns : List Nat} {v : SV} (hv : PlS v) (hm : ∀ m ∈ ns, m ∈ o) (hF : ∀ m ∈ ns, kf o K m ∈ F.map (kf o K)) (hl : ns.length ≤ 1000) :
    lc_least_of_0 (LoE R o K F FD (.d (.tuple (intN ns))) OUT v) = .ok (intN (ns.map fun m => ixO (F.map (kf o K)) (kf o K m))) (LoE R o K F FD (.d (.tuple (intN ns))) OUT v) := by
  have e : intN (ns.map fun m => ixO (F.map (kf o K)) (kf o K m)) = ns.map fun m => .int (ixO (F.map (kf o K)) (kf o K m) : Nat) := by rw [intN, List.map_map]; rfl
  have el : ∀ m ∈ ns, e_least_of_0 (LoE R o K F FD (.d (.tuple (intN ns))) OUT (.d (.int (m : Nat)))) = .ok (.val (.int (ixO (F.map (kf o K)) (kf o K m) : Nat))) (LoE R o K F FD (.d (.tuple (intN ns))) OUT (.d (.int (m : Nat)))) := fun m hx => by
    have kx := ksl_d (f := kf o K) (hm m hx)
    have n0 := nu_ok kdo_N (F.map (kf o K)) (kf o K m)
    obtain ⟨n, n1, n2⟩ := nu_in kdo_N (hF m hx)
    unfold LoE
    generalize kdD o (kf o K) = KD at *
    generalize nuT kdN (F.map (kf o K)) = NT at *
    generalize ixO (F.map (kf o K)) (kf o K m) = ix at *
    generalize kf o K m = km at *
    generalize intN ns = NS at *
    generalize intN F = FN at *
    simp [e_least_of_0, kx, n0, n1, n2, atP, rootT]
  rw [e]
  unfold LoE at *
  generalize kdD o (kf o K) = KD at *
  generalize nuT kdN (F.map (kf o K)) = NT at *
  generalize intN F = FN at *
  have z := hl
  rcases hv with rfl | ⟨d, rfl⟩
  · exact nlc_map ns (fun x => .int (x : Nat)) _ (by simp) (by simp) (by simp; rfl) (by simp) (by omega) fun x hx => ⟨[R, .d KD, .own false (.tr (.dct NT)), .own false (.lst FN), FD, .d (.tuple (intN ns)), OUT, .d (.int (x : Nat))], by simp, el x hx, by simp, by simp⟩
  · exact nlc_map ns (fun x => .int (x : Nat)) _ (by simp) (by simp) (by simp; rfl) (by simp) (by omega) fun x hx => ⟨[R, .d KD, .own false (.tr (.dct NT)), .own false (.lst FN), FD, .d (.tuple (intN ns)), OUT, .d (.int (x : Nat))], by simp, el x hx, by simp, by simp⟩
abbrev LwE (A : Au) (o K : List Nat) (F : List Nat) (i : Nat) (v : SV) : DL.Env := LoE (.d (.list (A.map rwD))) o K F (.own false (.lst (fdQ A o K F i))) .un .un v
section
variable {A : Au} (h : AuOk A) {o : List Nat} (M : Met A o)
include h M
theorem lw_body {K F : List Nat} {i : Nat} (I : FrI A o K F i) (hi : i < F.length) {v : SV} (hv : PlS v) :
    ∃ v', PlS v' ∧ b_least_of_1 (LwE A o K F i v) = .nx (LwE A o K (addF o K F (rwA A F[i]).1) (i + 1) v') := by
  have hl := I.len h M
  have hn := h.n2
  have hso := I.sub _ (List.getElem_mem hi)
  have hs := M.lt _ hso
  have hr := (h.row _ (rwA_mem hs)).1
  have hmo : ∀ m ∈ (rwA A F[i]).1, m ∈ o := fun m hm => by
    rw [nx_row h hs] at hm
    obtain ⟨c, hc, rfl⟩ := List.mem_map.mp hm
    exact M.cl _ hso c (List.mem_range.mp hc)
  have e1 := fdQ_step h M I hi
  obtain ⟨v', hv', fr⟩ := lo_all (.d (.list (A.map rwD))) (.own false (.lst (fdQ A o K F i))) (.d (.tuple (intN (rwA A F[i]).1))) (.d (.int ((rwA A F[i]).2 : Nat))) (K := K) (rwA A F[i]).1 F v hv hmo (by omega)
  have lc := lo_lc (.d (.list (A.map rwD))) (.own false (.lst (fdQ A o K F i))) (.d (.int ((rwA A F[i]).2 : Nat))) (K := K) (F := addF o K F (rwA A F[i]).1) hv' hmo (fun m hm => addF_in o K _ _ hm) (by omega)
  refine ⟨v', hv', ?_⟩
  have g1 : dIxA (.list (intN F)) (.int (i : Nat)) = some (.int (F[i] : Nat)) := by
    rw [dIxA_l, dIx_l, atI_map, atI_some (List.getElem?_eq_getElem hi)]
    rfl
  have g2 : dIxA (.list (A.map rwD)) (.int (F[i] : Nat)) = some (rwD (rwA A F[i])) := by
    rw [dIxA_l, dIx_l, atI_map, atI_some (rwA_get hs)]
    rfl
  have lf : (fdQ A o K F i).length = i := by simp; omega
  have z1 : (fdQ A o K F i).length < sizeLine := by rw [lf]; exact lt_line (by omega)
  have z2 : (fdQ A o K F i).length ≤ sizeLine := Nat.le_of_lt z1
  have z5 : i < sizeLine := lt_line (by omega)
  have z6 : i ≤ sizeLine := Nat.le_of_lt z5
  have z3 : (2 : Nat) ≤ sizeLine := le_line (by decide)
  have rq : rwD (rowQ A o K (addF o K F (rwA A F[i]).1) F[i]) = .tuple [.tuple (intN ((rwA A F[i]).1.map fun m => ixO ((addF o K F (rwA A F[i]).1).map (kf o K)) (kf o K m))), .int ((rwA A F[i]).2 : Nat)] := rfl
  have z4 : (intN ((rwA A F[i]).1.map fun m => ixO ((addF o K F (rwA A F[i]).1).map (kf o K)) (kf o K m))).length ≤ sizeLine := by simp; exact le_line (by omega)
  rw [rq] at e1
  unfold LwE
  rw [e1]
  have rd : rwD (rwA A F[i]) = .tuple [.tuple (intN (rwA A F[i]).1), .int ((rwA A F[i]).2 : Nat)] := rfl
  rw [rd] at g2
  generalize (intN ((rwA A F[i]).1.map fun m => ixO ((addF o K F (rwA A F[i]).1).map (kf o K)) (kf o K m))) = IX at *
  generalize addF o K F (rwA A F[i]).1 = F2 at *
  generalize fdQ A o K F i = FQ at *
  generalize (rwA A F[i]).2 = out at *
  generalize intN (rwA A F[i]).1 = NX at *
  unfold LoE at *
  generalize kdD o (kf o K) = KD at *
  generalize A.map rwD = R at *
  generalize nuT kdN (F.map (kf o K)) = NT at *
  generalize nuT kdN (F2.map (kf o K)) = NT2 at *
  generalize (F[i] : Nat) = Fi at *
  generalize intN F = FN at *
  generalize intN F2 = FN2 at *
  have l0 : L_least_of_0 [.d (.list R), .d KD, .own false (.tr (.dct NT)), .own false (.lst FN), .own false (.lst FQ), .d (.tuple NX), .d (.int (out : Nat)), v] = .nx [.d (.list R), .d KD, .own false (.tr (.dct NT2)), .own false (.lst FN2), .own false (.lst FQ), .d (.tuple NX), .d (.int (out : Nat)), v'] := by
    unfold L_least_of_0
    simp [fr]
  simp [-dIxA_l, -dIxA_t, b_least_of_1, lf, z5, z6, z3, z4, g1, g2, l0, lc]
theorem lw_test {K F : List Nat} {i : Nat} (I : FrI A o K F i) (v : SV) : t_least_of_1001 (LwE A o K F i v) = .ok (decide (i < F.length)) (LwE A o K F i v) := by
  have hl := I.len h M
  have hn := h.n2
  have hle := I.le
  have lf : (fdQ A o K F i).length = i := by simp; omega
  have lF : (intN F).length = F.length := List.length_map ..
  have z1 : i ≤ sizeLine := le_line (by omega)
  have z2 : F.length ≤ sizeLine := le_line (by omega)
  have e : ((i : Nat) : Int) < ((F.length : Nat) : Int) ↔ i < F.length := by omega
  unfold LwE LoE
  generalize fdQ A o K F i = FQ at *
  generalize kdD o (kf o K) = KD at *
  generalize A.map rwD = R at *
  generalize nuT kdN (F.map (kf o K)) = NT at *
  generalize intN F = FN at *
  simp [t_least_of_1001, lf, lF, z1, z2]
theorem lstW_stop {K F : List Nat} : ∀ (f : Nat) {i : Nat}, F.length ≤ i → lstW A o K f F i = F
  | 0, _, _ => rfl
  | f + 1, i, hi => by
    unfold lstW
    rw [dif_neg (by omega)]
theorem lw_all {K : List Nat} {v : SV} (hv : PlS v) : ∃ v', PlS v' ∧ whileRun t_least_of_1001 b_least_of_1 fuelN (LwE A o K [0] 0 v) = .nx (LwE A o K (frsF A o K) (frsF A o K).length v') := by
  have hn := h.n2
  obtain ⟨st, e1, ⟨I1, I2, I3⟩, e2⟩ := while_go (S := List Nat × Nat × SV) (t := t_least_of_1001) (body := b_least_of_1) (fun s => LwE A o K s.1 s.2.1 s.2.2)
    (fun s => FrI A o K s.1 s.2.1 ∧ lstW A o K (A.length + 1 - s.2.1) s.1 s.2.1 = frsF A o K ∧ PlS s.2.2) (fun s => A.length + 1 - s.2.1) (fun s => s.1.length ≤ s.2.1) (fun s ⟨I, e, hv⟩ => by
      obtain ⟨F, i, v⟩ := s
      simp only at I e hv ⊢
      have tt := lw_test h M I v
      have hl := I.len h M
      by_cases hi : i < F.length
      · rw [decide_eq_true hi] at tt
        obtain ⟨v', hv', bb⟩ := lw_body h M I hi hv
        refine .inr ⟨tt, (addF o K F (rwA A F[i]).1, i + 1, v'), .inl bb, ⟨I.step h M hi, ?_, hv'⟩, by simp only; omega⟩
        rw [show A.length + 1 - i = (A.length + 1 - (i + 1)) + 1 by omega] at e
        unfold lstW at e
        rw [dif_pos hi] at e
        exact e
      · rw [decide_eq_false hi] at tt
        exact .inl ⟨tt, by omega⟩) fuelN ([0], 0, v) ⟨fr0 h M, rfl, hv⟩ (by simp [fuelN]; omega)
  obtain ⟨F, i, v'⟩ := st
  simp only at e1 I1 I2 I3 e2
  have hle := I1.le
  have hi : i = F.length := by omega
  rw [lstW_stop h M _ e2] at I2
  subst I2
  subst hi
  exact ⟨v', I3, e1⟩
end
section
variable {A : Au} (h : AuOk A)
include h
def lsA (A : Au) : Au := lstF A (metF A) (kindF A (metF A))
omit h in
theorem fdQ_all (A : Au) (o K : List Nat) : fdQ A o K (frsF A o K) (frsF A o K).length = (lstF A o K).map rwD := by
  unfold fdQ lstF
  rw [List.take_length, List.map_map]
  rfl
theorem lsof_ok : m_least_of [.list (A.map rwD)] = .ret (auD (lsA A)) := by
  have M := metF_ok h
  have e1 := met_ok h
  have e2 := kinds_ok h M
  obtain ⟨v', hv', e3⟩ := lw_all h M (K := kindF A (metF A)) (v := .un) (.inl rfl)
  have D := frsF_ok h M (K := kindF A (metF A))
  have hD := D.len h M
  have hn := h.n2
  have kx := ksl_d (f := kf (metF A) (kindF A (metF A))) M.z
  have ed := fdQ_all A (metF A) (kindF A (metF A))
  have zl : ((lsA A).map rwD).length ≤ sizeLine := by
    unfold lsA lstF
    simp
    exact le_line (by omega)
  unfold auD
  unfold LwE at e3
  rw [ed] at e3
  unfold LoE at e3
  have e0 : nuT kdN ([0].map (kf (metF A) (kindF A (metF A)))) = [(.int (kf (metF A) (kindF A (metF A)) 0 : Nat), .dat (.int 0))] := rfl
  rw [e0] at e3
  have e4 : fdQ A (metF A) (kindF A (metF A)) [0] 0 = [] := rfl
  rw [e4] at e3
  have e5 : intN [0] = [.int 0] := rfl
  rw [e5] at e3
  unfold lsA at *
  unfold sAut
  generalize (lstF A (metF A) (kindF A (metF A))).map rwD = LD at *
  generalize kdD (metF A) (kf (metF A) (kindF A (metF A))) = KD at *
  generalize kf (metF A) (kindF A (metF A)) 0 = k0 at *
  generalize nuT kdN ((frsF A (metF A) (kindF A (metF A))).map (kf (metF A) (kindF A (metF A)))) = NT at *
  generalize intN (frsF A (metF A) (kindF A (metF A))) = FN at *
  generalize intN (metF A) = MN at *
  generalize A.map rwD = R at *
  have l1 : L_least_of_1 [.d (.list R), .d KD, .own false (.tr (.dct [(.int (k0 : Nat), .dat (.int 0))])), .own false (.lst [.int 0]), .own false (.lst []), .un, .un, .un] = .nx [.d (.list R), .d KD, .own false (.tr (.dct NT)), .own false (.lst FN), .own false (.lst LD), .un, .un, .un] := by
    unfold L_least_of_1
    rcases hv' with rfl | ⟨d, rfl⟩ <;> simp [e3]
  have zt : (2 : Nat) ≤ sizeLine := le_line (by decide)
  have kx : dIxA KD (.int 0) = some (.int (k0 : Nat)) := kx
  have d0 : dOkK ([] : List (DL.D × Tr)) (.int (k0 : Nat)) = true := rfl
  simp [m_least_of, c_least_of, fnP, e1, e2, kx, d0, l1, zl, zt]
end
def coNat : Co Nat := coInt.via (fun n : Nat => (n : Int)) fun a b h => by omega
theorem notin_N (m : Nat) (o : List Nat) : dNotInA (.int (m : Nat)) (.list (intN o)) = some (.bool (!decide (m ∈ o))) := by
  rw [dNotInA_l]
  exact coNat.notL m o
theorem once_go : ∀ (l o : List Nat), (l.map fun n : Nat => (n : Int)).foldl PyProof.Rows.step_dedup (o.map fun n : Nat => (n : Int)) = (addA o l).map fun n : Nat => (n : Int)
  | [], o => rfl
  | n :: l, o => by
    rw [List.map_cons, List.foldl_cons, addA_cons, ← once_go l (add1 o n)]
    congr 1
    have e : PyProof.Rows.step_dedup (o.map fun n : Nat => (n : Int)) (n : Int) = if (n : Int) ∈ o.map (fun n : Nat => (n : Int)) then o.map (fun n : Nat => (n : Int)) else o.map (fun n : Nat => (n : Int)) ++ [(n : Int)] := by
      unfold PyProof.Rows.step_dedup
      generalize o.map (fun n : Nat => (n : Int)) = om
      by_cases h : (n : Int) ∈ om <;> simp [h]
    rw [e]
    unfold add1
    have iff : (n : Int) ∈ o.map (fun n : Nat => (n : Int)) ↔ n ∈ o := by
      constructor
      · intro h
        obtain ⟨k, hk, e⟩ := List.mem_map.mp h
        rw [show n = k by omega]
        exact hk
      · exact fun h => List.mem_map_of_mem h
    by_cases h : n ∈ o
    · rw [if_pos h, if_pos (iff.mpr h)]
    · rw [if_neg h, if_neg (fun x => h (iff.mp x)), List.map_append]
      rfl
theorem once_cnt (l : List Nat) (hl : l.length ≤ 4000) : dLenSet (.list (intN l)) = some (.int (cnt l : Nat)) := by
  have e : intN l = (l.map fun n : Nat => (n : Int)).map .int := by rw [intN, List.map_map]; rfl
  rw [e, dLenSet_i, if_pos (by simpa using hl)]
  have := once_go l []
  unfold onceI
  rw [show ([] : List Int) = ([] : List Nat).map (fun n : Nat => (n : Int)) from rfl, this, List.length_map]
  rfl
abbrev Q1 (R : SV) (o : List Nat) (a : Nat) (v : SV) : DL.Env := [R, .own false (.lst (intN o)), .d (.int (a : Nat)), v, .un, .un, .un, .un, .un, .un, .un, .un, .un, .un, .un]
theorem lm_one (R : SV) (a m : Nat) {o : List Nat} (ho : o.length ≤ 1000) : b__law_least_states_0 (Q1 R o a (.d (.int (m : Nat)))) = .nx (Q1 R (add1 o m) a (.d (.int (m : Nat)))) := by
  have z1 : (intN o).length < sizeLine := by rw [List.length_map]; exact lt_line (by omega)
  have n1 := notin_N m o
  unfold Q1
  by_cases h : m ∈ o
  · have e : add1 o m = o := if_pos h
    rw [e]
    rw [decide_eq_true h] at n1
    generalize intN o = ON at *
    simp [-dNotInA_l, b__law_least_states_0, n1]
  · have e : add1 o m = o ++ [m] := if_neg h
    have e2 : intN (o ++ [m]) = intN o ++ [.int (m : Nat)] := by rw [intN, List.map_append]; rfl
    rw [decide_eq_false h] at n1
    rw [e, e2]
    generalize intN o = ON at *
    simp [-dNotInA_l, b__law_least_states_0, n1, z1]
theorem lm_all (R : SV) (a : Nat) : ∀ (ms : List Nat) (o : List Nat) (v : SV), PlS v → o.length + ms.length ≤ 1000 → ∃ v', PlS v' ∧ forRun (setN 3) b__law_least_states_0 (intN ms) (Q1 R o a v) = .nx (Q1 R (addA o ms) a v')
  | [], o, v, hv, _ => ⟨v, hv, by simp [forRun, addA]⟩
  | m :: ms, o, v, hv, h => by
    have h : o.length + (ms.length + 1) ≤ 1000 := h
    have hl : (add1 o m).length ≤ o.length + 1 := by unfold add1; split <;> simp
    obtain ⟨v', h1, h2⟩ := lm_all R a ms (add1 o m) (.d (.int (m : Nat))) (.inr ⟨_, rfl⟩) (by omega)
    refine ⟨v', h1, ?_⟩
    rw [addA_cons, ← h2]
    exact forRun_one (by rcases hv with rfl | ⟨d, rfl⟩ <;> simp [Q1]) (lm_one R a m (by omega))
section
variable {A : Au} (h : AuOk A)
include h
theorem lm_while : ∃ v' a, PlS v' ∧ whileRun t__law_least_states_1001 b__law_least_states_1 fuelN (Q1 (.d (.tuple (A.map rwD))) [0] 0 .un) = .nx (Q1 (.d (.tuple (A.map rwD))) (metF A) a v') := by
  have hn := h.n2
  obtain ⟨st, e1, ⟨I1, I2, I3⟩, e2⟩ := while_go (S := List Nat × Nat × SV) (t := t__law_least_states_1001) (body := b__law_least_states_1) (fun s => Q1 (.d (.tuple (A.map rwD))) s.1 s.2.1 s.2.2)
    (fun s => MetI A s.1 s.2.1 ∧ metW A (A.length + 1 - s.2.1) s.1 s.2.1 = metF A ∧ PlS s.2.2) (fun s => A.length + 1 - s.2.1) (fun s => s.1.length ≤ s.2.1) (fun s ⟨I, e, hv⟩ => by
      obtain ⟨o, i, v⟩ := s
      simp only at I e hv ⊢
      have hl := I.len
      have hle := I.le
      have z : o.length ≤ sizeLine := le_line (by omega)
      have lo : (intN o).length = o.length := List.length_map ..
      by_cases hi : i < o.length
      · have hs := I.lt _ (List.getElem_mem hi)
        have hr := (h.row _ (rwA_mem hs)).1
        obtain ⟨v', hv', ml⟩ := lm_all (.d (.tuple (A.map rwD))) i (rwA A o[i]).1 o v hv (by omega)
        refine .inr ⟨?_, (addA o (rwA A o[i]).1, i + 1, v'), .inl ?_, ⟨I.step h hi, ?_, hv'⟩, by simp only; omega⟩
        · have hi' : (i : Int) < ((o.length : Nat) : Int) := by omega
          unfold Q1
          generalize intN o = ON at *
          simp [t__law_least_states_1001, lo, z, hi']
        · have g1 : dIxA (.list (intN o)) (.int (i : Nat)) = some (.int (o[i] : Nat)) := by
            rw [dIxA_l, dIx_l, atI_map, atI_some (List.getElem?_eq_getElem hi)]
            rfl
          have g2 : dIxA (.tuple (A.map rwD)) (.int (o[i] : Nat)) = some (rwD (rwA A o[i])) := by
            rw [dIxA_t, dIx_t, atI_map, atI_some (rwA_get hs)]
            rfl
          have g3 : dIxA (rwD (rwA A o[i])) (.int 0) = some (.tuple (intN (rwA A o[i]).1)) := by simp [rwD]
          generalize rwD (rwA A o[i]) = Q at *
          unfold Q1 at *
          generalize A.map rwD = R at *
          generalize intN (rwA A o[i]).1 = NX at *
          generalize intN (addA o (rwA A o[i]).1) = O2 at *
          generalize (o[i] : Nat) = oi at *
          generalize intN o = ON at *
          have l0 : L__law_least_states_0 [.d (.tuple R), .own false (.lst ON), .d (.int (i : Nat)), v, .un, .un, .un, .un, .un, .un, .un, .un, .un, .un, .un] = .nx [.d (.tuple R), .own false (.lst O2), .d (.int (i : Nat)), v', .un, .un, .un, .un, .un, .un, .un, .un, .un, .un, .un] := by
            unfold L__law_least_states_0
            simp [-dIxA_l, -dIxA_t, g1, g2, g3, ml]
          simp [b__law_least_states_1, l0]
        · rw [show A.length + 1 - i = (A.length + 1 - (i + 1)) + 1 by omega] at e
          unfold metW at e
          rw [dif_pos hi] at e
          exact e
      · refine .inl ⟨?_, by omega⟩
        have hi' : ¬ (i : Int) < ((o.length : Nat) : Int) := by omega
        unfold Q1
        generalize intN o = ON at *
        simp [t__law_least_states_1001, lo, z, hi']) fuelN ([0], 0, .un) ⟨met0 h, rfl, .inl rfl⟩ (by simp [fuelN]; omega)
  obtain ⟨o, i, v⟩ := st
  simp only at e1 I2 I3 e2
  have e3 : o = metF A := by
    rw [← I2]
    cases hf : A.length + 1 - i with
    | zero => rfl
    | succ n =>
      unfold metW
      rw [dif_neg (by omega)]
  subst e3
  exact ⟨v, i, I3, e1⟩
end
theorem merge_kd (f : Nat → Nat) : ∀ (post pre : List Nat), (pre ++ post).Nodup → mergeT (kdT pre f) (post.map fun s => (kdN s, .int (f s : Nat))) = kdT (pre ++ post) f
  | [], pre, _ => by simp
  | s :: post, pre, nd => by
    have hp : s ∉ pre := fun hm => (List.nodup_append.mp nd).2.2 s hm s (by simp) rfl
    have e := merge_kd f post (pre ++ [s]) (by simpa using nd)
    rw [List.map_cons, mergeT_cons]
    have e2 := kd_put f hp
    rw [show putT (kdT pre f) (kdN s, (PyData.int (f s : Nat))).1 (.dat (kdN s, (PyData.int (f s : Nat))).2) = kdT (pre ++ [s]) f from e2, e, List.append_assoc]
    rfl
theorem dictP_kd (f : Nat → Nat) {o : List Nat} (nd : o.Nodup) : (o.map fun s => PyData.tuple [.int (s : Nat), .int (f s : Nat)]).mapM pairK = some (o.map fun s => (kdN s, .int (f s : Nat))) := by
  clear nd
  induction o with
  | nil => rfl
  | cons s o ih =>
    rw [List.map_cons, List.mapM_cons, ih]
    rfl
abbrev QK (R : SV) (o : List Nat) (v3 : SV) (g : Nat → Nat) (v5 : SV) (m : Nat) : DL.Env := [R, .d (.list (intN o)), .un, v3, .d (kdD o g), v5, .d (.int (m : Nat)), .un, .un, .un, .un, .un, .un, .un, .un]
theorem qk_lc (R : SV) {o : List Nat} (ho : o.length ≤ 1000) (v3 : SV) (g : Nat → Nat) {v5 : SV} (hv : PlS v5) (m : Nat) :
    lc__law_least_states_1 (QK R o v3 g v5 m) = .ok (intN (o.map g)) (QK R o v3 g v5 m) ∧ lc__law_least_states_2 (QK R o v3 g v5 m) = .ok (intN (o.map g)) (QK R o v3 g v5 m) := by
  have e : intN (o.map g) = o.map fun s => .int (g s : Nat) := by rw [intN, List.map_map]; rfl
  have kx := fun s hs => ksl_d (f := g) (o := o) (s := s) hs
  rw [e]
  unfold QK
  generalize kdD o g = KD at *
  constructor
  · rcases hv with rfl | ⟨d, rfl⟩
    all_goals exact nlc_map o (fun x => .int (x : Nat)) _ (by simp) (by simp) (by simp; rfl) (by simp) (by omega) fun x hx => ⟨[R, .d (.list (intN o)), .un, v3, .d KD, .d (.int (x : Nat)), .d (.int (m : Nat)), .un, .un, .un, .un, .un, .un, .un, .un], by simp, by
      have := kx x hx
      simp [e__law_least_states_1, this], by simp, by simp⟩
  · rcases hv with rfl | ⟨d, rfl⟩
    all_goals exact nlc_map o (fun x => .int (x : Nat)) _ (by simp) (by simp) (by simp; rfl) (by simp) (by omega) fun x hx => ⟨[R, .d (.list (intN o)), .un, v3, .d KD, .d (.int (x : Nat)), .d (.int (m : Nat)), .un, .un, .un, .un, .un, .un, .un, .un], by simp, by
      have := kx x hx
      simp [e__law_least_states_2, this], by simp, by simp⟩
abbrev K2E (R : SV) (o : List Nat) (v3 : SV) (g : Nat → Nat) (v5 : SV) (m : Nat) (N : List (Nat × List Nat)) (pre : List Nat) (f : Nat → Nat) : DL.Env := [R, .d (.list (intN o)), .un, v3, .d (kdD o g), v5, .d (.int (m : Nat)), .own false (.tr (.dct (nuT kdS N))), .own false (.tr (.dct (kdT pre f))), .un, .un, .un, .un, .un, .un]
section
variable {A : Au} (h : AuOk A) {o : List Nat} (M : Met A o)
include h M
theorem k2_lc {v3 : SV} (hv : PlS v3) (g : Nat → Nat) (m : Nat) {s : Nat} (hs : s ∈ o) (NT KT : SV) :
    lc__law_least_states_3 [.d (.tuple (A.map rwD)), .d (.list (intN o)), .un, v3, .d (kdD o g), .d (.int (s : Nat)), .d (.int (m : Nat)), NT, KT, .un, .un, .un, .un, .un, .un] = .ok (intN ((rwA A s).1.map g)) [.d (.tuple (A.map rwD)), .d (.list (intN o)), .un, v3, .d (kdD o g), .d (.int (s : Nat)), .d (.int (m : Nat)), NT, KT, .un, .un, .un, .un, .un, .un] := by
  have hlt := M.lt s hs
  have g2 : dIxA (.tuple (A.map rwD)) (.int (s : Nat)) = some (rwD (rwA A s)) := by
    rw [dIxA_t, dIx_t, atI_map, atI_some (rwA_get hlt)]
    rfl
  have g3 : dIxA (rwD (rwA A s)) (.int 0) = some (.tuple (intN (rwA A s).1)) := by simp [rwD]
  have r1 := (h.row _ (rwA_mem hlt)).1
  have mem : ∀ x ∈ (rwA A s).1, x ∈ o := fun x hx => by
    rw [nx_row h hlt] at hx
    obtain ⟨c, hc, rfl⟩ := List.mem_map.mp hx
    exact M.cl s hs c (List.mem_range.mp hc)
  have kx := fun x hx => ksl_d (f := g) (o := o) (s := x) (mem x hx)
  have e : intN ((rwA A s).1.map g) = (rwA A s).1.map fun x => .int (g x : Nat) := by rw [intN, List.map_map]; rfl
  rw [e]
  generalize rwD (rwA A s) = Q at *
  generalize (rwA A s).1 = nxs at *
  generalize A.map rwD = R at *
  generalize kdD o g = KD at *
  generalize intN o = ON at *
  rcases hv with rfl | ⟨d, rfl⟩
  all_goals exact nlc_map nxs (fun x => .int (x : Nat)) _ (by simp [-dIxA_t, g2, g3]) (by simp) (by simp; rfl) (by simp) (by omega) fun x hx => ⟨[.d (.tuple R), .d (.list ON), .un, .d (.int (x : Nat)), .d KD, .d (.int (s : Nat)), .d (.int (m : Nat)), NT, KT, .un, .un, .un, .un, .un, .un], by simp, by
      have := kx x hx
      simp [e__law_least_states_3, this], by simp, by simp⟩
theorem k2_body {v3 : SV} (hv : PlS v3) {N : List (Nat × List Nat)} {pre : List Nat} {g f : Nat → Nat} (m : Nat) {s : Nat} (hs : s ∈ o) (hp : s ∉ pre) (hN : N.length ≤ 1000) (hl : pre.length ≤ 1000) (hf : f s = ixO (add1 N (sg0 A g s)) (sg0 A g s)) :
    b__law_least_states_2 (K2E (.d (.tuple (A.map rwD))) o v3 g (.d (.int (s : Nat))) m N pre f) = .nx (K2E (.d (.tuple (A.map rwD))) o v3 g (.d (.int (s : Nat))) m (add1 N (sg0 A g s)) (pre ++ [s]) f) := by
  have c1 := k2_lc h M hv g m hs (.own false (.tr (.dct (nuT kdS N)))) (.own false (.tr (.dct (kdT pre f))))
  have r1 := (h.row _ (rwA_mem (M.lt s hs))).1
  have kx := ksl_d (f := g) hs
  have z0 : (intN ((rwA A s).1.map g)).length ≤ sizeLine := by rw [List.length_map, List.length_map]; exact le_line (by omega)
  have zt : (2 : Nat) ≤ sizeLine := le_line (by decide)
  have k0 := kd_ok pre f s
  have k1 := kd_put f hp
  have n0 := nu_ok kdo_S N (sg0 A g s)
  have z1 : (nuT kdS N).length = N.length := by simp
  have z2 : N.length < sizeLine := lt_line (by omega)
  have z3 : (kdT pre f).length < sizeLine := by simp; exact lt_line (by omega)
  have ks : kdS (sg0 A g s) = .tuple [.int (g s : Nat), .tuple (intN ((rwA A s).1.map g))] := rfl
  have first : (sAsg (eTup (aCons (eBin dIxA (eVar 4) (eVar 5)) (aCons (eCallB dTuple (aCons (eN lc__law_least_states_3) aNil)) aNil))) (setN 9)) (K2E (.d (.tuple (A.map rwD))) o v3 g (.d (.int (s : Nat))) m N pre f) =
      .nx [.d (.tuple (A.map rwD)), .d (.list (intN o)), .un, v3, .d (kdD o g), .d (.int (s : Nat)), .d (.int (m : Nat)), .own false (.tr (.dct (nuT kdS N))), .own false (.tr (.dct (kdT pre f))), .d (kdS (sg0 A g s)), .un, .un, .un, .un, .un] := by
    rw [ks]
    unfold K2E
    generalize intN ((rwA A s).1.map g) = GN at *
    generalize nuT kdS N = NT at *
    generalize kdT pre f = KT at *
    generalize A.map rwD = R at *
    generalize kdD o g = KD at *
    generalize intN o = ON at *
    simp [kx, c1, z0, zt]
  have fg : ∀ (c1 c2 : SC) (ρ ρ1 : DL.Env) (is : List Nat), c1 ρ = .nx ρ1 → sFg true is (sSeq c1 c2) ρ = sFg true is c2 ρ1 := fun c1 c2 ρ ρ1 is e => by
    simp [e]
  unfold b__law_least_states_2
  rw [fg _ _ _ _ _ first]
  unfold K2E
  rw [← k1, hf]
  clear first c1 kx
  generalize sg0 A g s = x at *
  by_cases hx : x ∈ N
  · obtain ⟨n, n1, n2⟩ := nu_in kdo_S hx
    have ea : add1 N x = N := if_pos hx
    rw [ea]
    generalize nuT kdS N = NT at *
    generalize kdS x = KX at *
    generalize kdT pre f = KT at *
    generalize A.map rwD = R at *
    generalize kdD o g = KD at *
    generalize intN o = ON at *
    simp [k0, n0, n1, n2, z1, z2, z3, atP, rootT]
  · have n1 := nu_no kdo_S hx
    have n2 := nu_more (kd := kdS) N x
    have ea : add1 N x = N ++ [x] := if_neg hx
    have ei := ixO_new hx
    rw [ea, ei, n2]
    generalize nuT kdS N = NT at *
    generalize kdS x = KX at *
    generalize kdT pre f = KT at *
    generalize A.map rwD = R at *
    generalize kdD o g = KD at *
    generalize intN o = ON at *
    simp [k0, n0, n1, z1, z2, z3, atP, rootT, lenAt]
theorem k2_loop {v3 : SV} (hv : PlS v3) (g : Nat → Nat) (m : Nat) : ∀ (post pre : List Nat) (v5 : SV), PlS v5 → o = pre ++ post → ∃ v5', PlS v5' ∧ forRun (setN 5) b__law_least_states_2 (intN post) (K2E (.d (.tuple (A.map rwD))) o v3 g v5 m (addA [] (pre.map (sg0 A g))) pre (numOf o (sg0 A g))) = .nx (K2E (.d (.tuple (A.map rwD))) o v3 g v5' m (addA [] (o.map (sg0 A g))) o (numOf o (sg0 A g)))
  | [], pre, v5, h5, e => by
    have e : o = pre := by simpa using e
    subst e
    exact ⟨v5, h5, by simp [forRun]⟩
  | s :: post, pre, v5, h5, e => by
    obtain ⟨v5', h6, ih⟩ := k2_loop hv g m post (pre ++ [s]) (.d (.int (s : Nat))) (.inr ⟨_, rfl⟩) (by simp [e])
    refine ⟨v5', h6, ?_⟩
    have hl := Met.len h M
    have hs : s ∈ o := by rw [e]; simp
    have hp : s ∉ pre := fun hm => by
      have := M.nd
      rw [e] at this
      exact (List.nodup_append.mp this).2.2 s hm s (by simp) rfl
    have hle : pre.length ≤ o.length := by rw [e]; simp
    have hN := addA_le (pre.map (sg0 A g))
    rw [List.length_map] at hN
    have st := k2_body h M hv (N := addA [] (pre.map (sg0 A g))) (f := numOf o (sg0 A g)) m hs hp (by omega) (by omega) (numOf_at e (sg0 A g))
    have e1 : add1 (addA [] (pre.map (sg0 A g))) (sg0 A g s) = addA [] ((pre ++ [s]).map (sg0 A g)) := add1_step pre (sg0 A g) s
    rw [e1] at st
    rw [← ih]
    exact forRun_one (by rcases h5 with rfl | ⟨d, rfl⟩ <;> simp [K2E]) st
theorem q3_body {v3 v5 : SV} (h3 : PlS v3) (h5 : PlS v5) (g : Nat → Nat) (m : Nat) :
    ∃ v5', PlS v5' ∧ b__law_least_states_3 (QK (.d (.tuple (A.map rwD))) o v3 g v5 m) = .nx (QK (.d (.tuple (A.map rwD))) o v3 (numOf o (sg0 A g)) v5' (cnt (o.map g))) := by
  have hl := Met.len h M
  obtain ⟨v5', h6, lp⟩ := k2_loop h M h3 g (cnt (o.map g)) o [] v5 h5 rfl
  refine ⟨v5', h6, ?_⟩
  have c2 := (qk_lc (.d (.tuple (A.map rwD))) (o := o) (by omega) v3 g h5 m).2
  have oc := once_cnt (o.map g) (by rw [List.length_map]; omega)
  have e0 : addA [] (([] : List Nat).map (sg0 A g)) = [] := rfl
  rw [e0] at lp
  have lp : forRun (setN 5) b__law_least_states_2 (intN o) [.d (.tuple (A.map rwD)), .d (.list (intN o)), .un, v3, .d (kdD o g), v5, .d (.int (cnt (o.map g) : Nat)), .own false (.tr (.dct [])), .own false (.tr (.dct [])), .un, .un, .un, .un, .un, .un] = .nx (K2E (.d (.tuple (A.map rwD))) o v3 g v5' (cnt (o.map g)) (addA [] (o.map (sg0 A g))) o (numOf o (sg0 A g))) := lp
  have td := kd_toD o (numOf o (sg0 A g))
  unfold K2E at lp
  unfold QK at *
  unfold kdD at *
  rw [← td]
  generalize kvT kdN (fun n : Nat => PyData.int (n : Int)) (kdL o g) = KD at *
  generalize kdT o (numOf o (sg0 A g)) = KT at *
  generalize nuT kdS (addA [] (o.map (sg0 A g))) = NT at *
  generalize intN (o.map g) = GN at *
  generalize cnt (o.map g) = cn at *
  generalize A.map rwD = R at *
  generalize intN o = ON at *
  have l1 : L__law_least_states_2 [.d (.tuple R), .d (.list ON), .un, v3, .d (.dict KD), v5, .d (.int (cn : Nat)), .own false (.tr (.dct [])), .own false (.tr (.dct [])), .un, .un, .un, .un, .un, .un] = .nx [.d (.tuple R), .d (.list ON), .un, v3, .d (.dict KD), v5', .d (.int (cn : Nat)), .own false (.tr (.dct NT)), .own false (.tr (.dct KT)), .un, .un, .un, .un, .un, .un] := by
    unfold L__law_least_states_2
    simp [lp]
  simp [b__law_least_states_3, c2, oc, l1, atP, rootT]
theorem q3_test {v3 v5 : SV} (h5 : PlS v5) (g : Nat → Nat) (m : Nat) (R : SV) : t__law_least_states_1003 (QK R o v3 g v5 m) = .ok (decide (m < cnt (o.map g))) (QK R o v3 g v5 m) := by
  have hl := Met.len h M
  have c2 := (qk_lc R (o := o) (by omega) v3 g h5 m).1
  have oc := once_cnt (o.map g) (by rw [List.length_map]; omega)
  have e : ((m : Nat) : Int) < ((cnt (o.map g) : Nat) : Int) ↔ m < cnt (o.map g) := by omega
  unfold QK at *
  generalize kdD o g = KD at *
  generalize intN (o.map g) = GN at *
  generalize cnt (o.map g) = cn at *
  generalize intN o = ON at *
  simp [t__law_least_states_1003, c2, oc]
theorem q3_all {v3 : SV} (h3 : PlS v3) : ∃ v5 m, PlS v5 ∧ whileRun t__law_least_states_1003 b__law_least_states_3 fuelN (QK (.d (.tuple (A.map rwD))) o v3 (out0 A) .un 0) = .nx (QK (.d (.tuple (A.map rwD))) o v3 (kf o (kindF A o)) v5 m) := by
  have hl := Met.len h M
  obtain ⟨st, e1, ⟨i1, f, i3, i4⟩, e2⟩ := while_go (S := Nat × (Nat → Nat) × SV) (t := t__law_least_states_1003) (body := b__law_least_states_3) (fun s => QK (.d (.tuple (A.map rwD))) o v3 s.2.1 s.2.2 s.1)
    (fun s => PlS s.2.2 ∧ ∃ f, mooW A o f (o.map s.2.1) s.1 = kindF A o ∧ o.length < f + s.1) (fun s => o.length + 1 - s.1) (fun s => ¬ s.1 < cnt (o.map s.2.1)) (fun s ⟨I1, f, I3, I4⟩ => by
      obtain ⟨m, g, v5⟩ := s
      simp only at I1 I3 I4 ⊢
      have tt := q3_test h M (v3 := v3) I1 g m (.d (.tuple (A.map rwD)))
      have hc := cnt_le (o.map g)
      rw [List.length_map] at hc
      by_cases hm : m < cnt (o.map g)
      · rw [decide_eq_true hm] at tt
        obtain ⟨v5', h5, bb⟩ := q3_body h M h3 I1 g m
        refine .inr ⟨tt, (cnt (o.map g), numOf o (sg0 A g), v5'), .inl bb, ⟨h5, ?_⟩, by simp only; omega⟩
        cases f with
        | zero => omega
        | succ f =>
          refine ⟨f, ?_, by simp only; omega⟩
          unfold mooW at I3
          rw [if_pos hm, map_step h M] at I3
          exact I3
      · rw [decide_eq_false hm] at tt
        exact .inl ⟨tt, hm⟩) fuelN (0, out0 A, .un) ⟨.inl rfl, o.length + 1, rfl, by simp only; omega⟩ (by simp [fuelN]; omega)
  obtain ⟨m, g, v5⟩ := st
  simp only at *
  have ek : o.map g = kindF A o := by
    rw [← i3]
    cases f with
    | zero => rfl
    | succ f => unfold mooW; rw [if_neg e2]
  have fin : kdD o (kf o (kindF A o)) = kdD o g := kdD_congr fun s hs => by rw [← ek, kf_of _ hs]
  refine ⟨v5, m, i1, ?_⟩
  unfold QK at *
  rw [fin]
  exact e1
end
abbrev LoL (R : SV) (o K F : List Nat) (FD NX OUT v : SV) : DL.Env := [R, .d (.list (intN o)), .un, v, .d (kdD o (kf o K)), .un, .un, .un, .un, .un, .own false (.tr (.dct (nuT kdN (F.map (kf o K))))), .own false (.lst (intN F)), FD, NX, OUT]
theorem ll_body (R FD NX OUT : SV) {o K F : List Nat} {m : Nat} (hm : m ∈ o) (hF : F.length ≤ 1000) :
    b__law_least_states_4 (LoL R o K F FD NX OUT (.d (.int (m : Nat)))) = .nx (LoL R o K (addF1 o K F m) FD NX OUT (.d (.int (m : Nat)))) := by
  have kx := ksl_d (f := kf o K) hm
  have n0 := nu_ok kdo_N (F.map (kf o K)) (kf o K m)
  have z1 : (intN F).length = F.length := List.length_map ..
  have z2 : (intN F).length < sizeLine := by rw [z1]; exact lt_line (by omega)
  have z3 : (intN F).length ≤ sizeLine := Nat.le_of_lt z2
  have z5 : F.length < sizeLine := lt_line (by omega)
  have z6 : F.length ≤ sizeLine := Nat.le_of_lt z5
  have z4 : (nuT kdN (F.map (kf o K))).length < sizeLine := by simp; exact lt_line (by omega)
  unfold LoL
  by_cases hx : kf o K m ∈ F.map (kf o K)
  · obtain ⟨n, n1, n2⟩ := nu_in kdo_N hx
    have ea : addF1 o K F m = F := if_pos hx
    rw [ea]
    generalize kdD o (kf o K) = KD at *
    generalize nuT kdN (F.map (kf o K)) = NT at *
    generalize intN F = FN at *
    generalize kf o K m = km at *
    simp [b__law_least_states_4, kx, n0, n1, n2, atP, rootT]
  · have n1 := nu_no kdo_N hx
    have n2 := nu_put kdo_N hx
    rw [List.length_map] at n2
    have ea : addF1 o K F m = F ++ [m] := if_neg hx
    have e2 : intN (F ++ [m]) = intN F ++ [.int (m : Nat)] := by rw [intN, List.map_append]; rfl
    have e3 : (F ++ [m]).map (kf o K) = F.map (kf o K) ++ [kf o K m] := by rw [List.map_append]; rfl
    rw [ea, e2, e3, ← n2]
    generalize kdD o (kf o K) = KD at *
    generalize nuT kdN (F.map (kf o K)) = NT at *
    generalize intN F = FN at *
    generalize kf o K m = km at *
    simp [b__law_least_states_4, kx, n0, n1, z1, z3, z4, z5, z6, atP, rootT]
theorem ll_all (R FD NX OUT : SV) {o K : List Nat} : ∀ (ms F : List Nat) (v : SV), PlS v → (∀ m ∈ ms, m ∈ o) → F.length + ms.length ≤ 1000 →
    ∃ v', PlS v' ∧ forRun (setN 3) b__law_least_states_4 (intN ms) (LoL R o K F FD NX OUT v) = .nx (LoL R o K (addF o K F ms) FD NX OUT v')
  | [], F, v, hv, _, _ => ⟨v, hv, by simp [forRun, addF]⟩
  | m :: ms, F, v, hv, hm, hl => by
    have hl : F.length + (ms.length + 1) ≤ 1000 := hl
    have h1 := addF1_len o K F m
    obtain ⟨v', h2, h3⟩ := ll_all R FD NX OUT (K := K) ms (addF1 o K F m) (.d (.int (m : Nat))) (.inr ⟨_, rfl⟩) (fun x hx => hm x (by simp [hx])) (by omega)
    refine ⟨v', h2, ?_⟩
    rw [addF_cons, ← h3]
    exact forRun_one (by rcases hv with rfl | ⟨d, rfl⟩ <;> simp [LoL]) (ll_body R FD NX OUT (hm m (by simp)) (by omega))
theorem ll_lc (R FD OUT : SV) {o K F ns : List Nat} {v : SV} (hv : PlS v) (hm : ∀ m ∈ ns, m ∈ o) (hF : ∀ m ∈ ns, kf o K m ∈ F.map (kf o K)) (hl : ns.length ≤ 1000) :
    lc__law_least_states_4 (LoL R o K F FD (.d (.tuple (intN ns))) OUT v) = .ok (intN (ns.map fun m => ixO (F.map (kf o K)) (kf o K m))) (LoL R o K F FD (.d (.tuple (intN ns))) OUT v) := by
  have e : intN (ns.map fun m => ixO (F.map (kf o K)) (kf o K m)) = ns.map fun m => .int (ixO (F.map (kf o K)) (kf o K m) : Nat) := by rw [intN, List.map_map]; rfl
  have el : ∀ m ∈ ns, e__law_least_states_4 (LoL R o K F FD (.d (.tuple (intN ns))) OUT (.d (.int (m : Nat)))) = .ok (.val (.int (ixO (F.map (kf o K)) (kf o K m) : Nat))) (LoL R o K F FD (.d (.tuple (intN ns))) OUT (.d (.int (m : Nat)))) := fun m hx => by
    have kx := ksl_d (f := kf o K) (hm m hx)
    have n0 := nu_ok kdo_N (F.map (kf o K)) (kf o K m)
    obtain ⟨n, n1, n2⟩ := nu_in kdo_N (hF m hx)
    unfold LoL
    generalize kdD o (kf o K) = KD at *
    generalize nuT kdN (F.map (kf o K)) = NT at *
    generalize ixO (F.map (kf o K)) (kf o K m) = ix at *
    generalize kf o K m = km at *
    generalize intN ns = NS at *
    generalize intN F = FN at *
    simp [e__law_least_states_4, kx, n0, n1, n2, atP, rootT]
  rw [e]
  unfold LoL at *
  generalize kdD o (kf o K) = KD at *
  generalize nuT kdN (F.map (kf o K)) = NT at *
  generalize intN F = FN at *
  have z := hl
  rcases hv with rfl | ⟨d, rfl⟩
  · exact nlc_map ns (fun x => .int (x : Nat)) _ (by simp) (by simp) (by simp; rfl) (by simp) (by omega) fun x hx => ⟨[R, .d (.list (intN o)), .un, .d (.int (x : Nat)), .d KD, .un, .un, .un, .un, .un, .own false (.tr (.dct NT)), .own false (.lst FN), FD, .d (.tuple (intN ns)), OUT], by simp, el x hx, by simp, by simp⟩
  · exact nlc_map ns (fun x => .int (x : Nat)) _ (by simp) (by simp) (by simp; rfl) (by simp) (by omega) fun x hx => ⟨[R, .d (.list (intN o)), .un, .d (.int (x : Nat)), .d KD, .un, .un, .un, .un, .un, .own false (.tr (.dct NT)), .own false (.lst FN), FD, .d (.tuple (intN ns)), OUT], by simp, el x hx, by simp, by simp⟩
abbrev LwL (A : Au) (o K : List Nat) (F : List Nat) (i : Nat) (v : SV) : DL.Env := LoL (.d (.tuple (A.map rwD))) o K F (.own false (.lst (fdQ A o K F i))) .un .un v
section
variable {A : Au} (h : AuOk A) {o : List Nat} (M : Met A o)
include h M
theorem lwl_body {K F : List Nat} {i : Nat} (I : FrI A o K F i) (hi : i < F.length) {v : SV} (hv : PlS v) :
    ∃ v', PlS v' ∧ b__law_least_states_5 (LwL A o K F i v) = .nx (LwL A o K (addF o K F (rwA A F[i]).1) (i + 1) v') := by
  have hl := I.len h M
  have hn := h.n2
  have hso := I.sub _ (List.getElem_mem hi)
  have hs := M.lt _ hso
  have hr := (h.row _ (rwA_mem hs)).1
  have hmo : ∀ m ∈ (rwA A F[i]).1, m ∈ o := fun m hm => by
    rw [nx_row h hs] at hm
    obtain ⟨c, hc, rfl⟩ := List.mem_map.mp hm
    exact M.cl _ hso c (List.mem_range.mp hc)
  have e1 := fdQ_step h M I hi
  obtain ⟨v', hv', fr⟩ := ll_all (.d (.tuple (A.map rwD))) (.own false (.lst (fdQ A o K F i))) (.d (.tuple (intN (rwA A F[i]).1))) (.d (.int ((rwA A F[i]).2 : Nat))) (K := K) (rwA A F[i]).1 F v hv hmo (by omega)
  have lc := ll_lc (.d (.tuple (A.map rwD))) (.own false (.lst (fdQ A o K F i))) (.d (.int ((rwA A F[i]).2 : Nat))) (K := K) (F := addF o K F (rwA A F[i]).1) hv' hmo (fun m hm => addF_in o K _ _ hm) (by omega)
  refine ⟨v', hv', ?_⟩
  have g1 : dIxA (.list (intN F)) (.int (i : Nat)) = some (.int (F[i] : Nat)) := by
    rw [dIxA_l, dIx_l, atI_map, atI_some (List.getElem?_eq_getElem hi)]
    rfl
  have g2 : dIxA (.tuple (A.map rwD)) (.int (F[i] : Nat)) = some (rwD (rwA A F[i])) := by
    rw [dIxA_t, dIx_t, atI_map, atI_some (rwA_get hs)]
    rfl
  have lf : (fdQ A o K F i).length = i := by simp; omega
  have z1 : (fdQ A o K F i).length < sizeLine := by rw [lf]; exact lt_line (by omega)
  have z2 : (fdQ A o K F i).length ≤ sizeLine := Nat.le_of_lt z1
  have z5 : i < sizeLine := lt_line (by omega)
  have z6 : i ≤ sizeLine := Nat.le_of_lt z5
  have z3 : (2 : Nat) ≤ sizeLine := le_line (by decide)
  have rq : rwD (rowQ A o K (addF o K F (rwA A F[i]).1) F[i]) = .tuple [.tuple (intN ((rwA A F[i]).1.map fun m => ixO ((addF o K F (rwA A F[i]).1).map (kf o K)) (kf o K m))), .int ((rwA A F[i]).2 : Nat)] := rfl
  have z4 : (intN ((rwA A F[i]).1.map fun m => ixO ((addF o K F (rwA A F[i]).1).map (kf o K)) (kf o K m))).length ≤ sizeLine := by simp; exact le_line (by omega)
  rw [rq] at e1
  unfold LwL
  rw [e1]
  have rd : rwD (rwA A F[i]) = .tuple [.tuple (intN (rwA A F[i]).1), .int ((rwA A F[i]).2 : Nat)] := rfl
  rw [rd] at g2
  generalize (intN ((rwA A F[i]).1.map fun m => ixO ((addF o K F (rwA A F[i]).1).map (kf o K)) (kf o K m))) = IX at *
  generalize addF o K F (rwA A F[i]).1 = F2 at *
  generalize fdQ A o K F i = FQ at *
  generalize (rwA A F[i]).2 = out at *
  generalize intN (rwA A F[i]).1 = NX at *
  unfold LoL at *
  generalize kdD o (kf o K) = KD at *
  generalize A.map rwD = R at *
  generalize nuT kdN (F.map (kf o K)) = NT at *
  generalize nuT kdN (F2.map (kf o K)) = NT2 at *
  generalize (F[i] : Nat) = Fi at *
  generalize intN F = FN at *
  generalize intN F2 = FN2 at *
  generalize intN o = ON at *
  have l0 : L__law_least_states_4 [.d (.tuple R), .d (.list ON), .un, v, .d KD, .un, .un, .un, .un, .un, .own false (.tr (.dct NT)), .own false (.lst FN), .own false (.lst FQ), .d (.tuple NX), .d (.int (out : Nat))] = .nx [.d (.tuple R), .d (.list ON), .un, v', .d KD, .un, .un, .un, .un, .un, .own false (.tr (.dct NT2)), .own false (.lst FN2), .own false (.lst FQ), .d (.tuple NX), .d (.int (out : Nat))] := by
    unfold L__law_least_states_4
    simp [fr]
  simp [-dIxA_l, -dIxA_t, b__law_least_states_5, lf, z5, z6, z3, z4, g1, g2, l0, lc]
theorem lwl_test {K F : List Nat} {i : Nat} (I : FrI A o K F i) (v : SV) : t__law_least_states_1005 (LwL A o K F i v) = .ok (decide (i < F.length)) (LwL A o K F i v) := by
  have hl := I.len h M
  have hn := h.n2
  have hle := I.le
  have lf : (fdQ A o K F i).length = i := by simp; omega
  have lF : (intN F).length = F.length := List.length_map ..
  have z1 : i ≤ sizeLine := le_line (by omega)
  have z2 : F.length ≤ sizeLine := le_line (by omega)
  have e : ((i : Nat) : Int) < ((F.length : Nat) : Int) ↔ i < F.length := by omega
  unfold LwL LoL
  generalize fdQ A o K F i = FQ at *
  generalize kdD o (kf o K) = KD at *
  generalize A.map rwD = R at *
  generalize nuT kdN (F.map (kf o K)) = NT at *
  generalize intN F = FN at *
  simp [t__law_least_states_1005, lf, lF, z1, z2]
theorem lwl_all {K : List Nat} {v : SV} (hv : PlS v) : ∃ v', PlS v' ∧ whileRun t__law_least_states_1005 b__law_least_states_5 fuelN (LwL A o K [0] 0 v) = .nx (LwL A o K (frsF A o K) (frsF A o K).length v') := by
  have hn := h.n2
  obtain ⟨st, e1, ⟨I1, I2, I3⟩, e2⟩ := while_go (S := List Nat × Nat × SV) (t := t__law_least_states_1005) (body := b__law_least_states_5) (fun s => LwL A o K s.1 s.2.1 s.2.2)
    (fun s => FrI A o K s.1 s.2.1 ∧ lstW A o K (A.length + 1 - s.2.1) s.1 s.2.1 = frsF A o K ∧ PlS s.2.2) (fun s => A.length + 1 - s.2.1) (fun s => s.1.length ≤ s.2.1) (fun s ⟨I, e, hv⟩ => by
      obtain ⟨F, i, v⟩ := s
      simp only at I e hv ⊢
      have tt := lwl_test h M I v
      have hl := I.len h M
      by_cases hi : i < F.length
      · rw [decide_eq_true hi] at tt
        obtain ⟨v', hv', bb⟩ := lwl_body h M I hi hv
        refine .inr ⟨tt, (addF o K F (rwA A F[i]).1, i + 1, v'), .inl bb, ⟨I.step h M hi, ?_, hv'⟩, by simp only; omega⟩
        rw [show A.length + 1 - i = (A.length + 1 - (i + 1)) + 1 by omega] at e
        unfold lstW at e
        rw [dif_pos hi] at e
        exact e
      · rw [decide_eq_false hi] at tt
        exact .inl ⟨tt, by omega⟩) fuelN ([0], 0, v) ⟨fr0 h M, rfl, hv⟩ (by simp [fuelN]; omega)
  obtain ⟨F, i, v'⟩ := st
  simp only at e1 I1 I2 I3 e2
  have hle := I1.le
  have hi : i = F.length := by omega
  rw [lstW_stop h M _ e2] at I2
  subst I2
  subst hi
  exact ⟨v', I3, e1⟩
end
section
variable {A : Au} (h : AuOk A)
include h
theorem llst_ok : m__law_least_states [.tuple (A.map rwD)] = .ret (.tuple ((lsA A).map rwD)) := by
  have hn := h.n2
  have M := metF_ok h
  have hm := Met.len h M
  obtain ⟨v3, a, h3, e1⟩ := lm_while h
  obtain ⟨v5, m5, h5, e2⟩ := q3_all h M h3
  obtain ⟨v', hv', e3⟩ := lwl_all h M (K := kindF A (metF A)) h3
  have D := frsF_ok h M (K := kindF A (metF A))
  have hD := D.len h M
  have kx := ksl_d (f := kf (metF A) (kindF A (metF A))) M.z
  have ed := fdQ_all A (metF A) (kindF A (metF A))
  have zl : ((lsA A).map rwD).length ≤ sizeLine := by
    unfold lsA lstF
    simp
    exact le_line (by omega)
  have c0 : lc__law_least_states_0 [.d (.tuple (A.map rwD)), .own false (.lst (intN (metF A))), .un, v3, .un, .un, .un, .un, .un, .un, .un, .un, .un, .un, .un] = .ok ((metF A).map fun s => .tuple [.int (s : Nat), .int (out0 A s : Nat)]) [.d (.tuple (A.map rwD)), .d (.list (intN (metF A))), .un, v3, .un, .un, .un, .un, .un, .un, .un, .un, .un, .un, .un] :=
    nlc_map (metF A) (fun x => .int (x : Nat)) _ (by simp) (by simp) (by simp; rfl) (by simp) (by omega) fun x hx => ⟨[.d (.tuple (A.map rwD)), .d (.list (intN (metF A))), .un, v3, .un, .d (.int (x : Nat)), .un, .un, .un, .un, .un, .un, .un, .un, .un], by simp, by
      have hlt := M.lt x hx
      have g2 : dIxA (.tuple (A.map rwD)) (.int (x : Nat)) = some (rwD (rwA A x)) := by
        rw [dIxA_t, dIx_t, atI_map, atI_some (rwA_get hlt)]
        rfl
      have g3 : dIxA (rwD (rwA A x)) (.int 1) = some (.int (out0 A x : Nat)) := by simp [rwD, out0]
      have zt : (2 : Nat) ≤ sizeLine := le_line (by decide)
      generalize rwD (rwA A x) = Q at *
      generalize A.map rwD = R at *
      generalize intN (metF A) = MN at *
      simp [-dIxA_t, e__law_least_states_0, g2, g3, zt], by simp, by simp⟩
  have dp := dictP_kd (out0 A) M.nd
  have mk := merge_kd (out0 A) (metF A) [] (by simpa using M.nd)
  have mk : mergeT [] ((metF A).map fun s => (kdN s, .int (out0 A s : Nat))) = kdT (metF A) (out0 A) := mk
  have td := kd_toD (metF A) (out0 A)
  unfold LwL at e3
  rw [ed] at e3
  have e0 : nuT kdN ([0].map (kf (metF A) (kindF A (metF A)))) = [(.int (kf (metF A) (kindF A (metF A)) 0 : Nat), .dat (.int 0))] := rfl
  unfold LoL at e3
  rw [e0] at e3
  have e4 : fdQ A (metF A) (kindF A (metF A)) [0] 0 = [] := rfl
  rw [e4] at e3
  have e5 : intN [0] = [.int 0] := rfl
  rw [e5] at e3
  unfold lsA at *
  unfold Q1 at e1
  rw [e5] at e1
  unfold QK at e2
  unfold kdD at e2 e3 kx
  rw [← td] at e2
  generalize kvT kdN (fun n : Nat => PyData.int (n : Int)) (kdL (metF A) (kf (metF A) (kindF A (metF A)))) = KD at *
  generalize (lstF A (metF A) (kindF A (metF A))).map rwD = LD at *
  generalize kf (metF A) (kindF A (metF A)) 0 = k0 at *
  generalize nuT kdN ((frsF A (metF A) (kindF A (metF A))).map (kf (metF A) (kindF A (metF A)))) = NT at *
  generalize intN (frsF A (metF A) (kindF A (metF A))) = FN at *
  generalize kdT (metF A) (out0 A) = KT at *
  generalize ((metF A).map fun s => PyData.tuple [.int (s : Nat), .int (out0 A s : Nat)]) = PR at *
  generalize ((metF A).map fun s => (kdN s, PyData.int (out0 A s : Nat))) = PK at *
  generalize intN (metF A) = MN at *
  generalize A.map rwD = R at *
  have e1 : whileRun t__law_least_states_1001 b__law_least_states_1 fuelN [.d (.tuple R), .own false (.lst [.int 0]), .d (.int 0), .un, .un, .un, .un, .un, .un, .un, .un, .un, .un, .un, .un] = .nx [.d (.tuple R), .own false (.lst MN), .d (.int (a : Nat)), v3, .un, .un, .un, .un, .un, .un, .un, .un, .un, .un, .un] := e1
  have e2 : whileRun t__law_least_states_1003 b__law_least_states_3 fuelN [.d (.tuple R), .d (.list MN), .un, v3, .d (.dict (KT.map fun p => (p.1, toD p.2))), .un, .d (.int 0), .un, .un, .un, .un, .un, .un, .un, .un] = .nx [.d (.tuple R), .d (.list MN), .un, v3, .d (.dict KD), v5, .d (.int (m5 : Nat)), .un, .un, .un, .un, .un, .un, .un, .un] := e2
  have kx : dIxA (.dict KD) (.int 0) = some (.int (k0 : Nat)) := kx
  have l1 : L__law_least_states_1 [.d (.tuple R), .own false (.lst [.int 0]), .d (.int 0), .un, .un, .un, .un, .un, .un, .un, .un, .un, .un, .un, .un] = .nx [.d (.tuple R), .own false (.lst MN), .un, v3, .un, .un, .un, .un, .un, .un, .un, .un, .un, .un, .un] := by
    unfold L__law_least_states_1
    simp [e1]
  have l3 : L__law_least_states_3 [.d (.tuple R), .d (.list MN), .un, v3, .d (.dict (KT.map fun p => (p.1, toD p.2))), .un, .d (.int 0), .un, .un, .un, .un, .un, .un, .un, .un] = .nx [.d (.tuple R), .d (.list MN), .un, v3, .d (.dict KD), .un, .un, .un, .un, .un, .un, .un, .un, .un, .un] := by
    unfold L__law_least_states_3
    rcases h5 with rfl | ⟨d, rfl⟩ <;> simp [e2]
  have l5 : L__law_least_states_5 [.d (.tuple R), .d (.list MN), .un, v3, .d (.dict KD), .un, .un, .un, .un, .un, .own false (.tr (.dct [(.int (k0 : Nat), .dat (.int 0))])), .own false (.lst [.int 0]), .own false (.lst []), .un, .un] = .nx [.d (.tuple R), .d (.list MN), .un, .un, .d (.dict KD), .un, .un, .un, .un, .un, .own false (.tr (.dct NT)), .own false (.lst FN), .own false (.lst LD), .un, .un] := by
    unfold L__law_least_states_5
    rcases hv' with rfl | ⟨d, rfl⟩ <;> simp [e3]
  have d0 : dOkK ([] : List (DL.D × Tr)) (.int (k0 : Nat)) = true := rfl
  simp [m__law_least_states, c__law_least_states, fnP, l1, c0, dp, mk, l3, kx, d0, l5, zl]
end
def Tp (o : Own) : Prop := ∃ cs sd, o = .tape cs sd
theorem tp_draw {o : Own} (ho : Tp o) (many : Int) (h : 0 < many) (h2 : many < 1073741824) : ∃ (i : Nat) (o' : Own), m__law_draw o [.int many] = .ret (.int (i : Nat)) o' ∧ Tp o' ∧ (i : Int) < many := by
  obtain ⟨cs, sd, rfl⟩ := ho
  obtain ⟨i, cs', sd', e, i0, i1⟩ := draw_go cs sd many h h2
  obtain ⟨k, rfl⟩ : ∃ k : Nat, i = (k : Int) := ⟨i.toNat, by omega⟩
  exact ⟨k, _, e, ⟨_, _, rfl⟩, i1⟩
theorem tape_loop (L : DL.D) : ∀ (ns : List Int) (seed : Int) (s2 : SV), PlS s2 → ∃ seed' t2, PlS t2 ∧ forRun (setN 2) b__law_tape_0 (ns.map .int) [.d L, .d (.int seed), s2] = .nx [.d L, .d (.int seed'), t2]
  | [], seed, s2, h => ⟨seed, s2, h, rfl⟩
  | n :: ns, seed, s2, h => by
    have hset : setN 2 (.int n) [.d L, .d (.int seed), s2] = some [.d L, .d (.int seed), .d (.int n)] := by
      rcases h with rfl | ⟨d, rfl⟩ <;> simp
    obtain ⟨seed', t2, h2, e⟩ := tape_loop L ns ((seed * 31 + n) % 1000003) (.d (.int n)) (.inr ⟨_, rfl⟩)
    refine ⟨seed', t2, h2, ?_⟩
    rw [List.map_cons, ← e]
    exact forRun_one hset (by simp [b__law_tape_0, mulOk, fitZ])
theorem tape_ok (ns : List Int) (h : ns.length ≤ 63) : ∃ o, m__law_tape [.list (ns.map .int)] = .own o ∧ Tp o := by
  obtain ⟨seed', t2, h2, e⟩ := tape_loop (.list (ns.map .int)) ns 7 .un (.inl rfl)
  have l0 : L__law_tape_0 [.d (.list (ns.map .int)), .d (.int 7), .un] = .nx [.d (.list (ns.map .int)), .d (.int seed'), t2] := by
    unfold L__law_tape_0
    simp [e]
  have h1 : lc__law_tape_0 [.d (.list (ns.map .int)), .d (.int seed'), t2] = .ok ((ns.map fun i => if i < 0 then -i else i).map .int) [.d (.list (ns.map .int)), .d (.int seed'), t2] := by
    rw [List.map_map]
    rcases h2 with rfl | ⟨d, rfl⟩
    all_goals exact nlc_map ns .int _ (by simp) (by simp) (by simp; rfl) (by simp) (by omega) fun x hx => ⟨[.d (.list (ns.map .int)), .d (.int seed'), .d (.int x)], by simp, by simp [e__law_tape_0], by simp, by simp⟩
  have h3 := DL.ints_map (ns.map fun i => if i < 0 then -i else i)
  refine ⟨.tape (ns.map fun i => if i < 0 then -i else i) (seed' + 1), ?_, _, _, rfl⟩
  generalize (ns.map fun i => if i < 0 then -i else i).map PyData.int = AB at *
  simp [m__law_tape, c__law_tape, fnP, l0, h1, h3]
theorem pick_go (xs : List DL.D) (h : xs ≠ []) (hl : xs.length ≤ 1000) {o : Own} (ho : Tp o) : ∃ (x : DL.D) (o' : Own), m__law_pick o [.list xs] = .ret x o' ∧ Tp o' ∧ x ∈ xs := by
  have hp : 0 < xs.length := List.length_pos_iff.mpr h
  obtain ⟨k, o', e, ho', i1⟩ := tp_draw ho (xs.length : Nat) (by omega) (by omega)
  have hk : k < xs.length := by omega
  have ea : atI xs (k : Int) = some xs[k] := atI_nat xs k hk
  have z : xs.length ≤ sizeLine := le_line (by omega)
  refine ⟨xs[k], o', ?_, ho', List.getElem_mem _⟩
  simp [m__law_pick, c__law_pick, fnO, e, ea, z]
theorem string_go (L : Tx) (h0 : 1 ≤ L.length) (hL : L.length ≤ 1000) (lo hi : Nat) (hlo : lo ≤ hi) (hhi : hi ≤ 900) {o : Own} (ho : Tp o) :
    ∃ (w : Tx) (o' : Own), m__law_string o [.str (tx L), .int (lo : Nat), .int (hi : Nat)] = .ret (.str (tx w)) o' ∧ Tp o' ∧ (∀ c ∈ w, c ∈ L) ∧ lo ≤ w.length ∧ w.length ≤ hi := by
  obtain ⟨k, o1, e1, ho1, i1⟩ := tp_draw ho ((hi : Int) - lo + 1) (by omega) (by omega)
  have er : eRng1 (aCons (eBin dAdd (eVar 2) (eCallO 0 1 m__law_draw (aCons (eBin dAdd (eBin dSub (eVar 3) (eVar 2)) (eC (.int 1))) aNil))) aNil) [.own true o, .d (.str (tx L)), .d (.int (lo : Nat)), .d (.int (hi : Nat)), .un] = .ok ((List.range (lo + k)).map fun (i : Nat) => .int (i : Int)) [.own true o1, .d (.str (tx L)), .d (.int (lo : Nat)), .d (.int (hi : Nat)), .un] := by
    rw [← rng_map]
    exact range_ok (by simp [e1]) (by omega)
  obtain ⟨outs, s, e2, hs, ha⟩ := nlc_runA (S := Own) (vs := [4]) (set := setN 4) (fe := e__law_string_0) (List.range (lo + k)) (fun (i : Nat) => PyData.int (i : Int)) (fun o => [.own true o, .d (.str (tx L)), .d (.int (lo : Nat)), .d (.int (hi : Nat)), .un]) Tp (fun _ v => ∃ c : Ch, v = .str (tx [c]) ∧ c ∈ L) o1
    (fun o => [.own true o, .d (.str (tx L)), .d (.int (lo : Nat)), .d (.int (hi : Nat)), .un]) er (by simp) (by simp) ho1 (by intro s _; simp) (by simp; omega) (by
      intro x hx s hs
      obtain ⟨k, o', e, ho', i1⟩ := tp_draw hs (L.length : Nat) (by omega) (by omega)
      have hk : k < L.length := by omega
      have ea := atI_nat L k hk
      have e4 := dIx_tx L k (by omega)
      have zL : L.length ≤ sizeLine := le_line (by omega)
      exact ⟨_, [.own true o', .d (.str (tx L)), .d (.int (lo : Nat)), .d (.int (hi : Nat)), .d (.int x)], .str (tx [L[k]]), o', rfl, by simp [e__law_string_0, e, ea, zL], ho', ⟨L[k], rfl, List.getElem_mem _⟩, by simp, by simp⟩)
  obtain ⟨w, rfl, hw⟩ := all2_dec (fun c : Ch => .str (tx [c])) (P := fun _ c => c ∈ L) (fun _ v ⟨c, e, h⟩ => ⟨c, e, h⟩) ha
  have lw : w.length = lo + k := by rw [hw.len, List.length_range]
  have hj := dJoin_chrs w (by omega)
  refine ⟨w, s, ?_, hs, All2.right (P := fun c => c ∈ L) (fun _ _ h => h) hw, by omega, by omega⟩
  have e2 : lc__law_string_0 [.own true o, .d (.str (tx L)), .d (.int (lo : Nat)), .d (.int (hi : Nat)), .un] = .ok (chrs w) [.own true s, .d (.str (tx L)), .d (.int (lo : Nat)), .d (.int (hi : Nat)), .un] := e2
  simp [m__law_string, c__law_string, fnO, e2, dTy, hj]
inductive PlD : Nat → DL.D → Prop
  | int (n : Nat) (i : Int) : PlD n (.int i)
  | bool (n : Nat) (b : Bool) : PlD n (.bool b)
  | str (n : Nat) (l : Tx) : PlD n (.str (tx l))
  | none (n : Nat) : PlD n .none
  | tup (n : Nat) (ds : List DL.D) (h : ∀ d ∈ ds, PlD n d) (hl : ds.length ≤ 10000) : PlD (n + 1) (.tuple ds)
theorem lsA_ok {A : Au} (h : AuOk A) : AuOk (lsA A) := by
  have M := metF_ok h
  exact lst_ok h M (frsF_ok h M)
theorem lsA_sam {A : Au} (h : AuOk A) {w : List Nat} (hw : Wd28 w) : Lg (lsA A) 0 w = Lg A 0 w := by
  have M := metF_ok h
  have D := frsF_ok h M (K := kindF A (metF A))
  have l0 : 0 < (frsF A (metF A) (kindF A (metF A))).length := (List.getElem?_eq_some_iff.mp D.z).1
  have := lst_sam h M D (kindF_ok h M) w 0 l0 hw
  have z : (frsF A (metF A) (kindF A (metF A)))[0] = 0 := (List.getElem?_eq_some_iff.mp D.z).2
  rw [z] at this
  exact this
theorem lsA_tk {A : Au} (h : AuOk A) {w : Tx} (hw : OkT w) : tkB (lsA A) w = tkB A w := by
  unfold tkB
  rw [lsA_sam h (cdW_ok hw)]
section
variable {τ : Type} [DecidableEq τ] (nxt : τ → List τ) (out : τ → Nat)
def expW : Nat → List τ → Nat → List τ
  | 0, o, _ => o
  | f + 1, o, i => if h : i < o.length then expW f (addA o (nxt o[i])) (i + 1) else o
structure ExpI (U : List τ) (s0 : τ) (o : List τ) (i : Nat) : Prop where
  nd : o.Nodup
  z : o[0]? = some s0
  sub : ∀ s ∈ o, s ∈ U
  cl : ∀ j (hj : j < o.length), j < i → ∀ m ∈ nxt o[j], m ∈ o
  le : i ≤ o.length
structure ExpD (U : List τ) (s0 : τ) (o : List τ) : Prop where
  nd : o.Nodup
  z : o[0]? = some s0
  sub : ∀ s ∈ o, s ∈ U
  cl : ∀ s ∈ o, ∀ m ∈ nxt s, m ∈ o
def rowT (o : List τ) (s : τ) : List Nat × Nat := ((nxt s).map (ixO o), out s)
def auT (o : List τ) : Au := o.map (rowT nxt out o)
def goT : τ → List Nat → τ
  | s, [] => s
  | s, c :: w => goT ((nxt s).getD c s) w
def LgT (s : τ) (w : List Nat) : Nat := out (goT nxt s w)
abbrev exF (U : List τ) (s0 : τ) : List τ := expW nxt (U.length + 1) [s0] 0
end
section
variable {τ : Type} [DecidableEq τ] {nxt : τ → List τ} {out : τ → Nat} {U : List τ} {s0 : τ}
theorem ExpI.len {o : List τ} {i : Nat} (I : ExpI nxt U s0 o i) : o.length ≤ U.length := nd_le I.nd I.sub
theorem ExpD.len {o : List τ} (I : ExpD nxt U s0 o) : o.length ≤ U.length := nd_le I.nd I.sub
theorem ExpI.step (hU : ∀ s ∈ U, ∀ m ∈ nxt s, m ∈ U) {o : List τ} {i : Nat} (I : ExpI nxt U s0 o i) (hi : i < o.length) : ExpI nxt U s0 (addA o (nxt o[i])) (i + 1) := by
  obtain ⟨t, ht⟩ := addA_pre (nxt o[i]) o
  have hs := I.sub _ (List.getElem_mem hi)
  refine ⟨addA_nd _ I.nd, ?_, fun s m => ?_, fun j hj hji m hm => ?_, ?_⟩
  · rw [ht, List.getElem?_append_left (by omega)]
    exact I.z
  · rcases (mem_addA _).mp m with m | m
    · exact I.sub s m
    · exact hU _ hs _ m
  · have hjo : j < o.length := by omega
    have e : (addA o (nxt o[i]))[j] = o[j] := by
      simp only [ht]
      exact List.getElem_append_left hjo
    rw [e] at hm
    refine (mem_addA _).mpr ?_
    by_cases hj2 : j < i
    · exact .inl (I.cl j hjo hj2 m hm)
    · have : j = i := by omega
      subst this
      exact .inr hm
  · rw [ht, List.length_append]
    omega
theorem exp0 (h0 : s0 ∈ U) : ExpI nxt U s0 [s0] 0 := ⟨by simp, rfl, fun s hs => by rw [List.mem_singleton.mp hs]; exact h0, fun j _ hj => absurd hj (Nat.not_lt_zero _), Nat.zero_le _⟩
theorem ExpI.done {o : List τ} {i : Nat} (I : ExpI nxt U s0 o i) (hi : o.length ≤ i) : ExpD nxt U s0 o := ⟨I.nd, I.z, I.sub, fun s hs m hm => by
  obtain ⟨j, hj, rfl⟩ := List.getElem_of_mem hs
  exact I.cl j hj (by omega) m hm⟩
theorem expW_stop : ∀ (f : Nat) {o : List τ} {i : Nat}, o.length ≤ i → expW nxt f o i = o
  | 0, _, _, _ => rfl
  | f + 1, o, i, hi => by
    unfold expW
    rw [dif_neg (by omega)]
theorem rowT_more {o t : List τ} {s : τ} (h : ∀ m ∈ nxt s, m ∈ o) : rowT nxt out (o ++ t) s = rowT nxt out o s := by
  unfold rowT
  rw [Prod.mk.injEq]
  exact ⟨List.map_congr_left fun m hm => ixO_pre (h m hm), rfl⟩
abbrev rwF (nxt : τ → List τ) (out : τ → Nat) (o : List τ) (i : Nat) : List DL.D := (o.take i).map fun s => rwD (rowT nxt out o s)
theorem rwF_step {o : List τ} {i : Nat} (I : ExpI nxt U s0 o i) (hi : i < o.length) :
    rwF nxt out (addA o (nxt o[i])) (i + 1) = rwF nxt out o i ++ [rwD (rowT nxt out (addA o (nxt o[i])) o[i])] := by
  obtain ⟨t, ht⟩ := addA_pre (nxt o[i]) o
  have e1 : (addA o (nxt o[i])).take (i + 1) = o.take i ++ [o[i]] := by
    rw [ht, List.take_append_of_le_length (by omega), List.take_succ_eq_append_getElem hi]
  unfold rwF
  rw [e1, List.map_append]
  congr 1
  refine List.map_congr_left fun s hs => ?_
  obtain ⟨j, hj, rfl⟩ := List.getElem_of_mem hs
  rw [List.length_take] at hj
  have hj1 : j < o.length := by omega
  have e2 : (o.take i)[j] = o[j] := List.getElem_take
  simp only [e2]
  rw [ht, rowT_more (I.cl j hj1 (by omega))]
theorem auT_ok {o : List τ} (D : ExpD nxt U s0 o) (hl : U.length ≤ 100) (h28 : ∀ s ∈ U, (nxt s).length = 28) (ho : ∀ s ∈ U, out s ≤ 1) : AuOk (auT nxt out o) := by
  have := D.len
  refine ⟨?_, by unfold auT; rw [List.length_map]; omega, fun q hq => ?_⟩
  · have := (List.getElem?_eq_some_iff.mp D.z).1
    unfold auT
    rw [List.length_map]
    omega
  · obtain ⟨s, hs, rfl⟩ := List.mem_map.mp hq
    refine ⟨by unfold rowT; rw [List.length_map]; exact h28 s (D.sub s hs), fun m hm => ?_, ho s (D.sub s hs)⟩
    obtain ⟨n, hn, rfl⟩ := List.mem_map.mp hm
    unfold auT
    rw [List.length_map]
    exact ixO_lt (D.cl s hs n hn)
theorem auT_sam {o : List τ} (D : ExpD nxt U s0 o) (h28 : ∀ s ∈ U, (nxt s).length = 28) : ∀ (w : List Nat) (s : τ), s ∈ o → Wd28 w → Lg (auT nxt out o) (ixO o s) w = LgT nxt out s w
  | [], s, hs, _ => by
    show (rwA (auT nxt out o) (ixO o s)).2 = out s
    unfold rwA auT
    rw [List.getD_eq_getElem?_getD, List.getElem?_map, ixO_get hs]
    rfl
  | c :: w, s, hs, hw => by
    have hc : c < 28 := hw c (by simp)
    have hl := h28 s (D.sub s hs)
    have e0 : (nxt s).getD c s = (nxt s)[c]'(by omega) := by
      rw [List.getD_eq_getElem?_getD, List.getElem?_eq_getElem (by omega)]
      rfl
    have hm : (nxt s)[c]'(by omega) ∈ o := D.cl s hs _ (List.getElem_mem _)
    have e1 : nx (auT nxt out o) (ixO o s) c = ixO o ((nxt s).getD c s) := by
      unfold nx rwA auT
      rw [List.getD_eq_getElem?_getD (l := o.map _), List.getElem?_map, ixO_get hs]
      show (rowT nxt out o s).1.getD c 0 = _
      unfold rowT
      simp only
      rw [e0, List.getD_eq_getElem?_getD, List.getElem?_map, List.getElem?_eq_getElem (by omega)]
      rfl
    rw [Lg_cons, e1]
    show _ = LgT nxt out ((nxt s).getD c s) w
    refine auT_sam D h28 w _ ?_ fun x hx => hw x (by simp [hx])
    rw [e0]
    exact hm
end
abbrev MkE {τ : Type} [DecidableEq τ] (kd : τ → DL.D) (u : Tr) (X : SV) (o : List τ) (rows NX OUT v : SV) : DL.Env := [.own true (.tr u), X, .own false (.tr (.dct (nuT kd o))), .own false (.lst (o.map kd)), rows, NX, OUT, v]
section
variable {τ : Type} [DecidableEq τ] {kd : τ → DL.D} (hk : KdO kd)
include hk
theorem mk_body (u : Tr) (X rows NX OUT : SV) {o : List τ} (m : τ) (ho : o.length ≤ 1000) :
    b_Placer_made_0 (MkE kd u X o rows NX OUT (.d (kd m))) = .nx (MkE kd u X (add1 o m) rows NX OUT (.d (kd m))) := by
  have n0 := nu_ok hk o m
  have z1 : (o.map kd).length = o.length := List.length_map ..
  have z5 : o.length < sizeLine := lt_line (by omega)
  have z6 : o.length ≤ sizeLine := Nat.le_of_lt z5
  have z4 : (nuT kd o).length < sizeLine := by simp; exact z5
  have ne : ¬ ((o.length : Nat) : Int) = 2000 := by omega
  unfold MkE
  by_cases hx : m ∈ o
  · obtain ⟨n, n1, n2⟩ := nu_in hk hx
    have ea : add1 o m = o := if_pos hx
    rw [ea]
    generalize nuT kd o = NT at *
    generalize o.map kd = ON at *
    generalize kd m = km at *
    simp [b_Placer_made_0, n0, n1, n2, atP, rootT]
  · have n1 := nu_no hk hx
    have n2 := nu_put hk hx
    have ea : add1 o m = o ++ [m] := if_neg hx
    have e2 : (o ++ [m]).map kd = o.map kd ++ [kd m] := by rw [List.map_append]; rfl
    rw [ea, e2, ← n2]
    generalize nuT kd o = NT at *
    generalize o.map kd = ON at *
    generalize kd m = km at *
    simp [b_Placer_made_0, n0, n1, z1, z4, z5, z6, ne, d_MOST_AUTOMATON, atP, rootT]
omit hk in
theorem add1_len {τ : Type} [DecidableEq τ] (o : List τ) (m : τ) : (add1 o m).length ≤ o.length + 1 := by
  unfold add1
  split <;> simp
theorem mk_all (u : Tr) (X rows NX OUT : SV) : ∀ (ms o : List τ) (v : SV), PlS v → o.length + ms.length ≤ 1000 →
    ∃ v', PlS v' ∧ forRun (setN 7) b_Placer_made_0 (ms.map kd) (MkE kd u X o rows NX OUT v) = .nx (MkE kd u X (addA o ms) rows NX OUT v')
  | [], o, v, hv, _ => ⟨v, hv, by simp [forRun, addA]⟩
  | m :: ms, o, v, hv, hl => by
    have hl : o.length + (ms.length + 1) ≤ 1000 := hl
    have h1 := add1_len o m
    obtain ⟨v', h2, h3⟩ := mk_all u X rows NX OUT ms (add1 o m) (.d (kd m)) (.inr ⟨_, rfl⟩) (by omega)
    refine ⟨v', h2, ?_⟩
    rw [addA_cons, ← h3]
    exact forRun_one (by rcases hv with rfl | ⟨d, rfl⟩ <;> simp [MkE]) (mk_body hk u X rows NX OUT m (by omega))
theorem mk_lc (u : Tr) (X rows OUT : SV) {o ns : List τ} {v : SV} (hv : PlS v) (hm : ∀ m ∈ ns, m ∈ o) (hl : ns.length ≤ 1000) :
    lc_Placer_made_0 (MkE kd u X o rows (.d (.list (ns.map kd))) OUT v) = .ok (intN (ns.map (ixO o))) (MkE kd u X o rows (.d (.list (ns.map kd))) OUT v) := by
  have e : intN (ns.map (ixO o)) = ns.map fun m => .int (ixO o m : Nat) := by rw [intN, List.map_map]; rfl
  have el : ∀ m ∈ ns, e_Placer_made_0 (MkE kd u X o rows (.d (.list (ns.map kd))) OUT (.d (kd m))) = .ok (.val (.int (ixO o m : Nat))) (MkE kd u X o rows (.d (.list (ns.map kd))) OUT (.d (kd m))) := fun m hx => by
    have n0 := nu_ok hk o m
    obtain ⟨n, n1, n2⟩ := nu_in hk (hm m hx)
    unfold MkE
    generalize nuT kd o = NT at *
    generalize ixO o m = ix at *
    generalize kd m = km at *
    generalize ns.map kd = NS at *
    generalize o.map kd = ON at *
    simp [e_Placer_made_0, n0, n1, n2, atP, rootT]
  rw [e]
  unfold MkE at *
  generalize nuT kd o = NT at *
  generalize o.map kd = ON at *
  rcases hv with rfl | ⟨d, rfl⟩
  all_goals exact nlc_map ns kd _ (by simp) (by simp) (by simp; rfl) (by simp) (by omega) fun x hx => ⟨[.own true (.tr u), X, .own false (.tr (.dct NT)), .own false (.lst ON), rows, .d (.list (ns.map kd)), OUT, .d (kd x)], by simp, el x hx, by simp, by simp⟩
end
section
variable {τ : Type} [DecidableEq τ] {kd : τ → DL.D} (hk : KdO kd) {nxt : τ → List τ} {out : τ → Nat} {U : List τ} {s0 : τ} (hU : ∀ s ∈ U, ∀ m ∈ nxt s, m ∈ U) (h0 : s0 ∈ U) (hl : U.length ≤ 100) (h28 : ∀ s ∈ U, (nxt s).length = 28)
variable {fl : List (Str × Tr)} (hf : fldIx fl "row_of" = none) (hrow : ∀ s ∈ U, m_Placer_row_of (.tr (.obj "Placer" fl)) [kd s] = .ret (.tuple [.list ((nxt s).map kd), .int (out s : Nat)]) (.tr (.obj "Placer" fl)))
abbrev MwE (kd : τ → DL.D) (nxt : τ → List τ) (out : τ → Nat) (fl : List (Str × Tr)) (X : SV) (o : List τ) (i : Nat) (v : SV) : DL.Env := MkE kd (.obj "Placer" fl) X o (.own false (.lst (rwF nxt out o i))) .un .un v
include hk hU h0 hl h28 hf hrow
theorem mkw_body (X : SV) {o : List τ} {i : Nat} (I : ExpI nxt U s0 o i) (hi : i < o.length) {v : SV} (hv : PlS v) :
    ∃ v', PlS v' ∧ b_Placer_made_1 (MwE kd nxt out fl X o i v) = .nx (MwE kd nxt out fl X (addA o (nxt o[i])) (i + 1) v') := by
  have hlo := I.len
  have hso := I.sub _ (List.getElem_mem hi)
  have hr := h28 _ hso
  have rw0 := hrow _ hso
  have e1 := rwF_step (out := out) I hi
  obtain ⟨v', hv', fr⟩ := mk_all hk (.obj "Placer" fl) X (.own false (.lst (rwF nxt out o i))) (.d (.list ((nxt o[i]).map kd))) (.d (.int (out o[i] : Nat))) (nxt o[i]) o v hv (by omega)
  have lc := mk_lc hk (.obj "Placer" fl) X (.own false (.lst (rwF nxt out o i))) (.d (.int (out o[i] : Nat))) (o := addA o (nxt o[i])) (ns := nxt o[i]) hv' (fun m hm => (mem_addA _).mpr (.inr hm)) (by omega)
  refine ⟨v', hv', ?_⟩
  have g1 : dIxA (.list (o.map kd)) (.int (i : Nat)) = some (kd o[i]) := by
    rw [dIxA_l, dIx_l, atI_map, atI_some (List.getElem?_eq_getElem hi)]
    rfl
  have lf : (rwF nxt out o i).length = i := by simp; omega
  have z5 : i < sizeLine := lt_line (by omega)
  have z6 : i ≤ sizeLine := Nat.le_of_lt z5
  have z3 : (2 : Nat) ≤ sizeLine := le_line (by decide)
  have rq : rwD (rowT nxt out (addA o (nxt o[i])) o[i]) = .tuple [.tuple (intN ((nxt o[i]).map (ixO (addA o (nxt o[i]))))), .int (out o[i] : Nat)] := rfl
  have z4 : (intN ((nxt o[i]).map (ixO (addA o (nxt o[i]))))).length ≤ sizeLine := by simp; exact le_line (by omega)
  rw [rq] at e1
  unfold MwE
  rw [e1]
  clear e1 rq
  generalize intN ((nxt o[i]).map (ixO (addA o (nxt o[i])))) = IX at *
  generalize addA o (nxt o[i]) = o2 at *
  generalize rwF nxt out o i = FQ at *
  generalize out o[i] = ou at *
  generalize (nxt o[i]).map kd = NX at *
  unfold MkE at *
  generalize nuT kd o = NT at *
  generalize nuT kd o2 = NT2 at *
  generalize kd o[i] = Ki at *
  generalize o.map kd = ON at *
  generalize o2.map kd = ON2 at *
  have l0 : L_Placer_made_0 [.own true (.tr (.obj "Placer" fl)), X, .own false (.tr (.dct NT)), .own false (.lst ON), .own false (.lst FQ), .d (.list NX), .d (.int (ou : Nat)), v] = .nx [.own true (.tr (.obj "Placer" fl)), X, .own false (.tr (.dct NT2)), .own false (.lst ON2), .own false (.lst FQ), .d (.list NX), .d (.int (ou : Nat)), v'] := by
    unfold L_Placer_made_0
    simp [fr]
  simp [-dIxA_l, -dIxA_t, b_Placer_made_1, lf, z5, z6, z3, z4, g1, rw0, l0, lc, hf, atP, rootT]
omit hk hU h0 h28 hf hrow in
theorem mkw_test (X : SV) {o : List τ} {i : Nat} (I : ExpI nxt U s0 o i) (v : SV) : t_Placer_made_1001 (MwE kd nxt out fl X o i v) = .ok (decide (i < o.length)) (MwE kd nxt out fl X o i v) := by
  have hlo := I.len
  have hle := I.le
  have lf : (rwF nxt out o i).length = i := by simp; omega
  have lF : (o.map kd).length = o.length := List.length_map ..
  have z1 : i ≤ sizeLine := le_line (by omega)
  have z2 : o.length ≤ sizeLine := le_line (by omega)
  unfold MwE MkE
  generalize rwF nxt out o i = FQ at *
  generalize nuT kd o = NT at *
  generalize o.map kd = ON at *
  simp [t_Placer_made_1001, lf, lF, z1, z2]
theorem mkw_all (X : SV) : ∃ v', PlS v' ∧ ExpD nxt U s0 (exF nxt U s0) ∧ whileRun t_Placer_made_1001 b_Placer_made_1 fuelN (MwE kd nxt out fl X [s0] 0 .un) = .nx (MwE kd nxt out fl X (exF nxt U s0) (exF nxt U s0).length v') := by
  obtain ⟨st, e1, ⟨I1, I2, I3⟩, e2⟩ := while_go (S := List τ × Nat × SV) (t := t_Placer_made_1001) (body := b_Placer_made_1) (fun s => MwE kd nxt out fl X s.1 s.2.1 s.2.2)
    (fun s => ExpI nxt U s0 s.1 s.2.1 ∧ expW nxt (U.length + 1 - s.2.1) s.1 s.2.1 = exF nxt U s0 ∧ PlS s.2.2) (fun s => U.length + 1 - s.2.1) (fun s => s.1.length ≤ s.2.1) (fun s ⟨I, e, hv⟩ => by
      obtain ⟨o, i, v⟩ := s
      simp only at I e hv ⊢
      have tt := mkw_test hl (kd := kd) (out := out) (fl := fl) X I v
      have hlo := I.len
      by_cases hi : i < o.length
      · rw [decide_eq_true hi] at tt
        obtain ⟨v', hv', bb⟩ := mkw_body hk hU h0 hl h28 hf hrow X I hi hv
        refine .inr ⟨tt, (addA o (nxt o[i]), i + 1, v'), .inl bb, ⟨I.step hU hi, ?_, hv'⟩, by simp only; omega⟩
        rw [show U.length + 1 - i = (U.length + 1 - (i + 1)) + 1 by omega] at e
        unfold expW at e
        rw [dif_pos hi] at e
        exact e
      · rw [decide_eq_false hi] at tt
        exact .inl ⟨tt, by omega⟩) fuelN ([s0], 0, .un) ⟨exp0 h0, rfl, .inl rfl⟩ (by simp [fuelN]; omega)
  obtain ⟨o, i, v'⟩ := st
  simp only at e1 I1 I2 I3 e2
  have hle := I1.le
  have hi : i = o.length := by omega
  rw [expW_stop _ e2] at I2
  subst hi
  rw [← I2]
  exact ⟨v', I3, I1.done (Nat.le_refl _), e1⟩
theorem made_ok (ho : ∀ s ∈ U, out s ≤ 1) : m_Placer_made (.tr (.obj "Placer" fl)) [kd s0] = .ret (auD (lsA (auT nxt out (exF nxt U s0)))) (.tr (.obj "Placer" fl)) ∧ ExpD nxt U s0 (exF nxt U s0) ∧ AuOk (auT nxt out (exF nxt U s0)) := by
  obtain ⟨v', hv', D, e3⟩ := mkw_all hk hU h0 hl h28 hf hrow (.d (kd s0))
  have A := auT_ok (out := out) D hl h28 ho
  refine ⟨?_, D, A⟩
  have e4 := lsof_ok A
  have e5 : rwF nxt out (exF nxt U s0) (exF nxt U s0).length = (auT nxt out (exF nxt U s0)).map rwD := by
    unfold rwF auT
    rw [List.take_length, List.map_map]
    rfl
  unfold MwE at e3
  rw [e5] at e3
  have e6 : rwF nxt out [s0] 0 = [] := rfl
  rw [e6] at e3
  have e7 : nuT kd [s0] = [(kd s0, .dat (.int 0))] := rfl
  unfold MkE at e3
  rw [e7] at e3
  have d0 : dOkK ([] : List (DL.D × Tr)) (kd s0) = true := nu_ok hk [] s0
  have e3 : whileRun t_Placer_made_1001 b_Placer_made_1 fuelN [.own true (.tr (.obj "Placer" fl)), .d (kd s0), .own false (.tr (.dct [(kd s0, .dat (.int 0))])), .own false (.lst [kd s0]), .own false (.lst []), .un, .un, .un] = _ := e3
  generalize (auT nxt out (exF nxt U s0)).map rwD = RW at *
  generalize auD (lsA (auT nxt out (exF nxt U s0))) = LA at *
  generalize nuT kd (exF nxt U s0) = NT at *
  generalize (exF nxt U s0).map kd = ON at *
  generalize kd s0 = K0 at *
  have l1 : L_Placer_made_1 [.own true (.tr (.obj "Placer" fl)), .d K0, .own false (.tr (.dct [(K0, .dat (.int 0))])), .own false (.lst [K0]), .own false (.lst []), .un, .un, .un] = .nx [.own true (.tr (.obj "Placer" fl)), .d K0, .own false (.tr (.dct NT)), .own false (.lst ON), .own false (.lst RW), .un, .un, .un] := by
    unfold L_Placer_made_1
    rcases hv' with rfl | ⟨d, rfl⟩ <;> simp [e3]
  simp [m_Placer_made, c_Placer_made, fnO, d0, l1, e4]
end
abbrev PS := Option (Nat × Bool)
def kdP : PS → DL.D
  | none => .tuple []
  | some (m, b) => .tuple [.int (m : Nat), .bool b]
theorem kdo_P : KdO kdP := by
  refine ⟨fun a b => ?_, .inr fun a => ?_⟩
  · cases a with
    | none =>
      cases b with
      | none => simp
      | some q => obtain ⟨m, b⟩ := q; simp [kdP, nkOf, nksOf]
    | some p =>
      obtain ⟨m, c⟩ := p
      cases b with
      | none => simp [kdP, nkOf, nksOf]
      | some q =>
        obtain ⟨k, d⟩ := q
        simp only [kdP, nkOf, nksOf, Option.map_some, Option.bind_some]
        cases c <;> cases d <;> simp <;> omega
  · cases a with
    | none => decide
    | some p => obtain ⟨m, c⟩ := p; simp [kk1, kdP, nkOf, nksOf, NestedKey.depth, NestedKey.depthAll]
def nxtP (l r : Nat) : PS → List PS
  | none => List.replicate 28 none
  | some (m, b) => List.replicate 26 (some (min (m + 1) (max l r), b)) ++ [none, if l ≤ m then some (0, true) else none]
def outP (r : Nat) : PS → Nat
  | none => 0
  | some (m, b) => if (if b then r else 1) ≤ m then 1 else 0
abbrev flP (l r : Nat) : List (Str × Tr) := [("left", .dat (.int (l : Nat))), ("right", .dat (.int (r : Nat)))]
theorem row_none (l r : Nat) : m_Placer_row_of (.tr (.obj "Placer" (flP l r))) [.tuple []] = .ret (.tuple [.list (List.replicate 28 (.tuple [])), .int 0]) (.tr (.obj "Placer" (flP l r))) := by
  have z2 : (2 : Nat) ≤ sizeLine := le_line (by decide)
  have e0 : dEq (.tuple []) (.tuple []) = some (.bool true) := by kernel_rfl
  have c1 : lc_Placer_row_of_0 [.own true (.tr (.obj "Placer" (flP l r))), .d (.tuple []), .un, .un, .un, .un, .un] = .ok (List.replicate 28 (.tuple [])) [.own true (.tr (.obj "Placer" (flP l r))), .d (.tuple []), .un, .un, .un, .un, .un] := by
    have := nlc_map (vs := [2]) (fi := eRng1 (aCons (eC (.int 28)) aNil)) (set := setN 2) (fe := e_Placer_row_of_0) (ρ := [.own true (.tr (.obj "Placer" (flP l r))), .d (.tuple []), .un, .un, .un, .un, .un]) (ρ1 := [.own true (.tr (.obj "Placer" (flP l r))), .d (.tuple []), .un, .un, .un, .un, .un]) (List.range 28) (fun (i : Nat) => .int (i : Int)) (fun _ => .tuple []) (by rw [← rng_map]; exact range_ok (n := 28) (by simp) (by omega)) (by simp) (ρ0 := [.own true (.tr (.obj "Placer" (flP l r))), .d (.tuple []), .un, .un, .un, .un, .un]) (by simp) (by simp) (by simp) fun x hx => ⟨[.own true (.tr (.obj "Placer" (flP l r))), .d (.tuple []), .d (.int (x : Nat)), .un, .un, .un, .un], by simp, by simp [e_Placer_row_of_0], by simp, by simp⟩
    rw [List.map_const', List.length_range] at this
    exact this
  generalize List.replicate 28 (PyData.tuple []) = RP at *
  simp [m_Placer_row_of, c_Placer_row_of, fnO, e0, c1, z2]
theorem row_some (l r m : Nat) (b : Bool) : m_Placer_row_of (.tr (.obj "Placer" (flP l r))) [.tuple [.int (m : Nat), .bool b]] = .ret (.tuple [.list ((nxtP l r (some (m, b))).map kdP), .int (outP r (some (m, b)) : Nat)]) (.tr (.obj "Placer" (flP l r))) := by
  have z2 : (2 : Nat) ≤ sizeLine := le_line (by decide)
  have z27 : (27 : Nat) ≤ sizeLine := le_line (by decide)
  have z26 : (26 : Nat) ≤ sizeLine := le_line (by decide)
  have z27' : (27 : Nat) < sizeLine := lt_line (by decide)
  have e0 : dEq (.tuple [.int (m : Nat), .bool b]) (.tuple []) = some (.bool false) := by
    simp [dEq, SeqAt.shaped, PyData.canLay0, PyData.canLayAll0, PyData.depth, PyData.depthAll, PyData.eqv, PyData.eqvAll]
  have e1 : dMaxA [.int (l : Nat), .int (r : Nat)] = some (.int ((max l r : Nat) : Int)) := by
    simp [dMax]
    omega
  have e2 : dMinA [.int ((m : Int) + 1), .int ((max l r : Nat) : Int)] = some (.int ((min (m + 1) (max l r) : Nat) : Int)) := by
    rw [dMinA_2]
    simp only [dMin]
    congr 2
    omega
  have eN : (nxtP l r (some (m, b))).map kdP = List.replicate 26 (.tuple [.int ((min (m + 1) (max l r) : Nat) : Int), .bool b]) ++ [.tuple []] ++ [if l ≤ m then .tuple [.int 0, .bool true] else .tuple []] := by
    unfold nxtP
    rw [List.map_append, List.map_replicate, List.append_assoc]
    congr 1
    by_cases h : l ≤ m
    · simp [h, kdP]
    · simp [h, kdP]
  have eO : ((outP r (some (m, b)) : Nat) : Int) = if (if b then r else 1) ≤ m then 1 else 0 := by
    show (((if (if b then r else 1) ≤ m then 1 else 0 : Nat)) : Int) = _
    by_cases h : (if b then r else 1) ≤ m
    · rw [if_pos h, if_pos h]
      rfl
    · rw [if_neg h, if_neg h]
      rfl
  have c1 : lc_Placer_row_of_1 [.own true (.tr (.obj "Placer" (flP l r))), .d (.tuple [.int (m : Nat), .bool b]), .un, .d (.int (m : Nat)), .d (.bool b), .d (.tuple [.int ((min (m + 1) (max l r) : Nat) : Int), .bool b]), .un] = .ok (List.replicate 26 (.tuple [.int ((min (m + 1) (max l r) : Nat) : Int), .bool b])) [.own true (.tr (.obj "Placer" (flP l r))), .d (.tuple [.int (m : Nat), .bool b]), .un, .d (.int (m : Nat)), .d (.bool b), .d (.tuple [.int ((min (m + 1) (max l r) : Nat) : Int), .bool b]), .un] := by
    generalize (PyData.tuple [.int ((min (m + 1) (max l r) : Nat) : Int), .bool b]) = T at *
    have := nlc_map (vs := [2]) (fi := eRng1 (aCons (eC (.int 26)) aNil)) (set := setN 2) (fe := e_Placer_row_of_1) (ρ := [.own true (.tr (.obj "Placer" (flP l r))), .d (.tuple [.int (m : Nat), .bool b]), .un, .d (.int (m : Nat)), .d (.bool b), .d T, .un]) (ρ1 := [.own true (.tr (.obj "Placer" (flP l r))), .d (.tuple [.int (m : Nat), .bool b]), .un, .d (.int (m : Nat)), .d (.bool b), .d T, .un]) (List.range 26) (fun (i : Nat) => .int (i : Int)) (fun _ => T) (by rw [← rng_map]; exact range_ok (n := 26) (by simp) (by omega)) (by simp) (ρ0 := [.own true (.tr (.obj "Placer" (flP l r))), .d (.tuple [.int (m : Nat), .bool b]), .un, .d (.int (m : Nat)), .d (.bool b), .d T, .un]) (by simp) (by simp) (by simp) fun x hx => ⟨[.own true (.tr (.obj "Placer" (flP l r))), .d (.tuple [.int (m : Nat), .bool b]), .d (.int (x : Nat)), .d (.int (m : Nat)), .d (.bool b), .d T, .un], by simp, by simp [e_Placer_row_of_1], by simp, by simp⟩
    rw [List.map_const', List.length_range] at this
    exact this
  rw [eN, eO]
  have lr : (List.replicate 26 (PyData.tuple [.int ((min (m + 1) (max l r) : Nat) : Int), .bool b])).length = 26 := List.length_replicate
  generalize List.replicate 26 (PyData.tuple [.int ((min (m + 1) (max l r) : Nat) : Int), .bool b]) = RP at *
  generalize min (m + 1) (max l r) = K at *
  generalize max l r = M at *
  by_cases h : l ≤ m
  · have h' : (l : Int) ≤ (m : Int) := by omega
    cases b with
    | true =>
      by_cases h2 : r ≤ m
      · have h2' : (r : Int) ≤ (m : Int) := by omega
        simp [m_Placer_row_of, c_Placer_row_of, fnO, e0, e1, e2, c1, z2, z26, z27, z27', lr, h, h', h2, h2', atP, rootT, fldIx]
      · have h2' : ¬ (r : Int) ≤ (m : Int) := by omega
        simp [m_Placer_row_of, c_Placer_row_of, fnO, e0, e1, e2, c1, z2, z26, z27, z27', lr, h, h', h2, h2', atP, rootT, fldIx]
    | false =>
      by_cases h2 : 1 ≤ m
      · have h2' : (1 : Int) ≤ (m : Int) := by omega
        simp [m_Placer_row_of, c_Placer_row_of, fnO, e0, e1, e2, c1, z2, z26, z27, z27', lr, h, h', h2, h2', atP, rootT, fldIx]
      · have h2' : ¬ (1 : Int) ≤ (m : Int) := by omega
        simp [m_Placer_row_of, c_Placer_row_of, fnO, e0, e1, e2, c1, z2, z26, z27, z27', lr, h, h', h2, h2', atP, rootT, fldIx]
  · have h' : ¬ (l : Int) ≤ (m : Int) := by omega
    cases b with
    | true =>
      by_cases h2 : r ≤ m
      · have h2' : (r : Int) ≤ (m : Int) := by omega
        simp [m_Placer_row_of, c_Placer_row_of, fnO, e0, e1, e2, c1, z2, z26, z27, z27', lr, h, h', h2, h2', atP, rootT, fldIx]
      · have h2' : ¬ (r : Int) ≤ (m : Int) := by omega
        simp [m_Placer_row_of, c_Placer_row_of, fnO, e0, e1, e2, c1, z2, z26, z27, z27', lr, h, h', h2, h2', atP, rootT, fldIx]
    | false =>
      by_cases h2 : 1 ≤ m
      · have h2' : (1 : Int) ≤ (m : Int) := by omega
        simp [m_Placer_row_of, c_Placer_row_of, fnO, e0, e1, e2, c1, z2, z26, z27, z27', lr, h, h', h2, h2', atP, rootT, fldIx]
      · have h2' : ¬ (1 : Int) ≤ (m : Int) := by omega
        simp [m_Placer_row_of, c_Placer_row_of, fnO, e0, e1, e2, c1, z2, z26, z27, z27', lr, h, h', h2, h2', atP, rootT, fldIx]
section
variable (l r : Nat)
def uniP : List PS := none :: (List.range (max l r + 1)).flatMap fun m => [some (m, false), some (m, true)]
theorem uni_len : ∀ n : Nat, ((List.range n).flatMap fun m => ([some (m, false), some (m, true)] : List PS)).length = 2 * n := fun n => by
  rw [List.length_flatMap]
  simp
  rw [List.map_const', List.sum_replicate_nat, List.length_range]
  omega
theorem uni_mem {m : Nat} {b : Bool} (h : m ≤ max l r) : some (m, b) ∈ uniP l r := by
  unfold uniP
  refine List.mem_cons_of_mem _ (List.mem_flatMap.mpr ⟨m, List.mem_range.mpr (by omega), ?_⟩)
  cases b <;> simp
theorem uni_in {s : PS} (h : s ∈ uniP l r) : s = none ∨ ∃ m b, s = some (m, b) ∧ m ≤ max l r := by
  unfold uniP at h
  rcases List.mem_cons.mp h with h | h
  · exact .inl h
  · obtain ⟨m, hm, h⟩ := List.mem_flatMap.mp h
    have := List.mem_range.mp hm
    simp at h
    rcases h with h | h
    · exact .inr ⟨m, _, h, by omega⟩
    · exact .inr ⟨m, _, h, by omega⟩
theorem uni_cl : ∀ s ∈ uniP l r, ∀ m ∈ nxtP l r s, m ∈ uniP l r := fun s hs m hm => by
  have n0 : (none : PS) ∈ uniP l r := List.mem_cons_self
  rcases uni_in l r hs with rfl | ⟨k, b, rfl, hk⟩
  · have := List.eq_of_mem_replicate hm
    subst this
    exact n0
  · unfold nxtP at hm
    rcases List.mem_append.mp hm with hm | hm
    · have := List.eq_of_mem_replicate hm
      subst this
      exact uni_mem l r (by omega)
    · rcases List.mem_cons.mp hm with rfl | hm
      · exact n0
      · have := List.mem_singleton.mp hm
        subst this
        split
        · exact uni_mem l r (by omega)
        · exact n0
theorem nxt_28 : ∀ s : PS, (nxtP l r s).length = 28 := fun s => by
  cases s with
  | none => simp [nxtP]
  | some p => obtain ⟨m, b⟩ := p; simp [nxtP]
theorem out_1 : ∀ s : PS, outP r s ≤ 1 := fun s => by
  cases s with
  | none => simp [outP]
  | some p =>
    obtain ⟨m, b⟩ := p
    show (if (if b then r else 1) ≤ m then 1 else 0) ≤ 1
    by_cases h : (if b then r else 1) ≤ m
    · rw [if_pos h]
      omega
    · rw [if_neg h]
      omega
def aP : Au := auT (nxtP l r) (outP r) (exF (nxtP l r) (uniP l r) (some (0, false)))
theorem words_ok (hl : 1 ≤ l ∧ l ≤ 9) (hr : 1 ≤ r ∧ r ≤ 9) : m_all_words [.int (l : Nat), .int (r : Nat)] = .ret (auD (lsA (aP l r))) ∧ AuOk (aP l r) ∧ ExpD (nxtP l r) (uniP l r) (some (0, false)) (exF (nxtP l r) (uniP l r) (some (0, false))) := by
  have z2 : (2 : Nat) ≤ sizeLine := le_line (by decide)
  have h0 : (some (0, false) : PS) ∈ uniP l r := uni_mem l r (by omega)
  have hlen : (uniP l r).length ≤ 100 := by
    unfold uniP
    rw [List.length_cons, uni_len]
    omega
  obtain ⟨e, D, A⟩ := made_ok (kd := kdP) kdo_P (uni_cl l r) h0 hlen (fun s _ => nxt_28 l r s) (fl := flP l r) (by simp [fldIx, List.findIdx?_cons]) (fun s _ => by
    cases s with
    | none =>
      have := row_none l r
      exact this
    | some p => exact row_some l r p.1 p.2) fun s _ => out_1 r s
  refine ⟨?_, A, D⟩
  have i1 := int_ok (l : Nat) 1 9
  have i2 := int_ok (r : Nat) 1 9
  have l1 : (1 : Int) ≤ (l : Nat) := by omega
  have l2 : ((l : Nat) : Int) ≤ 9 := by omega
  have r1 : (1 : Int) ≤ (r : Nat) := by omega
  have r2 : ((r : Nat) : Int) ≤ 9 := by omega
  have e : m_Placer_made (.tr (.obj "Placer" (flP l r))) [.tuple [.int 0, .bool false]] = .ret (auD (lsA (aP l r))) (.tr (.obj "Placer" (flP l r))) := e
  generalize auD (lsA (aP l r)) = LA at *
  simp [m_all_words, c_all_words, fnP, fnO, i1, i2, l1, l2, r1, r2, d_MOST_LEVEL, e, z2, m_Placer_init, c_Placer_init, atP, rootT, putTf, fldIx, List.findIdx?_cons]
def lang (m : Nat) (b : Bool) : Tx → Bool
  | [] => decide ((if b then r else 1) ≤ m)
  | c :: w => if c = 124 then (if l ≤ m then lang 0 true w else false) else if c = 45 then false else lang (m + 1) b w
theorem lg_none : ∀ w : List Nat, LgT (nxtP l r) (outP r) none w = 0
  | [] => rfl
  | c :: w => by
    have ih := lg_none w
    show LgT (nxtP l r) (outP r) ((nxtP l r none).getD c none) w = 0
    have e : (nxtP l r none).getD c none = none := by
      rw [List.getD_eq_getElem?_getD]
      show ((List.replicate 28 (none : PS))[c]?).getD none = none
      rw [List.getElem?_replicate]
      split <;> rfl
    rw [e, ih]
theorem sgi_let : ∀ c ∈ sgs, c ≠ 124 → c ≠ 45 → sgi c < 26 := by decide
theorem nxt_at (m : Nat) (b : Bool) (c : Nat) : (nxtP l r (some (m, b))).getD c (some (m, b)) = if c < 26 then some (min (m + 1) (max l r), b) else if c = 26 then none else if c = 27 then (if l ≤ m then some (0, true) else none) else some (m, b) := by
  show ((List.replicate 26 (some (min (m + 1) (max l r), b)) ++ [none, if l ≤ m then some (0, true) else none]) : List PS).getD c _ = _
  rw [List.getD_eq_getElem?_getD]
  by_cases h : c < 26
  · rw [if_pos h, List.getElem?_append_left (by simpa using h), List.getElem?_replicate, if_pos h]
    rfl
  · rw [if_neg h, List.getElem?_append_right (by simpa using (by omega : 26 ≤ c)), List.length_replicate]
    by_cases h2 : c = 26
    · subst h2
      rfl
    · rw [if_neg h2]
      by_cases h3 : c = 27
      · subst h3
        rfl
      · rw [if_neg h3]
        obtain ⟨k, rfl⟩ : ∃ k, c = 28 + k := ⟨c - 28, by omega⟩
        rw [show 28 + k - 26 = k + 2 by omega]
        rfl
theorem lang_ok (h1 : 1 ≤ l) : ∀ (w : Tx) (m : Nat) (b : Bool), OkT w → LgT (nxtP l r) (outP r) (some (min m (max l r), b)) (cdW w) = if lang l r m b w then 1 else 0
  | [], m, b, _ => by
    show outP r (some (min m (max l r), b)) = _
    show (if (if b then r else 1) ≤ min m (max l r) then 1 else 0) = if decide ((if b then r else 1) ≤ m) then 1 else 0
    have iff : ((if b then r else 1) ≤ min m (max l r)) ↔ ((if b then r else 1) ≤ m) := by
      cases b <;> simp <;> omega
    by_cases h : (if b then r else 1) ≤ m
    · rw [if_pos (iff.mpr h), decide_eq_true h]
      rfl
    · rw [if_neg (fun x => h (iff.mp x)), decide_eq_false h]
      rfl
  | c :: w, m, b, hw => by
    have hc := hw c (by simp)
    have hw' : OkT w := fun x hx => hw x (by simp [hx])
    show LgT (nxtP l r) (outP r) ((nxtP l r (some (min m (max l r), b))).getD (sgi c) (some (min m (max l r), b))) (cdW w) = if (if c = 124 then (if l ≤ m then lang l r 0 true w else false) else if c = 45 then false else lang l r (m + 1) b w) then 1 else 0
    rw [nxt_at]
    by_cases h : c = 124
    · subst h
      rw [if_pos rfl, show sgi 124 = 27 by decide]
      have iff : (l ≤ min m (max l r)) ↔ l ≤ m := by omega
      rw [if_neg (by omega), if_neg (by omega), if_pos rfl]
      by_cases hm : l ≤ m
      · rw [if_pos (iff.mpr hm), if_pos hm]
        have := lang_ok h1 w 0 true hw'
        rw [show min 0 (max l r) = 0 by omega] at this
        exact this
      · rw [if_neg (fun x => hm (iff.mp x)), if_neg hm, lg_none]
        rfl
    · rw [if_neg h]
      by_cases h2 : c = 45
      · subst h2
        rw [if_pos rfl, show sgi 45 = 26 by decide, if_neg (by omega), if_pos rfl, lg_none]
        rfl
      · rw [if_neg h2, if_pos (sgi_let c hc h h2)]
        have := lang_ok h1 w (m + 1) b hw'
        rw [show min (min m (max l r) + 1) (max l r) = min (m + 1) (max l r) by omega]
        exact this
theorem words_take (hl : 1 ≤ l ∧ l ≤ 9) (hr : 1 ≤ r ∧ r ≤ 9) {w : Tx} (hw : OkT w) : tkB (lsA (aP l r)) w = lang l r 0 false w := by
  obtain ⟨_, A, D⟩ := words_ok l r hl hr
  rw [lsA_tk A hw]
  have z : (some (0, false) : PS) ∈ exF (nxtP l r) (uniP l r) (some (0, false)) := List.mem_of_getElem? D.z
  have e := auT_sam (out := outP r) D (fun s _ => nxt_28 l r s) (cdW w) (some (0, false)) z (cdW_ok hw)
  have e2 := lang_ok l r hl.1 w 0 false hw
  rw [show min 0 (max l r) = 0 by omega] at e2
  have z0 : ixO (exF (nxtP l r) (uniP l r) (some (0, false))) (some (0, false)) = 0 := by
    have h0 := D.z
    cases hx : exF (nxtP l r) (uniP l r) (some (0, false)) with
    | nil => rw [hx] at h0; cases h0
    | cons a t =>
      rw [hx] at h0
      have : a = some (0, false) := by simpa using h0
      subst this
      exact if_pos rfl
  rw [z0, e2] at e
  unfold tkB
  show decide (Lg (aP l r) 0 (cdW w) = 1) = _
  have e : Lg (aP l r) 0 (cdW w) = if lang l r 0 false w then 1 else 0 := e
  rw [e]
  cases lang l r 0 false w <;> rfl
def lastP : List Tx → Tx
  | [] => []
  | [p] => p
  | _ :: q :: ps => lastP (q :: ps)
omit l r in
theorem lastP_get : ∀ {ps : List Tx}, ps ≠ [] → ps[ps.length - 1]? = some (lastP ps)
  | [], h => absurd rfl h
  | [p], _ => rfl
  | p :: q :: ps, _ => by
    have := lastP_get (ps := q :: ps) (by simp)
    show (p :: q :: ps)[(ps.length + 1)]? = some (lastP (q :: ps))
    rw [List.getElem?_cons_succ]
    exact this
def isOne (w : Tx) : Bool := !decide ((45 : Ch) ∈ w) && !decide (w = []) && (decide ((splitC 124 w).length = 1) || (((splitC 124 w).dropLast.all fun p => decide (l ≤ p.length)) && decide (r ≤ (lastP (splitC 124 w)).length)))
def okPt (m : Nat) (b : Bool) : List Tx → Bool
  | [] => true
  | [p] => decide ((if b then r else 1) ≤ m + p.length)
  | p :: q :: ps => decide (l ≤ m + p.length) && okPt 0 true (q :: ps)
theorem headC_len (c : Ch) (m : Nat) (b : Bool) : ∀ ps : List Tx, ps ≠ [] → okPt l r m b (headC [c] ps) = okPt l r (m + 1) b ps
  | [], h => absurd rfl h
  | [p], _ => by
    show decide _ = decide _
    rw [List.length_append]
    congr 2
    simp
    omega
  | p :: q :: ps, _ => by
    show (decide (l ≤ m + ([c] ++ p).length) && _) = (decide (l ≤ m + 1 + p.length) && _)
    rw [List.length_append]
    congr 3
    simp
    omega
theorem lang_parts : ∀ (w : Tx) (m : Nat) (b : Bool), (45 : Ch) ∉ w → lang l r m b w = okPt l r m b (splitC 124 w)
  | [], m, b, _ => by simp [lang, splitC, okPt]
  | c :: w, m, b, h => by
    have hc : ¬ c = 45 := fun e => h (by rw [e]; simp)
    have hw : (45 : Ch) ∉ w := fun x => h (List.mem_cons_of_mem _ x)
    show (if c = 124 then (if l ≤ m then lang l r 0 true w else false) else if c = 45 then false else lang l r (m + 1) b w) = _
    unfold splitC
    by_cases h1 : c = 124
    · rw [if_pos h1, if_pos h1, lang_parts w 0 true hw]
      cases hs : splitC 124 w with
      | nil => exact absurd hs (splitC_ne 124 w)
      | cons q ps =>
        show _ = (decide (l ≤ m + 0) && okPt l r 0 true (q :: ps))
        by_cases hm : l ≤ m <;> simp [hm]
    · rw [if_neg h1, if_neg h1, if_neg hc, headC_len l r c m b _ (splitC_ne 124 w), lang_parts w (m + 1) b hw]
theorem lang_dash : ∀ (w : Tx) (m : Nat) (b : Bool), (45 : Ch) ∈ w → lang l r m b w = false
  | c :: w, m, b, h => by
    show (if c = 124 then (if l ≤ m then lang l r 0 true w else false) else if c = 45 then false else lang l r (m + 1) b w) = false
    by_cases h2 : c = 45
    · subst h2
      rw [if_neg (by decide), if_pos rfl]
    · have hw : (45 : Ch) ∈ w := by
        rcases List.mem_cons.mp h with e | h
        · exact absurd e.symm h2
        · exact h
      rw [if_neg h2, lang_dash w 0 true hw, lang_dash w (m + 1) b hw]
      split
      · split <;> rfl
      · rfl
theorem okPt_more (b : Bool) : ∀ (ps : List Tx) (p : Tx), okPt l r 0 b (p :: ps) = if ps = [] then decide ((if b then r else 1) ≤ p.length) else ((p :: ps).dropLast.all fun p => decide (l ≤ p.length)) && decide (r ≤ (lastP (p :: ps)).length)
  | [], p => by simp [okPt]
  | q :: ps, p => by
    have ih := okPt_more true ps q
    show (decide (l ≤ 0 + p.length) && okPt l r 0 true (q :: ps)) = _
    have e : lastP (p :: q :: ps) = lastP (q :: ps) := rfl
    rw [ih, if_neg (List.cons_ne_nil q ps), e]
    by_cases h : ps = []
    · subst h
      rw [if_pos rfl]
      simp [lastP]
      rfl
    · rw [if_neg h, List.dropLast_cons_of_ne_nil (List.cons_ne_nil q ps), List.all_cons, Bool.and_assoc, Nat.zero_add]
theorem one_lang (w : Tx) : isOne l r w = lang l r 0 false w := by
  unfold isOne
  by_cases h : (45 : Ch) ∈ w
  · rw [lang_dash l r w 0 false h, decide_eq_true h]
    rfl
  · rw [lang_parts l r w 0 false h, decide_eq_false h]
    cases hs : splitC 124 w with
    | nil => exact absurd hs (splitC_ne 124 w)
    | cons p ps =>
      rw [okPt_more]
      by_cases hp : ps = []
      · subst hp
        have hw : w = p := by
          have : ∀ w : Tx, ∀ p, splitC 124 w = [p] → w = p := by
            intro w
            induction w with
            | nil => intro p hp; simpa [splitC] using hp
            | cons c w ih =>
              intro p hp
              unfold splitC at hp
              split at hp
              · simp at hp
                exact absurd hp.2 (splitC_ne 124 w)
              · cases hq : splitC 124 w with
                | nil => exact absurd hq (splitC_ne 124 w)
                | cons q qs =>
                  rw [hq] at hp
                  simp [headC] at hp
                  obtain ⟨h1, h2⟩ := hp
                  subst h2
                  rw [← h1, ih q hq]
          exact this w p hs
        subst hw
        rw [if_pos rfl]
        by_cases hn : w = []
        · subst hn
          simp
        · have : 1 ≤ w.length := List.length_pos_iff.mpr hn
          simp [hn, this]
      · rw [if_neg hp]
        have hw : ¬ w = [] := fun e => by
          subst e
          simp [splitC] at hs
          exact hp hs.2
        have hl : ¬ (p :: ps).length = 1 := fun e => hp (List.length_eq_zero_iff.mp (by simpa using e))
        simp only [hw, hl, decide_false, Bool.not_false, Bool.true_and, Bool.false_or]
end
theorem minA_ints (l : List Int) (h : l ≠ []) : dMinA [.list (l.map .int)] = some (.int (minL l)) := by
  cases l with
  | nil => exact absurd rfl h
  | cons a l =>
    rw [List.map_cons, dMinA_i]
    show (match intsD ((a :: l).map PyData.int) with
      | some l => if l ≠ [] then some (PyData.int (minL l)) else none
      | none => none) = _
    rw [DL.ints_map]
    rfl
theorem len_flat : ∀ {ps : List Tx} {p : Tx}, p ∈ ps → p.length ≤ ps.flatten.length
  | q :: ps, p, h => by
    rw [List.flatten_cons, List.length_append]
    rcases List.mem_cons.mp h with rfl | h
    · omega
    · have := len_flat h
      omega
section
variable (l r : Nat)
theorem lone_lc (w : Tx) (hw : w.length ≤ 1000) : lc__law_is_one_0 [.d (.str (tx w)), .d (.int (l : Nat)), .d (.int (r : Nat)), .d (.list ((splitC 124 w).map fun p => .str (tx p))), .un] = .ok (((splitC 124 w).dropLast.map fun p => (p.length : Int)).map .int) [.d (.str (tx w)), .d (.int (l : Nat)), .d (.int (r : Nat)), .d (.list ((splitC 124 w).map fun p => .str (tx p))), .un] := by
  obtain ⟨f1, f2⟩ := splitC_flat 124 w
  have hn : 1 ≤ (splitC 124 w).length := List.length_pos_iff.mpr (splitC_ne 124 w)
  have hl : ∀ p ∈ splitC 124 w, p.length ≤ 1000 := fun p hp => by
    have := len_flat hp
    omega
  rw [List.map_map]
  generalize splitC 124 w = ps at *
  have z : ps.length ≤ sizeLine := le_line (by omega)
  have e1 : ((ps.length : Nat) : Int) - 1 = ((ps.length - 1 : Nat) : Int) := by omega
  have c1 : cutG (ps.map fun p => PyData.str (tx p)) none (some ((ps.length - 1 : Nat) : Int)) = ps.dropLast.map fun p => .str (tx p) := by
    have := cutD_take (ps.map fun p => PyData.str (tx p)) (ps.length - 1)
    rw [← List.map_take, ← List.dropLast_eq_take] at this
    exact this
  refine nlc_map (ρ0 := [.d (.str (tx w)), .d (.int (l : Nat)), .d (.int (r : Nat)), .d (.list (ps.map fun p => .str (tx p))), .un]) ps.dropLast (fun p => .str (tx p)) _ ?_ (by simp) (by simp) (by simp) (by simp; omega) fun p hp => ⟨[.d (.str (tx w)), .d (.int (l : Nat)), .d (.int (r : Nat)), .d (.list (ps.map fun p => .str (tx p))), .d (.str (tx p))], by simp, by
    have hp := hl p (List.dropLast_subset ps hp)
    have zp : p.length ≤ sizeLine := le_line (by omega)
    simp [e__law_is_one_0, zp], by simp, by simp⟩
  have lm : (ps.map fun p => PyData.str (tx p)).length = ps.length := List.length_map ..
  generalize (ps.map fun p => PyData.str (tx p)) = PD at *
  generalize (ps.dropLast.map fun p => PyData.str (tx p)) = PL at *
  generalize ps.length = n at *
  simp [lm, z, e1, c1]
theorem lone_ok (w : Tx) (hw : w.length ≤ 1000) : m__law_is_one [.str (tx w), .int (l : Nat), .int (r : Nat)] = .ret (.bool (isOne l r w)) := by
  have c1 := lone_lc l r w hw
  have s1 := dSplit_tx w 124 (by omega)
  obtain ⟨f1, f2⟩ := splitC_flat 124 w
  have hne := splitC_ne 124 w
  have hn : 1 ≤ (splitC 124 w).length := List.length_pos_iff.mpr hne
  have q1 := dIn_one 45 w
  have q2 := dEq_str (tx_ok w) (tx_ok [])
  have q2 : dEq (.str (tx w)) (.str (tx [])) = some (.bool (decide (w = []))) := by
    rw [q2]
    congr 2
    by_cases h : w = []
    · subst h
      simp
    · have : ¬ tx w = tx [] := fun e => h (by simpa using e)
      simp [h, this]
  have hll : (lastP (splitC 124 w)).length ≤ 1000 := by
    have hm : lastP (splitC 124 w) ∈ splitC 124 w := List.mem_of_getElem? (lastP_get hne)
    have := len_flat hm
    omega
  have g1 : dIx (.list ((splitC 124 w).map fun p => .str (tx p))) (.int (((splitC 124 w).length - 1 : Nat) : Int)) = some (.str (tx (lastP (splitC 124 w)))) := by
    rw [dIx_l, atI_map, atI_some (lastP_get hne)]
    rfl
  have zl : (lastP (splitC 124 w)).length ≤ sizeLine := le_line (by omega)
  unfold isOne
  generalize lastP (splitC 124 w) = lp at *
  generalize splitC 124 w = ps at *
  have z : ps.length ≤ sizeLine := le_line (by omega)
  have lm : (ps.map fun p => PyData.str (tx p)).length = ps.length := List.length_map ..
  have e1 : ((ps.length : Nat) : Int) - 1 = ((ps.length - 1 : Nat) : Int) := by omega
  have i1 : ((ps.length : Nat) : Int) = 1 ↔ ps.length = 1 := by omega
  generalize (ps.map fun p => PyData.str (tx p)) = PD at *
  by_cases h45 : (45 : Ch) ∈ w
  · rw [decide_eq_true h45] at q1 ⊢
    simp [m__law_is_one, c__law_is_one, fnP, dTy, s1, q1]
  · rw [decide_eq_false h45] at q1 ⊢
    by_cases h0 : w = []
    · rw [decide_eq_true h0] at q2 ⊢
      simp [m__law_is_one, c__law_is_one, fnP, dTy, s1, q1, q2]
    · rw [decide_eq_false h0] at q2 ⊢
      by_cases h1 : ps.length = 1
      · have h1' := i1.mpr h1
        simp [m__law_is_one, c__law_is_one, fnP, dTy, s1, q1, q2, lm, z, h1', h1]
      · have h1' : ¬ ((ps.length : Nat) : Int) = 1 := fun x => h1 (i1.mp x)
        have dn : (ps.dropLast.map fun p => (p.length : Int)) ≠ [] := fun e => by
          have := congrArg List.length e
          simp at this
          omega
        have m1 := minA_ints _ dn
        obtain ⟨m2, m3⟩ := minL_mem _ dn
        have iff : ((l : Nat) : Int) ≤ minL (ps.dropLast.map fun p => (p.length : Int)) ↔ (ps.dropLast.all fun p => decide (l ≤ p.length)) = true := by
          rw [List.all_eq_true]
          constructor
          · intro h p hp
            have := m3 _ (List.mem_map_of_mem hp)
            simp
            omega
          · intro h
            obtain ⟨p, hp, e⟩ := List.mem_map.mp m2
            have := h p hp
            simp at this
            omega
        generalize ((ps.dropLast.map fun p => (p.length : Int)).map PyData.int) = IL at *
        generalize minL (ps.dropLast.map fun p => (p.length : Int)) = mn at *
        generalize (ps.dropLast.all fun p => decide (l ≤ p.length)) = al at *
        generalize ps.length - 1 = k at *
        cases al with
        | true =>
          have h2 : ((l : Nat) : Int) ≤ mn := iff.mpr rfl
          by_cases h3 : r ≤ lp.length
          · simp [-dIx_l, m__law_is_one, c__law_is_one, fnP, dTy, s1, q1, q2, lm, z, h1', h1, c1, m1, h2, e1, g1, zl, h3]
          · simp [-dIx_l, m__law_is_one, c__law_is_one, fnP, dTy, s1, q1, q2, lm, z, h1', h1, c1, m1, h2, e1, g1, zl, h3]
        | false =>
          have h2 : ¬ ((l : Nat) : Int) ≤ mn := fun x => by have := iff.mp x; cases this
          simp [-dIx_l, m__law_is_one, c__law_is_one, fnP, dTy, s1, q1, q2, lm, z, h1', h1, c1, m1, h2]
end
def coRow : Co (List Nat × Nat) := co2 (coTup coNat) coNat
theorem ne_au (A : Au) : dNe (.tuple (A.map rwD)) (.tuple (A.map rwD)) = some (.bool false) := by
  have := @Co.ne _ (coTup coRow) A A (.isTrue rfl) (by decide)
  exact this
theorem lsA_twice {A : Au} (h : AuOk A) : lsA (lsA A) = lsA A := by
  have hL := lsA_ok h
  have MA := metF_ok h
  have ML := metF_ok hL
  exact lst_two hL h ML MA (kindF_ok hL ML) (kindF_ok h MA) fun w hw => lsA_sam h hw
theorem call_ok (l r : Nat) (hl : 1 ≤ l ∧ l ≤ 9) (hr : 1 ≤ r ∧ r ≤ 9) : m__law_call [.int (l : Nat), .int (r : Nat)] = .ret (auD (lsA (aP l r))) := by
  have e := (words_ok l r hl hr).1
  generalize auD (lsA (aP l r)) = V at *
  simp [m__law_call, c__law_call, fnP, e]
def ODDL : List DL.D := [.int 0, .int 10, .none, .bool true, .str (tx [50])]
theorem odd_int : ∀ X ∈ ODDL, m_is_integer [X, .int 1, .int 9] = .ret (.bool false) := by
  intro X hX
  simp only [ODDL, List.mem_cons, List.not_mem_nil, or_false] at hX
  rcases hX with rfl | rfl | rfl | rfl | rfl <;> kernel_rfl
theorem call_odd1 {X : DL.D} (h : m_is_integer [X, .int 1, .int 9] = .ret (.bool false)) (R : DL.D) : m__law_call [X, R] = .ret (.str (tx [108, 101, 97, 115, 116])) := by
  simp [m__law_call, c__law_call, fnP, m_all_words, c_all_words, h, d_MOST_LEVEL, sub_, List.lookup]
theorem call_odd2 (l : Nat) (hl : 1 ≤ l ∧ l ≤ 9) {X : DL.D} (h : m_is_integer [X, .int 1, .int 9] = .ret (.bool false)) : m__law_call [.int (l : Nat), X] = .ret (.str (tx [108, 101, 97, 115, 116])) := by
  have i1 := int_ok (l : Nat) 1 9
  have l1 : (1 : Int) ≤ (l : Nat) := by omega
  have l2 : ((l : Nat) : Int) ≤ 9 := by omega
  simp [m__law_call, c__law_call, fnP, m_all_words, c_all_words, h, i1, l1, l2, d_MOST_LEVEL, sub_, List.lookup]
def allT : Nat → List Tx
  | 0 => [[]]
  | n + 1 => (allT n).flatMap fun t => [t ++ [97], t ++ [124]]
def allS (n : Nat) : List Tx := (List.range (n + 1)).flatMap allT
theorem lall_ok : m__law_all [.str (tx [97, 124]), .int 6] = .ret (.list ((allS 6).map fun t => .str (tx t))) := by kernel_rfl
theorem all_in : ∀ t ∈ allS 6, t.length ≤ 16 ∧ ∀ c ∈ t, c ∈ sgs := by decide +kernel
abbrev LE (S : SV) (o : Own) (l r : Nat) (told x5 k t odd : SV) : DL.Env := [S, .own false o, .d (.int (l : Nat)), .d (.int (r : Nat)), told, x5, k, t, odd]
def OkW (w : Tx) : Prop := w.length ≤ 16 ∧ ∀ c ∈ w, c ∈ sgs
theorem strs_0 (S : SV) (l r : Nat) (T : DL.D) {o : Own} (ho : Tp o) : ∃ (ws : List Tx) (o' : Own), lc_law_0 (LE S o l r (.d T) .un .un .un .un) = .ok (ws.map fun t => .str (tx t)) (LE S o' l r (.d T) .un .un .un .un) ∧ Tp o' ∧ ws.length = 12 ∧ ∀ w ∈ ws, OkW w := by
  obtain ⟨outs, o', e2, hs, ha⟩ := nlc_runA (S := Own) (vs := [6]) (set := setN 6) (fe := e_law_0) (ρ := LE S o l r (.d T) .un .un .un .un) (ρ1 := LE S o l r (.d T) .un .un .un .un) (List.range 12) (fun (i : Nat) => PyData.int (i : Int)) (fun o => LE S o l r (.d T) .un .un .un .un) Tp (fun _ v => ∃ w : Tx, v = .str (tx w) ∧ OkW w) o
    (fun o => LE S o l r (.d T) .un .un .un .un) (fi := eRng1 (aCons (eC (.int 12)) aNil)) (by rw [← rng_map]; exact range_ok (n := 12) (by simp) (by omega)) (by simp [LE]) (by simp [LE]) ho (by intro s _; simp [LE]) (by simp) (by
      intro x hx s1 hs
      obtain ⟨w, o', e, ho', h1, h2, h3⟩ := string_go [97, 98, 122, 124] (by decide) (by decide) 0 16 (by omega) (by omega) hs
      have e : m__law_string s1 [.str (tx [97, 98, 122, 124]), .int 0, .int 16] = .ret (.str (tx w)) o' := e
      have sub : ∀ c ∈ ([97, 98, 122, 124] : Tx), c ∈ sgs := by decide
      exact ⟨_, LE S o' l r (.d T) .un (.d (.int (x : Nat))) .un .un, .str (tx w), o', rfl, by simp [e_law_0, e], ho', ⟨w, rfl, h3, fun c hc => sub c (h1 c hc)⟩, by simp [LE], by simp [LE]⟩)
  obtain ⟨w, rfl, hw⟩ := all2_dec (fun t : Tx => PyData.str (tx t)) (P := fun _ w => OkW w) (fun _ v ⟨c, e, h⟩ => ⟨c, e, h⟩) ha
  exact ⟨w, o', e2, hs, by rw [hw.len, List.length_range], All2.right (P := fun k => OkW k) (fun _ _ h => h) hw⟩
theorem strs_1 (S : SV) (l r : Nat) (T : DL.D) {o : Own} (ho : Tp o) : ∃ (ws : List Tx) (o' : Own), lc_law_1 (LE S o l r (.d T) .un .un .un .un) = .ok (ws.map fun t => .str (tx t)) (LE S o' l r (.d T) .un .un .un .un) ∧ Tp o' ∧ ws.length = 6 ∧ ∀ w ∈ ws, OkW w := by
  obtain ⟨outs, o', e2, hs, ha⟩ := nlc_runA (S := Own) (vs := [6]) (set := setN 6) (fe := e_law_1) (ρ := LE S o l r (.d T) .un .un .un .un) (ρ1 := LE S o l r (.d T) .un .un .un .un) (List.range 6) (fun (i : Nat) => PyData.int (i : Int)) (fun o => LE S o l r (.d T) .un .un .un .un) Tp (fun _ v => ∃ w : Tx, v = .str (tx w) ∧ OkW w) o
    (fun o => LE S o l r (.d T) .un .un .un .un) (fi := eRng1 (aCons (eC (.int 6)) aNil)) (by rw [← rng_map]; exact range_ok (n := 6) (by simp) (by omega)) (by simp [LE]) (by simp [LE]) ho (by intro s _; simp [LE]) (by simp) (by
      intro x hx s1 hs
      obtain ⟨w, o', e, ho', h1, h2, h3⟩ := string_go [97, 98, 45, 124] (by decide) (by decide) 1 6 (by omega) (by omega) hs
      have e : m__law_string s1 [.str (tx [97, 98, 45, 124]), .int 1, .int 6] = .ret (.str (tx w)) o' := e
      have sub : ∀ c ∈ ([97, 98, 45, 124] : Tx), c ∈ sgs := by decide
      exact ⟨_, LE S o' l r (.d T) .un (.d (.int (x : Nat))) .un .un, .str (tx w), o', rfl, by simp [e_law_1, e], ho', ⟨w, rfl, by omega, fun c hc => sub c (h1 c hc)⟩, by simp [LE], by simp [LE]⟩)
  obtain ⟨w, rfl, hw⟩ := all2_dec (fun t : Tx => PyData.str (tx t)) (P := fun _ w => OkW w) (fun _ v ⟨c, e, h⟩ => ⟨c, e, h⟩) ha
  exact ⟨w, o', e2, hs, by rw [hw.len, List.length_range], All2.right (P := fun k => OkW k) (fun _ _ h => h) hw⟩
theorem one_text (S : SV) (l r : Nat) (hl : 1 ≤ l ∧ l ≤ 9) (hr : 1 ≤ r ∧ r ≤ 9) (o : Own) (x5 : SV) {w : Tx} (hw : OkW w) : b_law_0 (LE S o l r (.d (auD (lsA (aP l r)))) x5 .un (.d (.str (tx w))) .un) = .nx (LE S o l r (.d (auD (lsA (aP l r)))) x5 .un .un .un) := by
  obtain ⟨_, A, _⟩ := words_ok l r hl hr
  have e1 := ltakes_ok (lsA_ok A) (w := w) hw.2 (by have := hw.1; omega)
  have e2 := lone_ok l r w (by have := hw.1; omega)
  rw [words_take l r hl hr hw.2, ← one_lang] at e1
  unfold LE
  generalize auD (lsA (aP l r)) = V at *
  generalize isOne l r w = b at *
  simp [b_law_0, e1, e2]
theorem texts_loop (S : SV) (l r : Nat) (hl : 1 ≤ l ∧ l ≤ 9) (hr : 1 ≤ r ∧ r ≤ 9) (o : Own) (x5 : SV) : ∀ ws : List Tx, (∀ w ∈ ws, OkW w) → forRun (setN 7) b_law_0 (ws.map fun t => .str (tx t)) (LE S o l r (.d (auD (lsA (aP l r)))) x5 .un .un .un) = .nx (LE S o l r (.d (auD (lsA (aP l r)))) x5 .un .un .un)
  | [], _ => by simp [forRun]
  | w :: ws, h => by
    have ih := texts_loop S l r hl hr o x5 ws fun x hx => h x (by simp [hx])
    rw [List.map_cons]
    refine (forRun_one (by simp [LE]) (one_text S l r hl hr o x5 (h w (by simp)))).trans ih
theorem law_true (ns : List Int) (h : ns.length ≤ 63) : m_law [.list (ns.map .int)] = .ret (.bool true) := by
  obtain ⟨o, e1, ho⟩ := tape_ok ns h
  obtain ⟨i, o1, d1, ho1, i1⟩ := tp_draw ho 5 (by omega) (by omega)
  obtain ⟨j, o2, d2, ho2, j1⟩ := tp_draw ho1 5 (by omega) (by omega)
  obtain ⟨l, el⟩ : ∃ l, l = i + 1 := ⟨_, rfl⟩
  obtain ⟨r, er⟩ : ∃ r, r = j + 1 := ⟨_, rfl⟩
  have el' : (1 : Int) + (i : Nat) = (l : Nat) := by omega
  have er' : (1 : Int) + (j : Nat) = (r : Nat) := by omega
  have hl : 1 ≤ l ∧ l ≤ 9 := by omega
  have hr : 1 ≤ r ∧ r ≤ 9 := by omega
  obtain ⟨_, A, _⟩ := words_ok l r hl hr
  have c1 := call_ok l r hl hr
  have i2 := au_1 (lsA (aP l r))
  have s1 := llst_ok (lsA_ok A)
  rw [lsA_twice A] at s1
  have n1 := ne_au (lsA (aP l r))
  obtain ⟨w0, o3, k0, ho3, l0, q0⟩ := strs_0 (.d (.list (ns.map .int))) l r (auD (lsA (aP l r))) ho2
  obtain ⟨w1, o4, k1, ho4, l1, q1⟩ := strs_1 (.d (.list (ns.map .int))) l r (auD (lsA (aP l r))) ho3
  have hT : ∀ w ∈ allS 6 ++ w0 ++ w1, OkW w := fun w hw => by
    rcases List.mem_append.mp hw with hw | hw
    · rcases List.mem_append.mp hw with hw | hw
      · exact all_in w hw
      · exact q0 w hw
    · exact q1 w hw
  have lA : (allS 6).length = 127 := by decide +kernel
  have lt := texts_loop (.d (.list (ns.map .int))) l r hl hr o4 (.d (.list ((allS 6 ++ w0 ++ w1).map fun t => .str (tx t)))) _ hT
  have lp : L_law_0 (LE (.d (.list (ns.map .int))) o4 l r (.d (auD (lsA (aP l r)))) (.d (.list ((allS 6 ++ w0 ++ w1).map fun t => .str (tx t)))) .un .un .un) = .nx (LE (.d (.list (ns.map .int))) o4 l r (.d (auD (lsA (aP l r)))) (.d (.list ((allS 6 ++ w0 ++ w1).map fun t => .str (tx t)))) .un .un .un) := by
    unfold L_law_0
    unfold LE at *
    generalize ((allS 6 ++ w0 ++ w1).map fun t => PyData.str (tx t)) = TS at *
    generalize auD (lsA (aP l r)) = V at *
    simp [lt]
  obtain ⟨X, o5, p1, ho5, hX⟩ := pick_go ODDL (by simp [ODDL]) (by simp [ODDL]) ho4
  have x1 := call_odd1 (odd_int X hX) (.int (r : Nat))
  have x2 := call_odd2 l hl (odd_int X hX)
  have fin : dEq (.tuple [.str (tx [108, 101, 97, 115, 116]), .str (tx [108, 101, 97, 115, 116])]) (.tuple [.str (tx [108, 101, 97, 115, 116]), .str (tx [108, 101, 97, 115, 116])]) = some (.bool true) := by kernel_rfl
  have la := lall_ok
  have z2 : (2 : Nat) ≤ sizeLine := le_line (by decide)
  have zz : ((allS 6).map fun t => PyData.str (tx t)).length + (w0.map fun t => PyData.str (tx t)).length ≤ sizeLine := by
    rw [List.length_map, List.length_map]
    exact le_line (by omega)
  have zz2 : ((allS 6).map fun t => PyData.str (tx t)).length + ((w0.map fun t => PyData.str (tx t)).length + (w1.map fun t => PyData.str (tx t)).length) ≤ sizeLine := by
    rw [List.length_map, List.length_map, List.length_map]
    exact le_line (by omega)
  rw [List.map_append, List.map_append] at lp
  unfold ODDL at p1
  unfold LE at *
  have isT : anyTy ["tuple"] (auD (lsA (aP l r))) = some true := rfl
  clear hX hT lt
  generalize ((allS 6).map fun t => PyData.str (tx t)) = T0 at *
  generalize (w0.map fun t => PyData.str (tx t)) = T1 at *
  generalize (w1.map fun t => PyData.str (tx t)) = T2 at *
  generalize auD (lsA (aP l r)) = V at *
  generalize (lsA (aP l r)).map rwD = VD at *
  generalize ns.map PyData.int = N at *
  simp [-dIx_t, m_law, c_law, fnP, e1, d1, d2, el', er', c1, isT, i2, s1, n1, la, k0, k1, zz, zz2, Nat.add_assoc, List.append_assoc] at lp ⊢
  simp [lp, p1, x1, x2, z2, fin]
end LW
open PySem PySem.W PyProof.Rows in
set_option maxRecDepth 100000 in
set_option maxHeartbeats 0 in
theorem PySem.Challenge.cw_joinedagain_k43_all_words_with_places_holds : PySem.Challenge.rw_joinedagain_k43_all_words_with_places.Holds := by
  w_on; o_law; k_head; (case hw => w_witness2)
  k_fill
  refine DL.walkT (l := PySem.Challenge.rw_joinedagain_k43_all_words_with_places) (n := 63) (k := 6) (m := LW.m_law) rfl (by decide) rfl ⟨rfl, by decide, by decide⟩ LW.law_true (fun w h Y => PySem.W.kIn_of Y) ?F
  case F =>
    intro w mg fa h KX G hmg
    refine' LW.all_mk KX G hmg ?a_is_integer ?l_is_integer ?c_is_integer ?k_is_integer ?a_met ?l_met ?c_met ?k_met ?a_kinds_of ?l_kinds_of ?c_kinds_of ?k_kinds_of ?a_least_of ?l_least_of ?c_least_of ?k_least_of ?a_Placer ?pg_Placer ?hd_Placer ?po_Placer ?sa_Placer ?mk_Placer ?kc_Placer ?nf_Placer_left ?nf_Placer_right ?at_Placer_init ?l_Placer_init ?c_Placer_init ?k_Placer_init ?fn_Placer_init ?at_Placer_row_of ?l_Placer_row_of ?c_Placer_row_of ?k_Placer_row_of ?fn_Placer_row_of ?at_Placer_made ?l_Placer_made ?c_Placer_made ?k_Placer_made ?fn_Placer_made ?a_all_words ?l_all_words ?c_all_words ?k_all_words ?a__law_tape ?l__law_tape ?c__law_tape ?k__law_tape ?a__law_draw ?l__law_draw ?c__law_draw ?k__law_draw ?a__law_pick ?l__law_pick ?c__law_pick ?k__law_pick ?a__law_signs ?l__law_signs ?c__law_signs ?k__law_signs ?a__law_string ?l__law_string ?c__law_string ?k__law_string ?a__law_takes ?l__law_takes ?c__law_takes ?k__law_takes ?a__law_least_states ?l__law_least_states ?c__law_least_states ?k__law_least_states ?a__law_all ?l__law_all ?c__law_all ?k__law_all ?a__law_call ?l__law_call ?c__law_call ?k__law_call ?a__law_is_one ?l__law_is_one ?c__law_is_one ?k__law_is_one ?a_law ?l_law ?c_law ?k_law ?a_BadTongue ?kc_BadTongue ?eC_BadTongue ?tC_BadTongue ?xL_BadTongue ?hb_BadTongue ?sa_BadTongue ?ga_BadTongue ?gg_BadTongue ?hC_BadTongue ?iC_BadTongue ?ti_BadTongue ?li_BadTongue ?ci_BadTongue ?ki_BadTongue ?nf_BadTongue_kind ?nf_BadTongue_name ?a_TooFar ?kc_TooFar ?eC_TooFar ?tC_TooFar ?q_TooFar ?a_MOST_LEVEL ?a_MOST_AUTOMATON ?z_abs ?z_bool ?z_dict ?z_int ?z_isinstance ?z_len ?z_max ?z_min ?z_range ?z_set ?z_tuple ?i_BadTongue ?e_BadTongue_BadTongue ?e_BadTongue_TooFar ?i_TooFar ?e_TooFar_BadTongue ?e_TooFar_TooFar
    (case a_is_integer => k_is)
    (case l_is_integer => k_is)
    (case c_is_integer => k_is)
    (case k_is_integer => k_is)
    (case a_met => k_is)
    (case l_met => k_is)
    (case c_met => k_is)
    (case k_met => k_is)
    (case a_kinds_of => k_is)
    (case l_kinds_of => k_is)
    (case c_kinds_of => k_is)
    (case k_kinds_of => k_is)
    (case a_least_of => k_is)
    (case l_least_of => k_is)
    (case c_least_of => k_is)
    (case k_least_of => k_is)
    (case a_Placer => k_is)
    (case pg_Placer => k_is)
    (case hd_Placer => k_is)
    (case po_Placer => k_is)
    (case sa_Placer => k_is)
    (case mk_Placer => k_is)
    (case kc_Placer => k_is)
    (case nf_Placer_left => k_is)
    (case nf_Placer_right => k_is)
    (case at_Placer_init => k_is)
    (case l_Placer_init => k_is)
    (case c_Placer_init => k_is)
    (case k_Placer_init => k_is)
    (case fn_Placer_init => k_is)
    (case at_Placer_row_of => k_is)
    (case l_Placer_row_of => k_is)
    (case c_Placer_row_of => k_is)
    (case k_Placer_row_of => k_is)
    (case fn_Placer_row_of => k_is)
    (case at_Placer_made => k_is)
    (case l_Placer_made => k_is)
    (case c_Placer_made => k_is)
    (case k_Placer_made => k_is)
    (case fn_Placer_made => k_is)
    (case a_all_words => k_is)
    (case l_all_words => k_is)
    (case c_all_words => k_is)
    (case k_all_words => k_is)
    (case a__law_tape => k_is)
    (case l__law_tape => k_is)
    (case c__law_tape => k_is)
    (case k__law_tape => k_is)
    (case a__law_draw => k_is)
    (case l__law_draw => k_is)
    (case c__law_draw => k_is)
    (case k__law_draw => k_is)
    (case a__law_pick => k_is)
    (case l__law_pick => k_is)
    (case c__law_pick => k_is)
    (case k__law_pick => k_is)
    (case a__law_signs => k_is)
    (case l__law_signs => k_is)
    (case c__law_signs => k_is)
    (case k__law_signs => k_is)
    (case a__law_string => k_is)
    (case l__law_string => k_is)
    (case c__law_string => k_is)
    (case k__law_string => k_is)
    (case a__law_takes => k_is)
    (case l__law_takes => k_is)
    (case c__law_takes => k_is)
    (case k__law_takes => k_is)
    (case a__law_least_states => k_is)
    (case l__law_least_states => k_is)
    (case c__law_least_states => k_is)
    (case k__law_least_states => k_is)
    (case a__law_all => k_is)
    (case l__law_all => k_is)
    (case c__law_all => k_is)
    (case k__law_all => k_is)
    (case a__law_call => k_is)
    (case l__law_call => k_is)
    (case c__law_call => k_is)
    (case k__law_call => k_is)
    (case a__law_is_one => k_is)
    (case l__law_is_one => k_is)
    (case c__law_is_one => k_is)
    (case k__law_is_one => k_is)
    (case a_law => k_is)
    (case l_law => k_is)
    (case c_law => k_is)
    (case k_law => k_is)
    (case a_BadTongue => k_is)
    (case kc_BadTongue => k_is)
    (case eC_BadTongue => k_is)
    (case tC_BadTongue => k_is)
    (case xL_BadTongue => k_is)
    (case hb_BadTongue => decide +kernel)
    (case sa_BadTongue => k_is)
    (case ga_BadTongue => k_is)
    (case gg_BadTongue => k_is)
    (case hC_BadTongue => k_is)
    (case iC_BadTongue => k_is)
    (case ti_BadTongue => k_is)
    (case li_BadTongue => k_is)
    (case ci_BadTongue => k_is)
    (case ki_BadTongue => k_is)
    (case nf_BadTongue_kind => k_is)
    (case nf_BadTongue_name => k_is)
    (case a_TooFar => k_is)
    (case kc_TooFar => k_is)
    (case eC_TooFar => k_is)
    (case tC_TooFar => k_is)
    (case q_TooFar => k_exc)
    (case a_MOST_LEVEL => k_is)
    (case a_MOST_AUTOMATON => k_is)
    (case z_abs => k_is)
    (case z_bool => k_is)
    (case z_dict => k_is)
    (case z_int => k_is)
    (case z_isinstance => k_is)
    (case z_len => k_is)
    (case z_max => k_is)
    (case z_min => k_is)
    (case z_range => k_is)
    (case z_set => k_is)
    (case z_tuple => k_is)
    (case i_BadTongue => k_is)
    (case e_BadTongue_BadTongue => k_is)
    (case e_BadTongue_TooFar => k_is)
    (case i_TooFar => k_is)
    (case e_TooFar_BadTongue => k_is)
    (case e_TooFar_TooFar => k_is)
