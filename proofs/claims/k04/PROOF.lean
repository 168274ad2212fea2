import PyProof.Rows.All
import HandS.ForMost
import HandS.Flow
import HandS.Deep
import HandS.Style
import HandS.SortInts
import HandS.IsInst
import HandS.TupMul
import HandS.Conv
import HandS.RaiseMore
import HandS.Zip
import KE.GoesNew
import HandS.Star
import PySem.Challenge.RW_nextstands_k04_known_tables
set_option Elab.async false
set_option linter.all false
set_option maxRecDepth 100000
set_option maxHeartbeats 1000000
set_option autoImplicit false
/-! DL, part a: data by value over the hand layer's heaps; states; steps. -/
namespace DL
open PySem L2

abbrev D := PyData
/-- what a slot holds: data (shared, never written again), a list of this frame's own, a caller's list that may be written, any value -/
inductive SV where
  | dat (d : D) | own (ds : List D) | io (ds : List D) | raw (v : V)
abbrev S := List (Option SV)
/-- an expression's worth: data, the name in slot i, a new list that nobody else holds, any value -/
inductive O where
  | d (d : D) | var (i : Nat) | new (ds : List D) | raw (v : V)
abbrev M (α : Type) := S → Option (α × S)
inductive Out where
  | nx (s : S) | rt (r : SV) (s : S) | bk (s : S) | ct (s : S)
abbrev G := S → Option Out
abbrev F := List SV → Option (SV × List SV)

mutual
inductive Rp (H : Hp) : V → D → Prop
  | non : Rp H .non .none
  | bl (b : Bool) : Rp H (.bl b) (.bool b)
  | int (i : Int) : Rp H (.int i) (.int i)
  | str (x : Str) : Rp H (.str x) (.str x)
  | lst {a : Addr} {xs : List V} {ds : List D} : H a = some (.lst xs) → RpAll H xs ds → Rp H (.ref a) (.list ds)
  | tup {a : Addr} {xs : List V} {ds : List D} : H a = some (.tup xs) → RpAll H xs ds → Rp H (.ref a) (.tuple ds)
inductive RpAll (H : Hp) : List V → List D → Prop
  | nil : RpAll H [] []
  | cons {v : V} {vs : List V} {d : D} {ds : List D} : Rp H v d → RpAll H vs ds → RpAll H (v :: vs) (d :: ds)
end

mutual
theorem Rp.mono {H H' : Hp} (e : Same H H') : ∀ (d : D) (v : V), Rp H v d → Rp H' v d
  | .none, _, h => by cases h; exact .non
  | .bool b, _, h => by cases h; exact .bl b
  | .int i, _, h => by cases h; exact .int i
  | .str x, _, h => by cases h; exact .str x
  | .list ds, _, h => by
    cases h with
    | lst h1 h2 => exact .lst (e _ _ h1) (RpAll.mono e ds _ h2)
  | .tuple ds, _, h => by
    cases h with
    | tup h1 h2 => exact .tup (e _ _ h1) (RpAll.mono e ds _ h2)
  | .dict _, _, h => by cases h
theorem RpAll.mono {H H' : Hp} (e : Same H H') : ∀ (ds : List D) (vs : List V), RpAll H vs ds → RpAll H' vs ds
  | [], _, h => by cases h; exact .nil
  | d :: ds, _, h => by
    cases h with
    | cons h1 h2 => exact .cons (Rp.mono e d _ h1) (RpAll.mono e ds _ h2)
end
theorem Rp.up {H H' : Hp} {d : D} {v : V} (h : Rp H v d) (e : Same H H') : Rp H' v d := Rp.mono e d v h
theorem RpAll.up {H H' : Hp} {ds : List D} {vs : List V} (h : RpAll H vs ds) (e : Same H H') : RpAll H' vs ds := RpAll.mono e ds vs h

mutual
theorem Rp.dp' (K : PySem.W.Frag) {H : Hp} : ∀ (d : D) (v : V), Rp H v d → Dp K H v d
  | .none, _, h => by cases h; exact .non
  | .bool b, _, h => by cases h; exact .bl b
  | .int i, _, h => by cases h; exact .int i
  | .str x, _, h => by cases h; exact .str x
  | .list ds, _, h => by
    cases h with
    | lst h1 h2 => exact .lst (.inl (.inl h1)) (RpAll.dp' K ds _ h2)
  | .tuple ds, _, h => by
    cases h with
    | tup h1 h2 => exact .tup (.inl (.inl h1)) (RpAll.dp' K ds _ h2)
  | .dict _, _, h => by cases h
theorem RpAll.dp' (K : PySem.W.Frag) {H : Hp} : ∀ (ds : List D) (vs : List V), RpAll H vs ds → DpAll K H vs ds
  | [], _, h => by cases h; exact .nil
  | d :: ds, _, h => by
    cases h with
    | cons h1 h2 => exact .cons (Rp.dp' K d _ h1) (RpAll.dp' K ds _ h2)
end
theorem Rp.dp {K : PySem.W.Frag} {H : Hp} {d : D} {v : V} (h : Rp H v d) : Dp K H v d := Rp.dp' K d v h
theorem RpAll.dp {K : PySem.W.Frag} {H : Hp} {ds : List D} {vs : List V} (h : RpAll H vs ds) : DpAll K H vs ds := RpAll.dp' K ds vs h

theorem RpAll.len {H : Hp} : ∀ {vs : List V} {ds : List D}, RpAll H vs ds → vs.length = ds.length
  | _, _, .nil => rfl
  | _, _, .cons _ t => by rw [List.length_cons, List.length_cons, t.len]
theorem RpAll.get {H : Hp} : ∀ {vs : List V} {ds : List D} {i : Nat} {d : D}, RpAll H vs ds → ds[i]? = some d → ∃ v, vs[i]? = some v ∧ Rp H v d
  | _, _, _, _, .nil, e => by simp at e
  | _, _, 0, _, .cons r _, e => by simp at e; subst e; exact ⟨_, rfl, r⟩
  | _, _, i + 1, _, .cons _ t, e => by
    obtain ⟨v, h1, h2⟩ := t.get (i := i) (by simpa using e)
    exact ⟨v, by simpa using h1, h2⟩
theorem RpAll.getV {H : Hp} : ∀ {vs : List V} {ds : List D} {i : Nat} {v : V}, RpAll H vs ds → vs[i]? = some v → ∃ d, ds[i]? = some d ∧ Rp H v d
  | _, _, _, _, .nil, e => by simp at e
  | _, _, 0, _, .cons r _, e => by simp at e; subst e; exact ⟨_, rfl, r⟩
  | _, _, i + 1, _, .cons _ t, e => by
    obtain ⟨v, h1, h2⟩ := t.getV (i := i) (by simpa using e)
    exact ⟨v, by simpa using h1, h2⟩
theorem RpAll.append {H : Hp} : ∀ {vs ws : List V} {ds es : List D}, RpAll H vs ds → RpAll H ws es → RpAll H (vs ++ ws) (ds ++ es)
  | _, _, _, _, .nil, h => h
  | _, _, _, _, .cons r t, h => .cons r (t.append h)
theorem RpAll.take {H : Hp} : ∀ {vs : List V} {ds : List D} (n : Nat), RpAll H vs ds → RpAll H (vs.take n) (ds.take n)
  | _, _, 0, _ => by simp; exact .nil
  | _, _, _ + 1, .nil => .nil
  | _, _, n + 1, .cons r t => .cons r (t.take n)
theorem RpAll.drop {H : Hp} : ∀ {vs : List V} {ds : List D} (n : Nat), RpAll H vs ds → RpAll H (vs.drop n) (ds.drop n)
  | _, _, 0, h => h
  | _, _, _ + 1, .nil => .nil
  | _, _, n + 1, .cons _ t => t.drop n
theorem RpAll.reverse {H : Hp} : ∀ {vs : List V} {ds : List D}, RpAll H vs ds → RpAll H vs.reverse ds.reverse
  | _, _, .nil => .nil
  | _, _, .cons r t => by rw [List.reverse_cons, List.reverse_cons]; exact t.reverse.append (.cons r .nil)
theorem RpAll.set {H : Hp} {v : V} {d : D} (r : Rp H v d) : ∀ {vs : List V} {ds : List D} (i : Nat), RpAll H vs ds → RpAll H (vs.set i v) (ds.set i d)
  | _, _, _, .nil => .nil
  | _, _, 0, .cons _ t => .cons r t
  | _, _, i + 1, .cons q t => .cons q (RpAll.set r i t)
theorem RpAll.eraseIdx {H : Hp} : ∀ {vs : List V} {ds : List D} (i : Nat), RpAll H vs ds → RpAll H (vs.eraseIdx i) (ds.eraseIdx i)
  | _, _, _, .nil => .nil
  | _, _, 0, .cons _ t => t
  | _, _, i + 1, .cons r t => .cons r (t.eraseIdx i)
theorem RpAll.dropLast {H : Hp} {vs : List V} {ds : List D} (h : RpAll H vs ds) : RpAll H vs.dropLast ds.dropLast := by
  rw [List.dropLast_eq_take, List.dropLast_eq_take, h.len]
  exact h.take _
theorem RpAll.replicate {H : Hp} {vs : List V} {ds : List D} (h : RpAll H vs ds) : ∀ n : Nat, RpAll H (List.replicate n vs).flatten (List.replicate n ds).flatten
  | 0 => .nil
  | n + 1 => by rw [List.replicate_succ, List.replicate_succ, List.flatten_cons, List.flatten_cons]; exact h.append (RpAll.replicate h n)
theorem RpAll.ints {H : Hp} : ∀ (ns : List Int), RpAll H (ns.map V.int) (ns.map PyData.int)
  | [] => .nil
  | n :: ns => .cons (.int n) (RpAll.ints ns)
theorem RpAll.bools {H : Hp} : ∀ (ns : List Bool), RpAll H (ns.map V.bl) (ns.map PyData.bool)
  | [] => .nil
  | n :: ns => .cons (.bl n) (RpAll.bools ns)
theorem RpAll.of_ints {H : Hp} : ∀ {vs : List V} {ns : List Int}, RpAll H vs (ns.map PyData.int) → vs = ns.map V.int
  | _, [], h => by cases h; rfl
  | _, n :: ns, h => by
    cases h with
    | cons r t => cases r; rw [RpAll.of_ints t]; rfl
theorem RpAll.of_bools {H : Hp} : ∀ {vs : List V} {ns : List Bool}, RpAll H vs (ns.map PyData.bool) → vs = ns.map V.bl
  | _, [], h => by cases h; rfl
  | _, n :: ns, h => by
    cases h with
    | cons r t => cases r; rw [RpAll.of_bools t]; rfl
theorem RpAll.of_strs {H : Hp} : ∀ {vs : List V} {ns : List Str}, RpAll H vs (ns.map PyData.str) → vs = ns.map V.str
  | _, [], h => by cases h; rfl
  | _, n :: ns, h => by
    cases h with
    | cons r t => cases r; rw [RpAll.of_strs t]; rfl

/-! ### states -/
def Mu (s : S) (i : Nat) (ds : List D) : Prop := s[i]? = some (some (.own ds)) ∨ s[i]? = some (some (.io ds))
def OwnAt (σ : St) (s : S) (i : Nat) (a : Addr) : Prop := (∃ ds, Mu s i ds) ∧ σ[i]? = some (some (.ref a))
def Own (σ : St) (s : S) (a : Addr) : Prop := ∃ i, OwnAt σ s i a

structure Rep (Z H : Hp) (σ : St) (s : S) : Prop where
  sub : Same Z H
  len : s.length = σ.length
  dat : ∀ (i : Nat) (d : D), s[i]? = some (some (.dat d)) → ∃ v, σ[i]? = some (some v) ∧ Rp Z v d
  raw : ∀ (i : Nat) (v : V), s[i]? = some (some (.raw v)) → σ[i]? = some (some v)
  own : ∀ (i : Nat) (ds : List D), Mu s i ds → ∃ a vs, σ[i]? = some (some (.ref a)) ∧ H a = some (.lst vs) ∧ Z a = none ∧ RpAll Z vs ds
  inj : ∀ (i j : Nat) (a : Addr), OwnAt σ s i a → OwnAt σ s j a → i = j

structure Tr (A : Addr → Prop) (Z H Z' H' : Hp) : Prop where
  z : Same Z Z'
  keep : ∀ a o, H a = some o → ¬ A a → H' a = some o
  zfree : ∀ a o, H a = some o → Z a = none → ¬ A a → Z' a = none
  live : ∀ a, H' a = none → H a = none

structure Stp (Z H : Hp) (σ : St) (s : S) (Z' H' : Hp) (σ' : St) (s' : S) : Prop where
  rep : Rep Z' H' σ' s'
  tr : Tr (Own σ s) Z H Z' H'
  sub : ∀ a, Own σ' s' a → Own σ s a ∨ H a = none
  io : ∀ (i : Nat) (ds : List D), s[i]? = some (some (.io ds)) → σ'[i]? = σ[i]? ∧ ∃ ds', s'[i]? = some (some (.io ds'))
  noio : ∀ (i : Nat) (ds : List D), s'[i]? = some (some (.io ds)) → ∃ ds', s[i]? = some (some (.io ds'))

theorem Tr.refl (A : Addr → Prop) (Z H : Hp) : Tr A Z H Z H := ⟨Same.refl Z, fun _ _ h _ => h, fun _ _ _ h _ => h, fun _ h => h⟩
theorem Stp.refl {Z H : Hp} {σ : St} {s : S} (r : Rep Z H σ s) : Stp Z H σ s Z H σ s :=
  ⟨r, Tr.refl _ _ _, fun _ h => .inl h, fun _ ds h => ⟨rfl, ds, h⟩, fun _ ds h => ⟨ds, h⟩⟩
theorem Stp.trans {Z H Z1 H1 Z2 H2 : Hp} {σ σ1 σ2 : St} {s s1 s2 : S} (x : Stp Z H σ s Z1 H1 σ1 s1) (y : Stp Z1 H1 σ1 s1 Z2 H2 σ2 s2) : Stp Z H σ s Z2 H2 σ2 s2 := by
  have na : ∀ a o, H a = some o → ¬ Own σ s a → ¬ Own σ1 s1 a := fun a o h n q => by
    rcases x.sub a q with z | z
    · exact n z
    · rw [h] at z; cases z
  refine ⟨y.rep, ⟨x.tr.z.trans y.tr.z, fun a o h n => y.tr.keep a o (x.tr.keep a o h n) (na a o h n), fun a o h hz n => y.tr.zfree a o (x.tr.keep a o h n) (x.tr.zfree a o h hz n) (na a o h n), fun a h => x.tr.live a (y.tr.live a h)⟩, fun a q => ?_, fun i ds h => ?_, fun i ds h => ?_⟩
  · rcases y.sub a q with z | z
    · exact x.sub a z
    · exact .inr (x.tr.live a z)
  · obtain ⟨e1, ds1, h1⟩ := x.io i ds h
    obtain ⟨e2, ds2, h2⟩ := y.io i ds1 h1
    exact ⟨e2.trans e1, ds2, h2⟩
  · obtain ⟨ds1, h1⟩ := y.noio i ds h
    exact x.noio i ds1 h1

theorem Mu.det {s : S} {i : Nat} {ds es : List D} (a : Mu s i ds) (b : Mu s i es) : ds = es := by
  rcases a with a | a <;> rcases b with b | b <;> (rw [a] at b; first | (cases b; rfl) | cases b)
theorem Rep.at {Z H : Hp} {σ : St} {s : S} (r : Rep Z H σ s) {i : Nat} {a : Addr} (o : OwnAt σ s i a) : ∃ vs ds, Mu s i ds ∧ H a = some (.lst vs) ∧ Z a = none ∧ RpAll Z vs ds := by
  obtain ⟨⟨ds, m⟩, e⟩ := o
  obtain ⟨b, vs, e', h1, h2, h3⟩ := r.own i ds m
  rw [e] at e'
  cases e'
  exact ⟨vs, ds, m, h1, h2, h3⟩

/-- an expression's worth, as it stands; P: the heap ahead of it -/
def RelO (P Z H : Hp) (σ : St) (s : S) (v : V) : O → Prop
  | .d d => Rp Z v d
  | .var i => σ[i]? = some (some v)
  | .new ds => ∃ a vs, v = .ref a ∧ H a = some (.lst vs) ∧ Z a = none ∧ RpAll Z vs ds ∧ ¬ Own σ s a ∧ P a = none
  | .raw w => v = w

theorem RelO.step {P Z H Z' H' : Hp} {σ : St} {s s' : S} {v : V} {o : O} (h : RelO P Z H σ s v o) (x : Stp Z H σ s Z' H' σ s') : RelO P Z' H' σ s' v o := by
  cases o with
  | d d => exact Rp.up h x.tr.z
  | var i => exact h
  | raw w => exact h
  | new ds =>
    obtain ⟨a, vs, e, h1, h2, h3, h4, h5⟩ := h
    refine ⟨a, vs, e, x.tr.keep a _ h1 h4, x.tr.zfree a _ h1 h2 h4, h3.up x.tr.z, fun q => ?_, h5⟩
    rcases x.sub a q with z | z
    · exact h4 z
    · rw [h1] at z; cases z
theorem RelO.pre {P P' Z H : Hp} {σ : St} {s : S} {v : V} {o : O} (h : RelO P Z H σ s v o) (l : ∀ a, P a = none → P' a = none) : RelO P' Z H σ s v o := by
  cases o with
  | d d => exact h
  | var i => exact h
  | raw w => exact h
  | new ds =>
    obtain ⟨a, vs, e, h1, h2, h3, h4, h5⟩ := h
    exact ⟨a, vs, e, h1, h2, h3, h4, l a h5⟩

/-- what stands there now, as data (an own list is read, not given away) -/
def peek (s : S) : O → Option D
  | .d d => some d
  | .new ds => some (.list ds)
  | .raw _ => none
  | .var i => match s[i]? with
    | some (some (.dat d)) => some d
    | some (some (.own ds)) => some (.list ds)
    | some (some (.io ds)) => some (.list ds)
    | _ => none
theorem peek_ok {P Z H : Hp} {σ : St} {s : S} {v : V} {o : O} {d : D} (r : Rep Z H σ s) (h : RelO P Z H σ s v o) (e : peek s o = some d) : Rp H v d := by
  cases o with
  | d d' => cases e; exact Rp.up h r.sub
  | raw w => cases e
  | new ds =>
    cases e
    obtain ⟨a, vs, rfl, h1, h2, h3, h4, h5⟩ := h
    exact .lst h1 (h3.up r.sub)
  | var i =>
    simp only [peek] at e
    have h' : σ[i]? = some (some v) := h
    split at e
    · rename_i q
      obtain ⟨w, e1, e2⟩ := r.dat _ _ q
      cases e
      rw [h'] at e1; cases e1
      exact e2.up r.sub
    · rename_i q
      obtain ⟨a, vs, e1, e2, e3, e4⟩ := r.own _ _ (.inl q)
      cases e
      rw [h'] at e1; cases e1
      exact .lst e2 (e4.up r.sub)
    · rename_i q
      obtain ⟨a, vs, e1, e2, e3, e4⟩ := r.own _ _ (.inr q)
      cases e
      rw [h'] at e1; cases e1
      exact .lst e2 (e4.up r.sub)
    · cases e

/-- as data for good: an own list is given away -/
def frz1 : O → M D
  | .d d, s => some (d, s)
  | .new ds, s => some (.list ds, s)
  | .raw _, _ => none
  | .var i, s => match s[i]? with
    | some (some (.dat d)) => some (d, s)
    | some (some (.own ds)) => some (.list ds, s.set i (some (.dat (.list ds))))
    | _ => none

theorem set_get {α : Type} {l : List α} {i j : Nat} {x y : α} (h : (l.set i x)[j]? = some y) : (j = i ∧ y = x) ∨ (j ≠ i ∧ l[j]? = some y) := by
  by_cases e : j = i
  · subst e
    left
    refine ⟨rfl, ?_⟩
    rw [List.getElem?_set_self'] at h
    cases q : l[j]? with
    | none => rw [q] at h; simp at h
    | some z => rw [q] at h; simp at h; exact h.symm
  · right
    rw [List.getElem?_set_ne (Ne.symm e)] at h
    exact ⟨e, h⟩

theorem same_upd {H : Hp} {p : Addr} {o : HO} (h : H p = none) : Same H (upd H p o) := fun b x e => by
  rw [upd_ne (ne_of_none e h)]
  exact e

/-- a state in which slot i's own list is now data -/
theorem Rep.freeze {Z H : Hp} {σ : St} {s : S} (r : Rep Z H σ s) {i : Nat} {ds : List D} (q : s[i]? = some (some (.own ds))) {a : Addr} {vs : List V} (e1 : σ[i]? = some (some (.ref a))) (e2 : H a = some (.lst vs)) (e3 : Z a = none) (e4 : RpAll Z vs ds) :
    Rep (upd Z a (.lst vs)) H σ (s.set i (some (.dat (.list ds)))) := by
  have z1 : Same Z (upd Z a (.lst vs)) := same_upd e3
  have oa : OwnAt σ s i a := ⟨⟨ds, .inl q⟩, e1⟩
  have own' : ∀ j b, OwnAt σ (s.set i (some (.dat (.list ds)))) j b → OwnAt σ s j b ∧ j ≠ i := fun j b ⟨⟨es, m⟩, e⟩ => by
    have : j ≠ i ∧ Mu s j es := by
      rcases m with m | m
      · rcases set_get m with ⟨_, z⟩ | ⟨n, z⟩
        · cases z
        · exact ⟨n, .inl z⟩
      · rcases set_get m with ⟨_, z⟩ | ⟨n, z⟩
        · cases z
        · exact ⟨n, .inr z⟩
    exact ⟨⟨⟨es, this.2⟩, e⟩, this.1⟩
  refine ⟨fun b o h => ?_, by rw [List.length_set]; exact r.len, fun j d h => ?_, fun j v h => ?_, fun j es m => ?_, fun j k b x y => r.inj j k b (own' j b x).1 (own' k b y).1⟩
  · by_cases hb : b = a
    · subst hb; rw [upd_same] at h; cases h; exact e2
    · rw [upd_ne hb] at h; exact r.sub b o h
  · rcases set_get h with ⟨rfl, z⟩ | ⟨n, z⟩
    · cases z
      exact ⟨.ref a, e1, .lst upd_same (e4.up z1)⟩
    · obtain ⟨v, h1, h2⟩ := r.dat j d z
      exact ⟨v, h1, h2.up z1⟩
  · rcases set_get h with ⟨rfl, z⟩ | ⟨n, z⟩
    · cases z
    · exact r.raw j v z
  · have m' : j ≠ i ∧ Mu s j es := by
      rcases m with m | m
      · rcases set_get m with ⟨_, z⟩ | ⟨n, z⟩
        · cases z
        · exact ⟨n, .inl z⟩
      · rcases set_get m with ⟨_, z⟩ | ⟨n, z⟩
        · cases z
        · exact ⟨n, .inr z⟩
    obtain ⟨b, ws, h1, h2, h3, h4⟩ := r.own j es m'.2
    have nb : b ≠ a := fun e => by
      subst e
      exact m'.1 (r.inj j i b ⟨⟨es, m'.2⟩, h1⟩ oa)
    exact ⟨b, ws, h1, h2, by rw [upd_ne nb]; exact h3, h4.up z1⟩
theorem own_of_freeze {σ : St} {s : S} {i : Nat} {d : D} {b : Addr} (h : Own σ (s.set i (some (.dat d))) b) : Own σ s b := by
  obtain ⟨j, ⟨es, m⟩, e⟩ := h
  rcases m with m | m
  · rcases set_get m with ⟨_, z⟩ | ⟨n, z⟩
    · cases z
    · exact ⟨j, ⟨es, .inl z⟩, e⟩
  · rcases set_get m with ⟨_, z⟩ | ⟨n, z⟩
    · cases z
    · exact ⟨j, ⟨es, .inr z⟩, e⟩

/-- o is given away as data: what is left is a step from the start; A: the other values' addresses that stay apart -/
theorem frz_ok {Z0 P Z H : Hp} {σ : St} {s0 s s' : S} {v : V} {o : O} {d : D} (x : Stp Z0 P σ s0 Z H σ s) (h : RelO P Z H σ s v o) (e : frz1 o s = some (d, s')) :
    ∃ Z', Stp Z0 P σ s0 Z' H σ s' ∧ Rp Z' v d ∧ Same Z Z' ∧ ∀ w p, RelO P Z H σ s w p → (∀ ds es, o = .new ds → p = .new es → v ≠ w) → RelO P Z' H σ s' w p := by
  cases o with
  | d d' =>
    cases e
    exact ⟨Z, x, h, Same.refl Z, fun w p q _ => q⟩
  | raw w => cases e
  | new ds =>
    cases e
    obtain ⟨a, vs, rfl, h1, h2, h3, h4, h5⟩ := h
    have z1 : Same Z (upd Z a (.lst vs)) := same_upd h2
    have rp : Rep (upd Z a (.lst vs)) H σ s := by
      refine ⟨fun b o' q => ?_, x.rep.len, fun j d q => ?_, x.rep.raw, fun j es m => ?_, x.rep.inj⟩
      · by_cases hb : b = a
        · subst hb; rw [upd_same] at q; cases q; exact h1
        · rw [upd_ne hb] at q; exact x.rep.sub b o' q
      · obtain ⟨w, q1, q2⟩ := x.rep.dat j d q
        exact ⟨w, q1, q2.up z1⟩
      · obtain ⟨b, ws, q1, q2, q3, q4⟩ := x.rep.own j es m
        have nb : b ≠ a := fun e => by
          subst e
          exact h4 ⟨j, ⟨es, m⟩, q1⟩
        exact ⟨b, ws, q1, q2, by rw [upd_ne nb]; exact q3, q4.up z1⟩
    refine ⟨upd Z a (.lst vs), ⟨rp, ⟨x.tr.z.trans z1, x.tr.keep, fun b o' q1 q2 q3 => ?_, x.tr.live⟩, x.sub, x.io, x.noio⟩, .lst upd_same (h3.up z1), z1, fun w p q n => ?_⟩
    · have nb : b ≠ a := fun e => by
        subst e
        rw [h5] at q1; cases q1
      rw [upd_ne nb]
      exact x.tr.zfree b o' q1 q2 q3
    · cases p with
      | d d' => exact Rp.up q z1
      | var i => exact q
      | raw w' => exact q
      | new es =>
        obtain ⟨b, ws, rfl, q1, q2, q3, q4, q5⟩ := q
        have nb : b ≠ a := fun e => n ds es rfl rfl (by rw [e])
        exact ⟨b, ws, rfl, q1, by rw [upd_ne nb]; exact q2, q3.up z1, q4, q5⟩
  | var i =>
    simp only [frz1] at e
    have h' : σ[i]? = some (some v) := h
    split at e
    · rename_i q
      cases e
      obtain ⟨w, e1, e2⟩ := x.rep.dat _ _ q
      rw [h'] at e1; cases e1
      exact ⟨Z, x, e2, Same.refl Z, fun w p q _ => q⟩
    · rename_i ds q
      cases e
      obtain ⟨a, vs, e1, e2, e3, e4⟩ := x.rep.own _ _ (.inl q)
      rw [h'] at e1; cases e1
      have z1 : Same Z (upd Z a (.lst vs)) := same_upd e3
      have oa : Own σ s a := ⟨i, ⟨ds, .inl q⟩, h'⟩
      refine ⟨upd Z a (.lst vs), ⟨x.rep.freeze q h' e2 e3 e4, ⟨x.tr.z.trans z1, x.tr.keep, fun b o' q1 q2 q3 => ?_, x.tr.live⟩, fun b ob => x.sub b (own_of_freeze ob), fun j es m => ?_, fun j es m => ?_⟩, .lst upd_same (e4.up z1), z1, fun w p q' n => ?_⟩
      · have nb : b ≠ a := fun e => by
          subst e
          rcases x.sub b oa with z | z
          · exact q3 z
          · rw [q1] at z; cases z
        rw [upd_ne nb]
        exact x.tr.zfree b o' q1 q2 q3
      · obtain ⟨e1, es', m'⟩ := x.io j es m
        refine ⟨e1, es', ?_⟩
        have nj : i ≠ j := fun e => by subst e; rw [q] at m'; cases m'
        rw [List.getElem?_set_ne nj]
        exact m'
      · rcases set_get m with ⟨_, z⟩ | ⟨_, z⟩
        · cases z
        · exact x.noio j es z
      · cases p with
        | d d' => exact Rp.up q' z1
        | var i => exact q'
        | raw w' => exact q'
        | new es =>
          obtain ⟨b, ws, rfl, q1, q2, q3, q4, q5⟩ := q'
          have nb : b ≠ a := fun e => by subst e; exact q4 oa
          exact ⟨b, ws, rfl, q1, by rw [upd_ne nb]; exact q2, q3.up z1, fun z => q4 (own_of_freeze z), q5⟩
    · cases e
end DL

set_option Elab.async false
set_option linter.all false
set_option maxRecDepth 100000
set_option maxHeartbeats 1000000
set_option autoImplicit false
/-! DL, part b: the readings, and the rules of expressions. -/
namespace DL
open PySem L2

/-! ### the worth of expressions -/
def bindM {α β : Type} (m : M α) (k : α → M β) : M β := fun s => (m s).bind fun p => k p.1 p.2
def retM {α : Type} (a : α) : M α := fun s => some (a, s)
def optM {α : Type} (x : Option α) : M α := fun s => x.map fun a => (a, s)
theorem bindM_some {α β : Type} {m : M α} {k : α → M β} {s : S} {r : β × S} : bindM m k s = some r ↔ ∃ a s1, m s = some (a, s1) ∧ k a s1 = some r := by
  unfold bindM
  rw [Option.bind_eq_some_iff]
  exact ⟨fun ⟨p, h1, h2⟩ => ⟨p.1, p.2, h1, h2⟩, fun ⟨a, s1, h1, h2⟩ => ⟨(a, s1), h1, h2⟩⟩

/-- what an operation gives: data that stands, a new list, a new tuple -/
inductive Rs where
  | el (d : D) | nl (ds : List D) | nt (ds : List D)
def toO : Rs → O
  | .el d => .d d
  | .nl ds => .new ds
  | .nt ds => .d (.tuple ds)

def Pk (Z H : Hp) (v : V) (d : D) : Prop := Rp Z v d ∨ ∃ a vs ds, v = .ref a ∧ H a = some (.lst vs) ∧ d = .list ds ∧ RpAll Z vs ds
theorem Pk.rp {Z H : Hp} {v : V} {d : D} (e : Same Z H) (h : Pk Z H v d) : Rp H v d := by
  rcases h with h | ⟨a, vs, ds, rfl, h1, rfl, h2⟩
  · exact h.up e
  · exact .lst h1 (h2.up e)
theorem Pk.list {Z H : Hp} {v : V} {ds : List D} (e : Same Z H) (h : Pk Z H v (.list ds)) : ∃ a vs, v = .ref a ∧ H a = some (.lst vs) ∧ RpAll Z vs ds := by
  rcases h with h | ⟨a, vs, ds', rfl, h1, e', h2⟩
  · cases h with
    | lst h1 h2 => exact ⟨_, _, rfl, e _ _ h1, h2⟩
  · cases e'
    exact ⟨a, vs, rfl, h1, h2⟩
theorem Pk.tuple {Z H : Hp} {v : V} {ds : List D} (e : Same Z H) (h : Pk Z H v (.tuple ds)) : ∃ a vs, v = .ref a ∧ H a = some (.tup vs) ∧ RpAll Z vs ds := by
  rcases h with h | ⟨a, vs, ds', rfl, h1, e', h2⟩
  · cases h with
    | tup h1 h2 => exact ⟨_, _, rfl, e _ _ h1, h2⟩
  · cases e'
theorem Pk.int {Z H : Hp} {v : V} {i : Int} (h : Pk Z H v (.int i)) : v = .int i := by
  rcases h with h | ⟨a, vs, ds', rfl, h1, e', h2⟩
  · cases h; rfl
  · cases e'
theorem Pk.str {Z H : Hp} {v : V} {i : Str} (h : Pk Z H v (.str i)) : v = .str i := by
  rcases h with h | ⟨a, vs, ds', rfl, h1, e', h2⟩
  · cases h; rfl
  · cases e'
theorem Pk.bool {Z H : Hp} {v : V} {i : Bool} (h : Pk Z H v (.bool i)) : v = .bl i := by
  rcases h with h | ⟨a, vs, ds', rfl, h1, e', h2⟩
  · cases h; rfl
  · cases e'
theorem Pk.none {Z H : Hp} {v : V} (h : Pk Z H v .none) : v = .non := by
  rcases h with h | ⟨a, vs, ds', rfl, h1, e', h2⟩
  · cases h; rfl
  · cases e'
theorem peek_pk {P Z H : Hp} {σ : St} {s : S} {v : V} {o : O} {d : D} (r : Rep Z H σ s) (h : RelO P Z H σ s v o) (e : peek s o = some d) : Pk Z H v d := by
  cases o with
  | d d' => cases e; exact .inl h
  | raw w => cases e
  | new ds =>
    cases e
    obtain ⟨a, vs, rfl, h1, h2, h3, h4, h5⟩ := h
    exact .inr ⟨a, vs, ds, rfl, h1, rfl, h3⟩
  | var i =>
    simp only [peek] at e
    have h' : σ[i]? = some (some v) := h
    split at e
    · rename_i q
      obtain ⟨w, e1, e2⟩ := r.dat _ _ q
      cases e
      rw [h'] at e1; cases e1
      exact .inl e2
    · rename_i q
      obtain ⟨a, vs, e1, e2, e3, e4⟩ := r.own _ _ (.inl q)
      cases e
      rw [h'] at e1; cases e1
      exact .inr ⟨a, vs, _, rfl, e2, rfl, e4⟩
    · rename_i q
      obtain ⟨a, vs, e1, e2, e3, e4⟩ := r.own _ _ (.inr q)
      cases e
      rw [h'] at e1; cases e1
      exact .inr ⟨a, vs, _, rfl, e2, rfl, e4⟩
    · cases e

def Gives (Z H : Hp) : Rs → (VK → Prop) → Prop
  | .el z, k => ∃ v, Rp Z v z ∧ ∀ Q : VK, Q v H → k Q
  | .nl zs, k => ∃ vs, RpAll Z vs zs ∧ ∀ Q : VK, (∀ p, H p = none → Q (.ref p) (upd H p (.lst vs))) → k Q
  | .nt zs, k => ∃ vs, RpAll Z vs zs ∧ ∀ Q : VK, (∀ p, H p = none → Q (.ref p) (upd H p (.tup vs))) → k Q

theorem Rep.nown {Z H : Hp} {σ : St} {s : S} (r : Rep Z H σ s) {p : Addr} (hp : H p = none) : ¬ Own σ s p := fun ⟨i, o⟩ => by
  obtain ⟨vs, ds, _, h, _⟩ := r.at o
  rw [hp] at h; cases h
theorem Rep.alloc {Z H : Hp} {σ : St} {s : S} (r : Rep Z H σ s) {p : Addr} {o : HO} (hp : H p = none) : Rep Z (upd H p o) σ s :=
  ⟨r.sub.trans (same_upd hp), r.len, r.dat, r.raw, fun i ds m => by
    obtain ⟨a, vs, h1, h2, h3, h4⟩ := r.own i ds m
    exact ⟨a, vs, h1, same_upd hp _ _ h2, h3, h4⟩, r.inj⟩
theorem Rep.allocZ {Z H : Hp} {σ : St} {s : S} (r : Rep Z H σ s) {p : Addr} {o : HO} (hp : H p = none) : Rep (upd Z p o) (upd H p o) σ s := by
  have hz : Z p = none := r.sub.free hp
  refine ⟨fun b u q => ?_, r.len, fun i d q => ?_, r.raw, fun i ds m => ?_, r.inj⟩
  · by_cases hb : b = p
    · subst hb; rw [upd_same] at q ⊢; exact q
    · rw [upd_ne hb] at q ⊢; exact r.sub b u q
  · obtain ⟨v, h1, h2⟩ := r.dat i d q
    exact ⟨v, h1, h2.up (same_upd hz)⟩
  · obtain ⟨a, vs, h1, h2, h3, h4⟩ := r.own i ds m
    have na : a ≠ p := ne_of_none h2 hp
    exact ⟨a, vs, h1, same_upd hp _ _ h2, by rw [upd_ne na]; exact h3, h4.up (same_upd hz)⟩
theorem Stp.alloc {Z0 P Z H : Hp} {σ0 σ : St} {s0 s : S} (x : Stp Z0 P σ0 s0 Z H σ s) {p : Addr} {o : HO} (hp : H p = none) : Stp Z0 P σ0 s0 Z (upd H p o) σ s :=
  ⟨x.rep.alloc hp, ⟨x.tr.z, fun a u h n => same_upd hp _ _ (x.tr.keep a u h n), x.tr.zfree, fun a h => x.tr.live a ((same_upd hp).free h)⟩, x.sub, x.io, x.noio⟩
theorem Stp.allocZ {Z0 P Z H : Hp} {σ0 σ : St} {s0 s : S} (x : Stp Z0 P σ0 s0 Z H σ s) {p : Addr} {o : HO} (hp : H p = none) : Stp Z0 P σ0 s0 (upd Z p o) (upd H p o) σ s := by
  have hz : Z p = none := x.rep.sub.free hp
  refine ⟨x.rep.allocZ hp, ⟨x.tr.z.trans (same_upd hz), fun a u h n => same_upd hp _ _ (x.tr.keep a u h n), fun a u h h2 n => ?_, fun a h => x.tr.live a ((same_upd hp).free h)⟩, x.sub, x.io, x.noio⟩
  have na : a ≠ p := fun e => by
    subst e
    rw [x.tr.live a hp] at h; cases h
  rw [upd_ne na]
  exact x.tr.zfree a u h h2 n
/-- the end of an operation -/
theorem fin_ok {Z0 P Z H : Hp} {σ : St} {s0 s : S} {rs : Rs} {k : VK → Prop} {Q : VK} (x : Stp Z0 P σ s0 Z H σ s) (g : Gives Z H rs k) (q : ∀ v Z' H', Stp Z0 P σ s0 Z' H' σ s → RelO P Z' H' σ s v (toO rs) → Q v H') : k Q := by
  cases rs with
  | el z =>
    obtain ⟨v, h1, h2⟩ := g
    exact h2 Q (q v Z H x h1)
  | nl zs =>
    obtain ⟨vs, h1, h2⟩ := g
    exact h2 Q fun p hp => q (.ref p) Z _ (x.alloc hp) ⟨p, vs, rfl, upd_same, x.rep.sub.free hp, h1, x.rep.nown hp, x.tr.live p hp⟩
  | nt zs =>
    obtain ⟨vs, h1, h2⟩ := g
    refine h2 Q fun p hp => q (.ref p) _ _ (x.allocZ hp) ?_
    exact Rp.tup upd_same (h1.up (same_upd (x.rep.sub.free hp)))

/-! ### the readings -/
def tO (f : M O) : TE := fun σ H Q => ∃ Z s o s', Rep Z H σ s ∧ f s = some (o, s') ∧ ∀ v Z' H', Stp Z H σ s Z' H' σ s' → RelO H Z' H' σ s' v o → Q v H'
def tT (f : M Bool) : TT := fun σ H Q => ∃ Z s o s', Rep Z H σ s ∧ f s = some (o, s') ∧ ∀ Z' H', Stp Z H σ s Z' H' σ s' → Q o H'
inductive NewIn (w : V) : List V → List O → Prop
  | here {vs : List V} {os : List O} {ds : List D} : NewIn w (w :: vs) (.new ds :: os)
  | there {v : V} {o : O} {vs : List V} {os : List O} : NewIn w vs os → NewIn w (v :: vs) (o :: os)
inductive RelOs (P Z H : Hp) (σ : St) (s : S) : List V → List O → Prop
  | nil : RelOs P Z H σ s [] []
  | cons {v : V} {o : O} {vs : List V} {os : List O} : RelO P Z H σ s v o → RelOs P Z H σ s vs os → (∀ ds, o = .new ds → ¬ NewIn v vs os) → RelOs P Z H σ s (v :: vs) (o :: os)
theorem RelOs.step {P Z H Z' H' : Hp} {σ : St} {s s' : S} (x : Stp Z H σ s Z' H' σ s') : ∀ {vs : List V} {os : List O}, RelOs P Z H σ s vs os → RelOs P Z' H' σ s' vs os
  | _, _, .nil => .nil
  | _, _, .cons a b c => .cons (a.step x) (b.step x) c
theorem RelOs.pre {P P' Z H : Hp} {σ : St} {s : S} (l : ∀ a, P a = none → P' a = none) : ∀ {vs : List V} {os : List O}, RelOs P Z H σ s vs os → RelOs P' Z H σ s vs os
  | _, _, .nil => .nil
  | _, _, .cons a b c => .cons (a.pre l) (b.pre l) c
theorem RelOs.fresh {P Z H : Hp} {σ : St} {s : S} {w : V} : ∀ {vs : List V} {os : List O}, RelOs P Z H σ s vs os → NewIn w vs os → ∃ a, w = .ref a ∧ P a = none
  | _, _, .cons a _ _, .here => by
    obtain ⟨x, vs, e, _, _, _, _, h⟩ := a
    exact ⟨x, e, h⟩
  | _, _, .cons _ b _, .there n => b.fresh n
def tA (f : M (List O)) : TA := fun σ H Q => ∃ Z s os s', Rep Z H σ s ∧ f s = some (os, s') ∧ ∀ vs Z' H', Stp Z H σ s Z' H' σ s' → RelOs H Z' H' σ s' vs os → Q vs H'

theorem _root_.L2.PE.wk {X : Cx} {e : Expr} {t t' : TE} (h : PE X e t) (i : ∀ σ H Q, t' σ H Q → t σ H Q) : PE X e t' := ⟨fun pins s σ H Q I q => h.run pins s σ H Q I (i σ H Q q)⟩
theorem _root_.L2.PT.wk {X : Cx} {e : Expr} {t t' : TT} (h : PT X e t) (i : ∀ σ H Q, t' σ H Q → t σ H Q) : PT X e t' := ⟨fun pins s σ H Q I q => h.run pins s σ H Q I (i σ H Q q)⟩
theorem _root_.L2.PW.wk {X : Cx} {e : Expr} {t t' : TT} (h : PW X e t) (i : ∀ σ H Q, t' σ H Q → t σ H Q) : PW X e t' := ⟨fun w pins s σ H Q I q => h.run w pins s σ H Q I (i σ H Q q)⟩
theorem _root_.L2.PA.wk {X : Cx} {e : List Expr} {t t' : TA} (h : PA X e t) (i : ∀ σ H Q, t' σ H Q → t σ H Q) : PA X e t' := ⟨fun pos pins s σ H Q I q => h.run pos pins s σ H Q I (i σ H Q q)⟩
theorem _root_.L2.PS.wk {X : Cx} {e : Stmt} {t t' : TS} (h : PS X e t) (i : ∀ D σ H, t' D σ H → t D σ H) : PS X e t' := ⟨fun pins s σ H D I q => h.run pins s σ H D I (i D σ H q)⟩
theorem _root_.L2.PSs.wk {X : Cx} {e : List Stmt} {t t' : TS} (h : PSs X e t) (i : ∀ D σ H, t' D σ H → t D σ H) : PSs X e t' := ⟨fun pins s σ H D I q => h.run pins s σ H D I (i D σ H q)⟩
theorem _root_.L2.PI.wk {X : Cx} {tg e : Expr} {t t' : TI} (h : PI X tg e t) (i : ∀ σ H Q, t' σ H Q → t σ H Q) : PI X tg e t' := ⟨fun pins s σ H R I q => h.run pins s σ H R I (i σ H R q)⟩
theorem _root_.L2.PG.wk {X : Cx} {e : Expr} {t t' : TG} (h : PG X e t) (i : ∀ v σ H Q, t' v σ H Q → t v σ H Q) : PG X e t' := ⟨fun pins s σ H v u Q I r q => h.run pins s σ H v u Q I r (i v σ H Q q)⟩
/-! ### names, constants -/
def nameD (i : Nat) : M O := fun s => match s[i]? with
  | some (some _) => some (.var i, s)
  | _ => none
def cD (d : D) : M O := fun s => some (.d d, s)
theorem Rep.val {Z H : Hp} {σ : St} {s : S} (r : Rep Z H σ s) {i : Nat} {x : SV} (h : s[i]? = some (some x)) : ∃ v, σ[i]? = some (some v) := by
  cases x with
  | dat d => obtain ⟨v, e, _⟩ := r.dat i d h; exact ⟨v, e⟩
  | raw v => exact ⟨v, r.raw i v h⟩
  | own ds => obtain ⟨a, _, e, _⟩ := r.own i ds (.inl h); exact ⟨_, e⟩
  | io ds => obtain ⟨a, _, e, _⟩ := r.own i ds (.inr h); exact ⟨_, e⟩
section
variable {X : Cx}
theorem eo_var (i : Nat) {x : Str} {pos : Pos} (hN : X.N[i]? = some x := by rfl) (hv : Vis X.env.scope x := by first | exact Or.inl rfl | exact Or.inr (Or.inl rfl) | exact Or.inr (Or.inr rfl)) (hd : (x == ("__debug__" : Str)) = false := by decide)
    (hcd : (x == ("__classdict__" : Str)) = false := by decide) : PE X (.Name x pos) (tO (nameD i)) := (pe_var hN hv hd hcd).wk fun σ H Q ⟨Z, s, o, s', r, e, q⟩ => by
  unfold nameD at e
  split at e
  · rename_i h
    cases e
    obtain ⟨v, ev⟩ := r.val h
    exact ⟨v, ev, q v Z H (.refl r) ev⟩
  · cases e
theorem c_ok {d : D} {v : V} (h : ∀ Z, Rp Z v d) {σ : St} {H : Hp} {Q : VK} (q : tO (cD d) σ H Q) : tC v σ H Q := by
  obtain ⟨Z, s, o, s', r, e, q⟩ := q
  cases e
  exact q v Z H (.refl r) (h Z)
theorem eo_int {i j pos} : PE X (.Constant (.int i) j pos) (tO (cD (.int i))) := pe_int.wk fun _ _ _ => c_ok fun _ => .int i
theorem eo_bl {b j pos} : PE X (.Constant (.bool b) j pos) (tO (cD (.bool b))) := pe_bl.wk fun _ _ _ => c_ok fun _ => .bl b
theorem eo_non {j pos} : PE X (.Constant .none j pos) (tO (cD .none)) := pe_non.wk fun _ _ _ => c_ok fun _ => .non
theorem eo_str {x j pos} : PE X (.Constant (.str x) j pos) (tO (cD (.str x))) := pe_str.wk fun _ _ _ => c_ok fun _ => .str x

/-! ### two operands -/
def Ok2 (r : R2) (p : D → D → Option Rs) : Prop := ∀ (Z H : Hp) (x y : V) (d e : D) (rs : Rs), Same Z H → Pk Z H x d → Pk Z H y e → p d e = some rs → Gives Z H rs (fun Q => r x y H Q)
def pk2 (p : D → D → Option Rs) (o1 o2 : O) : M O := fun s => (peek s o1).bind fun d1 => (peek s o2).bind fun d2 => (p d1 d2).map fun r => (toO r, s)
def bin2 (p : D → D → Option Rs) (fa fb : M O) : M O := bindM fa fun o1 => bindM fb fun o2 => pk2 p o1 o2
theorem pk2_some {p : D → D → Option Rs} {o1 o2 o : O} {s s' : S} : pk2 p o1 o2 s = some (o, s') ↔ ∃ d1 d2 r, peek s o1 = some d1 ∧ peek s o2 = some d2 ∧ p d1 d2 = some r ∧ o = toO r ∧ s' = s := by
  unfold pk2
  constructor
  · intro h
    obtain ⟨d1, h1, h⟩ := Option.bind_eq_some_iff.mp h
    obtain ⟨d2, h2, h⟩ := Option.bind_eq_some_iff.mp h
    obtain ⟨r, h3, h⟩ := Option.map_eq_some_iff.mp h
    cases h
    exact ⟨d1, d2, r, h1, h2, h3, rfl, rfl⟩
  · rintro ⟨d1, d2, r, h1, h2, h3, rfl, rfl⟩
    rw [h1, Option.bind_some, h2, Option.bind_some, h3]
    rfl
theorem bin2_ok {r : R2} {p : D → D → Option Rs} {fa fb : M O} (ok : Ok2 r p) (σ : St) (H : Hp) (Q : VK) (h : tO (bin2 p fa fb) σ H Q) : tOp r (tO fa) (tO fb) σ H Q := by
  obtain ⟨Z, s, o, s', R, e, q⟩ := h
  obtain ⟨o1, s1, e1, e⟩ := bindM_some.mp e
  obtain ⟨o2, s2, e2, e⟩ := bindM_some.mp e
  obtain ⟨d1, d2, rs, h1, h2, h3, rfl, rfl⟩ := pk2_some.mp e
  refine ⟨Z, s, o1, s1, R, e1, fun x Z1 H1 st1 r1 => ⟨Z1, s1, o2, s', st1.rep, e2, fun y Z2 H2 st2 r2 => ?_⟩⟩
  exact fin_ok (st1.trans st2) (ok Z2 H2 x y d1 d2 rs st2.rep.sub (peek_pk st2.rep (r1.step st2) h1) (peek_pk st2.rep r2 h2) h3) q
theorem eo_op {op : Operator} {r : R2} {p : D → D → Option Rs} {a b : Expr} {fa fb : M O} {pos : Pos} (ho : OpR X (binaryOp op) r) (ok : Ok2 r p) (ha : PE X a (tO fa)) (hb : PE X b (tO fb)) : PE X (.BinOp a op b pos) (tO (bin2 p fa fb)) :=
  (pe_op ho ha hb).wk (bin2_ok ok)
theorem eo_cmp {op : CmpOp} {r : R2} {p : D → D → Option Rs} {a b : Expr} {fa fb : M O} {pos : Pos} (ho : OpR X (compareOp op) r) (ok : Ok2 r p) (ha : PE X a (tO fa)) (hb : PE X b (tO fb)) (hm : behindInMarks op b = false) : PE X (.Compare a [op] [b] pos) (tO (bin2 p fa fb)) :=
  (pe_cmpR ho ha hb hm).wk (bin2_ok ok)
theorem eo_ix {r : R2} {p : D → D → Option Rs} {a b : Expr} {fa fb : M O} {pos : Pos} (ho : IxR X r) (ok : Ok2 r p) (ha : PE X a (tO fa)) (hb : PE X b (tO fb)) (hs : PlainIx b) : PE X (.Subscript a b pos) (tO (bin2 p fa fb)) :=
  (pe_ix ho ha hb hs).wk (bin2_ok ok)
/-! one operand -/
def Ok1 (r : V → Hp → VK → Prop) (p : D → Option Rs) : Prop := ∀ (Z H : Hp) (x : V) (d : D) (rs : Rs), Same Z H → Pk Z H x d → p d = some rs → Gives Z H rs (fun Q => r x H Q)
def pk1 (p : D → Option Rs) (o1 : O) : M O := fun s => (peek s o1).bind fun d1 => (p d1).map fun r => (toO r, s)
def un1 (p : D → Option Rs) (fa : M O) : M O := bindM fa fun o1 => pk1 p o1
theorem pk1_some {p : D → Option Rs} {o1 o : O} {s s' : S} : pk1 p o1 s = some (o, s') ↔ ∃ d1 r, peek s o1 = some d1 ∧ p d1 = some r ∧ o = toO r ∧ s' = s := by
  unfold pk1
  constructor
  · intro h
    obtain ⟨d1, h1, h⟩ := Option.bind_eq_some_iff.mp h
    obtain ⟨r, h3, h⟩ := Option.map_eq_some_iff.mp h
    cases h
    exact ⟨d1, r, h1, h3, rfl, rfl⟩
  · rintro ⟨d1, r, h1, h3, rfl, rfl⟩
    rw [h1, Option.bind_some, h3]
    rfl
theorem un1_ok {r : V → Hp → VK → Prop} {p : D → Option Rs} {fa : M O} (ok : Ok1 r p) (σ : St) (H : Hp) (Q : VK) (h : tO (un1 p fa) σ H Q) : tUn r (tO fa) σ H Q := by
  obtain ⟨Z, s, o, s', R, e, q⟩ := h
  obtain ⟨o1, s1, e1, e⟩ := bindM_some.mp e
  obtain ⟨d1, rs, h1, h3, rfl, rfl⟩ := pk1_some.mp e
  refine ⟨Z, s, o1, s', R, e1, fun x Z1 H1 st1 r1 => ?_⟩
  exact fin_ok st1 (ok Z1 H1 x d1 rs st1.rep.sub (peek_pk st1.rep r1 h1) h3) q
theorem eo_un {op : UnaryOp} {r : V → Hp → VK → Prop} {p : D → Option Rs} {a : Expr} {fa : M O} {pos : Pos} (ho : UnR X (unaryOp op) r) (ok : Ok1 r p) (ha : PE X a (tO fa)) : PE X (.UnaryOp op a pos) (tO (un1 p fa)) :=
  (pe_un ho ha).wk (un1_ok ok)
/-- a reading that is ta and then a question of the value -/
theorem un1_ok' {t : TE} {r : V → Hp → VK → Prop} {p : D → Option Rs} {fa : M O} (ht : ∀ σ H Q, tO fa σ H (fun x H1 => r x H1 Q) → t σ H Q) (ok : Ok1 r p) (σ : St) (H : Hp) (Q : VK) (h : tO (un1 p fa) σ H Q) : t σ H Q := ht σ H Q (un1_ok ok σ H Q h)

/-! ### argument lists, displays -/
def nilA : M (List O) := retM []
def consA (f : M O) (r : M (List O)) : M (List O) := bindM f fun o => bindM r fun os => retM (o :: os)
theorem ea_nil : PA X [] (tA nilA) := pa_nil.wk fun σ H Q ⟨Z, s, os, s', R, e, q⟩ => by
  cases e
  exact q [] Z H (.refl R) .nil
theorem ea_cons {e : Expr} {es : List Expr} {f : M O} {r : M (List O)} (ha : PE X e (tO f)) (hr : PA X es (tA r)) (hs : starEach (e :: es) X.env = (false, eval e X.env) :: starEach es X.env := by rfl) : PA X (e :: es) (tA (consA f r)) :=
  (pa_cons ha hr hs).wk fun σ H Q ⟨Z, s, os, s', R, e, q⟩ => by
  obtain ⟨o, s1, e1, e⟩ := bindM_some.mp e
  obtain ⟨os', s2, e2, e⟩ := bindM_some.mp e
  cases e
  refine ⟨Z, s, o, s1, R, e1, fun x Z1 H1 st1 r1 => ⟨Z1, s1, os', s', st1.rep, e2, fun xs Z2 H2 st2 r2 => q _ Z2 H2 (st1.trans st2) (.cons (r1.step st2) (r2.pre st1.tr.live) fun ds eo n => ?_)⟩⟩
  subst eo
  obtain ⟨a, vs, rfl, h1, _⟩ := r1
  obtain ⟨b, eb, hb⟩ := r2.fresh n
  cases eb
  rw [h1] at hb; cases hb

def frzs : List O → M (List D)
  | [] => retM []
  | o :: os => bindM (frz1 o) fun d => bindM (frzs os) fun ds => retM (d :: ds)
theorem frz_rest {P Z H Z' : Hp} {σ : St} {s s' : S} {v : V} {o : O} (k : ∀ w p, RelO P Z H σ s w p → (∀ ds es, o = .new ds → p = .new es → v ≠ w) → RelO P Z' H σ s' w p) :
    ∀ {vs : List V} {os : List O}, RelOs P Z H σ s vs os → (∀ ds, o = .new ds → ¬ NewIn v vs os) → RelOs P Z' H σ s' vs os
  | _, _, .nil, _ => .nil
  | _, _, .cons a b c, n => .cons (k _ _ a fun ds es e1 e2 e3 => n ds e1 (by subst e2; rw [e3]; exact .here)) (frz_rest k b fun ds e q => n ds e (.there q)) c
theorem frzs_ok {Z0 P : Hp} {σ : St} {s0 : S} : ∀ {os : List O} {Z H : Hp} {s s' : S} {vs : List V} {ds : List D}, Stp Z0 P σ s0 Z H σ s → RelOs P Z H σ s vs os → frzs os s = some (ds, s') →
    ∃ Z', Stp Z0 P σ s0 Z' H σ s' ∧ RpAll Z' vs ds ∧ Same Z Z'
  | [], Z, H, s, s', vs, ds, x, h, e => by
    cases e; cases h
    exact ⟨Z, x, .nil, Same.refl Z⟩
  | o :: os, Z, H, s, s', vs, ds, x, h, e => by
    cases h with
    | cons a b c =>
      obtain ⟨d, s1, e1, e⟩ := bindM_some.mp e
      obtain ⟨ds', s2, e2, e⟩ := bindM_some.mp e
      cases e
      obtain ⟨Z1, st1, r1, z1, k⟩ := frz_ok x a e1
      obtain ⟨Z2, st2, r2, z2⟩ := frzs_ok st1 (frz_rest k b c) e2
      exact ⟨Z2, st2, .cons (r1.up z2) r2, z1.trans z2⟩
/-- the values as data, given away; then k -/
def dataA (f : M (List O)) : M (List D) := bindM f frzs
def dispL (f : M (List O)) : M O := bindM (dataA f) fun ds s => if ds.length ≤ 16777216 then some (.new ds, s) else none
def dispT (f : M (List O)) : M O := bindM (dataA f) fun ds s => if ds.length ≤ 16777216 then some (.d (.tuple ds), s) else none
theorem eo_lst {es : List Expr} {f : M (List O)} {pos : Pos} (h : PA X es (tA f)) : PE X (.List es pos) (tO (dispL f)) := (pe_lst h).wk fun σ H Q ⟨Z, s, o, s', R, e, q⟩ => by
  obtain ⟨ds, s1, e1, e⟩ := bindM_some.mp e
  obtain ⟨os, s2, e2, e3⟩ := bindM_some.mp e1
  refine ⟨Z, s, os, s2, R, e2, fun vs Z1 H1 st1 r1 => ?_⟩
  obtain ⟨Z2, st2, r2, z2⟩ := frzs_ok st1 r1 e3
  split at e
  · rename_i hl
    cases e
    refine ⟨by rw [r2.len, sizeLine_eq]; exact hl, fun p hp => ?_⟩
    exact q (.ref p) Z2 _ (st2.alloc hp) ⟨p, vs, rfl, upd_same, st2.rep.sub.free hp, r2, st2.rep.nown hp, st2.tr.live p hp⟩
  · cases e
theorem eo_tup {es : List Expr} {f : M (List O)} {pos : Pos} {k : Nat} (h : PA X es (tA f)) : PE X (.Tuple es k pos) (tO (dispT f)) := (pe_tup h).wk fun σ H Q ⟨Z, s, o, s', R, e, q⟩ => by
  obtain ⟨ds, s1, e1, e⟩ := bindM_some.mp e
  obtain ⟨os, s2, e2, e3⟩ := bindM_some.mp e1
  refine ⟨Z, s, os, s2, R, e2, fun vs Z1 H1 st1 r1 => ?_⟩
  obtain ⟨Z2, st2, r2, z2⟩ := frzs_ok st1 r1 e3
  split at e
  · rename_i hl
    cases e
    refine ⟨by rw [r2.len, sizeLine_eq]; exact hl, fun p hp => ?_⟩
    exact q (.ref p) _ _ (st2.allocZ hp) (Rp.tup upd_same (r2.up (same_upd (st2.rep.sub.free hp))))
  · cases e

/-! ### calls of built-ins: values are looked at -/
inductive PkAll (Z H : Hp) : List V → List D → Prop
  | nil : PkAll Z H [] []
  | cons {v : V} {d : D} {vs : List V} {ds : List D} : Pk Z H v d → PkAll Z H vs ds → PkAll Z H (v :: vs) (d :: ds)
def peeks (s : S) : List O → Option (List D)
  | [] => some []
  | o :: os => (peek s o).bind fun d => (peeks s os).map fun ds => d :: ds
theorem peeks_ok {P Z H : Hp} {σ : St} {s : S} (r : Rep Z H σ s) : ∀ {vs : List V} {os : List O} {ds : List D}, RelOs P Z H σ s vs os → peeks s os = some ds → PkAll Z H vs ds
  | _, _, _, .nil, e => by cases e; exact .nil
  | _, _, _, .cons a b _, e => by
    obtain ⟨d, e1, e⟩ := Option.bind_eq_some_iff.mp e
    obtain ⟨ds, e2, e⟩ := Option.map_eq_some_iff.mp e
    cases e
    exact .cons (peek_pk r a e1) (peeks_ok r b e2)
def OkC (r : List V → Hp → VK → Prop) (p : List D → Option Rs) : Prop := ∀ (Z H : Hp) (vs : List V) (ds : List D) (rs : Rs), Same Z H → PkAll Z H vs ds → p ds = some rs → Gives Z H rs (fun Q => r vs H Q)
def callP (p : List D → Option Rs) (f : M (List O)) : M O := bindM f fun os s => (peeks s os).bind fun ds => (p ds).map fun r => (toO r, s)
theorem callP_ok {r : List V → Hp → VK → Prop} {p : List D → Option Rs} {f : M (List O)} (ok : OkC r p) (σ : St) (H : Hp) (Q : VK) (h : tO (callP p f) σ H Q) : tCB r (tA f) σ H Q := by
  obtain ⟨Z, s, o, s', R, e, q⟩ := h
  obtain ⟨os, s1, e1, e⟩ := bindM_some.mp e
  obtain ⟨ds, e2, e⟩ := Option.bind_eq_some_iff.mp e
  obtain ⟨rs, e3, e⟩ := Option.map_eq_some_iff.mp e
  cases e
  refine ⟨Z, s, os, s', R, e1, fun vs Z1 H1 st1 r1 => ?_⟩
  exact fin_ok st1 (ok Z1 H1 vs ds rs st1.rep.sub (peeks_ok st1.rep r1 e2) e3) q
end
end DL

set_option Elab.async false
set_option linter.all false
set_option maxRecDepth 100000
set_option maxHeartbeats 1000000
set_option autoImplicit false
/-! DL, part g: defs that are called where no repr runs (guards = some []): the promise, its calls, the rule of a body, the law's end. -/
namespace DL
open PySem L2 PySem.Spec PyProof.Rows
abbrev Calm (A : Around) : Prop := A.guards = some []
structure FnG (P : Program) (w : World) (K : PySem.W.Frag) (mg : Str → Option Value) (base : Heap) (cx : CXT) (k : Nat) (f : Addr) (fd : FuncData) (ps : List Str) (sp : Sp) : Prop where
  size : ∀ vs H Q E, sp vs H Q E → vs.length = ps.length
  goes : ∀ (A : Around) (ou : List Env) (s : Shared) (H : Hp) (args : Args) (us : List Value) (vs : List V) (Q : VK) (E : XK), Room k A → Calm A →
    Env0 P w K mg base A ou s H → BindsTo s fd args (ps.zip us) → Vals vs us → sp vs H Q E → codeAny (model P w) A (.call (.ref f) args) (CR cx ou P w H s Q E) s
section
variable {X : Cx} {cx : CXT} {k : Nat} {f : Addr} {fd : FuncData} {ps : List Str} {sp : Sp} {E : XK} {x : Str} {p pos : Pos} {e : Expr} {es : List Expr} {t tk : TA}
/-- behind a callee's run -/
theorem back_of {pins : List (Addr × Obj)} {σ : L2.St} {H : Hp} {s : Shared} {Q : VK} {args : Args} (hx : Passes cx X E) (I : Inv X pins σ H s)
    (c : codeAny (model X.prog X.w) X.A (.call (.ref f) args) (CR cx X.stack X.prog X.w H s Q E) s) :
    codeAny (model X.prog X.w) X.A (.call (.ref f) args) (fun r s' => match r with
      | .ok (.ret u) => EP X pins σ Q u s'
      | .ok _ => False
      | .error y => X.xe y s') s := codeAny_mono c fun r s' hq => by
  match r, hq with
  | .error y, hq => exact hx pins σ H s y s' I hq
  | .ok (.ret u), hq => exact I.after hq
  | .ok .next, hq => exact hq
  | .ok .brk, hq => exact hq
  | .ok .cont, hq => exact hq
theorem go_fn {pins : List (Addr × Obj)} {σ : L2.St} {H : Hp} {s : Shared} {Q : VK} {us : List Value} {vs : List V} (F : FnG X.prog X.w X.K X.mg X.base cx k f fd ps sp) (hr : Room k X.A) (hq : Calm X.A) (hb : Binds X.K fd ps []) (hx : Passes cx X E)
    (I : Inv X pins σ H s) (r : Vals vs us) (h : sp vs H Q E) : wpAny (model X.prog X.w) X.A (call (.ref f) us) (EP X pins σ Q) X.xe s := by
  have n : (us ++ []).length = ps.length := by rw [List.append_nil, ← r.length]; exact F.size _ _ _ _ h
  have b := hb s us I.kIn n
  rw [List.append_nil] at b
  refine wpAny_call (codeAny_mono (back_of hx I (F.goes X.A X.stack s H ⟨us, []⟩ us vs Q E hr hq I.env0 b r h)) fun r s' z => ?_)
  match r, z with
  | .error y, z => exact z
  | .ok (.ret u), z => exact z
  | .ok .next, z => exact z.elim
  | .ok .brk, z => exact z.elim
  | .ok .cont, z => exact z.elim
theorem pe_go (F : FnG X.prog X.w X.K X.mg X.base cx k f fd ps sp) (hr : Room k X.A) (hq : Calm X.A) (hg : Gl X x) (hm : X.mg x = some (.ref f)) (hk : PySem.W.keepIn X.K (.ref f) = true) (hb : Binds X.K fd ps []) (hx : Passes cx X E)
    (ha : PA X (e :: es) t) (hdb : (x == ("__debug__" : Str)) = false := by decide) (he : starEach (e :: es) X.env = (false, eval e X.env) :: starEach es X.env := by rfl) (hpl : (backTo pos (starEach es X.env)).any (·.1) = false := by rfl) :
    PE X (.Call (.Name x p) (e :: es) [] pos) (fun σ H Q => t σ H fun vs H1 => sp vs H1 Q E) := ⟨fun pins s σ H Q I h => by
  refine wpAny_Call_Name_kw (ld_glob I hg hm (PySem.W.callWith_K (h₀ := X.base) I.ok.mod.kin hk ?_ he hpl) hdb)
  exact thn (ha.run pos pins s σ H _ I h) fun us s1 ⟨vs, H1, J, r, q⟩ => ⟨J.kIn, go_fn F hr hq hb hx J r q⟩⟩
theorem pe_go0 (F : FnG X.prog X.w X.K X.mg X.base cx k f fd ps sp) (hr : Room k X.A) (hq : Calm X.A) (hg : Gl X x) (hm : X.mg x = some (.ref f)) (hk : PySem.W.keepIn X.K (.ref f) = true) (hb : Binds X.K fd ps []) (hx : Passes cx X E)
    (hdb : (x == ("__debug__" : Str)) = false := by decide) : PE X (.Call (.Name x p) [] [] pos) (fun σ H Q => sp [] H Q E) := ⟨fun pins s σ H Q I h =>
  wpAny_Call_Name_kw (ld_glob I hg hm (PySem.W.callWith_K0 I.kIn hk (go_fn (us := []) F hr hq hb hx I .nil h)) hdb)⟩
variable {ks : List Str} {kws : List Keyword} {g : List Value → List Value → List Value} {gV : List V → List V → List V}
theorem go_fnk {pins : List (Addr × Obj)} {σ : L2.St} {H : Hp} {s : Shared} {Q : VK} {us ws : List Value} {vs zs : List V} (F : FnG X.prog X.w X.K X.mg X.base cx k f fd ps sp) (hr : Room k X.A) (hq : Calm X.A) (hb : KBinds X.K fd ps ks g gV) (hx : Passes cx X E)
    (I : Inv X pins σ H s) (r : Vals vs us) (rz : Vals zs ws) (h : sp (gV vs zs) H Q E) : wpAny (model X.prog X.w) X.A (call (.ref f) us (ks.zip ws)) (EP X pins σ Q) X.xe s := by
  have q := hb.rel r rz
  have n : (g us ws).length = ps.length := q.length ▸ F.size _ _ _ _ h
  refine wpAny_call (codeAny_mono (back_of hx I (F.goes X.A X.stack s H ⟨us, ks.zip ws⟩ (g us ws) (gV vs zs) Q E hr hq I.env0 (hb.to s us ws I.kIn n) q h)) fun r s' z => ?_)
  match r, z with
  | .error y, z => exact z
  | .ok (.ret u), z => exact z
  | .ok .next, z => exact z.elim
  | .ok .brk, z => exact z.elim
  | .ok .cont, z => exact z.elim
/-- f(k = v, ..), keywords alone -/
theorem pe_goK0 (F : FnG X.prog X.w X.K X.mg X.base cx k f fd ps sp) (hr : Room k X.A) (hq : Calm X.A) (hg : Gl X x) (hm : X.mg x = some (.ref f)) (hk : PySem.W.keepIn X.K (.ref f) = true) (hb : KBinds X.K fd ps ks g gV) (hx : Passes cx X E)
    (hkw : PK X kws tk) (hall : (backToKw pos (keywordEach kws X.env)).all (·.1.isSome) = true := by rfl) (hks : (backToKw pos (keywordEach kws X.env)).filterMap (·.1) = ks := by rfl)
    (hdb : (x == ("__debug__" : Str)) = false := by decide) (hpl : (backToKw pos (keywordEach kws X.env)).any (·.1.isNone) = false := by rfl) :
    PE X (.Call (.Name x p) [] kws pos) (fun σ H Q => tk σ H fun zs H1 => sp (gV [] zs) H1 Q E) := ⟨fun pins s σ H Q I h => by
  refine wpAny_Call_Name_kw (ld_glob I hg hm (PySem.W.callWith_KW0 (h₀ := X.base) I.ok.mod.kin hk hall ?_ hpl) hdb)
  refine thn (hkw.run pos pins s σ H _ I h) fun ws s2 ⟨zs, H2, J, rz, q2⟩ => ⟨J.kIn, ?_⟩
  rw [hks]
  exact go_fnk (us := []) (vs := []) F hr hq hb hx J .nil rz q2⟩
end
/-! ### a body keeps its promise -/
section
variable {P : Program} {w : World} {K : PySem.W.Frag} {mg : Str → Option Value} {base : Heap}
theorem fn_body {cx : CXT} {k : Nat} {f : Addr} {name qual : Str} {params : Arguments} {body : List Stmt} {scope : Scope} {dV kV doc pm cdv ct oc : Value} {an od : Option Addr} {osl : Array (Option Value)} {N ps : List Str} {sp : Sp}
    (at_f : K.lookup f = some ⟨oc, od, .func (PySem.W.fnOf name qual params body scope dV kV doc pm an cdv ct), osl⟩) (code : PySem.W.codeIn K cdv qual = true) (S : FnScope N ps scope) (size : ∀ vs H Q E, sp vs H Q E → vs.length = ps.length)
    (body_ok : ∀ (A : Around) (ou : List Env) (s : Shared) (H : Hp) (vs : List V) (Q : VK) (E : XK), Room k (A.deeper (envOfC qual scope s.heap.objs.size f cdv)) → Calm A → sp vs H Q E →
      ∃ t, PSs (cxOf cx P w K mg base N qual scope f cdv A ou s H E) body t ∧ t { nx := fun _ H' => Q .non H', rt := Q } (start N vs) H) :
    FnG P w K mg base cx (k + 1) f (PySem.W.fnOf name qual params body scope dV kV doc pm an cdv ct) ps sp := ⟨size, fun A ou s H args us vs Q E room calm e0 bd rel prom => by
  have kin : K.In s.heap := e0.mod.kin.keeps fun b o e => (e0.bs b o e).1
  have nol := e0.mod.nolimit.keeps fun b o e => (e0.bs b o e).1
  refine codeAny_call_function room.depth (kin _ _ at_f) rfl S.co S.gen rfl (PySem.W.codeRec_of kin code) (bd _ _ _ _ (wpAny_newFunctionEnv_cells S.kind (fun y hy => ?_) fun env he s1 entered => ?_))
  · exact (S.par y.1 (List.of_mem_zip (show (y.1, y.2) ∈ ps.zip us from hy)).1).imp id fun q => ⟨q, PySem.W.cellsFrom_some _ _ _ (.inl q)⟩
  subst he
  obtain ⟨t, ht, hq⟩ := body_ok A ou s H vs Q E (room.deeper _) calm prom
  have J : Inv (cxOf cx P w K mg base N qual scope f cdv A ou s H E) [] (start N vs) H s1 := inv_start S room.hd e0 (size _ _ _ _ prom) rel entered
  refine ⟨nol.keeps entered.toInCall.keep, codeAny_func (wpAny_mono (ht.run [] s1 (start N vs) H _ J hq) (fun fl s' hs => ?_) fun _ _ z => z)⟩
  match fl, hs with
  | .ret u, ⟨v, _, H', J', rv, q⟩ => exact ⟨v, H', J'.os, J'.bare, J'.base, J'.hok, rv, q⟩
  | .next, ⟨_, H', J', q⟩ => exact ⟨V.non, H', J'.os, J'.bare, J'.base, J'.hok, rfl, q⟩
  | .brk, ⟨_, _, _, q⟩ => exact q.elim
  | .cont, ⟨_, _, _, q⟩ => exact q.elim⟩
/-- a def of the text that no exception leaves -/
theorem fun_ok {x qual : Str} {st : Stmt} {f : Addr} {fd : FuncData} {N ps : List Str} {k : Nat} {sp : Sp} (F : Fun K x qual st f fd) (S : FnScope N ps (defScope st)) (size : ∀ vs H Q E, sp vs H Q E → vs.length = ps.length)
    (go : ∀ (cdv : Value) (A : Around) (ou : List Env) (s : Shared) (H : Hp) (vs : List V) (Q : VK) (E : XK), Room k (A.deeper (envOfC qual (defScope st) s.heap.objs.size f cdv)) → Calm A → sp vs H Q E →
      ∃ t, PSs (cxOf CX0 P w K mg base N qual (defScope st) f cdv A ou s H E).nox (defBody st) t ∧ t { nx := fun _ H' => Q .non H', rt := Q } (start N vs) H) : FnG P w K mg base CX0 (k + 1) f fd ps sp := by
  obtain ⟨_, _, _, _, _, _, cdv, _, _, rfl, l, c⟩ := F.ex
  exact fn_body l c S size fun A ou s H vs Q E room calm prom => let ⟨t, h, q⟩ := go cdv A ou s H vs Q E room calm prom; ⟨t, h.nox, q⟩
end
/-! ### the law's call -/
theorem law_go {P : Program} {w : World} {K : PySem.W.Frag} {mg mb : Str → Option Value} {cx : CXT} {k : Nat} {fa a : Addr} {fd : FuncData} {x : Str} {sp : Sp} {s₁ : Shared} {vs : List Value} {ns : List Int} (kin : K.In s₁.heap) (glb : s₁.heap.Ns mainGlobals mg)
    (blt : s₁.heap.Ns builtinsNs mb) (bltIs : ∀ x : Str, x ≠ "__name__" → mb x = bootBuiltins x) (nolim : s₁.heap.NoLimit) (nog : s₁.gens = #[]) (scr : s₁.heap.get? a = some { cls := .type "list", data := .seq vs.toArray }) (are : IntsAre vs ns)
    (fits : ns.length ≤ sizeLine) (room : Room k callerA) (F : ∀ base : Heap, K.In base → base.Ns mainGlobals mg → FnG P w K mg base cx k fa fd [x] sp) (binds : ∀ (s : Shared) (u : Value), BindsTo s fd ⟨[u], []⟩ [(x, u)])
    (prom : ∀ H : Hp, Only H → SqL K H a (ns.map V.int) → sp [.ref a] H (fun v _ => v = .bl true) fun _ _ _ => False) (none_out : ∀ H e s', cx [] H s₁ (fun _ _ _ => False) e s' → False) :
    codeAny (model P w) callerA (.call (.ref fa) ⟨[.ref a], []⟩) (fun r s' => r = .ok (.ret (.bool true)) ∧ OldK s₁.heap s'.heap ∧ s'.os = s₁.os ∧ AllBare s'.gens) s₁ := by
  -- H: nothing is tracked but, perhaps, the script
  have go : ∀ H : Hp, Only H → SqL K H a (ns.map V.int) → HOk P w H s₁.heap → (∀ b, H b ≠ none → b = a) → (H a ≠ none → K.lookup a = none) →
      codeAny (model P w) callerA (.call (.ref fa) ⟨[.ref a], []⟩) (fun r s' => r = .ok (.ret (.bool true)) ∧ OldK s₁.heap s'.heap ∧ s'.os = s₁.os ∧ AllBare s'.gens) s₁ := fun H only sq hok alone notK => by
    have off : ∀ {b : Addr} {o : Obj}, s₁.heap.get? b = some o → (b = a → False) → H b = none := fun {b _} _ n => Classical.byContradiction fun q => n (alone b q)
    have dictOff : ∀ {b : Addr} {o : Obj} {es : Array DictEntry} {ep : Nat}, s₁.heap.get? b = some o → o.data = .dict es ep → H b = none := fun {b o es ep} e d => off e fun z => by
      rw [z, scr] at e
      cases e
      exact nomatch d
    have nsT : ∀ {b : Addr} {m : Str → Option Value}, s₁.heap.Ns b m → (hidT s₁.heap H).Ns b m := fun {_ _} ⟨o, es, ep, e, d, r⟩ => ⟨o, es, ep, hidT_get e (dictOff e d), d, r⟩
    have kinT : K.In (hidT s₁.heap H) := fun b o e => hidT_get (kin b o e) (Classical.byContradiction fun q => by
      have z := alone b q
      subst z
      rw [notK q] at e
      cases e)
    have limT : (hidT s₁.heap H).NoLimit := let ⟨mc, h1, h2⟩ := nolim; ⟨mc, nsT h1, h2⟩
    have e0 : Env0 P w K mg (hidT s₁.heap H) callerA [] s₁ H := ⟨rfl, ⟨kinT, nsT glb, ⟨mb, nsT blt, bltIs⟩, limT⟩, fun _ _ e => of_hidT e, Nat.le_of_eq (hidT_size _ _), trivial, fun b hb => absurd (show b ∈ ([] : List Addr) from hb) (List.not_mem_nil), hok, .of_eq nog⟩
    refine codeAny_mono ((F _ kinT (nsT glb)).goes callerA [] s₁ H ⟨[.ref a], []⟩ [.ref a] [.ref a] _ _ room rfl e0 (binds s₁ (.ref a)) (.cons rfl .nil) (prom H only sq)) fun r s' h => ?_
    match r, h with
    | .error e, h => exact (none_out H e s' h).elim
    | .ok .next, h => exact h.elim
    | .ok .brk, h => exact h.elim
    | .ok .cont, h => exact h.elim
    | .ok (.ret u), ⟨v, H', os, bare, un, hok', r', q⟩ =>
      obtain rfl : v = .bl true := q
      cases (show u = Value.bool true from r')
      refine ⟨rfl, OldK.of_keep fun b o e => ?_, os, bare⟩
      rcases only b with z | ⟨ob, xs, z⟩
      · exact un.keep b o e z (fun m => absurd (show b ∈ ([] : List Addr) from m) List.not_mem_nil) List.not_mem_nil
      · obtain ⟨e1, _⟩ := hok b _ z
        obtain ⟨e2, _⟩ := hok' b _ (un.frzs b ob _ z)
        rw [e] at e1
        rw [Option.some.inj e1]
        exact e2
  have rv := vals_ints are
  by_cases hk : K.lookup a = none
  · let H0 : Hp := fun b => if b = a then some (.frz { cls := .type "list", data := .seq vs.toArray } (.lst (ns.map V.int))) else none
    have at_a : H0 a = some (.frz { cls := .type "list", data := .seq vs.toArray } (.lst (ns.map V.int))) := if_pos rfl
    have else_ : ∀ b, b ≠ a → H0 b = none := fun b hb => if_neg hb
    refine go H0 (fun b => ?_) (.inl (.inr ⟨_, at_a⟩)) (fun b u z => ?_) (fun b z => ?_) fun _ => hk
    · by_cases hb : b = a
      · subst hb; exact .inr ⟨_, _, at_a⟩
      · exact .inl (else_ b hb)
    · by_cases hb : b = a
      · subst hb
        rw [at_a] at z
        cases z
        exact ⟨scr, by rw [List.length_map]; exact fits, vs, _, rv, scr⟩
      · rw [else_ b hb] at z
        cases z
    · exact Classical.byContradiction fun hb => z (else_ b hb)
  · obtain ⟨o, ho⟩ := Option.ne_none_iff_exists'.mp hk
    have e := kin a o ho
    rw [scr] at e
    cases e
    exact go (fun _ => none) (fun _ => .inl rfl) (.inr ⟨_, vs.toArray, _, ho, rfl, rfl, rfl, by rw [List.size_toArray, are.length]; exact fits, by simpa using rv⟩) (fun b u z => nomatch z) (fun b z => (z rfl).elim) fun z => (z rfl).elim
theorem walk_go {l : PySem.W.OpenLaw} {n k : Nat} {q : Program} {loose : List Str} {XP : (Str → Option Value) → Heap → Prop} {YP : World → Heap → Prop} {d : DefRec} {K : Params → PySem.W.Frag} {sp : World → Sp} {x : Str} (most : l.most = some n) (fits : n ≤ sizeLine) (nodf : d.params.defaults = []) (room : Room k callerA)
    (kin : ∀ (w : World) (h : Heap), YP w h → (K w.params).In h)
    (F : ∀ (w : World) (mg : Str → Option Value) (fa : Addr) (h : Heap), (K w.params).In h → h.Ns mainGlobals mg → mg d.name = some (.ref fa) → ∃ fd : FuncData, (∀ (s : Shared) (u : Value), BindsTo s fd ⟨[u], []⟩ [(x, u)]) ∧
        ∀ base : Heap, (K w.params).In base → base.Ns mainGlobals mg → FnG l.prog w (K w.params) mg base CX0 k fa fd [x] (sp w))
    (prom : ∀ (w : World) (H : Hp) (a : Addr) (ns : List Int), ns.length ≤ n → Only H → SqL (K w.params) H a (ns.map V.int) → sp w [.ref a] H (fun v _ => v = .bl true) fun _ _ _ => False) :
    PySem.W.WalkO q loose XP YP l.row.toRowW d [] (fun f vs => PySem.call f vs) :=
  Att.attach_call most nodf fun w s₀ s₁ mg mb fa o pm cd doc a vs ns G Y ho hd hcd hmg obj iso len gens => by
    obtain ⟨fd, hb, hF⟩ := F w mg fa _ (kin w _ Y) G.T.g hmg
    exact law_go (kin w _ Y) G.T.g G.T.b G.T.builtins G.T.nolimit gens obj iso (Nat.le_trans len fits) room hF hb (fun H hO hS => prom w H a ns len hO hS) fun _ _ _ z => z
end DL

set_option Elab.async false
set_option linter.all false
set_option maxRecDepth 100000
set_option maxHeartbeats 1000000
set_option autoImplicit false
/-! DL, part c: operators and built-ins on data. -/
namespace DL
open PySem L2

def big : Nat := 16777216
theorem big_eq : sizeLine = big := sizeLine_eq
/-! ### the operators on data -/
def ii (g : Int → Int → D) : D → D → Option Rs
  | .int i, .int j => some (.el (g i j))
  | _, _ => none
def iic (c : Int → Int → Bool) (g : Int → Int → D) : D → D → Option Rs
  | .int i, .int j => if c i j then some (.el (g i j)) else none
  | _, _ => none
def subP := ii fun i j => .int (i - j)
def ltP := ii fun i j => .bool (decide (i < j))
def leP := ii fun i j => .bool (decide (i ≤ j))
def gtP := ii fun i j => .bool (decide (j < i))
def geP := ii fun i j => .bool (decide (j ≤ i))
def modP := iic (fun _ j => decide (0 < j)) fun i j => .int (i % j)
def fdivP := iic (fun _ j => decide (0 < j ∧ j < 1073741824)) fun i j => .int (i / j)
def powP := iic (fun i j => decide (0 ≤ j ∧ j ≤ 1000000 ∧ i.natAbs < 2 ^ 64)) fun i j => .int (i ^ j.toNat)
def addP : D → D → Option Rs
  | .int i, .int j => some (.el (.int (i + j)))
  | .str i, .str j => if i.length + j.length ≤ big then some (.el (.str (i ++ j))) else none
  | .list xs, .list ys => if xs.length + ys.length ≤ big then some (.nl (xs ++ ys)) else none
  | .tuple xs, .tuple ys => if xs.isEmpty = false ∧ ys.isEmpty = false ∧ xs.length + ys.length ≤ big then some (.nt (xs ++ ys)) else none
  | _, _ => none
def mulP : D → D → Option Rs
  | .int i, .int j => if (-(2 ^ 64) < i ∧ i < 2 ^ 64) ∨ (-(2 ^ 64) < j ∧ j < 2 ^ 64) then some (.el (.int (i * j))) else none
  | .list xs, .int k => if -(2 ^ 63) ≤ k ∧ k < 2 ^ 63 ∧ xs.length * k.toNat ≤ big then some (.nl (List.replicate k.toNat xs).flatten) else none
  | .tuple xs, .int k => if xs.isEmpty = false ∧ 2 ≤ k ∧ k ≤ 1000 ∧ xs.length ≤ 1000 then some (.nt (List.replicate k.toNat xs).flatten) else none
  | _, _ => none
def eqP (d e : D) : Option Rs := if SeqAt.shaped d = true ∧ SeqAt.shaped e = true then some (.el (.bool (PyData.eqv d e))) else none
def neP (d e : D) : Option Rs := if SeqAt.shaped d = true ∧ SeqAt.shaped e = true then some (.el (.bool (!PyData.eqv d e))) else none
def flatD : D → Bool
  | .none | .bool _ | .int _ | .str _ => true
  | _ => false
def inP : D → D → Option Rs
  | d, .list ds => if SeqAt.shaped d = true ∧ SeqAt.shaped (.list ds) = true then some (.el (.bool (ds.any fun z => PyData.eqv z d))) else none
  | d, .tuple ds => if flatD d = true ∧ ds.all flatD = true then some (.el (.bool (ds.any fun z => PyData.eqv z d))) else none
  | _, _ => none
def notInP : D → D → Option Rs
  | d, .list ds => if SeqAt.shaped d = true ∧ SeqAt.shaped (.list ds) = true then some (.el (.bool (!ds.any fun z => PyData.eqv z d))) else none
  | d, .tuple ds => if flatD d = true ∧ ds.all flatD = true then some (.el (.bool (!ds.any fun z => PyData.eqv z d))) else none
  | _, _ => none
def ixP : D → D → Option Rs
  | .list ds, .int i => (atI ds i).map .el
  | .tuple ds, .int i => (atI ds i).map .el
  | _, _ => none

theorem ok_ii {g : Int → Int → V} {h : Int → Int → D} (e : ∀ Z i j, Rp Z (g i j) (h i j)) : Ok2 (rI0 g) (ii h) := fun Z H x y d d' rs s px py q => by
  unfold ii at q
  split at q
  · cases q
    exact ⟨_, e Z _ _, fun Q k => ⟨_, _, px.int, py.int, k⟩⟩
  · cases q
theorem ok_iic {C : Int → Int → Prop} {c : Int → Int → Bool} {g : Int → Int → V} {h : Int → Int → D} (hc : ∀ i j, c i j = true → C i j) (e : ∀ Z i j, Rp Z (g i j) (h i j)) : Ok2 (rI C g) (iic c h) := fun Z H x y d d' rs s px py q => by
  unfold iic at q
  split at q
  · split at q
    · rename_i hh
      cases q
      exact ⟨_, e Z _ _, fun Q k => ⟨_, _, px.int, py.int, hc _ _ hh, k⟩⟩
    · cases q
  · cases q
section
variable {X : Cx} {a b : Expr} {fa fb : M O} {pos : Pos}
theorem eo_sub (ha : PE X a (tO fa)) (hb : PE X b (tO fb)) : PE X (.BinOp a .Sub b pos) (tO (bin2 subP fa fb)) := eo_op op_sub (ok_ii fun _ _ _ => .int _) ha hb
theorem eo_mod (ha : PE X a (tO fa)) (hb : PE X b (tO fb)) : PE X (.BinOp a .Mod b pos) (tO (bin2 modP fa fb)) := eo_op op_mod (ok_iic (fun _ _ h => of_decide_eq_true h) fun _ _ _ => .int _) ha hb
theorem eo_fdiv (ha : PE X a (tO fa)) (hb : PE X b (tO fb)) : PE X (.BinOp a .FloorDiv b pos) (tO (bin2 fdivP fa fb)) := eo_op op_fdiv (ok_iic (fun i j h => show (0 < j ∧ j < 1073741824) from of_decide_eq_true h) fun _ _ _ => .int _) ha hb
theorem eo_pow (ha : PE X a (tO fa)) (hb : PE X b (tO fb)) : PE X (.BinOp a .Pow b pos) (tO (bin2 powP fa fb)) := eo_op op_pow (ok_iic (fun i j h => show (0 ≤ j ∧ j ≤ 1000000 ∧ i.natAbs < 2 ^ 64) from of_decide_eq_true h) fun _ _ _ => .int _) ha hb
theorem eo_add (ha : PE X a (tO fa)) (hb : PE X b (tO fb)) : PE X (.BinOp a .Add b pos) (tO (bin2 addP fa fb)) := eo_op (op_add.or (op_add_str.or (op_cat.or op_catT))) (fun Z H x y d d' rs s px py q => by
  unfold addP at q
  split at q
  · cases q
    exact ⟨_, .int _, fun Q k => .inl ⟨_, _, px.int, py.int, k⟩⟩
  · split at q
    · rename_i hz
      cases q
      exact ⟨_, .str _, fun Q k => .inr (.inl ⟨_, _, px.str, py.str, by rw [big_eq]; exact hz, k⟩)⟩
    · cases q
  · split at q
    · rename_i hz
      cases q
      obtain ⟨l, vs, rfl, h1, h2⟩ := px.list s
      obtain ⟨l', vs', rfl, h1', h2'⟩ := py.list s
      exact ⟨_, h2.append h2', fun Q k => .inr (.inr (.inl ⟨_, _, _, _, rfl, rfl, h1, h1', by rw [h2.len, h2'.len, big_eq]; exact hz, k⟩))⟩
    · cases q
  · split at q
    · rename_i hz
      cases q
      obtain ⟨l, vs, rfl, h1, h2⟩ := px.tuple s
      obtain ⟨l', vs', rfl, h1', h2'⟩ := py.tuple s
      have n1 : vs ≠ [] := fun z => by subst z; cases h2; exact absurd hz.1 (by decide)
      have n2 : vs' ≠ [] := fun z => by subst z; cases h2'; exact absurd hz.2.1 (by decide)
      exact ⟨_, h2.append h2', fun Q k => .inr (.inr (.inr ⟨_, _, _, _, rfl, rfl, .of h1, .of h1', n1, by rw [h2.len, h2'.len, big_eq]; exact hz.2.2, fun z => absurd z n2, fun _ => k⟩))⟩
    · cases q
  · cases q) ha hb
theorem eo_mul (ha : PE X a (tO fa)) (hb : PE X b (tO fb)) : PE X (.BinOp a .Mult b pos) (tO (bin2 mulP fa fb)) := eo_op (op_mul.or (op_rep.or op_repT)) (fun Z H x y d d' rs s px py q => by
  unfold mulP at q
  split at q
  · split at q
    · rename_i hz
      cases q
      exact ⟨_, .int _, fun Q k => .inl ⟨_, _, px.int, py.int, hz, k⟩⟩
    · cases q
  · split at q
    · rename_i hz
      cases q
      obtain ⟨l, vs, rfl, h1, h2⟩ := px.list s
      exact ⟨_, h2.replicate _, fun Q k => .inr (.inl ⟨_, _, _, rfl, py.int, h1, hz.1, hz.2.1, by rw [h2.len, big_eq]; exact hz.2.2, k⟩)⟩
    · cases q
  · split at q
    · rename_i hz
      cases q
      obtain ⟨l, vs, rfl, h1, h2⟩ := px.tuple s
      have n1 : vs ≠ [] := fun z => by subst z; cases h2; exact absurd hz.1 (by decide)
      exact ⟨_, h2.replicate _, fun Q k => .inr (.inr ⟨_, _, _, rfl, py.int, .of h1, n1, hz.2.1, hz.2.2.1, by rw [h2.len]; exact hz.2.2.2, k⟩)⟩
    · cases q
  · cases q) ha hb
end
theorem ok_eq {K : PySem.W.Frag} : Ok2 (rEqD K) eqP := fun Z H x y d d' rs s px py q => by
  unfold eqP at q
  split at q
  · rename_i hz
    cases q
    exact ⟨_, .bl _, fun Q k => ⟨_, _, (px.rp s).dp, (py.rp s).dp, hz.1, hz.2, k⟩⟩
  · cases q
theorem ok_ne {K : PySem.W.Frag} : Ok2 (rNeD K) neP := fun Z H x y d d' rs s px py q => by
  unfold neP at q
  split at q
  · rename_i hz
    cases q
    exact ⟨_, .bl _, fun Q k => ⟨_, _, (px.rp s).dp, (py.rp s).dp, hz.1, hz.2, k⟩⟩
  · cases q
theorem flat_rp {H : Hp} {v : V} {d : D} (h : Rp H v d) (f : flatD d = true) : flatV v = true := by
  cases h <;> first | rfl | cases f
theorem flat_eqv {H : Hp} {v w : V} {d e : D} (h : Rp H v d) (h' : Rp H w e) (f : flatD d = true) (f' : flatD e = true) : eqV v w = PyData.eqv d e := by
  cases h <;> cases h' <;> first | rfl | cases f | cases f' | (simp only [eqV, PyData.eqv])
theorem flat_all {H : Hp} : ∀ {vs : List V} {ds : List D}, RpAll H vs ds → ds.all flatD = true → vs.all flatV = true
  | _, _, .nil, _ => rfl
  | _, _, .cons a b, f => by
    rw [List.all_cons, Bool.and_eq_true] at f
    rw [List.all_cons, flat_rp a f.1, flat_all b f.2]; rfl
theorem flat_any {H : Hp} {w : V} {e : D} (h' : Rp H w e) (f' : flatD e = true) : ∀ {vs : List V} {ds : List D}, RpAll H vs ds → ds.all flatD = true → inV w vs = ds.any fun z => PyData.eqv z e
  | _, _, .nil, _ => rfl
  | _, _, .cons a b, f => by
    rw [List.all_cons, Bool.and_eq_true] at f
    have ih := flat_any h' f' b f.2
    unfold inV at ih ⊢
    rw [List.any_cons, List.any_cons, flat_eqv a h' f.1 f', ih]
theorem ok_in {K : PySem.W.Frag} : Ok2 (fun x y H Q => rInD K x y H Q ∨ rIn K false x y H Q) inP := fun Z H x y d d' rs s px py q => by
  unfold inP at q
  split at q
  · split at q
    · rename_i hz
      cases q
      exact ⟨_, .bl _, fun Q k => .inl ⟨_, _, (px.rp s).dp, (py.rp s).dp, hz.1, hz.2, k⟩⟩
    · cases q
  · split at q
    · rename_i hz
      cases q
      obtain ⟨a, vs, rfl, h1, h2⟩ := py.tuple s
      refine ⟨_, .bl _, fun Q k => .inr ⟨a, vs, rfl, .inr (.of h1), flat_rp (px.rp s) hz.1, flat_all h2 hz.2, ?_⟩⟩
      rw [if_neg (by simp), flat_any (px.rp s) hz.1 (h2.up s) hz.2]
      exact k
    · cases q
  · cases q
theorem ok_notIn {K : PySem.W.Frag} : Ok2 (fun x y H Q => rNotInD K x y H Q ∨ rIn K true x y H Q) notInP := fun Z H x y d d' rs s px py q => by
  unfold notInP at q
  split at q
  · split at q
    · rename_i hz
      cases q
      exact ⟨_, .bl _, fun Q k => .inl ⟨_, _, (px.rp s).dp, (py.rp s).dp, hz.1, hz.2, k⟩⟩
    · cases q
  · split at q
    · rename_i hz
      cases q
      obtain ⟨a, vs, rfl, h1, h2⟩ := py.tuple s
      refine ⟨_, .bl _, fun Q k => .inr ⟨a, vs, rfl, .inr (.of h1), flat_rp (px.rp s) hz.1, flat_all h2 hz.2, ?_⟩⟩
      rw [if_pos rfl, flat_any (px.rp s) hz.1 (h2.up s) hz.2]
      exact k
    · cases q
  · cases q
theorem RpAll.at {H : Hp} {vs : List V} {ds : List D} {i : Int} {d : D} (h : RpAll H vs ds) (e : atI ds i = some d) : ∃ v, atI vs i = some v ∧ Rp H v d := by
  unfold atI at e ⊢
  rw [h.len]
  obtain ⟨j, e1, e2⟩ := Option.bind_eq_some_iff.mp e
  obtain ⟨v, e3, e4⟩ := h.get e2
  exact ⟨v, by rw [e1, Option.bind_some]; exact e3, e4⟩
theorem ok_ix {K : PySem.W.Frag} : Ok2 (fun x y H Q => rIxL K x y H Q ∨ rIxT K x y H Q) ixP := fun Z H x y d d' rs s px py q => by
  unfold ixP at q
  split at q
  · obtain ⟨z, e, e'⟩ := Option.map_eq_some_iff.mp q
    subst e'
    obtain ⟨l, vs, rfl, h1, h2⟩ := px.list s
    obtain ⟨v, h3, h4⟩ := h2.at e
    exact ⟨v, h4, fun Q k => .inl ⟨_, _, _, _, rfl, py.int, .of h1, h3, k⟩⟩
  · obtain ⟨z, e, e'⟩ := Option.map_eq_some_iff.mp q
    subst e'
    obtain ⟨l, vs, rfl, h1, h2⟩ := px.tuple s
    obtain ⟨v, h3, h4⟩ := h2.at e
    exact ⟨v, h4, fun Q k => .inr ⟨_, _, _, _, rfl, py.int, .of h1, h3, k⟩⟩
  · cases q
def isNP : D → Option Rs
  | .none => some (.el (.bool true))
  | _ => some (.el (.bool false))
def notNP : D → Option Rs
  | .none => some (.el (.bool false))
  | _ => some (.el (.bool true))
theorem rp_non {H : Hp} {v : V} {d : D} (h : Rp H v d) : (v = .non) ↔ d = .none := by
  cases h <;> simp
theorem ok_isN : Ok1 (fun x H Q => Q (.bl (decide (x = .non))) H) isNP := fun Z H x d rs s px q => by
  have e := rp_non (px.rp s)
  by_cases hn : d = .none
  · subst hn
    cases q
    refine ⟨.bl true, .bl _, fun Q k => ?_⟩
    show Q (.bl (decide (x = .non))) H
    rw [decide_eq_true (e.mpr rfl)]
    exact k
  · have q' : some (Rs.el (.bool false)) = some rs := by
      rw [← q]; cases d <;> first | rfl | exact absurd rfl hn
    cases q'
    refine ⟨.bl false, .bl _, fun Q k => ?_⟩
    show Q (.bl (decide (x = .non))) H
    rw [decide_eq_false (fun z => hn (e.mp z))]
    exact k
theorem ok_notN : Ok1 (fun x H Q => Q (.bl (!decide (x = .non))) H) notNP := fun Z H x d rs s px q => by
  have e := rp_non (px.rp s)
  by_cases hn : d = .none
  · subst hn
    cases q
    refine ⟨.bl false, .bl _, fun Q k => ?_⟩
    show Q (.bl (!decide (x = .non))) H
    rw [decide_eq_true (e.mpr rfl)]
    exact k
  · have q' : some (Rs.el (.bool true)) = some rs := by
      rw [← q]; cases d <;> first | rfl | exact absurd rfl hn
    cases q'
    refine ⟨.bl true, .bl _, fun Q k => ?_⟩
    show Q (.bl (!decide (x = .non))) H
    rw [decide_eq_false (fun z => hn (e.mp z))]
    exact k
section
variable {X : Cx} {a b : Expr} {fa fb : M O} {pos : Pos}
theorem eo_lt (ha : PE X a (tO fa)) (hb : PE X b (tO fb)) : PE X (.Compare a [.Lt] [b] pos) (tO (bin2 ltP fa fb)) := eo_cmp op_lt (ok_ii fun _ _ _ => .bl _) ha hb (nomark _)
theorem eo_le (ha : PE X a (tO fa)) (hb : PE X b (tO fb)) : PE X (.Compare a [.LtE] [b] pos) (tO (bin2 leP fa fb)) := eo_cmp op_le (ok_ii fun _ _ _ => .bl _) ha hb (nomark _)
theorem eo_gt (ha : PE X a (tO fa)) (hb : PE X b (tO fb)) : PE X (.Compare a [.Gt] [b] pos) (tO (bin2 gtP fa fb)) := eo_cmp op_gt (ok_ii fun _ _ _ => .bl _) ha hb (nomark _)
theorem eo_ge (ha : PE X a (tO fa)) (hb : PE X b (tO fb)) : PE X (.Compare a [.GtE] [b] pos) (tO (bin2 geP fa fb)) := eo_cmp op_ge (ok_ii fun _ _ _ => .bl _) ha hb (nomark _)
theorem eo_eq {k : Nat} (hr : Room k X.A) (ha : PE X a (tO fa)) (hb : PE X b (tO fb)) : PE X (.Compare a [.Eq] [b] pos) (tO (bin2 eqP fa fb)) := eo_cmp (op_eqD hr.units) ok_eq ha hb (nomark _)
theorem eo_ne {k : Nat} (hr : Room k X.A) (ha : PE X a (tO fa)) (hb : PE X b (tO fb)) : PE X (.Compare a [.NotEq] [b] pos) (tO (bin2 neP fa fb)) := eo_cmp (op_neD hr.units) ok_ne ha hb (nomark _)
theorem units65 {k : Nat} {A : Around} (r : Room k A) : A.units + 65 < cLine := by have := r.un; omega
theorem eo_in {k : Nat} (hr : Room k X.A) (ha : PE X a (tO fa)) (hb : PE X b (tO fb)) (hm : behindInMarks .In b = false := by rfl) : PE X (.Compare a [.In] [b] pos) (tO (bin2 inP fa fb)) := eo_cmp ((op_inD (units65 hr)).or op_in_seq) ok_in ha hb hm
theorem eo_notIn {k : Nat} (hr : Room k X.A) (ha : PE X a (tO fa)) (hb : PE X b (tO fb)) (hm : behindInMarks .NotIn b = false := by rfl) : PE X (.Compare a [.NotIn] [b] pos) (tO (bin2 notInP fa fb)) := eo_cmp ((op_notInD (units65 hr)).or op_notIn_seq) ok_notIn ha hb hm
theorem eo_isN {j pos'} (ha : PE X a (tO fa)) : PE X (.Compare a [.Is] [.Constant .none j pos'] pos) (tO (un1 isNP fa)) := (pe_cmp (pc_isN ha)).wk (un1_ok' (fun _ _ _ h => h) ok_isN)
theorem eo_notN {j pos'} (ha : PE X a (tO fa)) : PE X (.Compare a [.IsNot] [.Constant .none j pos'] pos) (tO (un1 notNP fa)) := (pe_cmp (pc_notN ha)).wk (un1_ok' (fun _ _ _ h => h) ok_notN)
theorem eo_at (ha : PE X a (tO fa)) (hb : PE X b (tO fb)) (hs : PlainIx b := by intro _ _; rfl) : PE X (.Subscript a b pos) (tO (bin2 ixP fa fb)) := eo_ix (ix_list.or ix_tup) ok_ix ha hb hs
def negP : D → Option Rs
  | .int i => some (.el (.int (-i)))
  | _ => none
theorem eo_neg (ha : PE X a (tO fa)) : PE X (.UnaryOp .USub a pos) (tO (un1 negP fa)) := eo_un un_neg (fun Z H x d rs s px q => by
  unfold negP at q
  split at q
  · cases q
    exact ⟨_, .int _, fun Q k => ⟨_, px.int, k⟩⟩
  · cases q) ha

/-! ### slices -/
def cutD (xs : List D) (lo hi : Option Int) : List D := (xs.drop (HT.sIx xs.length 0 lo)).take (HT.sIx xs.length xs.length hi - HT.sIx xs.length 0 lo)
def slP (lo hi : Option Int) : D → Option Rs
  | .list ds => some (.nl (cutD ds lo hi))
  | .tuple ds => if HT.sIx ds.length 0 lo = 0 ∧ HT.sIx ds.length ds.length hi = ds.length then none else some (.nt (cutD ds lo hi))
  | _ => none
theorem RpAll.cut {H : Hp} {vs : List V} {ds : List D} (h : RpAll H vs ds) (lo hi : Option Int) : RpAll H (cutV vs lo hi) (cutD ds lo hi) := by
  unfold cutV cutD
  rw [h.len]
  exact (h.drop _).take _
theorem ok_sl {K : PySem.W.Frag} {lo hi : Option Int} : Ok1 (fun x H Q => rSlL K x lo hi H Q ∨ rSlT K x lo hi H Q) (slP lo hi) := fun Z H x d rs s px q => by
  unfold slP at q
  split at q
  · cases q
    obtain ⟨l, vs, rfl, h1, h2⟩ := px.list s
    exact ⟨_, h2.cut lo hi, fun Q k => .inl ⟨_, _, rfl, .of h1, k⟩⟩
  · split at q
    · cases q
    · rename_i hn
      cases q
      obtain ⟨l, vs, rfl, h1, h2⟩ := px.tuple s
      exact ⟨_, h2.cut lo hi, fun Q k => .inr ⟨_, _, rfl, .of h1, by rw [h2.len]; exact hn, k⟩⟩
  · cases q
/-- a part of a slice: none, or an int -/
def poN : M (Option Int) := retM none
def asI : D → Option Int
  | .int i => some i
  | _ => none
def poS (f : M O) : M (Option Int) := bindM f fun o s => ((peek s o).bind asI).map fun i => (some i, s)
def tPO (f : M (Option Int)) : TO := fun σ H Q => ∃ Z s o s', Rep Z H σ s ∧ f s = some (o, s') ∧ ∀ Z' H', Stp Z H σ s Z' H' σ s' → Q o H'
theorem _root_.L2.PO.wk {X : Cx} {e : Option Expr} {t t' : TO} (h : PO X e t) (i : ∀ σ H Q, t' σ H Q → t σ H Q) : PO X e t' := ⟨fun pins s σ H Q I q => h.run pins s σ H Q I (i σ H Q q)⟩
theorem epo_none : PO X none (tPO poN) := po_none.wk fun σ H Q ⟨Z, s, o, s', R, e, q⟩ => by
  cases e
  exact q Z H (.refl R)
theorem epo_some (ha : PE X a (tO fa)) : PO X (some a) (tPO (poS fa)) := (po_some ha).wk fun σ H Q ⟨Z, s, o, s', R, e, q⟩ => by
  obtain ⟨o1, s1, e1, e⟩ := bindM_some.mp e
  obtain ⟨i, e2, e⟩ := Option.map_eq_some_iff.mp e
  obtain ⟨d, e3, e4⟩ := Option.bind_eq_some_iff.mp e2
  cases e
  refine ⟨Z, s, o1, s', R, e1, fun x Z1 H1 st r => ?_⟩
  have hd : d = .int i := by
    cases d <;> first | (cases e4; rfl) | cases e4
  subst hd
  exact ⟨i, (peek_pk st.rep r e3).int, q Z1 H1 st⟩
def slD (fa : M O) (fl fh : M (Option Int)) : M O := bindM fa fun o => bindM fl fun lo => bindM fh fun hi => pk1 (slP lo hi) o
theorem eo_slice {lo hi : Option Expr} {fl fh : M (Option Int)} {p2 : Pos} (ha : PE X a (tO fa)) (hl : PO X lo (tPO fl)) (hh : PO X hi (tPO fh)) : PE X (.Subscript a (.Slice lo hi none p2) pos) (tO (slD fa fl fh)) :=
  (pe_slice (sl_list.or sl_tup) ha hl hh).wk fun σ H Q ⟨Z, s, o, s', R, e, q⟩ => by
  obtain ⟨o1, s1, e1, e⟩ := bindM_some.mp e
  obtain ⟨lo', s2, e2, e⟩ := bindM_some.mp e
  obtain ⟨hi', s3, e3, e⟩ := bindM_some.mp e
  obtain ⟨d1, rs, h1, h3, rfl, rfl⟩ := pk1_some.mp e
  refine ⟨Z, s, o1, s1, R, e1, fun x Z1 H1 st1 r1 => ⟨Z1, s1, lo', s2, st1.rep, e2, fun Z2 H2 st2 => ⟨Z2, s2, hi', s', st2.rep, e3, fun Z3 H3 st3 => ?_⟩⟩⟩
  exact fin_ok ((st1.trans st2).trans st3) (ok_sl Z3 H3 x d1 rs st3.rep.sub (peek_pk st3.rep ((r1.step st2).step st3) h1) h3) q
def revP : D → Option Rs
  | .list ds => some (.nl ds.reverse)
  | _ => none
theorem eo_rev {k : Nat} {p1 p2 p3 : Pos} (ha : PE X a (tO fa)) : PE X (.Subscript a (.Slice none none (some (.UnaryOp .USub (.Constant (.int 1) k p1) p2)) p3) pos) (tO (un1 revP fa)) :=
  (pe_revL ha).wk (un1_ok' (r := fun x H1 Q => ∃ a xs, x = .ref a ∧ SqL X.K H1 a xs ∧ ∀ p, H1 p = none → Q (.ref p) (upd H1 p (.lst xs.reverse))) (fun _ _ _ h => h) fun Z H x d rs s px q => by
  unfold revP at q
  split at q
  · cases q
    obtain ⟨l, vs, rfl, h1, h2⟩ := px.list s
    exact ⟨_, h2.reverse, fun Q k => ⟨_, _, rfl, .of h1, k⟩⟩
  · cases q)

/-! ### chains a < b < c -/
def chainD (p p' : D → D → Option Rs) (fa fb fc : M O) : M O := bindM fa fun o1 => bindM fb fun o2 => bindM (pk2 p o1 o2) fun r => match r with
  | .d (.bool true) => bindM fc fun o3 => pk2 p' o2 o3
  | .d (.bool false) => retM (.d (.bool false))
  | _ => fun _ => none
theorem chain_ok {r r' : R2} {p p' : D → D → Option Rs} {fa fb fc : M O} (ok : Ok2 r p) (ok' : Ok2 r' p') (hb : ∀ d e rs, p d e = some rs → ∃ k, rs = .el (.bool k)) (σ : St) (H : Hp) (Q : VK) (h : tO (chainD p p' fa fb fc) σ H Q) : tChain r r' (tO fa) (tO fb) (tO fc) σ H Q := by
  obtain ⟨Z, s, o, s', R, e, q⟩ := h
  obtain ⟨o1, s1, e1, e⟩ := bindM_some.mp e
  obtain ⟨o2, s2, e2, e⟩ := bindM_some.mp e
  obtain ⟨o3, s3, e3, e⟩ := bindM_some.mp e
  obtain ⟨d1, d2, rs, h1, h2, h3, rfl, rfl⟩ := pk2_some.mp e3
  obtain ⟨k, rfl⟩ := hb _ _ _ h3
  refine ⟨Z, s, o1, s1, R, e1, fun x Z1 H1 st1 r1 => ⟨Z1, s1, o2, s3, st1.rep, e2, fun y Z2 H2 st2 r2 => ?_⟩⟩
  obtain ⟨v, hv, g⟩ := ok Z2 H2 x y d1 d2 _ st2.rep.sub (peek_pk st2.rep (r1.step st2) h1) (peek_pk st2.rep r2 h2) h3
  cases hv
  refine g _ ⟨k, rfl, ?_⟩
  cases k with
  | false =>
    rw [if_neg Bool.false_ne_true]
    cases e
    exact q _ Z2 H2 (st1.trans st2) (Rp.bl false)
  | true =>
    rw [if_pos rfl]
    obtain ⟨o3, s4, e4, e⟩ := bindM_some.mp e
    obtain ⟨d2', d3, rs, h1', h2', h3', rfl, rfl⟩ := pk2_some.mp e
    refine ⟨Z2, s3, o3, s', st2.rep, e4, fun z Z3 H3 st3 r3 => ?_⟩
    exact fin_ok ((st1.trans st2).trans st3) (ok' Z3 H3 y z d2' d3 rs st3.rep.sub (peek_pk st3.rep (r2.step st3) h1') (peek_pk st3.rep r3 h2') h3') q
theorem bool_ii {g : Int → Int → Bool} (d e : D) (rs : Rs) (h : ii (fun i j => .bool (g i j)) d e = some rs) : ∃ k, rs = .el (.bool k) := by
  unfold ii at h
  split at h
  · cases h; exact ⟨_, rfl⟩
  · cases h
end
end DL

set_option Elab.async false
set_option linter.all false
set_option maxRecDepth 100000
set_option maxHeartbeats 1000000
set_option autoImplicit false
/-! DL, part d: built-ins, tests, conditional expressions. -/
namespace DL
open PySem L2

/-- the built-ins' names that no module of the text has taken -/
structure Bl (mg : Str → Option Value) : Prop where
  len : mg "len" = none
  abs : mg "abs" = none
  int : mg "int" = none
  str : mg "str" = none
  bool : mg "bool" = none
  min : mg "min" = none
  max : mg "max" = none
  sum : mg "sum" = none
  all : mg "all" = none
  any : mg "any" = none
  sorted : mg "sorted" = none
  list : mg "list" = none
  tuple : mg "tuple" = none
  range : mg "range" = none
  zip : mg "zip" = none
  enumerate : mg "enumerate" = none
  repr : mg "repr" = none
  isinstance : mg "isinstance" = none
  set : mg "set" = none
  dict : mg "dict" = none

def ints? : List D → Option (List Int)
  | [] => some []
  | .int i :: r => (ints? r).map (i :: ·)
  | _ :: _ => none
theorem ints?_some : ∀ {ds : List D} {ns : List Int}, ints? ds = some ns → ds = ns.map PyData.int
  | [], ns, h => by cases h; rfl
  | .int i :: r, ns, h => by
    obtain ⟨ms, h1, h2⟩ := Option.map_eq_some_iff.mp h
    subst h2
    rw [ints?_some h1]; rfl
  | .none :: _, _, h => by cases h
  | .bool _ :: _, _, h => by cases h
  | .str _ :: _, _, h => by cases h
  | .list _ :: _, _, h => by cases h
  | .tuple _ :: _, _, h => by cases h
  | .dict _ :: _, _, h => by cases h
@[simp] theorem ints?_map (ns : List Int) : ints? (ns.map PyData.int) = some ns := by
  induction ns with
  | nil => rfl
  | cons n ns ih => simp only [List.map_cons, ints?, ih]; rfl
def bools? : List D → Option (List Bool)
  | [] => some []
  | .bool i :: r => (bools? r).map (i :: ·)
  | _ :: _ => none
theorem bools?_some : ∀ {ds : List D} {ns : List Bool}, bools? ds = some ns → ds = ns.map PyData.bool
  | [], ns, h => by cases h; rfl
  | .bool i :: r, ns, h => by
    obtain ⟨ms, h1, h2⟩ := Option.map_eq_some_iff.mp h
    subst h2
    rw [bools?_some h1]; rfl
  | .none :: _, _, h => by cases h
  | .int _ :: _, _, h => by cases h
  | .str _ :: _, _, h => by cases h
  | .list _ :: _, _, h => by cases h
  | .tuple _ :: _, _, h => by cases h
  | .dict _ :: _, _, h => by cases h
@[simp] theorem bools?_map (ns : List Bool) : bools? (ns.map PyData.bool) = some ns := by
  induction ns with
  | nil => rfl
  | cons n ns ih => simp only [List.map_cons, bools?, ih]; rfl

/-! sorting of ints -/
def ins (x : Int) : List Int → List Int
  | [] => [x]
  | y :: r => if x ≤ y then x :: y :: r else y :: ins x r
def srt : List Int → List Int
  | [] => []
  | x :: r => ins x (srt r)
theorem ins_perm (x : Int) : ∀ l : List Int, (ins x l).Perm (x :: l)
  | [] => .refl _
  | y :: r => by
    unfold ins
    split
    · exact .refl _
    · exact ((ins_perm x r).cons y).trans (.swap x y r)
theorem srt_perm : ∀ l : List Int, (srt l).Perm l
  | [] => .refl _
  | x :: r => (ins_perm x _).trans ((srt_perm r).cons x)
theorem ins_sorted (x : Int) : ∀ l : List Int, l.Pairwise (· ≤ ·) → (ins x l).Pairwise (· ≤ ·)
  | [], _ => by unfold ins; simp
  | y :: r, h => by
    obtain ⟨h1, h2⟩ := List.pairwise_cons.mp h
    unfold ins
    split
    · rename_i hxy
      refine List.pairwise_cons.mpr ⟨fun z hz => ?_, h⟩
      rcases List.mem_cons.mp hz with rfl | hz
      · exact hxy
      · exact Int.le_trans hxy (h1 z hz)
    · rename_i hxy
      refine List.pairwise_cons.mpr ⟨fun z hz => ?_, ins_sorted x r h2⟩
      rcases List.mem_cons.mp ((ins_perm x r).mem_iff.mp hz) with rfl | hz
      · omega
      · exact h1 z hz
theorem srt_sorted : ∀ l : List Int, (srt l).Pairwise (· ≤ ·)
  | [] => .nil
  | x :: r => ins_sorted x _ (srt_sorted r)
theorem sorted_uniq : ∀ {l m : List Int}, l.Perm m → l.Pairwise (· ≤ ·) → m.Pairwise (· ≤ ·) → l = m
  | [], m, p, _, _ => by rw [p.nil_eq]
  | x :: l, [], p, _, _ => absurd p.length_eq (by simp)
  | x :: l, y :: m, p, h1, h2 => by
    obtain ⟨a1, a2⟩ := List.pairwise_cons.mp h1
    obtain ⟨b1, b2⟩ := List.pairwise_cons.mp h2
    have e : x = y := by
      have hx : x ∈ y :: m := p.mem_iff.mp List.mem_cons_self
      have hy : y ∈ x :: l := p.mem_iff.mpr List.mem_cons_self
      rcases List.mem_cons.mp hx with e | hx
      · exact e
      rcases List.mem_cons.mp hy with e | hy
      · exact e.symm
      exact Int.le_antisymm (a1 y hy) (b1 x hx)
    subst e
    rw [sorted_uniq (List.perm_cons x |>.mp p) a2 b2]
theorem srt_of {l m : List Int} (p : m.Perm l) (h : m.Pairwise (· ≤ ·)) : m = srt l := sorted_uniq (p.trans (srt_perm l).symm) h (srt_sorted l)

/-! least and greatest -/
def minI : Int → List Int → Int
  | a, [] => a
  | a, b :: r => minI (if b < a then b else a) r
def maxI : Int → List Int → Int
  | a, [] => a
  | a, b :: r => maxI (if a < b then b else a) r
theorem minI_mem : ∀ (a : Int) (l : List Int), minI a l ∈ a :: l
  | a, [] => by simp [minI]
  | a, b :: r => by
    have h := minI_mem (if b < a then b else a) r
    unfold minI
    rcases List.mem_cons.mp h with h | h
    · rw [h]; split <;> simp
    · simp [h]
theorem minI_le : ∀ (a : Int) (l : List Int), ∀ y ∈ a :: l, minI a l ≤ y
  | a, [] => fun y h => by simp at h; subst h; exact Int.le_refl _
  | a, b :: r => fun y h => by
    have k := minI_le (if b < a then b else a) r
    unfold minI
    rcases List.mem_cons.mp h with rfl | h
    · refine Int.le_trans (k _ List.mem_cons_self) ?_
      split <;> omega
    · rcases List.mem_cons.mp h with rfl | h
      · refine Int.le_trans (k _ List.mem_cons_self) ?_
        split <;> omega
      · exact k y (List.mem_cons_of_mem _ h)
theorem maxI_mem : ∀ (a : Int) (l : List Int), maxI a l ∈ a :: l
  | a, [] => by simp [maxI]
  | a, b :: r => by
    have h := maxI_mem (if a < b then b else a) r
    unfold maxI
    rcases List.mem_cons.mp h with h | h
    · rw [h]; split <;> simp
    · simp [h]
theorem maxI_ge : ∀ (a : Int) (l : List Int), ∀ y ∈ a :: l, y ≤ maxI a l
  | a, [] => fun y h => by simp at h; subst h; exact Int.le_refl _
  | a, b :: r => fun y h => by
    have k := maxI_ge (if a < b then b else a) r
    unfold maxI
    rcases List.mem_cons.mp h with rfl | h
    · refine Int.le_trans ?_ (k _ List.mem_cons_self)
      split <;> omega
    · rcases List.mem_cons.mp h with rfl | h
      · refine Int.le_trans ?_ (k _ List.mem_cons_self)
        split <;> omega
      · exact k y (List.mem_cons_of_mem _ h)

/-! ### the built-ins on data -/
def lenP : List D → Option Rs
  | [.list ds] => some (.el (.int ds.length))
  | [.tuple ds] => some (.el (.int ds.length))
  | [.str x] => if x.length ≤ big then some (.el (.int x.length)) else none
  | _ => none
def absP : List D → Option Rs
  | [.int i] => some (.el (.int (if i < 0 then -i else i)))
  | _ => none
def intP : List D → Option Rs
  | [.int i] => some (.el (.int i))
  | [.bool b] => some (.el (.int (if b then 1 else 0)))
  | _ => none
def strP : List D → Option Rs
  | [.int i] => if i.natAbs.log2 < 1920 then some (.el (.str (toString i))) else none
  | [.str x] => some (.el (.str x))
  | _ => none
def sumP : List D → Option Rs
  | [.list ds] => (ints? ds).map fun ns => .el (.int ns.sum)
  | _ => none
def minP : List D → Option Rs
  | [.list (.int a :: ds)] => (ints? ds).map fun ns => .el (.int (minI a ns))
  | [.int i, .int j] => some (.el (.int (if j < i then j else i)))
  | _ => none
def maxP : List D → Option Rs
  | [.list (.int a :: ds)] => (ints? ds).map fun ns => .el (.int (maxI a ns))
  | [.int i, .int j] => some (.el (.int (if j > i then j else i)))
  | _ => none
def allP : List D → Option Rs
  | [.list ds] => (bools? ds).map fun ns => .el (.bool (ns.all id))
  | _ => none
def anyP : List D → Option Rs
  | [.list ds] => (bools? ds).map fun ns => .el (.bool (ns.any id))
  | _ => none
def sortedP : List D → Option Rs
  | [.list ds] => (ints? ds).map fun ns => .nl ((srt ns).map PyData.int)
  | _ => none
def listP : List D → Option Rs
  | [.list ds] => some (.nl ds)
  | [.tuple ds] => some (.nl ds)
  | _ => none
def tupleP : List D → Option Rs
  | [.list ds] => some (.nt ds)
  | [.tuple ds] => some (.el (.tuple ds))
  | _ => none
def reprP : List D → Option Rs
  | [.int i] => if i.natAbs.log2 < 1920 then some (.el (.str (toString i))) else none
  | [.list ds] => if (PyData.list ds).showable = true ∧ (PyData.list ds).depth ≤ 60 ∧ (PyData.list ds).shown.length ≤ big then some (.el (.str (PyData.list ds).shown)) else none
  | [.tuple ds] => if (PyData.tuple ds).showable = true ∧ (PyData.tuple ds).depth ≤ 60 ∧ (PyData.tuple ds).shown.length ≤ big then some (.el (.str (PyData.tuple ds).shown)) else none
  | _ => none

theorem PkAll.one {Z H : Hp} {vs : List V} {d : D} (h : PkAll Z H vs [d]) : ∃ v, vs = [v] ∧ Pk Z H v d := by
  cases h with
  | cons a b => cases b; exact ⟨_, rfl, a⟩
theorem PkAll.two {Z H : Hp} {vs : List V} {d e : D} (h : PkAll Z H vs [d, e]) : ∃ v w, vs = [v, w] ∧ Pk Z H v d ∧ Pk Z H w e := by
  cases h with
  | cons a b =>
    cases b with
    | cons b c => cases c; exact ⟨_, _, rfl, a, b⟩
mutual
theorem Rp.noDict {H : Hp} : ∀ (d : D) (v : V), Rp H v d → d.hasDict = false
  | .none, _, _ => by simp [PyData.hasDict]
  | .bool b, _, _ => by simp [PyData.hasDict]
  | .int i, _, _ => by simp [PyData.hasDict]
  | .str x, _, _ => by simp [PyData.hasDict]
  | .list ds, _, h => by cases h with | lst _ h2 => simp only [PyData.hasDict]; exact RpAll.noDict ds _ h2
  | .tuple ds, _, h => by cases h with | tup _ h2 => simp only [PyData.hasDict]; exact RpAll.noDict ds _ h2
  | .dict _, _, h => by cases h
theorem RpAll.noDict {H : Hp} : ∀ (ds : List D) (vs : List V), RpAll H vs ds → PyData.hasDictAll ds = false
  | [], _, _ => by simp [PyData.hasDictAll]
  | d :: ds, _, h => by cases h with | cons a b => simp only [PyData.hasDictAll]; rw [Rp.noDict d _ a, RpAll.noDict ds _ b]; rfl
end
section
variable {X : Cx} {e : Expr} {es : List Expr} {f : M (List O)} {p pos : Pos}
theorem eo_blt {id : String} {x : Str} {r : List V → Hp → VK → Prop} {q : List D → Option Rs} (hc : CallR X (.builtin id) r) (ok : OkC r q) (hg : Gl X x) (hm : X.mg x = none) (hv : bootBuiltins x = some (.builtin id)) (ha : PA X (e :: es) (tA f)) (hn : x ≠ "__name__" := by decide) (hdb : (x == ("__debug__" : Str)) = false := by decide)
    (he : starEach (e :: es) X.env = (false, eval e X.env) :: starEach es X.env := by rfl) (hpl : (backTo pos (starEach es X.env)).any (·.1) = false := by rfl) : PE X (.Call (.Name x p) (e :: es) [] pos) (tO (callP q f)) :=
  (pe_callB hc hg hm hv ha hn hdb he hpl).wk (callP_ok ok)
theorem eo_ty {T : String} {x : Str} {r : List V → Hp → VK → Prop} {q : List D → Option Rs} (hc : CallR X (.type T) r) (ok : OkC r q) (hg : Gl X x) (hm : X.mg x = none) (hv : bootBuiltins x = some (.type T)) (ha : PA X (e :: es) (tA f)) (hn : x ≠ "__name__" := by decide) (hdb : (x == ("__debug__" : Str)) = false := by decide)
    (he : starEach (e :: es) X.env = (false, eval e X.env) :: starEach es X.env := by rfl) (hpl : (backTo pos (starEach es X.env)).any (·.1) = false := by rfl) : PE X (.Call (.Name x p) (e :: es) [] pos) (tO (callP q f)) :=
  (pe_callTy hc hg hm hv ha hn hdb he hpl).wk (callP_ok ok)

theorem call_reprD {k : Nat} (hr : Room k X.A) (hq : Calm X.A) : CallR X (.builtin "repr") (fun vs H Q => ∃ a d, vs = [.ref a] ∧ Rp H (.ref a) d ∧ d.showable = true ∧ d.depth ≤ 60 ∧ d.shown.length ≤ sizeLine ∧ Q (.str d.shown) H) := by
  intro pins s σ H xs us Q I r h
  obtain ⟨a, d, rfl, hd, h1, h2, h3, q⟩ := h
  cases r with
  | cons r0 rr =>
    cases rr
    cases r0
    obtain ⟨as, rd⟩ := Dp.reads I d (.ref a) (.ref a) hd.dp rfl
    have hu : X.A.units + (d.depth + 1) < cLine := by have := hr.un; omega
    exact repr_of_reads' rd h1 (PyData.noDict_hsm (hd.noDict)) hq hu (fun _ _ z => z) (fun h' u tk hk => ⟨.str d.shown, H, I.kept (t' := tk) hk, ⟨u, rfl⟩, q⟩) h3
end
theorem ok_len {K : PySem.W.Frag} : OkC (fun xs H Q => ∃ x n, xs = [x] ∧ LenV K x H n ∧ Q (.int n) H) lenP := fun Z H vs ds rs s ps q => by
  unfold lenP at q
  split at q
  · cases q
    obtain ⟨v, rfl, p⟩ := ps.one
    obtain ⟨l, xs, rfl, h1, h2⟩ := p.list s
    exact ⟨_, .int _, fun Q k => ⟨_, _, rfl, .inl ⟨xs, .of h1, h2.len.symm⟩, k⟩⟩
  · cases q
    obtain ⟨v, rfl, p⟩ := ps.one
    obtain ⟨l, xs, rfl, h1, h2⟩ := p.tuple s
    exact ⟨_, .int _, fun Q k => ⟨_, _, rfl, .inr ⟨xs, .of h1, h2.len.symm⟩, k⟩⟩
  · split at q
    · rename_i hz
      cases q
      obtain ⟨v, rfl, p⟩ := ps.one
      cases p.str
      exact ⟨_, .int _, fun Q k => ⟨_, _, rfl, ⟨by rw [big_eq]; exact hz, rfl⟩, k⟩⟩
    · cases q
  · cases q
section
variable {X : Cx} {e : Expr} {es : List Expr} {f : M (List O)} {p pos : Pos}
theorem eo_len (B : Bl X.mg) (ha : PA X (e :: es) (tA f)) (hg : Gl X "len" := by rfl) (he : starEach (e :: es) X.env = (false, eval e X.env) :: starEach es X.env := by rfl) (hpl : (backTo pos (starEach es X.env)).any (·.1) = false := by rfl) : PE X (.Call (.Name "len" p) (e :: es) [] pos) (tO (callP lenP f)) :=
  eo_blt call_len ok_len hg B.len boot_len ha (he := he) (hpl := hpl)
theorem eo_abs (B : Bl X.mg) (ha : PA X (e :: es) (tA f)) (hg : Gl X "abs" := by rfl) (he : starEach (e :: es) X.env = (false, eval e X.env) :: starEach es X.env := by rfl) (hpl : (backTo pos (starEach es X.env)).any (·.1) = false := by rfl) : PE X (.Call (.Name "abs" p) (e :: es) [] pos) (tO (callP absP f)) :=
  eo_blt call_abs (fun Z H vs ds rs s ps q => by
    unfold absP at q
    split at q
    · cases q
      obtain ⟨v, rfl, p⟩ := ps.one
      exact ⟨_, .int _, fun Q k => ⟨_, by rw [p.int], k⟩⟩
    · cases q) hg B.abs (by decide +kernel) ha (he := he) (hpl := hpl)
theorem eo_intC (B : Bl X.mg) (ha : PA X (e :: es) (tA f)) (hg : Gl X "int" := by rfl) (he : starEach (e :: es) X.env = (false, eval e X.env) :: starEach es X.env := by rfl) (hpl : (backTo pos (starEach es X.env)).any (·.1) = false := by rfl) : PE X (.Call (.Name "int" p) (e :: es) [] pos) (tO (callP intP f)) :=
  eo_ty call_int1 (fun Z H vs ds rs s ps q => by
    unfold intP at q
    split at q
    · cases q
      obtain ⟨v, rfl, p⟩ := ps.one
      exact ⟨_, .int _, fun Q k => .inl ⟨_, by rw [p.int], k⟩⟩
    · cases q
      obtain ⟨v, rfl, p⟩ := ps.one
      exact ⟨_, .int _, fun Q k => .inr ⟨_, by rw [p.bool], k⟩⟩
    · cases q) hg B.int (by decide +kernel) ha (he := he) (hpl := hpl)
theorem eo_strC (B : Bl X.mg) (ha : PA X (e :: es) (tA f)) (hg : Gl X "str" := by rfl) (he : starEach (e :: es) X.env = (false, eval e X.env) :: starEach es X.env := by rfl) (hpl : (backTo pos (starEach es X.env)).any (·.1) = false := by rfl) : PE X (.Call (.Name "str" p) (e :: es) [] pos) (tO (callP strP f)) :=
  eo_ty (call_str_int.or SkE.call_str_str) (fun Z H vs ds rs s ps q => by
    unfold strP at q
    split at q
    · split at q
      · rename_i hz
        cases q
        obtain ⟨v, rfl, p⟩ := ps.one
        exact ⟨_, .str _, fun Q k => .inl ⟨_, by rw [p.int], hz, k⟩⟩
      · cases q
    · cases q
      obtain ⟨v, rfl, p⟩ := ps.one
      exact ⟨_, .str _, fun Q k => .inr ⟨_, by rw [p.str], k⟩⟩
    · cases q) hg B.str (by decide +kernel) ha (he := he) (hpl := hpl)
theorem eo_sum (hc : X.calm = true) (B : Bl X.mg) (ha : PA X (e :: es) (tA f)) (hg : Gl X "sum" := by rfl) (he : starEach (e :: es) X.env = (false, eval e X.env) :: starEach es X.env := by rfl) (hpl : (backTo pos (starEach es X.env)).any (·.1) = false := by rfl) : PE X (.Call (.Name "sum" p) (e :: es) [] pos) (tO (callP sumP f)) :=
  eo_blt (cr_sum hc) (fun Z H vs ds rs s ps q => by
    unfold sumP at q
    split at q
    · obtain ⟨ns, h1, h2⟩ := Option.map_eq_some_iff.mp q
      cases h2
      cases ints?_some h1
      obtain ⟨v, rfl, p⟩ := ps.one
      obtain ⟨l, xs, rfl, h1, h2⟩ := p.list s
      cases h2.of_ints
      exact ⟨_, .int _, fun Q k => ⟨_, _, rfl, .of h1, k⟩⟩
    · cases q) hg B.sum (by decide +kernel) ha (he := he) (hpl := hpl)
theorem eo_all (hc : X.calm = true) (B : Bl X.mg) (ha : PA X (e :: es) (tA f)) (hg : Gl X "all" := by rfl) (he : starEach (e :: es) X.env = (false, eval e X.env) :: starEach es X.env := by rfl) (hpl : (backTo pos (starEach es X.env)).any (·.1) = false := by rfl) : PE X (.Call (.Name "all" p) (e :: es) [] pos) (tO (callP allP f)) :=
  eo_blt (cr_all hc) (fun Z H vs ds rs s ps q => by
    unfold allP at q
    split at q
    · obtain ⟨ns, h1, h2⟩ := Option.map_eq_some_iff.mp q
      cases h2
      cases bools?_some h1
      obtain ⟨v, rfl, p⟩ := ps.one
      obtain ⟨l, xs, rfl, h1, h2⟩ := p.list s
      cases h2.of_bools
      exact ⟨_, .bl _, fun Q k => ⟨_, _, rfl, .of h1, k⟩⟩
    · cases q) hg B.all (by decide +kernel) ha (he := he) (hpl := hpl)
theorem eo_any (hc : X.calm = true) (B : Bl X.mg) (ha : PA X (e :: es) (tA f)) (hg : Gl X "any" := by rfl) (he : starEach (e :: es) X.env = (false, eval e X.env) :: starEach es X.env := by rfl) (hpl : (backTo pos (starEach es X.env)).any (·.1) = false := by rfl) : PE X (.Call (.Name "any" p) (e :: es) [] pos) (tO (callP anyP f)) :=
  eo_blt (cr_any hc) (fun Z H vs ds rs s ps q => by
    unfold anyP at q
    split at q
    · obtain ⟨ns, h1, h2⟩ := Option.map_eq_some_iff.mp q
      cases h2
      cases bools?_some h1
      obtain ⟨v, rfl, p⟩ := ps.one
      obtain ⟨l, xs, rfl, h1, h2⟩ := p.list s
      cases h2.of_bools
      exact ⟨_, .bl _, fun Q k => ⟨_, _, rfl, .of h1, k⟩⟩
    · cases q) hg B.any (by decide +kernel) ha (he := he) (hpl := hpl)
theorem eo_min (hc : X.calm = true) (B : Bl X.mg) (ha : PA X (e :: es) (tA f)) (hg : Gl X "min" := by rfl) (he : starEach (e :: es) X.env = (false, eval e X.env) :: starEach es X.env := by rfl) (hpl : (backTo pos (starEach es X.env)).any (·.1) = false := by rfl) : PE X (.Call (.Name "min" p) (e :: es) [] pos) (tO (callP minP f)) :=
  eo_blt ((cr_min hc).or (call_min2 hc)) (fun Z H vs ds rs s ps q => by
    unfold minP at q
    split at q
    · rename_i a ds
      obtain ⟨ns, h1, h2⟩ := Option.map_eq_some_iff.mp q
      cases h2
      cases ints?_some h1
      obtain ⟨v, rfl, p⟩ := ps.one
      obtain ⟨l, xs, rfl, h1, h2⟩ := p.list s
      cases RpAll.of_ints (ns := a :: ns) h2
      refine ⟨_, .int _, fun Q k => .inl ⟨_, a :: ns, rfl, .of h1, by simp, fun m hm hle => ?_⟩⟩
      rw [Int.le_antisymm (hle _ (minI_mem a ns)) (minI_le a ns m hm)]
      exact k
    · cases q
      obtain ⟨v, w, rfl, p, p'⟩ := ps.two
      exact ⟨_, .int _, fun Q k => .inr ⟨_, _, by rw [p.int, p'.int], k⟩⟩
    · cases q) hg B.min (by decide +kernel) ha (he := he) (hpl := hpl)
theorem eo_max (hc : X.calm = true) (B : Bl X.mg) (ha : PA X (e :: es) (tA f)) (hg : Gl X "max" := by rfl) (he : starEach (e :: es) X.env = (false, eval e X.env) :: starEach es X.env := by rfl) (hpl : (backTo pos (starEach es X.env)).any (·.1) = false := by rfl) : PE X (.Call (.Name "max" p) (e :: es) [] pos) (tO (callP maxP f)) :=
  eo_blt ((cr_max hc).or (call_max2 hc)) (fun Z H vs ds rs s ps q => by
    unfold maxP at q
    split at q
    · rename_i a ds
      obtain ⟨ns, h1, h2⟩ := Option.map_eq_some_iff.mp q
      cases h2
      cases ints?_some h1
      obtain ⟨v, rfl, p⟩ := ps.one
      obtain ⟨l, xs, rfl, h1, h2⟩ := p.list s
      cases RpAll.of_ints (ns := a :: ns) h2
      refine ⟨_, .int _, fun Q k => .inl ⟨_, a :: ns, rfl, .of h1, by simp, fun m hm hle => ?_⟩⟩
      rw [Int.le_antisymm (maxI_ge a ns m hm) (hle _ (maxI_mem a ns))]
      exact k
    · cases q
      obtain ⟨v, w, rfl, p, p'⟩ := ps.two
      exact ⟨_, .int _, fun Q k => .inr ⟨_, _, by rw [p.int, p'.int], k⟩⟩
    · cases q) hg B.max (by decide +kernel) ha (he := he) (hpl := hpl)
theorem eo_sorted (B : Bl X.mg) (ha : PA X (e :: es) (tA f)) (hg : Gl X "sorted" := by rfl) (he : starEach (e :: es) X.env = (false, eval e X.env) :: starEach es X.env := by rfl) (hpl : (backTo pos (starEach es X.env)).any (·.1) = false := by rfl) : PE X (.Call (.Name "sorted" p) (e :: es) [] pos) (tO (callP sortedP f)) :=
  eo_blt cr_sortedI (fun Z H vs ds rs s ps q => by
    unfold sortedP at q
    split at q
    · obtain ⟨ns, h1, h2⟩ := Option.map_eq_some_iff.mp q
      cases h2
      cases ints?_some h1
      obtain ⟨v, rfl, p⟩ := ps.one
      obtain ⟨l, xs, rfl, h1, h2⟩ := p.list s
      cases h2.of_ints
      refine ⟨_, RpAll.ints _, fun Q k => ⟨_, _, rfl, .of h1, fun ns' p pm ps hp => ?_⟩⟩
      rw [srt_of pm ps]
      exact k p hp
    · cases q) hg B.sorted (by decide +kernel) ha (he := he) (hpl := hpl)
theorem eo_listC (B : Bl X.mg) (ha : PA X (e :: es) (tA f)) (hg : Gl X "list" := by rfl) (he : starEach (e :: es) X.env = (false, eval e X.env) :: starEach es X.env := by rfl) (hpl : (backTo pos (starEach es X.env)).any (·.1) = false := by rfl) : PE X (.Call (.Name "list" p) (e :: es) [] pos) (tO (callP listP f)) :=
  eo_ty call_list_of (fun Z H vs ds rs s ps q => by
    unfold listP at q
    split at q
    · cases q
      obtain ⟨v, rfl, p⟩ := ps.one
      obtain ⟨l, xs, rfl, h1, h2⟩ := p.list s
      exact ⟨_, h2, fun Q k => ⟨_, _, rfl, .inl (.of h1), k⟩⟩
    · cases q
      obtain ⟨v, rfl, p⟩ := ps.one
      obtain ⟨l, xs, rfl, h1, h2⟩ := p.tuple s
      exact ⟨_, h2, fun Q k => ⟨_, _, rfl, .inr (.of h1), k⟩⟩
    · cases q) hg B.list (by decide +kernel) ha (he := he) (hpl := hpl)
theorem eo_tupleC (B : Bl X.mg) (ha : PA X (e :: es) (tA f)) (hg : Gl X "tuple" := by rfl) (he : starEach (e :: es) X.env = (false, eval e X.env) :: starEach es X.env := by rfl) (hpl : (backTo pos (starEach es X.env)).any (·.1) = false := by rfl) : PE X (.Call (.Name "tuple" p) (e :: es) [] pos) (tO (callP tupleP f)) :=
  eo_ty call_tuple_of (fun Z H vs ds rs s ps q => by
    unfold tupleP at q
    split at q
    · cases q
      obtain ⟨v, rfl, p⟩ := ps.one
      obtain ⟨l, xs, rfl, h1, h2⟩ := p.list s
      exact ⟨_, h2, fun Q k => ⟨_, _, rfl, .inl ⟨.of h1, k⟩⟩⟩
    · cases q
      obtain ⟨v, rfl, p⟩ := ps.one
      rcases p with p | ⟨_, _, _, _, _, e, _⟩
      · cases p with
        | tup h1 h2 => exact ⟨_, .tup h1 h2, fun Q k => ⟨_, _, rfl, .inr ⟨.of (s _ _ h1), k⟩⟩⟩
      · cases e
    · cases q) hg B.tuple (by decide +kernel) ha (he := he) (hpl := hpl)
theorem eo_repr {k : Nat} (hr : Room k X.A) (hq : Calm X.A) (B : Bl X.mg) (ha : PA X (e :: es) (tA f)) (hg : Gl X "repr" := by rfl) (he : starEach (e :: es) X.env = (false, eval e X.env) :: starEach es X.env := by rfl) (hpl : (backTo pos (starEach es X.env)).any (·.1) = false := by rfl) : PE X (.Call (.Name "repr" p) (e :: es) [] pos) (tO (callP reprP f)) :=
  eo_blt ((call_reprD hr hq).or SkE.call_repr_int) (fun Z H vs ds rs s ps q => by
    unfold reprP at q
    split at q
    · split at q
      · rename_i hz
        cases q
        obtain ⟨v, rfl, p⟩ := ps.one
        exact ⟨_, .str _, fun Q k => .inr ⟨_, by rw [p.int], hz, k⟩⟩
      · cases q
    · split at q
      · rename_i hz
        cases q
        obtain ⟨v, rfl, p⟩ := ps.one
        obtain ⟨l, xs, rfl, h1, h2⟩ := p.list s
        exact ⟨_, .str _, fun Q k => .inl ⟨l, _, rfl, .lst h1 (h2.up s), hz.1, hz.2.1, by rw [big_eq]; exact hz.2.2, k⟩⟩
      · cases q
    · split at q
      · rename_i hz
        cases q
        obtain ⟨v, rfl, p⟩ := ps.one
        obtain ⟨l, xs, rfl, h1, h2⟩ := p.tuple s
        exact ⟨_, .str _, fun Q k => .inl ⟨l, _, rfl, .tup h1 (h2.up s), hz.1, hz.2.1, by rw [big_eq]; exact hz.2.2, k⟩⟩
      · cases q
    · cases q) hg B.repr (by decide +kernel) ha (he := he) (hpl := hpl)

/-! ### list(range(..)) -/
def rgD (a b : Int) : List D := (List.range (b - a).toNat).map fun i => PyData.int (a + (i : Nat))
theorem rg_rp {H : Hp} (a b : Int) : RpAll H (rgV a b) (rgD a b) := by
  unfold rgV rgD
  have : ∀ l : List Nat, RpAll H (l.map fun i => V.int (a + (i : Nat))) (l.map fun i => PyData.int (a + (i : Nat))) := fun l => by
    induction l with
    | nil => exact .nil
    | cons n l ih => exact .cons (.int _) ih
  exact this _
def rgOk (a b : Int) : Bool := decide (-(2 ^ 62) ≤ a ∧ a < 2 ^ 62 ∧ -(2 ^ 62) ≤ b ∧ b < 2 ^ 62 ∧ (b - a).toNat ≤ 2 ^ 24)
/-- the two ends of a range -/
def ends1 (f : M O) : M (Int × Int) := bindM f fun o s => ((peek s o).bind asI).map fun i => ((0, i), s)
def ends2 (f g : M O) : M (Int × Int) := bindM f fun o => bindM g fun o' s => ((peek s o).bind asI).bind fun i => ((peek s o').bind asI).map fun j => ((i, j), s)
theorem asI_some {d : D} {i : Int} (h : asI d = some i) : d = .int i := by
  cases d <;> first | (cases h; rfl) | cases h
theorem peek_int {P Z H : Hp} {σ : St} {s : S} {v : V} {o : O} {i : Int} (r : Rep Z H σ s) (h : RelO P Z H σ s v o) (e : (peek s o).bind asI = some i) : v = .int i := by
  obtain ⟨d, e1, e2⟩ := Option.bind_eq_some_iff.mp e
  cases asI_some e2
  exact (peek_pk r h e1).int
def tE2 (f : M (Int × Int)) : St → Hp → (Int → Int → Hp → Prop) → Prop := fun σ H Q => ∃ Z s o s', Rep Z H σ s ∧ f s = some (o, s') ∧ ∀ Z' H', Stp Z H σ s Z' H' σ s' → Q o.1 o.2 H'
theorem erg_1 {a : Expr} {fa : M O} (B : Bl X.mg) (ha : PE X a (tO fa)) (hg : Gl X "range" := by rfl) (na : starEach [a] X.env = (false, eval a X.env) :: starEach [] X.env := by rfl) : PRg X (.Call (.Name "range" p) [a] [] pos) (tE2 (ends1 fa)) := fun pins s σ H Q I h =>
  prg_1 hg B.range ha na pins s σ H Q I (by
    obtain ⟨Z, s, o, s', R, e, q⟩ := h
    obtain ⟨o1, s1, e1, e⟩ := bindM_some.mp e
    obtain ⟨i, e2, e⟩ := Option.map_eq_some_iff.mp e
    cases e
    exact ⟨Z, s, o1, s', R, e1, fun x Z1 H1 st r => ⟨i, peek_int st.rep r e2, q Z1 H1 st⟩⟩)
theorem erg_2 {a b : Expr} {fa fb : M O} (B : Bl X.mg) (ha : PE X a (tO fa)) (hb : PE X b (tO fb)) (hg : Gl X "range" := by rfl) (na : starEach [a, b] X.env = (false, eval a X.env) :: starEach [b] X.env := by rfl)
    (nb : starEach [b] X.env = (false, eval b X.env) :: starEach [] X.env := by rfl) (hp : (backTo pos (starEach [b] X.env)).any (·.1) = false := by rfl) : PRg X (.Call (.Name "range" p) [a, b] [] pos) (tE2 (ends2 fa fb)) := fun pins s σ H Q I h =>
  prg_2 hg B.range ha hb na nb hp pins s σ H Q I (by
    obtain ⟨Z, s, o, s', R, e, q⟩ := h
    obtain ⟨o1, s1, e1, e⟩ := bindM_some.mp e
    obtain ⟨o2, s2, e2, e⟩ := bindM_some.mp e
    obtain ⟨i, e3, e⟩ := Option.bind_eq_some_iff.mp e
    obtain ⟨j, e4, e⟩ := Option.map_eq_some_iff.mp e
    cases e
    exact ⟨Z, s, o1, s1, R, e1, fun x Z1 H1 st r => ⟨Z1, s1, o2, s', st.rep, e2, fun y Z2 H2 st2 r2 => ⟨i, j, peek_int st2.rep (r.step st2) e3, peek_int st2.rep r2 e4, q Z2 H2 (st.trans st2)⟩⟩⟩)
def lstRg (f : M (Int × Int)) : M O := bindM f fun o s => if rgOk o.1 o.2 = true then some (.new (rgD o.1 o.2), s) else none
theorem eo_listRg {a : Expr} {fa : M (Int × Int)} (hc : X.calm = true) (B : Bl X.mg) (ha : PRg X a (tE2 fa)) (hg : Gl X "list" := by rfl) (na : starEach [a] X.env = (false, eval a X.env) :: starEach [] X.env := by rfl) : PE X (.Call (.Name "list" p) [a] [] pos) (tO (lstRg fa)) :=
  (pe_listRg hc hg B.list ha na).wk fun σ H Q ⟨Z, s, o, s', R, e, q⟩ => by
    obtain ⟨o1, s1, e1, e⟩ := bindM_some.mp e
    split at e
    · rename_i hok
      cases e
      refine ⟨Z, s, o1, s', R, e1, fun Z1 H1 st => ⟨show RgOk _ _ from (of_decide_eq_true hok : _ ∧ _), fun p hp => ?_⟩⟩
      exact q _ Z1 _ (st.alloc hp) ⟨p, _, rfl, upd_same, st.rep.sub.free hp, rg_rp _ _, st.rep.nown hp, st.tr.live p hp⟩
    · cases e

/-! ### isinstance(x, T) -/
def tyD : D → String
  | .none => "NoneType"
  | .bool _ => "bool"
  | .int _ => "int"
  | .str _ => "str"
  | .list _ => "list"
  | .tuple _ => "tuple"
  | .dict _ => "dict"
theorem ty_of {K : PySem.W.Frag} {H : Hp} {v : V} {d : D} (h : Rp H v d) : TyX K H v (.type (tyD d)) := by
  cases h with
  | non => exact .base .non
  | bl b => exact .base (.bl b)
  | int i => exact .base (.int i)
  | str x => exact .base (.str x)
  | lst h _ => exact .base (.lst h)
  | tup h _ => exact .base (.tup h)
def isinD (T : String) (f : M O) : M O := bindM f fun o s => (peek s o).bind fun d => (kitB (tyD d) T).map fun b => (.d (.bool b), s)
theorem eo_isin {a : Expr} {fa : M O} {T : String} {c : Str} {pc : Pos} (B : Bl X.mg) (ha : PE X a (tO fa)) (hcm : X.mg c = none) (hcv : bootBuiltins c = some (.type T)) (hcg : Gl X c := by rfl) (hg : Gl X "isinstance" := by rfl) (hcn : c ≠ "__name__" := by decide) (hcd : (c == ("__debug__" : Str)) = false := by decide)
    (h1 : starEach [a, .Name c pc] X.env = (false, eval a X.env) :: starEach [.Name c pc] X.env := by rfl) (h2 : starEach [.Name c pc] X.env = (false, eval (.Name c pc) X.env) :: starEach [] X.env := by rfl) (hpl : (backTo pos (starEach [.Name c pc] X.env)).any (·.1) = false := by rfl) :
    PE X (.Call (.Name "isinstance" p) [a, .Name c pc] [] pos) (tO (isinD T fa)) :=
  (pe_callB call_isi hg B.isinstance (by decide +kernel) (pa_cons ha (pa_cons (pe_bltn (v := .ty T) hcg hcm hcv rfl hcn hcd) pa_nil h2) h1) (by decide) (by decide) h1 hpl).wk fun σ H Q ⟨Z, s, o, s', R, e, q⟩ => by
    obtain ⟨o1, s1, e1, e⟩ := bindM_some.mp e
    obtain ⟨d, e2, e⟩ := Option.bind_eq_some_iff.mp e
    obtain ⟨b, e3, e⟩ := Option.map_eq_some_iff.mp e
    cases e
    refine ⟨Z, s, o1, s', R, e1, fun x Z1 H1 st r => ?_⟩
    exact ⟨x, .ty T, .type (tyD d), .type T, b, rfl, .ty T, ty_of ((peek_pk st.rep r e2).rp st.rep.sub), kit_ty e3, q _ Z1 H1 st (Rp.bl b)⟩
end

/-! ### tests -/
def truD : D → Option Bool
  | .none => some false
  | .bool b => some b
  | .int i => some (i != 0)
  | .str x => if x.length ≤ big then some ((x.length : Int) != 0) else none
  | .list ds => some (!ds.isEmpty)
  | .tuple ds => some (!ds.isEmpty)
  | .dict _ => none
theorem tru_of {K : PySem.W.Frag} {Z H : Hp} {v : V} {d : D} {b : Bool} (s : Same Z H) (h : Pk Z H v d) (e : truD d = some b) : TruV K v H b := by
  cases d with
  | none => cases e; cases h.none; rfl
  | bool c => cases e; cases h.bool; rfl
  | int i => cases e; cases h.int; rfl
  | str x =>
    unfold truD at e
    simp only at e
    split at e
    · rename_i hz
      cases e; cases h.str
      exact ⟨by rw [big_eq]; exact hz, rfl⟩
    · cases e
  | list ds =>
    cases e
    obtain ⟨a, vs, rfl, h1, h2⟩ := h.list s
    refine .inl ⟨vs, .of h1, ?_⟩
    cases h2 <;> rfl
  | tuple ds =>
    cases e
    obtain ⟨a, vs, rfl, h1, h2⟩ := h.tuple s
    refine .inr (.inl ⟨vs, .of h1, ?_⟩)
    cases h2 <;> rfl
  | dict _ => cases e
def test (f : M O) : M Bool := bindM f fun o s => ((peek s o).bind truD).map fun b => (b, s)
theorem test_some {f : M O} {s s' : S} {b : Bool} : test f s = some (b, s') ↔ ∃ o d, f s = some (o, s') ∧ peek s' o = some d ∧ truD d = some b := by
  constructor
  · intro e
    obtain ⟨o1, s1, e1, e⟩ := bindM_some.mp e
    obtain ⟨i, e2, e⟩ := Option.map_eq_some_iff.mp e
    obtain ⟨d, e3, e4⟩ := Option.bind_eq_some_iff.mp e2
    cases e
    exact ⟨o1, d, e1, e3, e4⟩
  · rintro ⟨o, d, e1, e2, e3⟩
    refine bindM_some.mpr ⟨o, s', e1, ?_⟩
    rw [e2, Option.bind_some, e3]; rfl
section
variable {X : Cx} {a b c : Expr} {fa fb fc : M O} {pos : Pos} {ga gb : M Bool} {rest : List Expr}
theorem et_val (ha : PE X a (tO fa)) (he : ∀ whole, isTrue a X.env whole = (do let v ← whole; standAt a.pos; holding [v] (truthy v)) := by intro _; rfl) : PT X a (tT (test fa)) := (pt_truth ha he).wk fun σ H Q ⟨Z, s, o, s', R, e, q⟩ => by
  obtain ⟨o1, d, e1, e2, e3⟩ := test_some.mp e
  exact ⟨Z, s, o1, s', R, e1, fun x Z1 H1 st r => ⟨o, tru_of st.rep.sub (peek_pk st.rep r e2) e3, q Z1 H1 st⟩⟩
/-- a comparison's answer is a bool -/
def isB (p : D → D → Option Rs) : Prop := ∀ d e rs, p d e = some rs → ∃ k, rs = .el (.bool k)
theorem test_bool {p : D → D → Option Rs} (hb : isB p) {r : R2} (ok : Ok2 r p) (σ : St) (H : Hp) (Q : Bool → Hp → Prop) (h : tT (test (bin2 p fa fb)) σ H Q) : tTest (tOp r (tO fa) (tO fb)) σ H Q := by
  obtain ⟨Z, s, o, s', R, e, q⟩ := h
  obtain ⟨o1, d, e1, e2, e3⟩ := test_some.mp e
  refine bin2_ok ok σ H _ ⟨Z, s, o1, s', R, e1, fun v Z' H' st r => ?_⟩
  obtain ⟨oa, s1, e4, e1⟩ := bindM_some.mp e1
  obtain ⟨ob, s2, e5, e1⟩ := bindM_some.mp e1
  obtain ⟨d1, d2, rs, h1, h2, h3, rfl, rfl⟩ := pk2_some.mp e1
  obtain ⟨k, rfl⟩ := hb _ _ _ h3
  cases e2
  cases e3
  cases r
  exact ⟨_, rfl, q Z' H' st⟩
theorem et_cmp {op : CmpOp} {r : R2} {p : D → D → Option Rs} (ho : OpR X (compareOp op) r) (ok : Ok2 r p) (hb : isB p) (ha : PE X a (tO fa)) (hb' : PE X b (tO fb)) (hm : behindInMarks op b = false) : PT X (.Compare a [op] [b] pos) (tT (test (bin2 p fa fb))) :=
  (pt_cmpR ho ha hb' hm).wk (test_bool hb ok)
theorem isB_ii {g : Int → Int → Bool} : isB (ii fun i j => .bool (g i j)) := fun d e rs h => bool_ii d e rs h
theorem isB_eq : isB eqP := fun d e rs h => by unfold eqP at h; split at h <;> cases h; exact ⟨_, rfl⟩
theorem isB_ne : isB neP := fun d e rs h => by unfold neP at h; split at h <;> cases h; exact ⟨_, rfl⟩
theorem isB_in : isB inP := fun d e rs h => by
  unfold inP at h
  split at h
  · split at h <;> cases h; exact ⟨_, rfl⟩
  · split at h <;> cases h; exact ⟨_, rfl⟩
  · cases h
theorem isB_notIn : isB notInP := fun d e rs h => by
  unfold notInP at h
  split at h
  · split at h <;> cases h; exact ⟨_, rfl⟩
  · split at h <;> cases h; exact ⟨_, rfl⟩
  · cases h
theorem et_lt (ha : PE X a (tO fa)) (hb : PE X b (tO fb)) : PT X (.Compare a [.Lt] [b] pos) (tT (test (bin2 ltP fa fb))) := et_cmp op_lt (ok_ii fun _ _ _ => .bl _) isB_ii ha hb (nomark _)
theorem et_le (ha : PE X a (tO fa)) (hb : PE X b (tO fb)) : PT X (.Compare a [.LtE] [b] pos) (tT (test (bin2 leP fa fb))) := et_cmp op_le (ok_ii fun _ _ _ => .bl _) isB_ii ha hb (nomark _)
theorem et_gt (ha : PE X a (tO fa)) (hb : PE X b (tO fb)) : PT X (.Compare a [.Gt] [b] pos) (tT (test (bin2 gtP fa fb))) := et_cmp op_gt (ok_ii fun _ _ _ => .bl _) isB_ii ha hb (nomark _)
theorem et_ge (ha : PE X a (tO fa)) (hb : PE X b (tO fb)) : PT X (.Compare a [.GtE] [b] pos) (tT (test (bin2 geP fa fb))) := et_cmp op_ge (ok_ii fun _ _ _ => .bl _) isB_ii ha hb (nomark _)
theorem et_eq {k : Nat} (hr : Room k X.A) (ha : PE X a (tO fa)) (hb : PE X b (tO fb)) : PT X (.Compare a [.Eq] [b] pos) (tT (test (bin2 eqP fa fb))) := et_cmp (op_eqD hr.units) ok_eq isB_eq ha hb (nomark _)
theorem et_ne {k : Nat} (hr : Room k X.A) (ha : PE X a (tO fa)) (hb : PE X b (tO fb)) : PT X (.Compare a [.NotEq] [b] pos) (tT (test (bin2 neP fa fb))) := et_cmp (op_neD hr.units) ok_ne isB_ne ha hb (nomark _)
theorem et_in {k : Nat} (hr : Room k X.A) (ha : PE X a (tO fa)) (hb : PE X b (tO fb)) (hm : behindInMarks .In b = false := by rfl) : PT X (.Compare a [.In] [b] pos) (tT (test (bin2 inP fa fb))) := et_cmp ((op_inD (units65 hr)).or op_in_seq) ok_in isB_in ha hb hm
theorem et_notIn {k : Nat} (hr : Room k X.A) (ha : PE X a (tO fa)) (hb : PE X b (tO fb)) (hm : behindInMarks .NotIn b = false := by rfl) : PT X (.Compare a [.NotIn] [b] pos) (tT (test (bin2 notInP fa fb))) := et_cmp ((op_notInD (units65 hr)).or op_notIn_seq) ok_notIn isB_notIn ha hb hm
theorem test_un {p : D → Option Rs} (hb : ∀ d rs, p d = some rs → ∃ k, rs = .el (.bool k)) {t : TE} {r : V → Hp → VK → Prop} (ht : ∀ σ H Q, tO fa σ H (fun x H1 => r x H1 Q) → t σ H Q) (ok : Ok1 r p) (σ : St) (H : Hp) (Q : Bool → Hp → Prop) (h : tT (test (un1 p fa)) σ H Q) :
    t σ H (fun x H1 => ∃ c, x = .bl c ∧ Q c H1) := by
  obtain ⟨Z, s, o, s', R, e, q⟩ := h
  obtain ⟨o1, d, e1, e2, e3⟩ := test_some.mp e
  refine un1_ok' ht ok σ H _ ⟨Z, s, o1, s', R, e1, fun v Z' H' st r => ?_⟩
  obtain ⟨oa, s1, e4, e1⟩ := bindM_some.mp e1
  obtain ⟨d1, rs, h1, h3, rfl, rfl⟩ := pk1_some.mp e1
  obtain ⟨k, rfl⟩ := hb _ _ h3
  cases e2
  cases e3
  cases r
  exact ⟨_, rfl, q Z' H' st⟩
theorem et_isN {j pos'} (ha : PE X a (tO fa)) : PT X (.Compare a [.Is] [.Constant .none j pos'] pos) (tT (test (un1 isNP fa))) := (pt_cmp (pc_isN ha)).wk fun σ H Q h => test_un (fun d rs h => by cases d <;> cases h <;> exact ⟨_, rfl⟩) (fun _ _ _ h => h) ok_isN σ H Q h
theorem et_notN {j pos'} (ha : PE X a (tO fa)) : PT X (.Compare a [.IsNot] [.Constant .none j pos'] pos) (tT (test (un1 notNP fa))) := (pt_cmp (pc_notN ha)).wk fun σ H Q h => test_un (fun d rs h => by cases d <;> cases h <;> exact ⟨_, rfl⟩) (fun _ _ _ h => h) ok_notN σ H Q h
theorem et_chain {op op' : CmpOp} {r r' : R2} {p p' : D → D → Option Rs} (ho : OpR X (compareOp op) r) (ho' : OpR X (compareOp op') r') (ok : Ok2 r p) (ok' : Ok2 r' p') (hb : isB p) (hb' : isB p') (ha : PE X a (tO fa)) (hb1 : PE X b (tO fb)) (hc : PE X c (tO fc))
    (h1 : behindInMarks op b = false) (h2 : behindInMarks op' c = false) (P : PT X (.Compare a [op, op'] [b, c] pos) (tTest (tChain r r' (tO fa) (tO fb) (tO fc)))) : PT X (.Compare a [op, op'] [b, c] pos) (tT (test (chainD p p' fa fb fc))) :=
  P.wk fun σ H Q ⟨Z, s, o, s', R, e, q⟩ => by
    obtain ⟨o1, d, e1, e2, e3⟩ := test_some.mp e
    refine chain_ok ok ok' hb σ H _ ⟨Z, s, o1, s', R, e1, fun v Z' H' st r => ?_⟩
    obtain ⟨oa, s1, e4, e1⟩ := bindM_some.mp e1
    obtain ⟨ob, s2, e5, e1⟩ := bindM_some.mp e1
    obtain ⟨oc, s3, e6, e1⟩ := bindM_some.mp e1
    obtain ⟨d1, d2, rs, h1, h2, h3, rfl, rfl⟩ := pk2_some.mp e6
    obtain ⟨k, rfl⟩ := hb _ _ _ h3
    cases k with
    | false =>
      cases e1
      cases e2
      cases e3
      cases r
      exact ⟨_, rfl, q Z' H' st⟩
    | true =>
      obtain ⟨oc, s3, e6, e1⟩ := bindM_some.mp e1
      obtain ⟨d1, d2, rs, h1, h2, h3, rfl, rfl⟩ := pk2_some.mp e1
      obtain ⟨k, rfl⟩ := hb' _ _ _ h3
      cases e2
      cases e3
      cases r
      exact ⟨_, rfl, q Z' H' st⟩
theorem eo_leLt (ha : PE X a (tO fa)) (hb : PE X b (tO fb)) (hc : PE X c (tO fc)) : PE X (.Compare a [.LtE, .Lt] [b, c] pos) (tO (chainD leP ltP fa fb fc)) := (pe_chain op_le op_lt ha hb hc (nomark _)).wk (chain_ok (ok_ii fun _ _ _ => .bl _) (ok_ii fun _ _ _ => .bl _) isB_ii)
theorem eo_ltLt (ha : PE X a (tO fa)) (hb : PE X b (tO fb)) (hc : PE X c (tO fc)) : PE X (.Compare a [.Lt, .Lt] [b, c] pos) (tO (chainD ltP ltP fa fb fc)) := (pe_chain op_lt op_lt ha hb hc (nomark _)).wk (chain_ok (ok_ii fun _ _ _ => .bl _) (ok_ii fun _ _ _ => .bl _) isB_ii)
theorem eo_leLe (ha : PE X a (tO fa)) (hb : PE X b (tO fb)) (hc : PE X c (tO fc)) : PE X (.Compare a [.LtE, .LtE] [b, c] pos) (tO (chainD leP leP fa fb fc)) := (pe_chain op_le op_le ha hb hc (nomark _)).wk (chain_ok (ok_ii fun _ _ _ => .bl _) (ok_ii fun _ _ _ => .bl _) isB_ii)
theorem eo_ltLe (ha : PE X a (tO fa)) (hb : PE X b (tO fb)) (hc : PE X c (tO fc)) : PE X (.Compare a [.Lt, .LtE] [b, c] pos) (tO (chainD ltP leP fa fb fc)) := (pe_chain op_lt op_le ha hb hc (nomark _)).wk (chain_ok (ok_ii fun _ _ _ => .bl _) (ok_ii fun _ _ _ => .bl _) isB_ii)
theorem et_leLt (ha : PE X a (tO fa)) (hb : PE X b (tO fb)) (hc : PE X c (tO fc)) : PT X (.Compare a [.LtE, .Lt] [b, c] pos) (tT (test (chainD leP ltP fa fb fc))) := et_chain op_le op_lt (ok_ii fun _ _ _ => .bl _) (ok_ii fun _ _ _ => .bl _) isB_ii isB_ii ha hb hc (nomark _) (nomark _) (pt_chain op_le op_lt ha hb hc (nomark _))
theorem et_ltLt (ha : PE X a (tO fa)) (hb : PE X b (tO fb)) (hc : PE X c (tO fc)) : PT X (.Compare a [.Lt, .Lt] [b, c] pos) (tT (test (chainD ltP ltP fa fb fc))) := et_chain op_lt op_lt (ok_ii fun _ _ _ => .bl _) (ok_ii fun _ _ _ => .bl _) isB_ii isB_ii ha hb hc (nomark _) (nomark _) (pt_chain op_lt op_lt ha hb hc (nomark _))
theorem et_leLe (ha : PE X a (tO fa)) (hb : PE X b (tO fb)) (hc : PE X c (tO fc)) : PT X (.Compare a [.LtE, .LtE] [b, c] pos) (tT (test (chainD leP leP fa fb fc))) := et_chain op_le op_le (ok_ii fun _ _ _ => .bl _) (ok_ii fun _ _ _ => .bl _) isB_ii isB_ii ha hb hc (nomark _) (nomark _) (pt_chain op_le op_le ha hb hc (nomark _))
theorem et_ltLe (ha : PE X a (tO fa)) (hb : PE X b (tO fb)) (hc : PE X c (tO fc)) : PT X (.Compare a [.Lt, .LtE] [b, c] pos) (tT (test (chainD ltP leP fa fb fc))) := et_chain op_lt op_le (ok_ii fun _ _ _ => .bl _) (ok_ii fun _ _ _ => .bl _) isB_ii isB_ii ha hb hc (nomark _) (nomark _) (pt_chain op_lt op_le ha hb hc (nomark _))

/-! and, or, not, if-else -/
def andT (f g : M Bool) : M Bool := bindM f fun b => if b = true then g else retM false
def orT (f g : M Bool) : M Bool := bindM f fun b => if b = true then retM true else g
def notT (f : M Bool) : M Bool := bindM f fun b => retM (!b)
def ifE (f : M Bool) (g h : M O) : M O := bindM f fun b => if b = true then g else h
def boolE (f : M Bool) : M O := bindM f fun b => retM (.d (.bool b))
theorem ew_and1 (ha : PT X a (tT ga)) : PW X (.BoolOp .And [a] pos) (tT ga) := pw_and1 ha
theorem ew_or1 (ha : PT X a (tT ga)) : PW X (.BoolOp .Or [a] pos) (tT ga) := pw_or1 ha
theorem ew_and (ha : PT X a (tT ga)) (hb : PW X (.BoolOp .And (b :: rest) pos) (tT gb)) : PW X (.BoolOp .And (a :: b :: rest) pos) (tT (andT ga gb)) := (pw_and ha hb).wk fun σ H Q ⟨Z, s, o, s', R, e, q⟩ => by
  obtain ⟨c, s1, e1, e⟩ := bindM_some.mp e
  refine ⟨Z, s, c, s1, R, e1, fun Z1 H1 st => ?_⟩
  cases c with
  | true => rw [if_pos rfl] at e ⊢; exact ⟨Z1, s1, o, s', st.rep, e, fun Z2 H2 st2 => q Z2 H2 (st.trans st2)⟩
  | false => rw [if_neg Bool.false_ne_true] at e ⊢; cases e; exact q Z1 H1 st
theorem ew_or (ha : PT X a (tT ga)) (hb : PW X (.BoolOp .Or (b :: rest) pos) (tT gb)) : PW X (.BoolOp .Or (a :: b :: rest) pos) (tT (orT ga gb)) := (pw_or ha hb).wk fun σ H Q ⟨Z, s, o, s', R, e, q⟩ => by
  obtain ⟨c, s1, e1, e⟩ := bindM_some.mp e
  refine ⟨Z, s, c, s1, R, e1, fun Z1 H1 st => ?_⟩
  cases c with
  | true => rw [if_pos rfl] at e ⊢; cases e; exact q Z1 H1 st
  | false => rw [if_neg Bool.false_ne_true] at e ⊢; exact ⟨Z1, s1, o, s', st.rep, e, fun Z2 H2 st2 => q Z2 H2 (st.trans st2)⟩
theorem et_not (ha : PT X a (tT ga)) : PT X (.UnaryOp .Not a pos) (tT (notT ga)) := (pt_not ha).wk fun σ H Q ⟨Z, s, o, s', R, e, q⟩ => by
  obtain ⟨c, s1, e1, e⟩ := bindM_some.mp e
  cases e
  exact ⟨Z, s, c, s', R, e1, fun Z1 H1 st => q Z1 H1 st⟩
theorem eo_if (hc : PT X c (tT ga)) (ha : PE X a (tO fa)) (hb : PE X b (tO fb)) : PE X (.IfExp c a b pos) (tO (ifE ga fa fb)) := (pe_ifExp hc ha hb).wk fun σ H Q ⟨Z, s, o, s', R, e, q⟩ => by
  obtain ⟨c, s1, e1, e⟩ := bindM_some.mp e
  refine ⟨Z, s, c, s1, R, e1, fun Z1 H1 st => ?_⟩
  cases c with
  | true => rw [if_pos rfl] at e ⊢; exact ⟨Z1, s1, o, s', st.rep, e, fun v Z2 H2 st2 r => q v Z2 H2 (st.trans st2) (r.pre st.tr.live)⟩
  | false => rw [if_neg Bool.false_ne_true] at e ⊢; exact ⟨Z1, s1, o, s', st.rep, e, fun v Z2 H2 st2 r => q v Z2 H2 (st.trans st2) (r.pre st.tr.live)⟩
/-- values: x or y, x and y, not x, by truth -/
def orE (f g : M O) : M O := bindM f fun o => bindM (fun s => ((peek s o).bind truD).map fun b => (b, s)) fun b => if b = true then retM o else g
def andE (f g : M O) : M O := bindM f fun o => bindM (fun s => ((peek s o).bind truD).map fun b => (b, s)) fun b => if b = true then g else retM o
def notE (f : M O) : M O := bindM (test f) fun b => retM (.d (.bool (!b)))
theorem eo_one {op} (h : PE X a (tO fa)) : PE X (.BoolOp op [a] pos) (tO fa) := pe_one h
theorem eo_or (ha : PE X a (tO fa)) (hb : PE X (.BoolOp .Or (b :: rest) pos) (tO fb)) : PE X (.BoolOp .Or (a :: b :: rest) pos) (tO (orE fa fb)) := (pe_orT ha hb).wk fun σ H Q ⟨Z, s, o, s', R, e, q⟩ => by
  obtain ⟨o1, s1, e1, e⟩ := bindM_some.mp e
  obtain ⟨k, s2, e2, e⟩ := bindM_some.mp e
  obtain ⟨k', e3, e4⟩ := Option.map_eq_some_iff.mp e2
  cases e4
  obtain ⟨d, e5, e6⟩ := Option.bind_eq_some_iff.mp e3
  refine ⟨Z, s, o1, s1, R, e1, fun x Z1 H1 st r => ⟨k, tru_of st.rep.sub (peek_pk st.rep r e5) e6, ?_⟩⟩
  cases k with
  | true => rw [if_pos rfl] at e ⊢; cases e; exact q x Z1 H1 st r
  | false => rw [if_neg Bool.false_ne_true] at e ⊢; exact ⟨Z1, s1, o, s', st.rep, e, fun v Z2 H2 st2 r => q v Z2 H2 (st.trans st2) (r.pre st.tr.live)⟩
theorem eo_and (ha : PE X a (tO fa)) (hb : PE X (.BoolOp .And (b :: rest) pos) (tO fb)) : PE X (.BoolOp .And (a :: b :: rest) pos) (tO (andE fa fb)) := (pe_andT ha hb).wk fun σ H Q ⟨Z, s, o, s', R, e, q⟩ => by
  obtain ⟨o1, s1, e1, e⟩ := bindM_some.mp e
  obtain ⟨k, s2, e2, e⟩ := bindM_some.mp e
  obtain ⟨k', e3, e4⟩ := Option.map_eq_some_iff.mp e2
  cases e4
  obtain ⟨d, e5, e6⟩ := Option.bind_eq_some_iff.mp e3
  refine ⟨Z, s, o1, s1, R, e1, fun x Z1 H1 st r => ⟨k, tru_of st.rep.sub (peek_pk st.rep r e5) e6, ?_⟩⟩
  cases k with
  | true => rw [if_pos rfl] at e ⊢; exact ⟨Z1, s1, o, s', st.rep, e, fun v Z2 H2 st2 r => q v Z2 H2 (st.trans st2) (r.pre st.tr.live)⟩
  | false => rw [if_neg Bool.false_ne_true] at e ⊢; cases e; exact q x Z1 H1 st r
theorem eo_not (ha : PE X a (tO fa)) : PE X (.UnaryOp .Not a pos) (tO (notE fa)) := (pe_notT ha).wk fun σ H Q ⟨Z, s, o, s', R, e, q⟩ => by
  obtain ⟨k, s1, e1, e⟩ := bindM_some.mp e
  cases e
  obtain ⟨o1, d, e2, e3, e4⟩ := test_some.mp e1
  exact ⟨Z, s, o1, s', R, e2, fun x Z1 H1 st r => ⟨k, tru_of st.rep.sub (peek_pk st.rep r e3) e4, q _ Z1 H1 st (Rp.bl _)⟩⟩
end
end DL

set_option Elab.async false
set_option linter.all false
set_option maxRecDepth 100000
set_option maxHeartbeats 1000000
set_option autoImplicit false
/-! DL, part e: statements. -/
namespace DL
open PySem L2

/-- what is handed back -/
def RelR (H : Hp) (σ : St) (s : S) (Z' H' : Hp) (σ' : St) (s' : S) (v : V) : SV → Prop
  | .dat d => Rp Z' v d
  | .raw w => v = w
  | .own ds => ∃ a vs, v = .ref a ∧ H' a = some (.lst vs) ∧ Z' a = none ∧ RpAll Z' vs ds ∧ (Own σ s a ∨ H a = none) ∧ ∀ (i : Nat) (es : List D), s'[i]? = some (some (.io es)) → σ'[i]? ≠ some (some (.ref a))
  | .io _ => False
def OutOk (E : Ends) (Z H : Hp) (σ : St) (s : S) : Out → Prop
  | .nx s' => ∀ σ' Z' H', Stp Z H σ s Z' H' σ' s' → E.nx σ' H'
  | .bk s' => ∀ σ' Z' H', Stp Z H σ s Z' H' σ' s' → E.bk σ' H'
  | .ct s' => ∀ σ' Z' H', Stp Z H σ s Z' H' σ' s' → E.ct σ' H'
  | .rt r s' => ∀ v σ' Z' H', Stp Z H σ s Z' H' σ' s' → RelR H σ s Z' H' σ' s' v r → E.rt v H'
def tS (g : G) : TS := fun E σ H => ∃ Z s o, Rep Z H σ s ∧ g s = some o ∧ OutOk E Z H σ s o
theorem RelR.pre {H H1 : Hp} {σ σ1 : St} {s s1 : S} {Z Z1 Z' H' : Hp} {σ' : St} {s' : S} {v : V} {r : SV} (x : Stp Z H σ s Z1 H1 σ1 s1) (h : RelR H1 σ1 s1 Z' H' σ' s' v r) : RelR H σ s Z' H' σ' s' v r := by
  cases r with
  | dat d => exact h
  | raw w => exact h
  | io _ => exact h
  | own ds =>
    obtain ⟨a, vs, e, h1, h2, h3, h4, h5⟩ := h
    refine ⟨a, vs, e, h1, h2, h3, ?_, h5⟩
    rcases h4 with z | z
    · exact x.sub a z
    · exact .inr (x.tr.live a z)
theorem OutOk.after {E : Ends} {Z H Z1 H1 : Hp} {σ σ1 : St} {s s1 : S} {o : Out} (x : Stp Z H σ s Z1 H1 σ1 s1) (h : OutOk E Z H σ s o) : OutOk E Z1 H1 σ1 s1 o := by
  cases o with
  | nx s' => exact fun σ' Z' H' y => h σ' Z' H' (x.trans y)
  | bk s' => exact fun σ' Z' H' y => h σ' Z' H' (x.trans y)
  | ct s' => exact fun σ' Z' H' y => h σ' Z' H' (x.trans y)
  | rt r s' => exact fun v σ' Z' H' y q => h v σ' Z' H' (x.trans y) (q.pre x)

/-! ### values to slots -/
def take1 : O → M SV
  | .d d, s => some (.dat d, s)
  | .new ds, s => some (.own ds, s)
  | .raw v, s => some (.raw v, s)
  | .var i, s => match s[i]? with
    | some (some (.raw v)) => some (.raw v, s)
    | _ => (frz1 (.var i) s).map fun p => (.dat p.1, p.2)
def RelT (P Z H : Hp) (σ : St) (s : S) (v : V) : SV → Prop
  | .dat d => Rp Z v d
  | .raw w => v = w
  | .own ds => ∃ a vs, v = .ref a ∧ H a = some (.lst vs) ∧ Z a = none ∧ RpAll Z vs ds ∧ ¬ Own σ s a ∧ P a = none
  | .io _ => False
theorem take_ok {Z0 P Z H : Hp} {σ : St} {s0 s s' : S} {v : V} {o : O} {x : SV} (st : Stp Z0 P σ s0 Z H σ s) (h : RelO P Z H σ s v o) (e : take1 o s = some (x, s')) :
    ∃ Z', Stp Z0 P σ s0 Z' H σ s' ∧ RelT P Z' H σ s' v x := by
  cases o with
  | d d => cases e; exact ⟨Z, st, h⟩
  | new ds => cases e; exact ⟨Z, st, h⟩
  | raw w => cases e; exact ⟨Z, st, h⟩
  | var i =>
    simp only [take1] at e
    split at e
    · rename_i w q
      cases e
      have e1 := st.rep.raw _ _ q
      rw [show σ[i]? = some (some v) from h] at e1
      cases e1
      exact ⟨Z, st, rfl⟩
    · obtain ⟨p, e1, e2⟩ := Option.map_eq_some_iff.mp e
      cases e2
      obtain ⟨Z', st', r, _⟩ := frz_ok (d := p.1) (s' := p.2) st h e1
      exact ⟨Z', st', r⟩
def putS (i : Nat) (x : SV) (s : S) : Option S := match s[i]? with
  | some (some (.io _)) => none
  | some _ => some (s.set i (some x))
  | none => none
theorem putS_some {i : Nat} {x : SV} {s s' : S} (h : putS i x s = some s') : s' = s.set i (some x) ∧ i < s.length ∧ ∀ ds, s[i]? ≠ some (some (.io ds)) := by
  unfold putS at h
  split at h
  · cases h
  · rename_i hn q
    cases h
    exact ⟨rfl, (List.getElem?_eq_some_iff.mp q).1, fun ds e => hn ds (Option.some.inj (q.symm.trans e))⟩
  · cases h
theorem put_ok {Z0 P Z H : Hp} {σ0 σ : St} {s0 s s' : S} {v : V} {x : SV} {i : Nat} (st : Stp Z0 P σ0 s0 Z H σ s) (h : RelT P Z H σ s v x) (e : putS i x s = some s') : Stp Z0 P σ0 s0 Z H (σ.set i (some v)) s' := by
  obtain ⟨rfl, hi, nio⟩ := putS_some e
  have hσ : i < σ.length := by rw [← st.rep.len]; exact hi
  have sv : (σ.set i (some v))[i]? = some (some v) := List.getElem?_set_self hσ
  have so : ∀ j, j ≠ i → (σ.set i (some v))[j]? = σ[j]? := fun j n => List.getElem?_set_ne (Ne.symm n)
  have ownO : ∀ j a, j ≠ i → OwnAt (σ.set i (some v)) (s.set i (some x)) j a → OwnAt σ s j a := fun j a n ⟨⟨ds, m⟩, q⟩ => by
    rw [so j n] at q
    refine ⟨⟨ds, ?_⟩, q⟩
    unfold Mu at m ⊢
    rw [List.getElem?_set_ne (Ne.symm n)] at m
    exact m
  have ownI : ∀ a, OwnAt (σ.set i (some v)) (s.set i (some x)) i a → v = .ref a ∧ ¬ Own σ s a ∧ P a = none := fun a ⟨⟨ds, m⟩, q⟩ => by
    rw [sv] at q
    cases q
    have : ∃ ds, x = .own ds := by
      rcases m with m | m
      · rw [List.getElem?_set_self hi] at m; cases m; exact ⟨_, rfl⟩
      · rw [List.getElem?_set_self hi] at m; cases m; exact h.elim
    obtain ⟨ds', rfl⟩ := this
    obtain ⟨b, vs, eb, _, _, _, h4, h5⟩ := h
    cases eb
    exact ⟨rfl, h4, h5⟩
  refine ⟨⟨st.rep.sub, by rw [List.length_set, List.length_set]; exact st.rep.len, fun j d q => ?_, fun j w q => ?_, fun j ds m => ?_, fun j k a p q => ?_⟩, st.tr, fun a ⟨j, o⟩ => ?_, fun j ds q => ?_, fun j ds q => ?_⟩
  · rcases set_get q with ⟨rfl, z⟩ | ⟨n, z⟩
    · cases z
      exact ⟨v, sv, h⟩
    · rw [so j n]; exact st.rep.dat j d z
  · rcases set_get q with ⟨rfl, z⟩ | ⟨n, z⟩
    · cases z
      cases h
      exact sv
    · rw [so j n]; exact st.rep.raw j w z
  · by_cases n : j = i
    · subst n
      have : x = .own ds := by
        rcases m with m | m
        · rw [List.getElem?_set_self hi] at m; cases m; rfl
        · rw [List.getElem?_set_self hi] at m; cases m; exact h.elim
      subst this
      obtain ⟨b, vs, eb, h1, h2, h3, _⟩ := h
      subst eb
      exact ⟨b, vs, sv, h1, h2, h3⟩
    · unfold Mu at m
      rw [List.getElem?_set_ne (Ne.symm n)] at m
      rw [so j n]
      exact st.rep.own j ds m
  · by_cases n : j = i
    · by_cases n' : k = i
      · rw [n, n']
      · subst n
        exact absurd ⟨k, ownO k a n' q⟩ (ownI a p).2.1
    · by_cases n' : k = i
      · subst n'
        exact absurd ⟨j, ownO j a n p⟩ (ownI a q).2.1
      · exact st.rep.inj j k a (ownO j a n p) (ownO k a n' q)
  · by_cases n : j = i
    · subst n
      exact .inr (ownI a o).2.2
    · exact st.sub a ⟨j, ownO j a n o⟩
  · obtain ⟨e1, ds', q'⟩ := st.io j ds q
    have n : j ≠ i := fun z => by subst z; exact nio _ q'
    exact ⟨(so j n).trans e1, ds', by rw [List.getElem?_set_ne (Ne.symm n)]; exact q'⟩
  · rcases set_get q with ⟨rfl, z⟩ | ⟨n, z⟩
    · cases z
      exact (show False from h).elim
    · exact st.noio j ds z
/-- a name's new value: behind st nothing but slot i changes -/
def setG (i : Nat) (f : M O) : G := fun s => (bindM f take1 s).bind fun p => (putS i p.1 p.2).map .nx
section
variable {X : Cx} {st : Stmt} {rest : List Stmt} {g h : G} {e : Expr} {f : M O} {pos : Pos}
theorem set_ok {i : Nat} (E : Ends) (σ : St) (H : Hp) (q : tS (setG i f) E σ H) : tAsg (tO f) (gName i) E σ H := by
  obtain ⟨Z, s, o, R, e, q⟩ := q
  obtain ⟨p, e1, e⟩ := Option.bind_eq_some_iff.mp e
  obtain ⟨s', e2, e⟩ := Option.map_eq_some_iff.mp e
  cases e
  obtain ⟨o1, s1, e3, e4⟩ := bindM_some.mp (show _ = some (p.1, p.2) from e1)
  refine ⟨Z, s, o1, s1, R, e3, fun v Z1 H1 x r => ?_⟩
  obtain ⟨Z2, x2, r2⟩ := take_ok (x := p.1) (s' := p.2) x r e4
  exact q _ Z2 H1 (put_ok x2 r2 e2)
theorem ds_set {i : Nat} {x : Str} {pos' : Pos} (hN : X.N.Nodup) (he : PE X e (tO f)) (hi : X.N[i]? = some x := by rfl) (hx : Loc X.env.scope x := by first | exact Or.inl rfl | exact Or.inr rfl) (hs : swapsWith e (some (.Name x pos')) pos.line X.env = pure false := by rfl) (hf : X.fn x = true ∨ X.env.scope.names.lookup x = some .local := by first | exact .inl rfl | exact .inr rfl | assumption) :
    PS X (.Assign [.Name x pos'] e pos) (tS (setG i f)) := (ps_set hN hi hx he hs hf).wk fun E σ H q => set_ok E σ H q

/-! ### blocks, return, if, expressions -/
def seqG (g h : G) : G := fun s => match g s with
  | some (.nx s1) => h s1
  | r => r
def skipG : G := fun s => some (.nx s)
theorem ds_nil : PSs X [] (tS skipG) := pss_nil.wk fun E σ H ⟨Z, s, o, R, e, q⟩ => by
  cases e
  exact q σ Z H (.refl R)
theorem ds_cons (h1 : PS X st (tS g)) (h2 : PSs X rest (tS h)) : PSs X (st :: rest) (tS (seqG g h)) := (pss_cons h1 h2).wk fun E σ H ⟨Z, s, o, R, e, q⟩ => by
  unfold seqG at e
  split at e
  · rename_i s1 e1
    exact ⟨Z, s, .nx s1, R, e1, fun σ' Z' H' x => ⟨Z', s1, o, x.rep, e, q.after x⟩⟩
  · rename_i hn
    refine ⟨Z, s, o, R, e, ?_⟩
    cases o with
    | nx s' => exact absurd e (hn s')
    | bk s' => exact q
    | ct s' => exact q
    | rt r s' => exact q
theorem ds_one (h1 : PS X st (tS g)) : PSs X [st] (tS g) := pss_one h1
theorem ds_pass : PS X (.Pass pos) (tS skipG) := ps_pass.wk fun E σ H ⟨Z, s, o, R, e, q⟩ => by
  cases e
  exact q σ Z H (.refl R)
def breakG : G := fun s => some (.bk s)
def contG : G := fun s => some (.ct s)
theorem ds_break : PS X (.Break pos) (tS breakG) := ps_break.wk fun E σ H ⟨Z, s, o, R, e, q⟩ => by
  cases e
  exact q σ Z H (.refl R)
theorem ds_continue : PS X (.Continue pos) (tS contG) := ps_continue.wk fun E σ H ⟨Z, s, o, R, e, q⟩ => by
  cases e
  exact q σ Z H (.refl R)
/-- an own list that a name holds may be handed back as such -/
def ret1 : O → M SV
  | .var i, s => match s[i]? with
    | some (some (.own ds)) => some (.own ds, s)
    | some (some (.raw v)) => some (.raw v, s)
    | some (some (.dat d)) => some (.dat d, s)
    | _ => none
  | .d d, s => some (.dat d, s)
  | .new ds, s => some (.own ds, s)
  | .raw v, s => some (.raw v, s)
def retG (f : M O) : G := fun s => (bindM f ret1 s).map fun p => .rt p.1 p.2
theorem ds_ret (he : PE X e (tO f)) : PS X (.Return (some e) pos) (tS (retG f)) := (ps_ret he).wk fun E σ H ⟨Z, s, o, R, e, q⟩ => by
  obtain ⟨⟨r, s'⟩, e1, e⟩ := Option.map_eq_some_iff.mp e
  cases e
  obtain ⟨o1, s1, e2, e3⟩ := bindM_some.mp e1
  refine ⟨Z, s, o1, s1, R, e2, fun v Z1 H1 x r => ?_⟩
  cases o1 with
  | d d => cases e3; exact q v σ Z1 H1 x r
  | raw w => cases e3; exact q v σ Z1 H1 x r
  | new ds =>
    cases e3
    obtain ⟨a, vs, rfl, h1, h2, h3, h4, h5⟩ := r
    exact q _ σ Z1 H1 x ⟨a, vs, rfl, h1, h2, h3, .inr h5, fun i es m z => h4 ⟨i, ⟨es, .inr m⟩, z⟩⟩
  | var i =>
    simp only [ret1] at e3
    have hv : σ[i]? = some (some v) := r
    split at e3
    · rename_i ds m
      cases e3
      obtain ⟨a, vs, h0, h1, h2, h3⟩ := x.rep.own i ds (.inl m)
      rw [hv] at h0; cases h0
      refine q _ σ Z1 H1 x ⟨a, vs, rfl, h1, h2, h3, x.sub a ⟨i, ⟨ds, .inl m⟩, hv⟩, fun j es m' z => ?_⟩
      have := x.rep.inj j i a ⟨⟨es, .inr m'⟩, z⟩ ⟨⟨ds, .inl m⟩, hv⟩
      subst this
      rw [m] at m'; cases m'
    · rename_i w m
      cases e3
      have := x.rep.raw i w m
      rw [hv] at this; cases this
      exact q _ σ Z1 H1 x rfl
    · rename_i d m
      cases e3
      obtain ⟨w, h1, h2⟩ := x.rep.dat i d m
      rw [hv] at h1; cases h1
      exact q _ σ Z1 H1 x h2
    · cases e3
def ifG (c : M Bool) (g h : G) : G := fun s => (c s).bind fun p => if p.1 = true then g p.2 else h p.2
theorem ds_if {c : Expr} {a b : List Stmt} {fc : M Bool} (hc : PT X c (tT fc)) (ha : PSs X a (tS g)) (hb : PSs X b (tS h)) : PS X (.If c a b pos) (tS (ifG fc g h)) := (ps_if hc ha hb).wk fun E σ H ⟨Z, s, o, R, e, q⟩ => by
  obtain ⟨p, e1, e⟩ := Option.bind_eq_some_iff.mp e
  refine ⟨Z, s, p.1, p.2, R, e1, fun Z1 H1 x => ?_⟩
  obtain ⟨k, s1⟩ := p
  cases k with
  | true => rw [if_pos rfl] at e ⊢; exact ⟨Z1, s1, o, x.rep, e, q.after x⟩
  | false => rw [if_neg Bool.false_ne_true] at e ⊢; exact ⟨Z1, s1, o, x.rep, e, q.after x⟩
def dropG (f : M O) : G := fun s => (f s).map fun p => .nx p.2
theorem ds_expr (he : PE X e (tO f)) (hs : swapsWith e none pos.line X.env = pure false := by rfl) : PS X (.Expr e pos) (tS (dropG f)) := (ps_expr he hs).wk fun E σ H ⟨Z, s, o, R, e, q⟩ => by
  obtain ⟨p, e1, e⟩ := Option.map_eq_some_iff.mp e
  cases e
  exact ⟨Z, s, p.1, p.2, R, e1, fun v Z1 H1 x r => q σ Z1 H1 x⟩

/-! ### lists that are changed -/
/-- the list in slot i becomes ds -/
def wr (i : Nat) (ds : List D) (s : S) : Option S := match s[i]? with
  | some (some (.own _)) => some (s.set i (some (.own ds)))
  | some (some (.io _)) => some (s.set i (some (.io ds)))
  | _ => none
theorem wr_some {i : Nat} {ds : List D} {s s' : S} (h : wr i ds s = some s') : (∃ es, s[i]? = some (some (.own es)) ∧ s' = s.set i (some (.own ds))) ∨ (∃ es, s[i]? = some (some (.io es)) ∧ s' = s.set i (some (.io ds))) := by
  unfold wr at h
  split at h
  · rename_i es q; cases h; exact .inl ⟨es, q, rfl⟩
  · rename_i es q; cases h; exact .inr ⟨es, q, rfl⟩
  · cases h
theorem wr_ok {Z0 P Z H : Hp} {σ : St} {s0 s s' : S} {i : Nat} {ds : List D} {vs : List V} {a : Addr} (st : Stp Z0 P σ s0 Z H σ s) (e : wr i ds s = some s') (ha : σ[i]? = some (some (.ref a))) (hr : RpAll Z vs ds) : Stp Z0 P σ s0 Z (upd H a (.lst vs)) σ s' := by
  have hm : (∃ es, Mu s i es) ∧ (∀ (j : Nat) (es : List D), Mu s' j es → (j = i ∧ es = ds) ∨ (j ≠ i ∧ Mu s j es)) ∧ (∀ (j : Nat), j ≠ i → s'[j]? = s[j]?) ∧ s'.length = s.length ∧ (∀ (j : Nat) (es : List D), s[j]? = some (some (.io es)) → ∃ es', s'[j]? = some (some (.io es'))) ∧ (∀ (j : Nat) (es : List D), s'[j]? = some (some (.io es)) → ∃ es', s[j]? = some (some (.io es'))) ∧ ∀ (j : Nat) (d : D), s'[i]? ≠ some (some (.dat d)) ∧ ∀ v, s'[i]? ≠ some (some (.raw v)) := by
    rcases wr_some e with ⟨es, q, rfl⟩ | ⟨es, q, rfl⟩
    · have hi := (List.getElem?_eq_some_iff.mp q).1
      refine ⟨⟨es, .inl q⟩, fun j fs m => ?_, fun j n => List.getElem?_set_ne (Ne.symm n), by rw [List.length_set], fun j fs m => ?_, fun j fs m => ?_, fun j d => ⟨fun z => ?_, fun v z => ?_⟩⟩
      · rcases m with m | m
        · rcases set_get m with ⟨rfl, z⟩ | ⟨n, z⟩
          · cases z; exact .inl ⟨rfl, rfl⟩
          · exact .inr ⟨n, .inl z⟩
        · rcases set_get m with ⟨rfl, z⟩ | ⟨n, z⟩
          · cases z
          · exact .inr ⟨n, .inr z⟩
      · have n : i ≠ j := fun z => by subst z; rw [q] at m; cases m
        exact ⟨fs, by rw [List.getElem?_set_ne n]; exact m⟩
      · rcases set_get m with ⟨rfl, z⟩ | ⟨n, z⟩
        · cases z
        · exact ⟨fs, z⟩
      · rw [List.getElem?_set_self hi] at z; cases z
      · rw [List.getElem?_set_self hi] at z; cases z
    · have hi := (List.getElem?_eq_some_iff.mp q).1
      refine ⟨⟨es, .inr q⟩, fun j fs m => ?_, fun j n => List.getElem?_set_ne (Ne.symm n), by rw [List.length_set], fun j fs m => ?_, fun j fs m => ?_, fun j d => ⟨fun z => ?_, fun v z => ?_⟩⟩
      · rcases m with m | m
        · rcases set_get m with ⟨rfl, z⟩ | ⟨n, z⟩
          · cases z
          · exact .inr ⟨n, .inl z⟩
        · rcases set_get m with ⟨rfl, z⟩ | ⟨n, z⟩
          · cases z; exact .inl ⟨rfl, rfl⟩
          · exact .inr ⟨n, .inr z⟩
      · by_cases n : i = j
        · subst n; exact ⟨ds, List.getElem?_set_self hi⟩
        · exact ⟨fs, by rw [List.getElem?_set_ne n]; exact m⟩
      · rcases set_get m with ⟨rfl, z⟩ | ⟨n, z⟩
        · exact ⟨es, q⟩
        · exact ⟨fs, z⟩
      · rw [List.getElem?_set_self hi] at z; cases z
      · rw [List.getElem?_set_self hi] at z; cases z
  obtain ⟨⟨es, mi⟩, hM, hO, hl, hio, hnio, hnd⟩ := hm
  have oa : Own σ s a := ⟨i, ⟨es, mi⟩, ha⟩
  obtain ⟨b, ws, hb, h1, h2, h3⟩ := st.rep.own i es mi
  rw [ha] at hb; cases hb
  have own' : ∀ j b, OwnAt σ s' j b → OwnAt σ s j b := fun j b ⟨⟨fs, m⟩, q⟩ => by
    rcases hM j fs m with ⟨rfl, _⟩ | ⟨_, m'⟩
    · exact ⟨⟨es, mi⟩, q⟩
    · exact ⟨⟨fs, m'⟩, q⟩
  refine ⟨⟨fun c o q => ?_, by rw [hl]; exact st.rep.len, fun j d q => ?_, fun j v q => ?_, fun j fs m => ?_, fun j k c p q => st.rep.inj j k c (own' j c p) (own' k c q)⟩, ⟨st.tr.z, fun c o q n => ?_, st.tr.zfree, fun c q => ?_⟩, fun c ⟨j, o⟩ => st.sub c ⟨j, own' j c o⟩, fun j fs m => ?_, fun j fs m => ?_⟩
  · have n : c ≠ a := fun z => by subst z; rw [h2] at q; cases q
    rw [upd_ne n]; exact st.rep.sub c o q
  · have n : j ≠ i := fun z => by subst z; exact (hnd 0 d).1 q
    rw [hO j n] at q
    exact st.rep.dat j d q
  · have n : j ≠ i := fun z => by subst z; exact (hnd 0 .none).2 v q
    rw [hO j n] at q
    exact st.rep.raw j v q
  · rcases hM j fs m with ⟨rfl, rfl⟩ | ⟨n, m'⟩
    · exact ⟨a, vs, ha, upd_same, h2, hr⟩
    · obtain ⟨c, xs, q1, q2, q3, q4⟩ := st.rep.own j fs m'
      have nc : c ≠ a := fun z => by
        subst z
        exact n (st.rep.inj j i c ⟨⟨fs, m'⟩, q1⟩ ⟨⟨es, mi⟩, ha⟩)
      exact ⟨c, xs, q1, by rw [upd_ne nc]; exact q2, q3, q4⟩
  · have nc : c ≠ a := fun z => by
      subst z
      rcases st.sub c oa with z | z
      · exact n z
      · rw [q] at z; cases z
    rw [upd_ne nc]; exact st.tr.keep c o q n
  · refine st.tr.live c ?_
    unfold upd at q
    split at q
    · cases q
    · exact q
  · obtain ⟨e1, ds', q⟩ := st.io j fs m
    obtain ⟨es', q'⟩ := hio j ds' q
    exact ⟨e1, es', q'⟩
  · obtain ⟨es', q'⟩ := hnio j fs m
    exact st.noio j es' q'
/-- the list that slot i holds now -/
def lst1 (s : S) (i : Nat) : Option (List D) := match s[i]? with
  | some (some (.own ds)) => some ds
  | some (some (.io ds)) => some ds
  | _ => none
theorem lst1_some {s : S} {i : Nat} {ds : List D} (h : lst1 s i = some ds) : Mu s i ds := by
  unfold lst1 at h
  split at h
  · cases h; exact .inl (by assumption)
  · cases h; exact .inr (by assumption)
  · cases h
/-- a method that changes the list in slot i: u by the items and the arguments -/
def mutD (i : Nat) (u : List D → List D → Option (D × List D)) (f : M (List O)) : M O := fun s => (lst1 s i).bind fun _ => bindM (dataA f) (fun as s => (lst1 s i).bind fun ds => (u ds as).bind fun r => (wr i r.2 s).map (fun s' => (.d r.1, s'))) s
def OkMut (r : V → List V → Hp → VK → Prop) (u : List D → List D → Option (D × List D)) : Prop := ∀ (Z H : Hp) (a : Addr) (xs : List V) (ds : List D) (vs : List V) (as : List D) (y : D) (ds' : List D), Same Z H → H a = some (.lst xs) → RpAll Z xs ds → RpAll Z vs as → u ds as = some (y, ds') →
  ∃ xs' v, RpAll Z xs' ds' ∧ Rp Z v y ∧ ∀ Q : VK, Q v (upd H a (.lst xs')) → r (.ref a) vs H Q
theorem mut_ok {i : Nat} {r : V → List V → Hp → VK → Prop} {u : List D → List D → Option (D × List D)} {fa : M (List O)} (ok : OkMut r u) {σ : St} {H : Hp} {Q : VK} (h : tO (mutD i u fa) σ H Q) : ∃ v, σ[i]? = some (some v) ∧ tyV X.K "list" v H ∧ tA fa σ H fun vs H2 => r v vs H2 Q := by
  obtain ⟨Z, s, o, s', R, e, q⟩ := h
  obtain ⟨ds0, e0, e⟩ := Option.bind_eq_some_iff.mp e
  obtain ⟨as, s1, e1, e⟩ := bindM_some.mp e
  obtain ⟨ds, e2, e⟩ := Option.bind_eq_some_iff.mp e
  obtain ⟨res, e3, e⟩ := Option.bind_eq_some_iff.mp e
  obtain ⟨s2, e4, e⟩ := Option.map_eq_some_iff.mp e
  cases e
  obtain ⟨os, s3, e5, e6⟩ := bindM_some.mp e1
  have mu1 := lst1_some e2
  -- what stands in the slot ahead of the arguments
  obtain ⟨b, ws, hv, hb, _, _⟩ := R.own i ds0 (lst1_some e0)
  refine ⟨.ref b, hv, .inl ⟨rfl, ws, .of hb⟩, Z, s, os, s3, R, e5, fun vs Z1 H1 x r1 => ?_⟩
  obtain ⟨Z2, x2, r2, _⟩ := frzs_ok x r1 e6
  obtain ⟨a, xs, h0, h1, h2, h3⟩ := x2.rep.own i ds mu1
  rw [hv] at h0; cases h0
  obtain ⟨xs', w, g1, g2, g3⟩ := ok Z2 H1 b xs ds vs as res.1 res.2 x2.rep.sub h1 h3 r2 e3
  exact g3 Q (q w Z2 _ (wr_ok x2 e4 hv g1) g2)
/-- x.m(e): x the name in slot i -/
theorem eo_mut {i : Nat} {x : Str} {px apos : Pos} {id : String} {m : Str} {r : V → List V → Hp → VK → Prop} {u : List D → List D → Option (D × List D)} {fa : M O} (slot : Slot "list" m id) (hty : typeOf (.builtin id) = pure (.type "method_descriptor")) (hm : MtR X id r) (ok : OkMut r u) (he : PE X e (tO fa))
    (hN : X.N[i]? = some x) (hv : Vis X.env.scope x) (hd : (x == ("__debug__" : Str)) = false) (hcd : (x == ("__classdict__" : Str)) = false) (h1 : starEach [e] X.env = (false, eval e X.env) :: starEach [] X.env)
    (hbase : attributeBase (.Name x px) m X.env (eval (.Name x px) X.env) = eval (.Name x px) X.env)
    (hfew : ((backTo pos (starEach [e] X.env)).all (fun x => !x.1) && (backToKw pos (keywordEach [] X.env)).all (fun x => x.1.isSome) && decide (([e] : List Expr).length + ([] : List Keyword).length + (if ([] : List Keyword).isEmpty then 0 else 1) < 30)) = true) (hline : (apos.endLine == pos.line) = true) :
    PE X (.Call (.Attribute (.Name x px) m apos) [e] [] pos) (tO (mutD i u (consA fa nilA))) :=
  (pe_bm PySem.F.plainAttrs_list slot hty hm (pe_var hN hv hd hcd) (ea_cons he ea_nil h1) hbase hfew hline h1 rfl).wk fun σ H Q h => mut_ok ok h
theorem eo_mut0 {i : Nat} {x : Str} {px apos : Pos} {id : String} {m : Str} {r : V → List V → Hp → VK → Prop} {u : List D → List D → Option (D × List D)} (slot : Slot "list" m id) (hty : typeOf (.builtin id) = pure (.type "method_descriptor")) (hm : MtR X id r) (ok : OkMut r u)
    (hN : X.N[i]? = some x) (hv : Vis X.env.scope x) (hd : (x == ("__debug__" : Str)) = false) (hcd : (x == ("__classdict__" : Str)) = false)
    (hbase : attributeBase (.Name x px) m X.env (eval (.Name x px) X.env) = eval (.Name x px) X.env) (hline : (apos.endLine == pos.line) = true) :
    PE X (.Call (.Attribute (.Name x px) m apos) [] [] pos) (tO (mutD i u nilA)) :=
  (pe_bm0 PySem.F.plainAttrs_list slot hty hm (pe_var hN hv hd hcd) hbase hline).wk fun σ H Q h => by
    obtain ⟨v, h1, h2, Z, s, os, s', R, e, q⟩ := mut_ok ok h
    cases e
    exact ⟨v, h1, h2, q [] Z H (.refl R) .nil⟩
def appU (ds as : List D) : Option (D × List D) := match as with
  | [d] => if ds.length < big then some (.none, ds ++ [d]) else none
  | _ => none
def extU (ds as : List D) : Option (D × List D) := match as with
  | [.list es] => if ds.length + es.length ≤ big then some (.none, ds ++ es) else none
  | _ => none
def popU (ds as : List D) : Option (D × List D) := match as with
  | [.int i] => if -(2 ^ 63) ≤ i ∧ i < 2 ^ 63 then (seqIndex? i ds.length).bind fun k => ds[k]?.map fun y => (y, ds.eraseIdx k) else none
  | _ => none
def pop0U (ds as : List D) : Option (D × List D) := match as with
  | [] => ds[ds.length - 1]?.map fun y => (y, ds.dropLast)
  | _ => none
def revU (ds as : List D) : Option (D × List D) := match as with
  | [] => some (.none, ds.reverse)
  | _ => none
theorem ok_app : OkMut rAppend appU := fun Z H a xs ds vs as y ds' s h1 h2 h3 e => by
  unfold appU at e
  split at e
  · split at e
    · rename_i hz
      cases e
      cases h3 with
      | cons r t =>
        cases t
        exact ⟨_, .non, h2.append (.cons r .nil), .non, fun Q k => ⟨a, xs, _, rfl, rfl, h1, by rw [h2.len, big_eq]; exact hz, k⟩⟩
    · cases e
  · cases e
theorem ok_ext : OkMut rExtend extU := fun Z H a xs ds vs as y ds' s h1 h2 h3 e => by
  unfold extU at e
  split at e
  · split at e
    · rename_i hz
      cases e
      cases h3 with
      | cons r t =>
        cases t
        cases r with
        | lst q1 q2 => exact ⟨_, .non, h2.append q2, .non, fun Q k => ⟨a, _, xs, _, rfl, rfl, h1, s _ _ q1, by rw [h2.len, q2.len, big_eq]; exact hz, k⟩⟩
    · cases e
  · cases e
theorem ok_pop : OkMut rPopAt popU := fun Z H a xs ds vs as y ds' s h1 h2 h3 e => by
  unfold popU at e
  split at e
  · rename_i i
    split at e
    · rename_i hz
      obtain ⟨k, e1, e⟩ := Option.bind_eq_some_iff.mp e
      obtain ⟨y', e2, e⟩ := Option.map_eq_some_iff.mp e
      cases e
      obtain ⟨v, g1, g2⟩ := h2.get e2
      cases h3 with
      | cons r t =>
        cases t
        cases r
        exact ⟨_, v, h2.eraseIdx k, g2, fun Q q => ⟨a, xs, i, k, v, rfl, rfl, h1, hz.1, hz.2, by rw [h2.len]; exact e1, g1, q⟩⟩
    · cases e
  · cases e
theorem ok_pop0 : OkMut rPop pop0U := fun Z H a xs ds vs as y ds' s h1 h2 h3 e => by
  unfold pop0U at e
  split at e
  · skip
    obtain ⟨y', e2, e⟩ := Option.map_eq_some_iff.mp e
    cases e
    obtain ⟨v, g1, g2⟩ := h2.get e2
    cases h3
    exact ⟨_, v, h2.dropLast, g2, fun Q q => ⟨a, xs, v, rfl, rfl, h1, by rw [h2.len]; exact g1, q⟩⟩
  · cases e
theorem ok_rev : OkMut rReverse revU := fun Z H a xs ds vs as y ds' s h1 h2 h3 e => by
  unfold revU at e
  split at e
  · cases e
    cases h3
    exact ⟨_, .non, h2.reverse, .non, fun Q q => ⟨a, xs, rfl, rfl, h1, q⟩⟩
  · cases e
end
end DL

set_option Elab.async false
set_option linter.all false
set_option maxRecDepth 100000
set_option maxHeartbeats 1000000
set_option autoImplicit false
/-! DL, part i: what a loop walks: lists and tuples in any mix, range, zip, enumerate. -/
namespace DL
open PySem L2

/-- a list (k) or a tuple at a -/
def Tk (k : Bool) (H : Hp) (a : Addr) (xs : List V) : Prop := H a = some (if k = true then .lst xs else .tup xs)
theorem Tk.inj {k : Bool} {H : Hp} {a : Addr} {xs ys : List V} (h : Tk k H a xs) (h' : Tk k H a ys) : xs = ys := by
  unfold Tk at h h'
  rw [h] at h'
  cases k <;> (have := Option.some.inj h'; simp at this; exact this)
def ItOf (k : Bool) (h : Heap) (it a : Addr) (i : Nat) : Prop := if k = true then h.IsListIter it a i else h.IsTupleIter it a i
def SeqOf (k : Bool) (h : Heap) (a : Addr) (its : Array Value) : Prop := if k = true then h.IsList a its else h.IsTuple a its
def iterObj (k : Bool) (a : Addr) : Obj := { cls := .type (if k = true then "list_iterator" else "tuple_iterator"), data := .fields #[.ref a, .int 0 0] }
theorem begins_of (k : Bool) (a : Addr) (its : Array Value) : Begins (.ref a) (iterObj k a) fun h => SeqOf k h a its := by
  cases k with
  | true => exact begins_list a its
  | false => exact begins_tuple a its
theorem draws_of {prog : Program} {w : World} {A : Around} (hh : A.handled = none) (k : Bool) (it a : Addr) (hne : a ≠ it) (its : Array Value) : Draws prog w A it [it, a] its.size (fun i v => its[i]? = some v) (fun i h => ItOf k h it a i ∧ SeqOf k h a its) := by
  cases k with
  | true => exact Draws.list hh it a hne its
  | false => exact Draws.tuple hh it a hne its
theorem itOf_new {k : Bool} {h : Heap} {it a : Addr} (e : h.get? it = some (iterObj k a)) : ItOf k h it a 0 := by
  cases k with
  | true => exact ⟨_, e, rfl, rfl⟩
  | false => exact ⟨_, e, rfl, rfl⟩
theorem ItOf.obj {k : Bool} {h : Heap} {it a : Addr} {i : Nat} (x : ItOf k h it a i) : ∃ o, h.get? it = some o ∧ ∀ v, o.data ≠ .cell v := by
  cases k with
  | true => obtain ⟨o, e, c, d⟩ := (show h.IsListIter it a i from x); exact ⟨o, e, fun v z => by rw [d] at z; cases z⟩
  | false => obtain ⟨o, e, c, d⟩ := (show h.IsTupleIter it a i from x); exact ⟨o, e, fun v z => by rw [d] at z; cases z⟩
theorem ItOf.keep {k : Bool} {h h' : Heap} {it a : Addr} {i : Nat} (x : ItOf k h it a i) (hk : ∀ o, h.get? it = some o → h'.get? it = some o) : ItOf k h' it a i := by
  cases k with
  | true => exact (show h.IsListIter it a i from x).at hk
  | false => exact (show h.IsTupleIter it a i from x).at hk
section
variable {X : Cx} {pins : List (Addr × Obj)} {σ : St} {H : Hp} {s : Shared}
theorem seq_of (I : Inv X pins σ H s) {k : Bool} {a : Addr} {xs : List V} (h : Tk k H a xs) : ∃ its : List Value, Vals xs its ∧ SeqOf k s.heap a its.toArray := by
  cases k with
  | true =>
    obtain ⟨its, r, p, _⟩ := I.list (SqL.of (K := X.K) (show H a = some (.lst xs) from h))
    exact ⟨its, r, p.isList⟩
  | false =>
    obtain ⟨its, r, p, _⟩ := I.tuple (SqT.of (K := X.K) (show H a = some (.tup xs) from h))
    exact ⟨its, r, p⟩
theorem Tk.apart {k : Bool} {a b : Addr} {xs : List V} (h : Tk k H a xs) (hb : H b = none) : a ≠ b := fun e => by
  subst e
  unfold Tk at h
  rw [hb] at h; cases h
end

/-! ### zip -/
def Itzz (k1 k2 : Bool) (a b : Addr) : It :=
  ⟨fun i H => ∃ (xs ys : List V) (x y : V), Tk k1 H a xs ∧ Tk k2 H b ys ∧ xs[i]? = some x ∧ ys[i]? = some y,
    fun i H v H' => ∃ T x y, v = .ref T ∧ H T = none ∧ H' = upd H T (.tup [x, y]) ∧ (∀ xs, Tk k1 H a xs → xs[i]? = some x) ∧ ∀ ys, Tk k2 H b ys → ys[i]? = some y,
    fun i H => ∃ xs ys : List V, Tk k1 H a xs ∧ Tk k2 H b ys ∧ min xs.length ys.length = i⟩
def zipAt (k1 k2 : Bool) (a b z ti to i1 i2 : Addr) (i : Nat) (h : Heap) : Prop := IsZip h z ti to .none ∧ IsTupOf2 h ti (.ref i1) (.ref i2) ∧ (∃ u v, IsTupOf2 h to u v) ∧ ItOf k1 h i1 a i ∧ ItOf k2 h i2 b i
structure Five (z ti to i1 i2 : Addr) : Prop where
  a : ti ≠ z
  b : to ≠ z
  c : ti ≠ to
  d : ti ≠ i1
  e : ti ≠ i2
  f : z ≠ i1
  g : z ≠ i2
  h : to ≠ i1
  i : to ≠ i2
  j : i1 ≠ i2
theorem sep_of {z ti to i1 i2 a b : Addr} (f : Five z ti to i1 i2) (ha : ∀ c ∈ [z, ti, to, i1, i2], a ≠ c) (hb : ∀ c ∈ [z, ti, to, i1, i2], b ≠ c) : ZipSep2 z ti to i1 i2 [i1, a] [i2, b] :=
  { TIz := f.a, TOz := f.b, TITO := f.c, TIi1 := f.d, mem1 := List.mem_cons_self .., zf1 := by simp; exact ⟨f.f, (ha z (by simp)).symm⟩, Tf1 := by simp; exact ⟨f.h, (ha to (by simp)).symm⟩, TIi2 := f.e, mem2 := List.mem_cons_self ..,
    zf2 := by simp; exact ⟨f.g, (hb z (by simp)).symm⟩, Tf2 := by simp; exact ⟨f.i, (hb to (by simp)).symm⟩, sep1_2 := by simp; exact ⟨f.j, (hb i1 (by simp)).symm⟩, sep2_1 := by simp; exact ⟨f.j.symm, (ha i2 (by simp)).symm⟩ }
theorem tupOf_keep {h h' : Heap} {t : Addr} {u v : Value} (x : IsTupOf2 h t u v) (k : ∀ o, h.get? t = some o → h'.get? t = some o) : IsTupOf2 h' t u v := k _ x
theorem mem4 {z ti to i1 i2 c : Addr} (h : c ∈ [z, to, i1, i2]) : c ∈ [z, ti, to, i1, i2] := by
  have e : c = z ∨ c = to ∨ c = i1 ∨ c = i2 := by simpa using h
  rcases e with e | e | e | e <;> simp [e]
/-- several of the iterator's own records have turned -/
theorem turned_many {X : Cx} {pins : List (Addr × Obj)} {σ : St} {H : Hp} {s : Shared} {h' : Heap} {tk : Nat} {ch : List Addr} (I : L2.Inv X pins σ H s) (k : ∀ b o, b ∉ ch → s.heap.get? b = some o → h'.get? b = some o) (hf : ∀ b ∈ ch, FpOk X pins H b) :
    L2.Inv X pins σ H { s with heap := h', toks := tk } := by
  have un : ∀ b u, H b = some u → b ∉ ch := fun b u e z => by
    have q := (hf b z).1
    rw [q] at e; cases e
  have keepL : X.env.locals ∉ ch := fun z => (hf _ z).2.1 rfl
  refine I.step (g' := s.gens) (d' := s.drawn) (ch := ch) (fun b hb => ?_) (fun b o _ _ hc e _ => k b o hc e) (fun b o _ _ hc e _ => ⟨o.slots, k b o hc e⟩) (fun _ _ _ _ n => n) (fun b o hc e => ⟨o, k b o hc e⟩) (fun _ _ e => e)
    (fun _ _ _ e => e) (fun b ps e => ⟨#[], by rw [e]; simp⟩) (fun m ⟨o, es, ep, ho, r⟩ => ⟨o, es, ep, k _ o keepL ho, r⟩) (fun b u e => ?_) I.bare
  · have q := hf b hb
    exact ⟨q.2.2.2.1, q.2.1, q.2.2.2.2.1, q.2.2.2.2.2⟩
  · refine (I.hok b u e).stay (fun c v hc q => k c v ?_ q) (fun _ q => q) fun _ _ q => q
    rcases hc with z | z
    · rw [z]; exact un b u e
    · exact un c _ z
theorem turn_zz {P : Program} {w : World} {K : PySem.W.Frag} {elts : List Expr} {kk : Nat} {tpos : Pos} {k1 k2 : Bool} {a b z ti to i1 i2 : Addr} (f : Five z ti to i1 i2) :
    Turn P w K (.Tuple elts kk tpos) (Itzz k1 k2 a b) [z, ti, to, i1, i2] z (zipAt k1 k2 a b z ti to i1 i2) where
  mem := by simp
  obj := fun i h st c hc => by
    obtain ⟨hz, hti, ⟨u, v, hto⟩, h1, h2⟩ := st
    have e : c = z ∨ c = ti ∨ c = to ∨ c = i1 ∨ c = i2 := by simpa using hc
    rcases e with e | e | e | e | e <;> subst e
    · exact ⟨_, hz, fun v q => nomatch q⟩
    · exact ⟨_, hti, fun v q => nomatch q⟩
    · exact ⟨_, hto, fun v q => nomatch q⟩
    · exact h1.obj
    · exact h2.obj
  keep := fun i h h' st k => by
    obtain ⟨hz, hti, ⟨u, v, hto⟩, h1, h2⟩ := st
    exact ⟨k z (by simp) _ hz, k ti (by simp) _ hti, ⟨u, v, k to (by simp) _ hto⟩, h1.keep (k i1 (by simp)), h2.keep (k i2 (by simp))⟩
  item := by
    intro X hP hw hK hc i pins s σ H E I hf st hg
    subst hP hw hK
    obtain ⟨xs, ys, x, y, hx, hy, ex, ey⟩ := hg
    obtain ⟨its, rv, sq⟩ := seq_of I hx
    obtain ⟨jts, rw', sq'⟩ := seq_of I hy
    obtain ⟨u, hu, ru⟩ := rv.get ex
    obtain ⟨u', hu', ru'⟩ := rw'.get ey
    have na : ∀ c ∈ [z, ti, to, i1, i2], a ≠ c := fun c hc => hx.apart (hf c hc).1
    have nb : ∀ c ∈ [z, ti, to, i1, i2], b ≠ c := fun c hc => hy.apart (hf c hc).1
    have hh : X.A.in1.handled = none := I.ok.hd hc
    have W := GoesN.zip2 (elts := elts) (x1 := kk) (pos := tpos) (prog := X.prog) (w := X.w) (A := X.A) (sep_of f na nb) (draws_of hh k1 i1 a (na i1 (by simp)) its.toArray) (draws_of hh k2 i2 b (nb i2 (by simp)) jts.toArray)
    obtain ⟨hz, hti, hto, h1, h2⟩ := st
    have li : i < its.length := (List.getElem?_eq_some_iff.mp hu).1
    have lj : i < jts.length := (List.getElem?_eq_some_iff.mp hu').1
    refine W.goes i s (fun v s2 => ∃ x H', Inv X pins σ H' s2 ∧ RelV x v ∧ (Itzz k1 k2 a b).yld i H x H' ∧ zipAt k1 k2 a b z ti to i1 i2 (i + 1) s2.heap ∧ ∀ b ∈ [z, ti, to, i1, i2], H' b = none) E (by rw [List.size_toArray, List.size_toArray]; omega) ⟨hz, hti, hto, ⟨h1, sq⟩, ⟨h2, sq'⟩⟩ ?_ |> fun q => thn q fun r s1 ⟨v, e, q⟩ => ⟨v, e, q⟩
    rintro v h' tk ⟨T, x', y', rfl, hT, p1, p2, isT⟩ ⟨gz, gti, gto, ⟨g1, _⟩, ⟨g2, _⟩⟩ hk _
    have e1 : x' = u := by
      have : its[i]? = some x' := by simpa using p1
      rw [hu] at this; exact (Option.some.inj this).symm
    have e2 : y' = u' := by
      have : jts[i]? = some y' := by simpa using p2
      rw [hu'] at this; exact (Option.some.inj this).symm
    subst e1 e2
    have hTn : H T = none := I.hok.fresh hT
    have J : Inv X pins σ (upd H T (.tup [x, y])) { s with heap := h', toks := tk } := by
      refine I.turnedNew (ch := [z, to, i1, i2]) hk (fun c hc => hf c (mem4 hc)) hT ?_
      exact ⟨by rw [sizeLine_eq]; show 2 ≤ 16777216; omega, [x', y'], .cons ru (.cons ru' .nil), isT⟩
    refine ⟨.ref T, _, J, rfl, ⟨T, x, y, rfl, hTn, rfl, fun xs' h => by rw [h.inj hx]; exact ex, fun ys' h => by rw [h.inj hy]; exact ey⟩, ⟨gz, gti, gto, g1, g2⟩, fun c hc => ?_⟩
    have hcn := (hf c hc).1
    have ncT : c ≠ T := fun e => by
      subst e
      obtain ⟨o, ho⟩ : ∃ o, s.heap.get? c = some o := by
        have e : c = z ∨ c = ti ∨ c = to ∨ c = i1 ∨ c = i2 := by simpa using hc
        obtain ⟨u, v, hto⟩ := hto
        rcases e with e | e | e | e | e
        · rw [e]; exact ⟨_, hz⟩
        · rw [e]; exact ⟨_, hti⟩
        · rw [e]; exact ⟨_, hto⟩
        · rw [e]; exact let ⟨o, q, _⟩ := h1.obj; ⟨o, q⟩
        · rw [e]; exact let ⟨o, q, _⟩ := h2.obj; ⟨o, q⟩
      exact absurd (Nat.lt_of_lt_of_le (Heap.lt_size ho) hT) (Nat.lt_irrefl _)
    rw [upd_ne ncT]
    exact hcn
  done := by
    intro X hP hw hK hc i pins s σ H E I hf st hg
    subst hP hw hK
    obtain ⟨xs, ys, hx, hy, ei⟩ := hg
    obtain ⟨its, rv, sq⟩ := seq_of I hx
    obtain ⟨jts, rw', sq'⟩ := seq_of I hy
    have na : ∀ c ∈ [z, ti, to, i1, i2], a ≠ c := fun c hc => hx.apart (hf c hc).1
    have nb : ∀ c ∈ [z, ti, to, i1, i2], b ≠ c := fun c hc => hy.apart (hf c hc).1
    have hh : X.A.in1.handled = none := I.ok.hd hc
    have W := GoesN.zip2 (elts := elts) (x1 := kk) (pos := tpos) (prog := X.prog) (w := X.w) (A := X.A) (sep_of f na nb) (draws_of hh k1 i1 a (na i1 (by simp)) its.toArray) (draws_of hh k2 i2 b (nb i2 (by simp)) jts.toArray)
    obtain ⟨hz, hti, hto, h1, h2⟩ := st
    have l1 := rv.length
    have l2 := rw'.length
    have en : min its.toArray.size jts.toArray.size = i := by rw [List.size_toArray, List.size_toArray, ← l1, ← l2]; exact ei
    refine thn (W.stops s (fun s1 => Inv X pins σ H s1) E (by rw [en]; exact ⟨hz, hti, hto, ⟨h1, sq⟩, ⟨h2, sq'⟩⟩) fun h' tk hk _ => ?_) fun r s1 q => q
    exact turned_many I hk fun c hc => hf c (mem4 hc)
  self := fun A i s Q E st h => wpAny_pyIter_zip st.1 h

/-! ### the calls zip(x, y), enumerate(x) -/
def iZz (ta : TA) : TI := fun σ H R => ta σ H fun vs H1 => ∃ a b k1 k2 xs ys, vs = [.ref a, .ref b] ∧ Tk k1 H1 a xs ∧ Tk k2 H1 b ys ∧ R (Itzz k1 k2 a b) H1
theorem five_of (n : Nat) : Five (n + 4) (n + 2) (n + 3) n (n + 1) := ⟨show (n + 2 : Nat) ≠ n + 4 by omega, show (n + 3 : Nat) ≠ n + 4 by omega, show (n + 2 : Nat) ≠ n + 3 by omega, show (n + 2 : Nat) ≠ n by omega, show (n + 2 : Nat) ≠ n + 1 by omega,
  show (n + 4 : Nat) ≠ n by omega, show (n + 4 : Nat) ≠ n + 1 by omega, show (n + 3 : Nat) ≠ n by omega, show (n + 3 : Nat) ≠ n + 1 by omega, show (n : Nat) ≠ n + 1 by omega⟩
theorem fresh_five {n : Nat} {c : Addr} (h : c ∈ ([n + 4, n + 2, n + 3, n, n + 1] : List Nat)) : n ≤ c := by
  have e : c = n + 4 ∨ c = n + 2 ∨ c = n + 3 ∨ c = n ∨ c = n + 1 := by simpa using h
  rcases e with e | e | e | e | e <;> (rw [e]; first | exact Nat.le_add_right _ _ | exact Nat.le_refl _)
theorem pie_zz {X : Cx} {pins : List (Addr × Obj)} {σ : St} {H1 : Hp} {s1 : Shared} {h' : Heap} {R : It → Hp → Prop} {elts : List Expr} {kk : Nat} {tpos : Pos} {k1 k2 : Bool} {a b : Addr} {n : Nat} (hn : s1.heap.objs.size = n) (J : L2.Inv X pins σ H1 s1) (hk : ∀ c o, s1.heap.get? c = some o → h'.get? c = some o)
    (hz : zipAt k1 k2 a b (n + 4) (n + 2) (n + 3) n (n + 1) 0 h') (q : R (Itzz k1 k2 a b) H1) : PIE X pins σ (.Tuple elts kk tpos) R (.ref (n + 4)) { s1 with heap := h' } := by
  have J' : L2.Inv X pins σ H1 { s1 with heap := h' } := J.kept (t' := s1.toks) hk
  refine ⟨n + 4, [n + 4, n + 2, n + 3, n, n + 1], zipAt k1 k2 a b (n + 4) (n + 2) (n + 3) n (n + 1), Itzz k1 k2 a b, H1, rfl, J', turn_zz (five_of n), hz, fun c hc => ?_, q⟩
  have le : s1.heap.objs.size ≤ c := by rw [hn]; exact fresh_five hc
  exact J.fpOk le (J.hok.fresh le)
theorem pi_zz {X : Cx} {e e2 : Expr} {ta : TA} {p pos tpos : Pos} {elts : List Expr} {kk : Nat} (hg : Gl X "zip") (hm : X.mg "zip" = none) (ha : PA X [e, e2] ta) (hs : starEach [e, e2] X.env = (false, eval e X.env) :: starEach [e2] X.env := by rfl)
    (hpl : (backTo pos (starEach [e2] X.env)).any (·.1) = false := by rfl) : PI X (.Tuple elts kk tpos) (.Call (.Name "zip" p) [e, e2] [] pos) (iZz ta) := by
  refine ⟨fun pins s σ H R I h => ?_⟩
  refine PyProof.Rows.Call_ (ld_blt I hg hm PyProof.Rows.boot_zip (PyProof.Rows.callWith_type1 (thn (ha.run pos pins s σ H _ I h) fun us s1 ⟨vs, H1, J, r1, q1⟩ => ?_) hs hpl))
  obtain ⟨a, b, k1, k2, xs, ys, evs, hx, hy, q⟩ := q1
  subst evs
  cases r1 with
  | cons ra rr =>
    cases rr with
    | cons rb rr =>
      cases rr
      cases ra
      cases rb
      obtain ⟨its, _, s1'⟩ := seq_of J hx
      obtain ⟨jts, _, s2'⟩ := seq_of J hy
      refine zip_begins2 (begins_of k1 a its.toArray) (begins_of k2 b jts.toArray) s1' s2' fun h' hz h2 h3 h4 h5 _ hk => wpAny_pyIter_zip hz ?_
      exact pie_zz rfl J hk ⟨hz, h2, ⟨_, _, h3⟩, itOf_new h4, itOf_new h5⟩ q

def Itee (k : Bool) (a : Addr) : It :=
  ⟨fun i H => ∃ (xs : List V) (x : V), Tk k H a xs ∧ xs[i]? = some x,
    fun i H v H' => ∃ T x, v = .ref T ∧ H T = none ∧ H' = upd H T (.tup [.int (i : Nat), x]) ∧ ∀ xs, Tk k H a xs → xs[i]? = some x,
    fun i H => ∃ xs : List V, Tk k H a xs ∧ xs.length = i⟩
def enumAt (k : Bool) (a e it : Addr) (i : Nat) (h : Heap) : Prop := (∃ old, IsEnum h e it (0 + (i : Int)) old) ∧ ItOf k h it a i
theorem turn_ee {P : Program} {w : World} {K : PySem.W.Frag} {elts : List Expr} {kk : Nat} {tpos : Pos} {k : Bool} {a e it : Addr} (ne : e ≠ it) :
    Turn P w K (.Tuple elts kk tpos) (Itee k a) [e, it] e (enumAt k a e it) where
  mem := by simp
  obj := fun i h st c hc => by
    obtain ⟨⟨old, he⟩, h1⟩ := st
    have z : c = e ∨ c = it := by simpa using hc
    rcases z with z | z <;> subst z
    · exact ⟨_, he, fun v q => nomatch q⟩
    · exact h1.obj
  keep := fun i h h' st k' => by
    obtain ⟨⟨old, he⟩, h1⟩ := st
    exact ⟨⟨old, k' e (by simp) _ he⟩, h1.keep (k' it (by simp))⟩
  item := by
    intro X hP hw hK hc i pins s σ H E I hf st hg
    subst hP hw hK
    obtain ⟨xs, x, hx, ex⟩ := hg
    obtain ⟨its, rv, sq⟩ := seq_of I hx
    obtain ⟨u, hu, ru⟩ := rv.get ex
    have na : ∀ c ∈ [e, it], a ≠ c := fun c hc => hx.apart (hf c hc).1
    have hh : X.A.in1.handled = none := I.ok.hd hc
    have W := GoesN.enumFrom (elts := elts) (x1 := kk) (pos := tpos) (prog := X.prog) (w := X.w) (A := X.A) 0 (draws_of hh k it a (na it (by simp)) its.toArray) e ne (by simp; exact ⟨ne, (na e (by simp)).symm⟩) (by simp)
    obtain ⟨he, h1⟩ := st
    have li : i < its.length := (List.getElem?_eq_some_iff.mp hu).1
    refine thn (W.goes i s (fun v s2 => ∃ x H', L2.Inv X pins σ H' s2 ∧ RelV x v ∧ (Itee k a).yld i H x H' ∧ enumAt k a e it (i + 1) s2.heap ∧ ∀ b ∈ [e, it], H' b = none) E (by rw [List.size_toArray]; omega) ⟨he, ⟨h1, sq⟩⟩ ?_) fun r s1 ⟨v, e, q⟩ => ⟨v, e, q⟩
    rintro v h' tk ⟨T, t, x', rfl, hT, p1, isT⟩ ⟨ge, ⟨g1, _⟩⟩ hk _
    have e1 : x' = u := by
      have : its[i]? = some x' := by simpa using p1
      rw [hu] at this; exact (Option.some.inj this).symm
    subst e1
    have hTn : H T = none := I.hok.fresh hT
    have J : L2.Inv X pins σ (upd H T (.tup [.int (i : Nat), x])) { s with heap := h', toks := tk } := by
      refine I.turnedNew (ch := [e, it]) hk hf hT ?_
      refine ⟨by rw [sizeLine_eq]; show 2 ≤ 16777216; omega, [.int (0 + (i : Int)) t, x'], .cons ⟨t, by rw [Int.zero_add]⟩ (.cons ru .nil), isT⟩
    refine ⟨.ref T, _, J, rfl, ⟨T, x, rfl, hTn, rfl, fun xs' h => by rw [h.inj hx]; exact ex⟩, ⟨ge, g1⟩, fun c hc => ?_⟩
    have hcn := (hf c hc).1
    have ncT : c ≠ T := fun z => by
      subst z
      obtain ⟨o, ho⟩ : ∃ o, s.heap.get? c = some o := by
        have z : c = e ∨ c = it := by simpa using hc
        obtain ⟨old, he⟩ := he
        rcases z with z | z
        · rw [z]; exact ⟨_, he⟩
        · rw [z]; exact let ⟨o, q, _⟩ := h1.obj; ⟨o, q⟩
      exact absurd (Nat.lt_of_lt_of_le (Heap.lt_size ho) hT) (Nat.lt_irrefl _)
    rw [upd_ne ncT]
    exact hcn
  done := by
    intro X hP hw hK hc i pins s σ H E I hf st hg
    subst hP hw hK
    obtain ⟨xs, hx, ei⟩ := hg
    obtain ⟨its, rv, sq⟩ := seq_of I hx
    have na : ∀ c ∈ [e, it], a ≠ c := fun c hc => hx.apart (hf c hc).1
    have hh : X.A.in1.handled = none := I.ok.hd hc
    have W := GoesN.enumFrom (elts := elts) (x1 := kk) (pos := tpos) (prog := X.prog) (w := X.w) (A := X.A) 0 (draws_of hh k it a (na it (by simp)) its.toArray) e ne (by simp; exact ⟨ne, (na e (by simp)).symm⟩) (by simp)
    have en : its.toArray.size = i := by rw [List.size_toArray, ← rv.length]; exact ei
    refine thn (W.stops s (fun s1 => L2.Inv X pins σ H s1) E (by rw [en]; exact ⟨st.1, ⟨st.2, sq⟩⟩) fun h' tk hk _ => ?_) fun r s1 q => q
    exact turned_many I hk hf
  self := fun A i s Q E st h => let ⟨⟨_, he⟩, _⟩ := st; wpAny_pyIter_enum he h

theorem meets_enum1 {v : Value} {o : Obj} {G : Heap → Prop} (B : Begins v o G) :
    Meets (Builtin.«enumerate.__new__» ⟨[.type "enumerate", v], []⟩) (fun _ R s => G s.heap ∧
      R (.ok (.ret (.ref (s.heap.push o).objs.size))) { s with heap := (s.heap.push o).push { cls := .type "enumerate", data := .fields #[.none, .bool false, .ref s.heap.objs.size, rawInt 0, .none, .none] } }) :=
  .of_wp fun prog w A R s h => by
    obtain ⟨hp, g, d, tk, os⟩ := s
    obtain ⟨h1, h⟩ := h
    have hsub := sub_enumerate
    have q1 : ∀ {A' : Around} {E : Value → Shared → Prop} {Q : Value → Shared → Prop}, Q (.ref hp.objs.size) ⟨hp.push o, g, d, tk, os⟩ → wpAny (model prog w) A' (pyIter v) Q E ⟨hp, g, d, tk, os⟩ := fun q => B.iter prog w _ _ ⟨hp, g, d, tk, os⟩ _ h1 q
    wp_walk using q1
    refine wpAny_stack_any fun st => wpAny_pure ?_
    split
    · rename_i c _ _ _ _ _
      cases (c == Value.type "enumerate") <;> (wp_walk using q1; exact ⟨_, rfl, h⟩)
    · wp_walk using q1
      exact ⟨_, rfl, h⟩
theorem enum1_begins {prog : Program} {w : World} {A : Around} {E : Value → Shared → Prop} {s : Shared} {v : Value} {o : Obj} {G : Heap → Prop} {Q : Value → Shared → Prop} (B : Begins v o G) (h1 : G s.heap)
    (h : ∀ h', IsEnum h' (s.heap.objs.size + 1) s.heap.objs.size 0 .none → h'.get? s.heap.objs.size = some o → (∀ b o, s.heap.get? b = some o → h'.get? b = some o) → Q (.ref (s.heap.objs.size + 1)) { s with heap := h' }) :
    wpAny (model prog w) A (call (.type "enumerate") [v]) Q E s := by
  have hz : (s.heap.push o).objs.size = s.heap.objs.size + 1 := Heap.size_push ..
  refine callType_new F.called_enumerate (by decide) (F.typeCall_enumerate_1 _) (F.newCall_enumerate_1 _) (fun obj => F.args_object_init_2 obj _) F.entry_enumerate_new (meets_enum1 B) ⟨h1, ?_⟩
  have he : IsEnum ((s.heap.push o).push { cls := .type "enumerate", data := .fields #[.none, .bool false, .ref s.heap.objs.size, rawInt 0, .none, .none] }) (s.heap.objs.size + 1) s.heap.objs.size 0 .none := by
    rw [← hz]; exact Heap.get?_push_size _ rfl
  show _ ∧ _
  rw [hz]
  exact ⟨⟨_, he, rfl⟩, h _ he (Heap.get?_push_of_some _ (Heap.get?_push_size _ B.free)) fun b o x => Heap.get?_push_of_some _ (Heap.get?_push_of_some _ x)⟩
def iEe (ta : TA) : TI := fun σ H R => ta σ H fun vs H1 => ∃ a k xs, vs = [.ref a] ∧ Tk k H1 a xs ∧ R (Itee k a) H1
theorem pie_ee {X : Cx} {pins : List (Addr × Obj)} {σ : St} {H1 : Hp} {s1 : Shared} {h' : Heap} {R : It → Hp → Prop} {elts : List Expr} {kk : Nat} {tpos : Pos} {k : Bool} {a : Addr} {n : Nat} (hn : s1.heap.objs.size = n) (J : L2.Inv X pins σ H1 s1) (hk : ∀ c o, s1.heap.get? c = some o → h'.get? c = some o)
    (hz : enumAt k a (n + 1) n 0 h') (q : R (Itee k a) H1) : PIE X pins σ (.Tuple elts kk tpos) R (.ref (n + 1)) { s1 with heap := h' } := by
  have J' : L2.Inv X pins σ H1 { s1 with heap := h' } := J.kept (t' := s1.toks) hk
  refine ⟨n + 1, [n + 1, n], enumAt k a (n + 1) n, Itee k a, H1, rfl, J', turn_ee (Nat.succ_ne_self n), hz, fun c hc => ?_, q⟩
  have z : c = n + 1 ∨ c = n := by simpa using hc
  have le : s1.heap.objs.size ≤ c := by
    rw [hn]
    rcases z with z | z <;> rw [z]
    · exact Nat.le_add_right _ _
    · exact Nat.le_refl _
  exact J.fpOk le (J.hok.fresh le)
theorem pi_ee {X : Cx} {e : Expr} {ta : TA} {p pos tpos : Pos} {elts : List Expr} {kk : Nat} (hg : Gl X "enumerate") (hm : X.mg "enumerate" = none) (ha : PA X [e] ta) (hs : starEach [e] X.env = [(false, eval e X.env)] := by rfl) :
    PI X (.Tuple elts kk tpos) (.Call (.Name "enumerate" p) [e] [] pos) (iEe ta) := by
  refine ⟨fun pins s σ H R I h => ?_⟩
  refine PyProof.Rows.Call_ (ld_blt I hg hm PyProof.Rows.boot_enumerate (PyProof.Rows.callWith_type1 (thn (ha.run pos pins s σ H _ I h) fun us s1 ⟨vs, H1, J, r1, q1⟩ => ?_) hs rfl))
  obtain ⟨a, k, xs, evs, hx, q⟩ := q1
  subst evs
  cases r1 with
  | cons ra rr =>
    cases rr
    cases ra
    obtain ⟨its, _, s1'⟩ := seq_of J hx
    refine enum1_begins (begins_of k a its.toArray) s1' fun h' he h4 hk => wpAny_pyIter_enum he ?_
    exact pie_ee rfl J hk ⟨⟨_, by rw [show (0 : Int) + ((0 : Nat) : Int) = 0 from rfl]; exact he⟩, itOf_new h4⟩ q
end DL

set_option Elab.async false
set_option linter.all false
set_option maxRecDepth 100000
set_option maxHeartbeats 1000000
set_option autoImplicit false
/-! DL, part j: loops. -/
namespace DL
open PySem L2 PySem.Spec PyProof.Rows

/-! ### sources -/
def Feeds (Z : Hp) (J : It) (ds : List D) : Prop := ∀ Z' H' : Hp, Same Z Z' → Same Z' H' →
  (∀ (i : Nat) (d : D), ds[i]? = some d → J.go i H' ∧ ∀ x H'', J.yld i H' x H'' → (H'' = H' ∧ Rp Z' x d) ∨ ∃ T o, H' T = none ∧ H'' = upd H' T o ∧ Rp (upd Z' T o) x d) ∧ J.stop ds.length H'
def tI (f : M (List D)) : TI := fun σ H R => ∃ Z s ds s', Rep Z H σ s ∧ f s = some (ds, s') ∧ ∀ J Z' H', Stp Z H σ s Z' H' σ s' → Feeds Z' J ds → R J H'
def seqD : D → Option (List D)
  | .list ds => some ds
  | .tuple ds => some ds
  | _ => none
def itemsD (f : M O) : M (List D) := bindM f fun o => bindM (frz1 o) fun d s => (seqD d).map fun ds => (ds, s)
def zipD (xs ys : List D) : List D := List.zipWith (fun x y => .tuple [x, y]) xs ys
def enumD (xs : List D) : List D := xs.mapIdx fun i x => .tuple [.int (i : Nat), x]
def zipS (f : M (List O)) : M (List D) := bindM (dataA f) fun as s => match as with
  | [x, y] => (seqD x).bind fun xs => (seqD y).map fun ys => (zipD xs ys, s)
  | _ => none
def enumS (f : M (List O)) : M (List D) := bindM (dataA f) fun as s => match as with
  | [x] => (seqD x).map fun xs => (enumD xs, s)
  | _ => none
def rgD' (a b : Int) : List D := (List.range (b - a).toNat).map fun (i : Nat) => PyData.int (a + (i : Nat))
def rng1S (f : M (List O)) : M (List D) := bindM f fun os s => (peeks s os).bind fun ds => match ds with
  | [.int b] => if -(2 ^ 62) ≤ b ∧ b < 2 ^ 62 then some (rgD' 0 b, s) else none
  | _ => none
def rng2S (f : M (List O)) : M (List D) := bindM f fun os s => (peeks s os).bind fun ds => match ds with
  | [.int a, .int b] => if -(2 ^ 62) ≤ a ∧ a < 2 ^ 62 ∧ -(2 ^ 62) ≤ b ∧ b < 2 ^ 62 then some (rgD' a b, s) else none
  | _ => none

theorem seqD_some {Z : Hp} {v : V} {d : D} {ds : List D} (r : Rp Z v d) (e : seqD d = some ds) : ∃ k a xs, v = .ref a ∧ Tk k Z a xs ∧ RpAll Z xs ds := by
  cases r with
  | lst h1 h2 => cases e; exact ⟨true, _, _, rfl, h1, h2⟩
  | tup h1 h2 => cases e; exact ⟨false, _, _, rfl, h1, h2⟩
  | _ => cases e
theorem Tk.up {k : Bool} {Z H : Hp} {a : Addr} {xs : List V} (h : Tk k Z a xs) (e : Same Z H) : Tk k H a xs := e _ _ h

theorem feeds_list {K : PySem.W.Frag} {Z : Hp} {a : Addr} {xs : List V} {ds : List D} (h : Z a = some (.lst xs)) (r : RpAll Z xs ds) : Feeds Z (Itl K a) ds := fun Z' H' e e' => by
  have sq : SqL K H' a xs := .of (e' _ _ (e _ _ h))
  refine ⟨fun i d hd => ?_, xs, sq, by rw [r.len]; exact Nat.le_refl _⟩
  obtain ⟨x, hx, rx⟩ := r.get hd
  refine ⟨⟨xs, x, sq, hx⟩, fun y H'' ⟨e1, e2⟩ => .inl ⟨e1, ?_⟩⟩
  have := e2 xs sq
  rw [hx] at this; cases this
  exact rx.up e
theorem feeds_tup {K : PySem.W.Frag} {Z : Hp} {a : Addr} {xs : List V} {ds : List D} (h : Z a = some (.tup xs)) (r : RpAll Z xs ds) : Feeds Z (Itt K a) ds := fun Z' H' e e' => by
  have sq : SqT K H' a xs := .of (e' _ _ (e _ _ h))
  refine ⟨fun i d hd => ?_, xs, sq, by rw [r.len]; exact Nat.le_refl _⟩
  obtain ⟨x, hx, rx⟩ := r.get hd
  refine ⟨⟨xs, x, sq, hx⟩, fun y H'' ⟨e1, e2⟩ => .inl ⟨e1, ?_⟩⟩
  have := e2 xs sq
  rw [hx] at this; cases this
  exact rx.up e
theorem feeds_range {Z : Hp} (a b : Int) : Feeds Z (Itr a (b - a).toNat) (rgD' a b) := fun Z' H' e e' => by
  unfold rgD'
  refine ⟨fun i d hd => ?_, ?_⟩
  · rw [List.getElem?_map] at hd
    obtain ⟨j, h1, h2⟩ := Option.map_eq_some_iff.mp hd
    obtain ⟨hlt, h3⟩ := List.getElem?_eq_some_iff.mp h1
    rw [List.getElem_range] at h3
    subst h3
    rw [List.length_range] at hlt
    subst h2
    exact ⟨hlt, fun x H'' ⟨e1, e2⟩ => .inl ⟨e1, by rw [e2]; exact .int _⟩⟩
  · rw [List.length_map, List.length_range]
    exact Nat.le_refl _
theorem feeds_zip {Z : Hp} {k1 k2 : Bool} {a b : Addr} {xs ys : List V} {ds es : List D} (h : Tk k1 Z a xs) (h' : Tk k2 Z b ys) (r : RpAll Z xs ds) (r' : RpAll Z ys es) : Feeds Z (Itzz k1 k2 a b) (zipD ds es) := fun Z' H' e e' => by
  have t1 : Tk k1 H' a xs := (h.up e).up e'
  have t2 : Tk k2 H' b ys := (h'.up e).up e'
  unfold zipD
  refine ⟨fun i d hd => ?_, xs, ys, t1, t2, by rw [List.length_zipWith, r.len, r'.len]⟩
  rw [List.getElem?_zipWith] at hd
  split at hd
  · rename_i d1 d2 q1 q2
    cases hd
    obtain ⟨x, hx, rx⟩ := r.get q1
    obtain ⟨y, hy, ry⟩ := r'.get q2
    refine ⟨⟨xs, ys, x, y, t1, t2, hx, hy⟩, fun v H'' ⟨T, x', y', e1, hT, e2, p1, p2⟩ => .inr ⟨T, _, hT, e2, ?_⟩⟩
    have z1 := p1 xs t1
    have z2 := p2 ys t2
    rw [hx] at z1; cases z1
    rw [hy] at z2; cases z2
    subst e1
    have zf : Same Z' (upd Z' T (.tup [x, y])) := same_upd (e'.free hT)
    exact .tup upd_same (.cons (rx.up (e.trans zf)) (.cons (ry.up (e.trans zf)) .nil))
  · cases hd
theorem feeds_enum {Z : Hp} {k : Bool} {a : Addr} {xs : List V} {ds : List D} (h : Tk k Z a xs) (r : RpAll Z xs ds) : Feeds Z (Itee k a) (enumD ds) := fun Z' H' e e' => by
  have t1 : Tk k H' a xs := (h.up e).up e'
  unfold enumD
  refine ⟨fun i d hd => ?_, xs, t1, by rw [List.length_mapIdx, r.len]⟩
  rw [List.getElem?_mapIdx] at hd
  obtain ⟨d1, q1, q2⟩ := Option.map_eq_some_iff.mp hd
  cases q2
  obtain ⟨x, hx, rx⟩ := r.get q1
  refine ⟨⟨xs, x, t1, hx⟩, fun v H'' ⟨T, x', e1, hT, e2, p1⟩ => .inr ⟨T, _, hT, e2, ?_⟩⟩
  have z1 := p1 xs t1
  rw [hx] at z1; cases z1
  subst e1
  have zf : Same Z' (upd Z' T (.tup [.int (i : Nat), x])) := same_upd (e'.free hT)
  exact .tup upd_same (.cons (.int _) (.cons (rx.up (e.trans zf)) .nil))

section
variable {X : Cx} {tg : Expr}
/-- a list or a tuple, walked -/
def iSeq (K : PySem.W.Frag) (tl : TE) : TI := fun σ H R => tl σ H fun x H1 => ∃ a, x = .ref a ∧ (((∃ xs, SqL K H1 a xs) ∧ R (Itl K a) H1) ∨ ((∃ xs, SqT K H1 a xs) ∧ R (Itt K a) H1))
theorem pi_seq {l : Expr} {tl : TE} (hl : PE X l tl) : PI X tg l (iSeq X.K tl) := by
  refine ⟨fun pins s σ H R I h => ?_⟩
  refine thn (hl.run pins s σ H _ I h) fun v s1 ⟨x, H1, I1, r1, q1⟩ => ?_
  obtain ⟨a, e, q1⟩ := q1
  subst e
  cases r1
  rcases q1 with ⟨⟨xs, hq⟩, q⟩ | ⟨⟨xs, hq⟩, q⟩
  · obtain ⟨its, rv, p, hz⟩ := I1.list hq
    refine wpAny_pyIter_list p.isList ?_
    refine ⟨s1.heap.objs.size, [s1.heap.objs.size], _, _, H1, rfl, I1.kept (t' := s1.toks) fun b o e => Heap.get?_push_of_some _ e, turn_list a _, ⟨_, Heap.get?_push_size _ rfl, rfl, rfl⟩, fun b hb => ?_, q⟩
    have e : b = s1.heap.objs.size := by simpa using hb
    subst e
    exact I1.fpOk (Nat.le_refl _) (I1.hok.fresh (Nat.le_refl _))
  · obtain ⟨its, rv, p, hz⟩ := I1.tuple hq
    refine wpAny_pyIter_tuple (show s1.heap.IsTuple a its.toArray from p) ?_
    refine ⟨s1.heap.objs.size, [s1.heap.objs.size], _, _, H1, rfl, I1.kept (t' := s1.toks) fun b o e => Heap.get?_push_of_some _ e, turn_tuple a _, ⟨_, Heap.get?_push_size _ rfl, rfl, rfl⟩, fun b hb => ?_, q⟩
    have e : b = s1.heap.objs.size := by simpa using hb
    subst e
    exact I1.fpOk (Nat.le_refl _) (I1.hok.fresh (Nat.le_refl _))
theorem ei_val {e : Expr} {f : M O} (he : PE X e (tO f)) : PI X tg e (tI (itemsD f)) := (pi_seq he).wk fun σ H R ⟨Z, s, ds, s', rp, e, q⟩ => by
  obtain ⟨o, s1, e1, e⟩ := bindM_some.mp e
  obtain ⟨d, s2, e2, e⟩ := bindM_some.mp e
  obtain ⟨ds', e3, e⟩ := Option.map_eq_some_iff.mp e
  cases e
  refine ⟨Z, s, o, s1, rp, e1, fun v Z1 H1 st r => ?_⟩
  obtain ⟨Z2, st2, r2, _, _⟩ := frz_ok st r e2
  obtain ⟨k, a, xs, rfl, tk, ra⟩ := seqD_some r2 e3
  cases k with
  | true => exact ⟨a, rfl, .inl ⟨⟨xs, .of (st2.rep.sub _ _ tk)⟩, q _ Z2 H1 st2 (feeds_list tk ra)⟩⟩
  | false => exact ⟨a, rfl, .inr ⟨⟨xs, .of (st2.rep.sub _ _ tk)⟩, q _ Z2 H1 st2 (feeds_tup tk ra)⟩⟩
theorem ei_zip {e e2 : Expr} {f : M (List O)} {p pos tpos : Pos} {elts : List Expr} {kk : Nat} (B : Bl X.mg) (hg : Gl X "zip") (hm : X.mg "zip" = none) (ha : PA X [e, e2] (tA f)) (hs : starEach [e, e2] X.env = (false, eval e X.env) :: starEach [e2] X.env := by rfl)
    (hpl : (backTo pos (starEach [e2] X.env)).any (·.1) = false := by rfl) : PI X (.Tuple elts kk tpos) (.Call (.Name "zip" p) [e, e2] [] pos) (tI (zipS f)) := (pi_zz hg hm ha hs hpl).wk fun σ H R ⟨Z, s, ds, s', rp, e, q⟩ => by
  obtain ⟨as, s1, e1, e⟩ := bindM_some.mp e
  obtain ⟨os, s2, e2, e3⟩ := bindM_some.mp e1
  refine ⟨Z, s, os, s2, rp, e2, fun vs Z1 H1 st1 r1 => ?_⟩
  obtain ⟨Z2, st2, r2, z2⟩ := frzs_ok st1 r1 e3
  split at e
  · obtain ⟨xs, e4, e⟩ := Option.bind_eq_some_iff.mp e
    obtain ⟨ys, e5, e⟩ := Option.map_eq_some_iff.mp e
    cases e
    cases r2 with
    | cons ra rr =>
      cases rr with
      | cons rb rr =>
        cases rr
        obtain ⟨k1, a, us, rfl, t1, u1⟩ := seqD_some ra e4
        obtain ⟨k2, b, ws, rfl, t2, u2⟩ := seqD_some rb e5
        exact ⟨a, b, k1, k2, us, ws, rfl, t1.up st2.rep.sub, t2.up st2.rep.sub, q _ Z2 H1 st2 (feeds_zip t1 t2 u1 u2)⟩
  · cases e
theorem ei_enum {e : Expr} {f : M (List O)} {p pos tpos : Pos} {elts : List Expr} {kk : Nat} (B : Bl X.mg) (hg : Gl X "enumerate") (hm : X.mg "enumerate" = none) (ha : PA X [e] (tA f)) (hs : starEach [e] X.env = [(false, eval e X.env)] := by rfl) :
    PI X (.Tuple elts kk tpos) (.Call (.Name "enumerate" p) [e] [] pos) (tI (enumS f)) := (pi_ee hg hm ha hs).wk fun σ H R ⟨Z, s, ds, s', rp, e, q⟩ => by
  obtain ⟨as, s1, e1, e⟩ := bindM_some.mp e
  obtain ⟨os, s2, e2, e3⟩ := bindM_some.mp e1
  refine ⟨Z, s, os, s2, rp, e2, fun vs Z1 H1 st1 r1 => ?_⟩
  obtain ⟨Z2, st2, r2, z2⟩ := frzs_ok st1 r1 e3
  split at e
  · obtain ⟨xs, e4, e⟩ := Option.map_eq_some_iff.mp e
    cases e
    cases r2 with
    | cons ra rr =>
      cases rr
      obtain ⟨k1, a, us, rfl, t1, u1⟩ := seqD_some ra e4
      exact ⟨a, k1, us, rfl, t1.up st2.rep.sub, q _ Z2 H1 st2 (feeds_enum t1 u1)⟩
  · cases e
theorem ei_range1 {a : Expr} {f : M (List O)} {p pos : Pos} (B : Bl X.mg) (hg : Gl X "range") (ha : PA X [a] (tA f)) (hs : starEach [a] X.env = [(false, eval a X.env)] := by rfl) : PI X tg (.Call (.Name "range" p) [a] [] pos) (tI (rng1S f)) := (pi_range1 hg B.range ha hs).wk fun σ H R ⟨Z, s, ds, s', rp, e, q⟩ => by
  obtain ⟨os, s1, e1, e⟩ := bindM_some.mp e
  refine ⟨Z, s, os, s1, rp, e1, fun vs Z1 H1 st1 r1 => ?_⟩
  obtain ⟨as, e2, e⟩ := Option.bind_eq_some_iff.mp e
  have pk := peeks_ok st1.rep r1 e2
  split at e
  · split at e
    · rename_i hb
      cases e
      obtain ⟨v, rfl, pv⟩ := pk.one
      cases pv.int
      refine ⟨_, rfl, hb.1, hb.2, ?_⟩
      have := q _ Z1 H1 st1 (feeds_range 0 _)
      rwa [Int.sub_zero] at this
    · cases e
  · cases e
theorem ei_range2 {a b : Expr} {f : M (List O)} {p pos : Pos} (B : Bl X.mg) (hg : Gl X "range") (ha : PA X [a, b] (tA f)) (hs : starEach [a, b] X.env = [(false, eval a X.env), (false, eval b X.env)] := by rfl) (hs2 : starEach [b] X.env = [(false, eval b X.env)] := by rfl) :
    PI X tg (.Call (.Name "range" p) [a, b] [] pos) (tI (rng2S f)) := (pi_range2 hg B.range ha hs hs2).wk fun σ H R ⟨Z, s, ds, s', rp, e, q⟩ => by
  obtain ⟨os, s1, e1, e⟩ := bindM_some.mp e
  refine ⟨Z, s, os, s1, rp, e1, fun vs Z1 H1 st1 r1 => ?_⟩
  obtain ⟨as, e2, e⟩ := Option.bind_eq_some_iff.mp e
  have pk := peeks_ok st1.rep r1 e2
  split at e
  · split at e
    · rename_i hb
      cases e
      obtain ⟨v, w, rfl, pv, pw⟩ := pk.two
      cases pv.int
      cases pw.int
      exact ⟨_, _, rfl, hb, q _ Z1 H1 st1 (feeds_range _ _)⟩
    · cases e
  · cases e

/-! ### targets -/
def tG (js : List Nat) (p : D → S → Option S) : TG := fun v σ H Q => ∃ Z s d s', Rep Z H σ s ∧ Rp Z v d ∧ p d s = some s' ∧ ∀ σ' : L2.St, Stp Z H σ s Z H σ' s' → σ'.length = σ.length → (∀ (i : Nat), i ∉ js → σ'[i]? = σ[i]?) → Q σ' H
def tGs (js : List Nat) (p : List D → S → Option S) : TGs := fun vs σ H Q => ∃ Z s ds s', Rep Z H σ s ∧ RpAll Z vs ds ∧ p ds s = some s' ∧ ∀ σ' : L2.St, Stp Z H σ s Z H σ' s' → σ'.length = σ.length → (∀ (i : Nat), i ∉ js → σ'[i]? = σ[i]?) → Q σ' H
theorem _root_.L2.PGs.wk {X : Cx} {e : List Expr} {t t' : TGs} (h : PGs X e t) (i : ∀ v σ H Q, t' v σ H Q → t v σ H Q) : PGs X e t' := ⟨fun pins s σ H v u Q I r q => h.run pins s σ H v u Q I r (i v σ H Q q)⟩
def putN (i : Nat) (d : D) (s : S) : Option S := putS i (.dat d) s
theorem eg_name {pos : Pos} {i : Nat} {x : Str} (hN : X.N.Nodup) (hi : X.N[i]? = some x) (hx : Loc X.env.scope x) (hf : X.fn x = true ∨ X.env.scope.names.lookup x = some .local) : PG X (.Name x pos) (tG [i] (putN i)) := (pg_name hN hi hx hf).wk fun v σ H Q ⟨Z, s, d, s', rp, r, e, q⟩ =>
  q _ (put_ok (x := .dat d) (.refl rp) r e) (by rw [List.length_set]) fun j hj => List.getElem?_set_ne fun (z : i = j) => hj (by rw [z]; exact List.mem_singleton.mpr rfl)
def putNil (ds : List D) (s : S) : Option S := match ds with
  | [] => some s
  | _ => none
def putCons (p : D → S → Option S) (ps : List D → S → Option S) (ds : List D) (s : S) : Option S := match ds with
  | d :: r => (p d s).bind fun s1 => ps r s1
  | [] => none
theorem egs_nil : PGs X [] (tGs [] putNil) := pgs_nil.wk fun vs σ H Q ⟨Z, s, ds, s', rp, r, e, q⟩ => by
  unfold putNil at e
  split at e
  · cases e; cases r
    exact ⟨rfl, q σ (.refl rp) rfl fun _ _ => rfl⟩
  · cases e
theorem egs_cons {e : Expr} {es : List Expr} {js js' : List Nat} {p : D → S → Option S} {ps : List D → S → Option S} (h1 : PG X e (tG js p)) (h2 : PGs X es (tGs js' ps))
    (hs : (assignEach (e :: es) X.env).map (·.2) = assign e X.env :: (assignEach es X.env).map (·.2) := by rfl) : PGs X (e :: es) (tGs (js ++ js') (putCons p ps)) := (pgs_cons h1 h2 hs).wk fun vs σ H Q ⟨Z, s, ds, s', rp, r, e, q⟩ => by
  unfold putCons at e
  split at e
  · obtain ⟨s1, e1, e⟩ := Option.bind_eq_some_iff.mp e
    cases r with
    | cons ra rr =>
      refine ⟨_, _, rfl, Z, s, _, s1, rp, ra, e1, fun σ1 st1 l1 k1 => ⟨Z, s1, _, s', st1.rep, rr, e, fun σ2 st2 l2 k2 => q σ2 (st1.trans st2) (l2.trans l1) fun i hi => ?_⟩⟩
      rw [k2 i fun z => hi (List.mem_append_right _ z), k1 i fun z => hi (List.mem_append_left _ z)]
  · cases e
def putT (ps : List D → S → Option S) (n : Nat) (d : D) (s : S) : Option S := match d with
  | .tuple ds => if ds.length = n then ps ds s else none
  | _ => none
theorem eg_tup {es : List Expr} {k : Nat} {js : List Nat} {ps : List D → S → Option S} {n : Nat} {pos : Pos} (hc : X.calm = true) (h : PGs X es (tGs js ps))
    (hn : (assignEach es X.env).length = n := by rfl) (hst : (assignEach es X.env).findIdx? (·.1) = none := by rfl) : PG X (.Tuple es k pos) (tG js (putT ps n)) := (pg_tup hc h hn hst).wk fun v σ H Q ⟨Z, s, d, s', rp, r, e, q⟩ => by
  unfold putT at e
  split at e
  · split at e
    · rename_i hl
      cases r with
      | tup h1 h2 => exact ⟨_, _, rfl, .of (rp.sub _ _ h1), by rw [h2.len]; exact hl, Z, s, _, s', rp, h2, e, q⟩
    · cases e
  · cases e

/-! ### for -/
def loopG (p : D → S → Option S) (b : G) : List D → G
  | [], s => some (.nx s)
  | d :: ds, s => (p d s).bind fun s1 => match b s1 with
    | some (.nx s2) => loopG p b ds s2
    | some (.ct s2) => loopG p b ds s2
    | some (.bk s2) => some (.nx s2)
    | r => r
def forG (fi : M (List D)) (p : D → S → Option S) (b : G) : G := fun s => (fi s).bind fun q => loopG p b q.1 q.2
/-- the item has come -/
theorem fed {Z0 P Z H H2 : Hp} {σ0 σ : L2.St} {s0 s : S} {x : V} {d : D} (st : Stp Z0 P σ0 s0 Z H σ s) (h : (H2 = H ∧ Rp Z x d) ∨ ∃ T o, H T = none ∧ H2 = upd H T o ∧ Rp (upd Z T o) x d) : ∃ Z2, Stp Z0 P σ0 s0 Z2 H2 σ s ∧ Rp Z2 x d ∧ Same Z Z2 := by
  rcases h with ⟨rfl, r⟩ | ⟨T, o, hT, rfl, r⟩
  · exact ⟨Z, st, r, Same.refl Z⟩
  · exact ⟨_, st.allocZ hT, r, same_upd (st.rep.sub.free hT)⟩
theorem ds_for {iter : Expr} {body : List Stmt} {fi : M (List D)} {js : List Nat} {p : D → S → Option S} {b : G} {pos : Pos} (hp : PassesOwn (model X.prog X.w) X.A X.env X.xe) (hc : X.calm = true) (hi : PI X tg iter (tI fi)) (hg : PG X tg (tG js p)) (hb : PSs X body (tS b))
    (hs : ∀ x, foldedSetIterable iter X.env x = pure x := by intro _; rfl) : PS X (.For tg iter body [] pos) (tS (forG fi p b)) := (ps_for hp hc hi hg hb hs).wk fun E σ H ⟨Z, s, o, rp, e, q⟩ => by
  obtain ⟨⟨ds, s1⟩, e1, e⟩ := Option.bind_eq_some_iff.mp e
  refine ⟨Z, s, ds, s1, rp, e1, fun J Z1 H1 st1 fd => ?_⟩
  refine ⟨fun i m σ' H' => m = ds.length - i ∧ i ≤ ds.length ∧ ∃ Z' s', Stp Z H σ s Z' H' σ' s' ∧ Same Z1 Z' ∧ loopG p b (ds.drop i) s' = some o, ⟨_, rfl, Nat.zero_le _, Z1, s1, st1, Same.refl _, e⟩, ?_⟩
  rintro i m σ' H' ⟨rfl, hi, Z', s', st', zz, el⟩
  obtain ⟨fd1, fd2⟩ := fd Z' H' zz st'.rep.sub
  by_cases hlt : i < ds.length
  · have hd : ds[i]? = some ds[i] := List.getElem?_eq_getElem hlt
    rw [List.drop_eq_getElem_cons hlt] at el
    unfold loopG at el
    obtain ⟨s2, e2, el⟩ := Option.bind_eq_some_iff.mp el
    obtain ⟨go, yl⟩ := fd1 i _ hd
    refine .inr ⟨go, fun σ'' H'' => ∃ Z'' s'', Stp Z H σ s Z'' H'' σ'' s'' ∧ Same Z1 Z'' ∧ loopG p b (ds.drop (i + 1)) s'' = some o, fun σ'' H'' n => ⟨ds.length - (i + 1), by omega, rfl, hlt, n⟩, fun x H2 y => ?_⟩
    obtain ⟨Z2, st2, r2, z2⟩ := fed st' (yl x H2 y)
    refine ⟨Z2, s', _, s2, st2.rep, r2, e2, fun σ3 st3 _ _ => ?_⟩
    cases hb2 : b s2 with
    | none => rw [hb2] at el; cases el
    | some ob =>
      refine ⟨Z2, s2, ob, st3.rep, hb2, ?_⟩
      rw [hb2] at el
      have stA := st2.trans st3
      have z3 : Same Z1 Z2 := zz.trans z2
      cases ob with
      | nx s3 => exact fun σ4 Z4 H4 st4 => ⟨Z4, s3, stA.trans st4, z3.trans st4.tr.z, el⟩
      | ct s3 => exact fun σ4 Z4 H4 st4 => ⟨Z4, s3, stA.trans st4, z3.trans st4.tr.z, el⟩
      | bk s3 =>
        cases el
        exact fun σ4 Z4 H4 st4 => q σ4 Z4 H4 (stA.trans st4)
      | rt r s3 =>
        cases el
        exact fun v σ4 Z4 H4 st4 rr => q v σ4 Z4 H4 (stA.trans st4) (rr.pre stA)
  · have ei : i = ds.length := by omega
    subst ei
    rw [List.drop_length] at el
    cases el
    exact .inl ⟨fd2, q σ' Z' H' st'⟩

/-! ### while -/
def whN (c : M Bool) (b : G) : Nat → G
  | 0, _ => none
  | n + 1, s => (c s).bind fun t => if t.1 = true then (match b t.2 with
    | some (.nx s2) => whN c b n s2
    | some (.ct s2) => whN c b n s2
    | some (.bk s2) => some (.nx s2)
    | r => r) else some (.nx t.2)
def whileG (c : M Bool) (b : G) : G := whN c b 1000000
theorem ds_while {c : Expr} {body : List Stmt} {fc : M Bool} {b : G} {pos : Pos} (hp : PassesOwn (model X.prog X.w) X.A X.env X.xe) (hc : PT X c (tT fc)) (hb : PSs X body (tS b)) : PS X (.While c body [] pos) (tS (whileG fc b)) := (ps_while hp hc hb).wk fun E σ H ⟨Z, s, o, rp, e, q⟩ => by
  refine ⟨fun m σ' H' => ∃ Z' s', Stp Z H σ s Z' H' σ' s' ∧ whN fc b m s' = some o, ⟨_, Z, s, .refl rp, e⟩, ?_⟩
  rintro m σ' H' ⟨Z', s', st', el⟩
  cases m with
  | zero => cases el
  | succ n =>
    unfold whN at el
    obtain ⟨⟨t, s1⟩, e1, el⟩ := Option.bind_eq_some_iff.mp el
    refine ⟨Z', s', t, s1, st'.rep, e1, fun Z1 H1 st1 => ?_⟩
    have stA := st'.trans st1
    cases t with
    | false =>
      rw [if_neg Bool.false_ne_true] at el
      cases el
      show (if false = true then _ else E.nx σ' H1)
      rw [if_neg Bool.false_ne_true]
      exact q σ' Z1 H1 stA
    | true =>
      rw [if_pos rfl] at el
      dsimp only
      rw [if_pos rfl]
      refine ⟨fun σ'' H'' => ∃ Z'' s'', Stp Z H σ s Z'' H'' σ'' s'' ∧ whN fc b n s'' = some o, fun σ'' H'' k => ⟨n, Nat.lt_succ_self n, k⟩, ?_⟩
      cases hb2 : b s1 with
      | none => rw [hb2] at el; cases el
      | some ob =>
        refine ⟨Z1, s1, ob, st1.rep, hb2, ?_⟩
        rw [hb2] at el
        cases ob with
        | nx s3 => exact fun σ4 Z4 H4 st4 => ⟨Z4, s3, stA.trans st4, el⟩
        | ct s3 => exact fun σ4 Z4 H4 st4 => ⟨Z4, s3, stA.trans st4, el⟩
        | bk s3 =>
          cases el
          exact fun σ4 Z4 H4 st4 => q σ4 Z4 H4 (stA.trans st4)
        | rt r s3 =>
          cases el
          exact fun v σ4 Z4 H4 st4 rr => q v σ4 Z4 H4 (stA.trans st4) (rr.pre stA)
end
end DL

set_option Elab.async false
set_option linter.all false
set_option maxRecDepth 100000
set_option maxHeartbeats 1000000
set_option autoImplicit false
/-! DL, part k: list comprehensions of one clause. -/
namespace DL
open PySem L2

def wipeS (s : S) : List Nat → S
  | [] => s
  | v :: vs => (wipeS s vs).set v none
def restS (s : S) : List Nat → S → S
  | [], t => t
  | v :: vs, t => (restS s vs t).set v (s[v]?.getD none)
def isMu : Option (Option SV) → Bool
  | some (some (.own _)) => true
  | some (some (.io _)) => true
  | _ => false
def clean (s : S) (vs : List Nat) : Bool := vs.all fun i => !isMu s[i]?
theorem clean_mu {s : S} {vs : List Nat} (h : clean s vs = true) {i : Nat} (hi : i ∈ vs) {ds : List D} : ¬ Mu s i ds := fun m => by
  have := List.all_eq_true.mp h i hi
  rcases m with m | m <;> (rw [m] at this; cases this)
theorem wipeS_len (s : S) : ∀ vs : List Nat, (wipeS s vs).length = s.length
  | [] => rfl
  | v :: vs => by unfold wipeS; rw [List.length_set, wipeS_len s vs]
theorem wipeS_out {s : S} {i : Nat} : ∀ {vs : List Nat}, i ∉ vs → (wipeS s vs)[i]? = s[i]?
  | [], _ => rfl
  | v :: vs, h => by
    have h1 : v ≠ i := fun e => h (by rw [e]; exact List.mem_cons_self)
    unfold wipeS
    rw [List.getElem?_set_ne h1]
    exact wipeS_out fun m => h (List.mem_cons_of_mem _ m)
theorem wipeS_in {s : S} {i : Nat} {x : SV} : ∀ {vs : List Nat}, i ∈ vs → (wipeS s vs)[i]? ≠ some (some x)
  | v :: vs, h => fun e => by
    unfold wipeS at e
    by_cases hv : v = i
    · subst hv
      rcases set_get e with ⟨_, z⟩ | ⟨n, _⟩
      · cases z
      · exact n rfl
    · rw [List.getElem?_set_ne hv] at e
      rcases List.mem_cons.mp h with z | z
      · exact hv z.symm
      · exact wipeS_in z e
theorem wipeS_some {s : S} {i : Nat} {x : SV} {vs : List Nat} (h : (wipeS s vs)[i]? = some (some x)) : i ∉ vs ∧ s[i]? = some (some x) := by
  by_cases hi : i ∈ vs
  · exact absurd h (wipeS_in hi)
  · rw [wipeS_out hi] at h; exact ⟨hi, h⟩
theorem wipe_in {σ : St} {i : Nat} : ∀ {vs : List Nat}, i ∈ vs → (wipe σ vs)[i]? = if i < σ.length then some none else none
  | v :: vs, h => by
    unfold wipe
    by_cases hv : v = i
    · subst hv
      by_cases hl : v < σ.length
      · rw [if_pos hl, List.getElem?_set_self (by rw [wipe_length]; exact hl)]
      · rw [if_neg hl, List.getElem?_eq_none (by rw [List.length_set, wipe_length]; omega)]
    · rw [List.getElem?_set_ne hv]
      rcases List.mem_cons.mp h with z | z
      · exact absurd z.symm hv
      · exact wipe_in z
theorem wipe_eq {σ σ' : St} {vs : List Nat} (hl : σ'.length = σ.length) (h : ∀ (i : Nat), i ∉ vs → σ'[i]? = (wipe σ vs)[i]?) : wipe σ' vs = wipe σ vs := by
  apply List.ext_getElem?
  intro i
  by_cases hi : i ∈ vs
  · rw [wipe_in hi, wipe_in hi, hl]
  · rw [wipe_out hi, h i hi]
theorem restS_get {s t : S} (hl : t.length = s.length) : ∀ (vs : List Nat), (restS s vs t).length = s.length ∧ ∀ (i : Nat), (restS s vs t)[i]? = if i ∈ vs then s[i]? else t[i]?
  | [] => ⟨hl, fun i => by rw [if_neg (by simp)]; rfl⟩
  | v :: vs => by
    obtain ⟨h1, h2⟩ := restS_get hl vs
    refine ⟨by unfold restS; rw [List.length_set]; exact h1, fun i => ?_⟩
    unfold restS
    by_cases hv : v = i
    · subst hv
      rw [if_pos List.mem_cons_self]
      by_cases hb : v < s.length
      · rw [List.getElem?_set_self (by rw [h1]; exact hb), List.getElem?_eq_getElem hb]; rfl
      · rw [List.getElem?_eq_none (by rw [List.length_set, h1]; omega), List.getElem?_eq_none (by omega)]
    · rw [List.getElem?_set_ne hv, h2 i]
      by_cases hi : i ∈ vs
      · rw [if_pos hi, if_pos (List.mem_cons_of_mem _ hi)]
      · rw [if_neg hi, if_neg (by simp; exact ⟨fun z => hv z.symm, hi⟩)]

theorem own_wipe {σ : St} {s : S} {vs : List Nat} {a : Addr} (h : Own (wipe σ vs) (wipeS s vs) a) : ∃ i, i ∉ vs ∧ OwnAt σ s i a := by
  obtain ⟨i, ⟨ds, m⟩, e⟩ := h
  have : i ∉ vs ∧ Mu s i ds := by
    rcases m with m | m
    · exact ⟨(wipeS_some m).1, .inl (wipeS_some m).2⟩
    · exact ⟨(wipeS_some m).1, .inr (wipeS_some m).2⟩
  exact ⟨i, this.1, ⟨ds, this.2⟩, by rw [← wipe_out this.1]; exact e⟩
theorem Mu.wipe {s : S} {vs : List Nat} {i : Nat} {ds : List D} (m : Mu (wipeS s vs) i ds) : i ∉ vs ∧ Mu s i ds := by
  rcases m with m | m
  · exact ⟨(wipeS_some m).1, .inl (wipeS_some m).2⟩
  · exact ⟨(wipeS_some m).1, .inr (wipeS_some m).2⟩
/-- the block's names are forgotten -/
theorem Stp.wipe {Z0 P Z H : Hp} {σ0 σ : St} {s0 s : S} {vs : List Nat} (st : Stp Z0 P σ0 s0 Z H σ s) (hn : ∀ (i : Nat) (ds : List D), i ∈ vs → s[i]? ≠ some (some (.io ds))) : Stp Z0 P σ0 s0 Z H (wipe σ vs) (wipeS s vs) := by
  refine ⟨⟨st.rep.sub, by rw [wipeS_len, wipe_length]; exact st.rep.len, fun i d h => ?_, fun i v h => ?_, fun i ds m => ?_, fun i j a p q => ?_⟩, st.tr, fun a o => ?_, fun i ds h => ?_, fun i ds h => ?_⟩
  · obtain ⟨h1, h2⟩ := wipeS_some h
    rw [wipe_out h1]; exact st.rep.dat i d h2
  · obtain ⟨h1, h2⟩ := wipeS_some h
    rw [wipe_out h1]; exact st.rep.raw i v h2
  · obtain ⟨h1, h2⟩ := m.wipe
    rw [wipe_out h1]; exact st.rep.own i ds h2
  · obtain ⟨⟨ds, m⟩, e⟩ := p
    obtain ⟨⟨es, n⟩, e'⟩ := q
    obtain ⟨h1, h2⟩ := m.wipe
    obtain ⟨h3, h4⟩ := n.wipe
    rw [wipe_out h1] at e
    rw [wipe_out h3] at e'
    exact st.rep.inj i j a ⟨⟨ds, h2⟩, e⟩ ⟨⟨es, h4⟩, e'⟩
  · obtain ⟨i, _, q⟩ := own_wipe o
    exact st.sub a ⟨i, q⟩
  · obtain ⟨e, ds', q⟩ := st.io i ds h
    have hi : i ∉ vs := fun z => hn i ds' z q
    exact ⟨by rw [wipe_out hi]; exact e, ds', by rw [wipeS_out hi]; exact q⟩
  · exact st.noio i ds (wipeS_some h).2
/-- back from the block -/
theorem Stp.back {Z H Z' H' : Hp} {σ : St} {s t : S} {vs : List Nat} (R : Rep Z H σ s) (hc : clean s vs = true) (hl : t.length = s.length) (st : Stp Z H (L2.wipe σ vs) (wipeS s vs) Z' H' (L2.wipe σ vs) (wipeS t vs)) :
    Stp Z H σ s Z' H' σ (restS s vs t) ∧ ∀ a, Own σ (restS s vs t) a → Own (L2.wipe σ vs) (wipeS t vs) a := by
  obtain ⟨hl', hg⟩ := restS_get hl vs
  have got : ∀ {i : Nat} {x : SV}, (restS s vs t)[i]? = some (some x) → (i ∈ vs ∧ s[i]? = some (some x)) ∨ (i ∉ vs ∧ t[i]? = some (some x)) := fun {i x} h => by
    rw [hg i] at h
    split at h
    · exact .inl ⟨by assumption, h⟩
    · exact .inr ⟨by assumption, h⟩
  have gotM : ∀ {i : Nat} {ds : List D}, Mu (restS s vs t) i ds → i ∉ vs ∧ Mu t i ds := fun {i ds} m => by
    rcases m with m | m
    · rcases got m with ⟨h1, h2⟩ | ⟨h1, h2⟩
      · exact absurd (.inl h2) (clean_mu hc h1)
      · exact ⟨h1, .inl h2⟩
    · rcases got m with ⟨h1, h2⟩ | ⟨h1, h2⟩
      · exact absurd (.inr h2) (clean_mu hc h1)
      · exact ⟨h1, .inr h2⟩
  have muW : ∀ {i : Nat} {ds : List D} {u : S}, i ∉ vs → Mu u i ds → Mu (wipeS u vs) i ds := fun {i ds u} h m => by
    unfold Mu at m ⊢
    rw [wipeS_out h]; exact m
  have ownT : ∀ {i : Nat} {a : Addr}, OwnAt σ (restS s vs t) i a → i ∉ vs ∧ OwnAt (L2.wipe σ vs) (wipeS t vs) i a := fun {i a} ⟨⟨ds, m⟩, e⟩ => by
    obtain ⟨h1, h2⟩ := gotM m
    exact ⟨h1, ⟨ds, muW h1 h2⟩, by rw [wipe_out h1]; exact e⟩
  have ownS : ∀ {a : Addr}, Own σ s a → Own (L2.wipe σ vs) (wipeS s vs) a := fun {a} ⟨i, ⟨ds, m⟩, e⟩ => by
    have h1 : i ∉ vs := fun z => clean_mu hc z m
    exact ⟨i, ⟨ds, muW h1 m⟩, by rw [wipe_out h1]; exact e⟩
  have ownS' : ∀ {a : Addr}, Own (L2.wipe σ vs) (wipeS s vs) a → Own σ s a := fun {a} h => let ⟨i, _, q⟩ := own_wipe h; ⟨i, q⟩
  refine ⟨⟨⟨st.rep.sub, by rw [hl']; exact R.len, fun i d h => ?_, fun i v h => ?_, fun i ds m => ?_, fun i j a p q => st.rep.inj i j a (ownT p).2 (ownT q).2⟩, ⟨st.tr.z, fun a o h n => st.tr.keep a o h fun z => n (ownS' z), fun a o h h2 n => st.tr.zfree a o h h2 fun z => n (ownS' z), st.tr.live⟩, fun a ⟨i, o⟩ => ?_, fun i ds h => ?_, fun i ds h => ?_⟩, fun a ⟨i, o⟩ => ⟨i, (ownT o).2⟩⟩
  · rcases got h with ⟨h1, h2⟩ | ⟨h1, h2⟩
    · obtain ⟨v, e, r⟩ := R.dat i d h2
      exact ⟨v, e, r.up st.tr.z⟩
    · obtain ⟨v, e, r⟩ := st.rep.dat i d (by rw [wipeS_out h1]; exact h2)
      rw [wipe_out h1] at e
      exact ⟨v, e, r⟩
  · rcases got h with ⟨h1, h2⟩ | ⟨h1, h2⟩
    · exact R.raw i v h2
    · have e := st.rep.raw i v (by rw [wipeS_out h1]; exact h2)
      rw [wipe_out h1] at e
      exact e
  · obtain ⟨h1, h2⟩ := gotM m
    have := st.rep.own i ds (muW h1 h2)
    rw [wipe_out h1] at this
    exact this
  · rcases st.sub a ⟨i, (ownT o).2⟩ with z | z
    · exact .inl (ownS' z)
    · exact .inr z
  · have h1 : i ∉ vs := fun z => clean_mu hc z (.inr h)
    obtain ⟨_, ds', q⟩ := st.io i ds (by rw [wipeS_out h1]; exact h)
    rw [wipeS_out h1] at q
    exact ⟨rfl, ds', by rw [hg i, if_neg h1]; exact q⟩
  · rcases got h with ⟨h1, h2⟩ | ⟨h1, h2⟩
    · exact ⟨ds, h2⟩
    · obtain ⟨ds', q⟩ := st.noio i ds (by rw [wipeS_out h1]; exact h2)
      exact ⟨ds', (wipeS_some q).2⟩

/-- a new list at a that nobody holds -/
def NewAt (P Z H : Hp) (σ : St) (s : S) (a : Addr) (ds : List D) : Prop := ∃ vs, H a = some (.lst vs) ∧ Z a = none ∧ RpAll Z vs ds ∧ ¬ Own σ s a ∧ P a = none
theorem NewAt.step {P Z H Z' H' : Hp} {σ σ' : St} {s s' : S} {a : Addr} {ds : List D} (h : NewAt P Z H σ s a ds) (x : Stp Z H σ s Z' H' σ' s') : NewAt P Z' H' σ' s' a ds := by
  obtain ⟨vs, h1, h2, h3, h4, h5⟩ := h
  refine ⟨vs, x.tr.keep a _ h1 h4, x.tr.zfree a _ h1 h2 h4, h3.up x.tr.z, fun q => ?_, h5⟩
  rcases x.sub a q with z | z
  · exact h4 z
  · rw [h1] at z; cases z
theorem Stp.app {Z0 P Z H : Hp} {σ0 σ : St} {s0 s : S} {a : Addr} {ds : List D} {vs : List V} (st : Stp Z0 P σ0 s0 Z H σ s) (n : NewAt P Z H σ s a ds) : Stp Z0 P σ0 s0 Z (upd H a (.lst vs)) σ s := by
  obtain ⟨xs, h1, h2, h3, h4, h5⟩ := n
  refine ⟨⟨fun b o q => ?_, st.rep.len, st.rep.dat, st.rep.raw, fun i es m => ?_, st.rep.inj⟩, ⟨st.tr.z, fun b o q n => ?_, st.tr.zfree, fun b q => ?_⟩, st.sub, st.io, st.noio⟩
  · have nb : b ≠ a := fun z => by rw [z, h2] at q; cases q
    rw [upd_ne nb]; exact st.rep.sub b o q
  · obtain ⟨b, ws, e1, e2, e3, e4⟩ := st.rep.own i es m
    have nb : b ≠ a := fun z => h4 ⟨i, ⟨es, m⟩, by rw [← z]; exact e1⟩
    exact ⟨b, ws, e1, by rw [upd_ne nb]; exact e2, e3, e4⟩
  · have nb : b ≠ a := fun z => by rw [z, h5] at q; cases q
    rw [upd_ne nb]; exact st.tr.keep b o q n
  · unfold upd at q
    split at q
    · cases q
    · exact st.tr.live b q

/-! ### the comprehension -/
def lcLoop (vs : List Nat) (p : D → S → Option S) (c : M Bool) (el : M O) : List D → M (List D)
  | [], s => some ([], s)
  | d :: ds, s => (p d (wipeS s vs)).bind fun s1 => (c s1).bind fun q => if q.1 = true then (bindM el frz1 q.2).bind fun y => (lcLoop vs p c el ds y.2).map fun r => (y.1 :: r.1, r.2) else lcLoop vs p c el ds q.2
def lcD (fi : M (List D)) (vs : List Nat) (p : D → S → Option S) (c : M Bool) (el : M O) : M O := fun s => (fi s).bind fun q => if q.1.length ≤ big ∧ clean q.2 vs = true then (lcLoop vs p c el q.1 q.2).map fun r => (.new r.1, restS q.2 vs r.2) else none
def yesT : M Bool := retM true
section
variable {X : Cx}
theorem _root_.L2.PTs.wk {X : Cx} {e : List Expr} {t t' : TT} (h : PTs X e t) (i : ∀ σ H Q, t' σ H Q → t σ H Q) : PTs X e t' := ⟨fun pins s σ H Q I q => h.run pins s σ H Q I (i σ H Q q)⟩
theorem ets_nil : PTs X [] (tT yesT) := pts_nil.wk fun σ H Q ⟨Z, s, o, s', R, e, q⟩ => by
  cases e
  exact q Z H (.refl R)
theorem ets_one {c : Expr} {f : M Bool} (h : PT X c (tT f)) : PTs X [c] (tT f) := pts_one h
theorem lc_ok {fi : M (List D)} {js vs : List Nat} {p : D → S → Option S} {c : M Bool} {el : M O} (hj : ∀ j ∈ js, j ∈ vs) (σ : St) (H : Hp) (Q : VK) (h : tO (lcD fi vs p c el) σ H Q) : tLc (tI fi) (tG js p) (tT c) (tO el) vs σ H Q := by
  obtain ⟨Z, s, o, s', rp, e, q⟩ := h
  obtain ⟨⟨ds, s1⟩, e1, e⟩ := Option.bind_eq_some_iff.mp e
  refine ⟨Z, s, ds, s1, rp, e1, fun J Z1 H1 st1 fd D hD => ?_⟩
  dsimp only at e
  split at e
  · rename_i hz
    obtain ⟨⟨fin, tf⟩, e2, e⟩ := Option.map_eq_some_iff.mp e
    cases e
    have nio : ∀ (i : Nat) (es : List DL.D), i ∈ vs → s1[i]? ≠ some (some (.io es)) := fun i es hi z => clean_mu hz.2 hi (.inr z)
    have rw1 : Rep Z1 H1 (wipe σ vs) (wipeS s1 vs) := ((Stp.refl st1.rep).wipe nio).rep
    refine ⟨fun i m H' => m = ds.length - i ∧ i ≤ ds.length ∧ ∃ Z' t acc rr, Stp Z1 H1 (wipe σ vs) (wipeS s1 vs) Z' H' (wipe σ vs) (wipeS t vs) ∧ t.length = s1.length ∧ NewAt H1 Z' H' (wipe σ vs) (wipeS t vs) D acc ∧ acc.length ≤ i ∧ lcLoop vs p c el (ds.drop i) t = some (rr, tf) ∧ acc ++ rr = fin,
      ⟨_, rfl, Nat.zero_le _, Z1, s1, [], fin, (Stp.refl rw1).alloc hD, rfl, ⟨[], upd_same, rw1.sub.free hD, .nil, rw1.nown hD, hD⟩, Nat.le_refl _, e2, rfl⟩, ?_⟩
    rintro i m H' ⟨rfl, hi, Z', t, acc, rr, st', hlen, na, hacc, el', hfin⟩
    obtain ⟨fd1, fd2⟩ := fd Z' H' st'.tr.z st'.rep.sub
    by_cases hlt : i < ds.length
    · have hd : ds[i]? = some ds[i] := List.getElem?_eq_getElem hlt
      rw [List.drop_eq_getElem_cons hlt] at el'
      unfold lcLoop at el'
      obtain ⟨s2, e3, el'⟩ := Option.bind_eq_some_iff.mp el'
      obtain ⟨⟨b, s3⟩, e4, el'⟩ := Option.bind_eq_some_iff.mp el'
      obtain ⟨go, yl⟩ := fd1 i _ hd
      refine .inr ⟨go, fun H'' => ∃ Z'' t acc rr, Stp Z1 H1 (wipe σ vs) (wipeS s1 vs) Z'' H'' (wipe σ vs) (wipeS t vs) ∧ t.length = s1.length ∧ NewAt H1 Z'' H'' (wipe σ vs) (wipeS t vs) D acc ∧ acc.length ≤ i + 1 ∧ lcLoop vs p c el (ds.drop (i + 1)) t = some (rr, tf) ∧ acc ++ rr = fin, fun H'' n => ⟨ds.length - (i + 1), by omega, rfl, hlt, n⟩, fun x H2 y => ?_⟩
      have yl' := yl x H2 y
      obtain ⟨Z2, st2, r2, z2⟩ := fed st' yl'
      have stp2 : ∃ Z2, Stp Z' H' (wipe σ vs) (wipeS t vs) Z2 H2 (wipe σ vs) (wipeS t vs) ∧ Rp Z2 x ds[i] ∧ Same Z' Z2 := fed (Stp.refl st'.rep) yl'
      obtain ⟨Z2, st2b, r2, z2⟩ := stp2
      have st2 := st'.trans st2b
      have na2 := na.step st2b
      refine ⟨Z2, wipeS t vs, _, s2, st2.rep, r2, e3, fun σ3 st3 l3 k3 => ⟨?_, ?_⟩⟩
      · exact wipe_eq (by rw [l3, wipe_length]) fun j hj' => k3 j fun z => hj' (hj j z)
      have wq : wipe σ3 vs = wipe σ vs := wipe_eq (by rw [l3, wipe_length]) fun j hj' => k3 j fun z => hj' (hj j z)
      have na3 := na2.step st3
      refine ⟨Z2, s2, b, s3, st3.rep, e4, fun Z3 H3 st4 => ?_⟩
      have na4 := na3.step st4
      have stA := (st2.trans st3).trans st4
      have ln4 : s3.length = s1.length := by
        have h1 := st4.rep.len
        have h2 := rw1.len
        rw [wipeS_len, wipe_length] at h2
        rw [h1, l3, wipe_length, ← h2]
      have nio4 : ∀ {u : S} {Zu Hu : Hp}, Stp Z1 H1 (wipe σ vs) (wipeS s1 vs) Zu Hu σ3 u → ∀ (i : Nat) (es : List DL.D), i ∈ vs → u[i]? ≠ some (some (.io es)) := fun {u Zu Hu} stu i es hi z => by
        obtain ⟨es', q'⟩ := stu.noio i es z
        exact wipeS_in hi q'
      cases b with
      | false =>
        dsimp only
        rw [if_neg Bool.false_ne_true]
        dsimp only at el'
        rw [if_neg Bool.false_ne_true] at el'
        have stW := stA.wipe (nio4 stA)
        have naW : NewAt H1 Z3 H3 (wipe σ3 vs) (wipeS s3 vs) D acc := na4.step ((Stp.refl st4.rep).wipe (nio4 stA))
        rw [wq] at stW naW
        exact ⟨Z3, s3, acc, rr, stW, ln4, naW, by omega, el', hfin⟩
      | true =>
        dsimp only
        rw [if_pos rfl]
        dsimp only at el'
        rw [if_pos rfl] at el'
        obtain ⟨⟨dy, s5⟩, e5, el'⟩ := Option.bind_eq_some_iff.mp el'
        obtain ⟨⟨r', tf'⟩, e6, el'⟩ := Option.map_eq_some_iff.mp el'
        cases el'
        obtain ⟨o4, s4, e7, e8⟩ := bindM_some.mp e5
        refine ⟨Z3, s3, o4, s4, st4.rep, e7, fun y Z4 H4 st5 r5 => ?_⟩
        obtain ⟨Z5, st6, r6, z6, _⟩ := frz_ok st5 r5 e8
        have na6 := na4.step st6
        have stB := stA.trans st6
        obtain ⟨xs, x1, x2, x3, x4, x5⟩ := id na6
        have hlx : xs.length < sizeLine := by
          rw [x3.len, big_eq]
          have := hz.1
          omega
        have stC := stB.app (vs := xs ++ [y]) na6
        have naC : NewAt H1 Z5 (upd H4 D (.lst (xs ++ [y]))) σ3 s5 D (acc ++ [dy]) := ⟨xs ++ [y], upd_same, x2, x3.append (.cons r6 .nil), x4, x5⟩
        have stW := stC.wipe (nio4 stC)
        have naW : NewAt H1 Z5 (upd H4 D (.lst (xs ++ [y]))) (wipe σ3 vs) (wipeS s5 vs) D (acc ++ [dy]) := naC.step ((Stp.refl stC.rep).wipe (nio4 stC))
        rw [wq] at stW naW
        have ln5 : s5.length = s1.length := by
          have h1 := st6.rep.len
          have h2 := rw1.len
          rw [wipeS_len, wipe_length] at h2
          rw [h1, l3, wipe_length, ← h2]
        refine ⟨xs, x1, hlx, Z5, s5, acc ++ [dy], r', stW, ln5, naW, by rw [List.length_append]; simp; omega, e6, ?_⟩
        rw [← hfin, List.append_assoc]; rfl
    · have ei : i = ds.length := by omega
      subst ei
      rw [List.drop_length] at el'
      cases el'
      rw [List.append_nil] at hfin
      subst hfin
      obtain ⟨stB, ob⟩ := Stp.back st1.rep hz.2 hlen st'
      obtain ⟨xs, x1, x2, x3, x4, x5⟩ := na
      exact .inl ⟨fd2, q (.ref D) Z' H' (st1.trans stB) ⟨D, xs, rfl, x1, x2, x3, fun z => x4 (ob D z), st1.tr.live D x5⟩⟩
  · cases e
abbrev Blk (X : Cx) (scope : Scope) (P : Cx → Prop) : Prop := ∀ (s : Shared) (H : Hp) (C : Addr) (cl : List (Str × Addr)) (fp : List Addr), P (X.blk s H scope (compEnvC scope cl C X.env) fp)
variable {elt tg iter : Expr} {ifs : List Expr} {scope : Scope} {own : List (Str × Nat)} {pos : Pos} {fi : M (List D)} {js : List Nat} {p : D → S → Option S} {c : M Bool} {el : M O}
theorem eo_lc (hc : X.calm = true) (hN : X.N.Nodup) (hi : PI X tg iter (tI fi)) (ok : BlkOk X.N X.env.scope scope own) (hj : ∀ j ∈ js, j ∈ own.map (·.2)) (hg : Blk X scope fun Y => PG Y tg (tG js p)) (ht : Blk X scope fun Y => PTs Y ifs (tT c)) (he : Blk X scope fun Y => PE Y elt (tO el))
    (hs : ∀ x, foldedSetIterable iter X.env x = pure x := by intro _; rfl) : PE X (.ListComp elt [⟨tg, iter, ifs, 0⟩] scope pos) (tO (lcD fi (own.map (·.2)) p c el)) :=
  (pe_lc hc hN hi ok hg ht he hs).wk (lc_ok hj)
theorem ds_setLc {i : Nat} {y : Str} {py spos : Pos} (hc : X.calm = true) (hN : X.N.Nodup) (hy : X.N[i]? = some y) (hyl : X.env.scope.names.lookup y = some .local)
    (hsw : swapsWith (.ListComp elt [⟨tg, iter, ifs, 0⟩] scope pos) (some (.Name y py)) spos.line X.env = pure true) (hi : PI X tg iter (tI fi)) (ok : BlkOk X.N X.env.scope scope own) (hj : ∀ j ∈ js, j ∈ own.map (·.2))
    (hg : Blk X scope fun Y => PG Y tg (tG js p)) (ht : Blk X scope fun Y => PTs Y ifs (tT c)) (he : Blk X scope fun Y => PE Y elt (tO el)) (hs : ∀ x, foldedSetIterable iter X.env x = pure x := by intro _; rfl) :
    PS X (.Assign [.Name y py] (.ListComp elt [⟨tg, iter, ifs, 0⟩] scope pos) spos) (tS (setG i (lcD fi (own.map (·.2)) p c el))) :=
  (ps_setLc hc hN hy hyl hsw hi ok hg ht he hs).wk fun E σ H q => lc_ok hj σ H _ (set_ok E σ H q)
end
end DL

set_option Elab.async false
set_option linter.all false
set_option maxRecDepth 100000
set_option maxHeartbeats 1000000
set_option autoImplicit false
/-! DL, part l: calls of defs. -/
namespace DL
open PySem L2 PySem.Spec

/-- the law's script, where it stands -/
def ScrOk (K : PySem.W.Frag) (H : Hp) (c : Addr × List Int) : Prop := (∃ o, H c.1 = some (.frz o (.lst (c.2.map V.int)))) ∨ ∀ H', SqL K H' c.1 (c.2.map V.int)
theorem ScrOk.sq {K : PySem.W.Frag} {H : Hp} {c : Addr × List Int} (h : ScrOk K H c) : SqL K H c.1 (c.2.map V.int) := by
  rcases h with ⟨o, h⟩ | h
  · exact .inl (.inr ⟨o, h⟩)
  · exact h H
theorem ScrOk.inv {X : Cx} {pins : List (Addr × Obj)} {σ : St} {H : Hp} {s : Shared} {c : Addr × List Int} (h : ScrOk X.K X.H_0 c) (I : Inv X pins σ H s) : ScrOk X.K H c := by
  rcases h with ⟨o, h⟩ | h
  · exact .inl ⟨o, I.base.frzs _ _ _ h⟩
  · exact .inr h

def RetV (H : Hp) (vs : List V) (svs : List SV) (Z' H' : Hp) (v : V) : SV → Prop
  | .dat d => Rp Z' v d
  | .raw w => v = w
  | .own ds => ∃ a ws, v = .ref a ∧ H' a = some (.lst ws) ∧ Z' a = none ∧ RpAll Z' ws ds ∧ (Own (vs.map some) (svs.map some) a ∨ H a = none) ∧ ∀ (i : Nat) (es : List D), svs[i]? = some (.io es) → vs[i]? ≠ some (.ref a)
  | .io _ => False
structure Ret (Z H : Hp) (vs : List V) (svs svs' : List SV) (Z' H' : Hp) (v : V) (r : SV) : Prop where
  sub : Same Z' H'
  tr : Tr (Own (vs.map some) (svs.map some)) Z H Z' H'
  io : ∀ (i : Nat) (ds : List D), svs'[i]? = some (.io ds) → ∃ a ws, vs[i]? = some (.ref a) ∧ H' a = some (.lst ws) ∧ Z' a = none ∧ RpAll Z' ws ds
  ret : RetV H vs svs Z' H' v r
/-- a def's promise by its worth -/
def spF (K : PySem.W.Frag) (c : Addr × List Int) (need : Bool) (n : Nat) (f : F) : Sp := fun vs H Q _ => vs.length = n ∧ (need = true → ScrOk K H c) ∧ ∃ Z svs r svs', Rep Z H (vs.map some) (svs.map some) ∧ f svs = some (r, svs') ∧ ∀ v Z' H', Ret Z H vs svs svs' Z' H' v r → Q v H'

/-! ### a body -/
def outs : List SV → S → List SV
  | .io _ :: r, some (.io d) :: t => .io d :: outs r t
  | .io _ :: r, _ :: t => .raw .non :: outs r t
  | x :: r, _ :: t => x :: outs r t
  | _, _ => []
def bodyF (n : Nat) (g : G) : F := fun svs => match g (svs.map some ++ List.replicate (n - svs.length) none) with
  | some (.rt r s') => some (r, outs svs s')
  | some (.nx s') => some (.dat .none, outs svs s')
  | _ => none
theorem outs_io : ∀ {svs : List SV} {t : S} {i : Nat} {ds : List D}, (outs svs t)[i]? = some (.io ds) → (∃ es, svs[i]? = some (.io es)) ∧ t[i]? = some (some (.io ds))
  | [], t, i, ds, h => by unfold outs at h; simp at h
  | x :: r, [], i, ds, h => by
    have e : outs (x :: r) [] = [] := by cases x <;> rfl
    rw [e] at h; simp at h
  | x :: r, y :: t, 0, ds, h => by
    cases x with
    | io es =>
      cases y with
      | none => unfold outs at h; simp at h
      | some y =>
        cases y <;> (unfold outs at h; simp at h)
        subst h
        exact ⟨⟨es, rfl⟩, rfl⟩
    | dat d => unfold outs at h; simp at h
    | own d => unfold outs at h; simp at h
    | raw d => unfold outs at h; simp at h
  | x :: r, y :: t, i + 1, ds, h => by
    have e : (outs (x :: r) (y :: t))[i + 1]? = (outs r t)[i]? := by
      cases x with
      | io es =>
        cases y with
        | none => rfl
        | some y => cases y <;> rfl
      | dat d => rfl
      | own d => rfl
      | raw d => rfl
    rw [e] at h
    obtain ⟨h1, h2⟩ := outs_io h
    exact ⟨by simpa using h1, by simpa using h2⟩
theorem pad_get {α : Type} {l : List α} {m i : Nat} {x : α} (h : (l.map some ++ List.replicate m none)[i]? = some (some x)) : l[i]? = some x := by
  by_cases hi : i < l.length
  · rw [List.getElem?_append_left (by rw [List.length_map]; exact hi), List.getElem?_map] at h
    obtain ⟨y, e1, e2⟩ := Option.map_eq_some_iff.mp h
    cases e2; exact e1
  · rw [List.getElem?_append_right (by rw [List.length_map]; omega), List.getElem?_replicate] at h
    split at h <;> cases h
theorem pad_put {α : Type} {l : List α} {m i : Nat} {x : α} (h : l[i]? = some x) : (l.map some ++ List.replicate m none)[i]? = some (some x) := by
  have hi := (List.getElem?_eq_some_iff.mp h).1
  rw [List.getElem?_append_left (by rw [List.length_map]; exact hi), List.getElem?_map, h]; rfl
theorem map_get {α : Type} {l : List α} {i : Nat} {x : α} : (l.map some)[i]? = some (some x) ↔ l[i]? = some x := by
  rw [List.getElem?_map]
  constructor
  · intro h
    obtain ⟨y, e1, e2⟩ := Option.map_eq_some_iff.mp h
    cases e2; exact e1
  · intro h; rw [h]; rfl
theorem mu_map {svs : List SV} {m i : Nat} {ds : List D} : Mu (svs.map some ++ List.replicate m none) i ds ↔ Mu (svs.map some) i ds := by
  unfold Mu
  constructor
  · rintro (h | h)
    · exact .inl (map_get.mpr (pad_get h))
    · exact .inr (map_get.mpr (pad_get h))
  · rintro (h | h)
    · exact .inl (pad_put (map_get.mp h))
    · exact .inr (pad_put (map_get.mp h))
theorem own_pad {vs : List V} {svs : List SV} {m : Nat} {a : Addr} : Own (vs.map some ++ List.replicate m none) (svs.map some ++ List.replicate m none) a ↔ Own (vs.map some) (svs.map some) a := by
  constructor
  · rintro ⟨i, ⟨ds, h⟩, e⟩
    exact ⟨i, ⟨ds, mu_map.mp h⟩, map_get.mpr (pad_get e)⟩
  · rintro ⟨i, ⟨ds, h⟩, e⟩
    exact ⟨i, ⟨ds, mu_map.mpr h⟩, pad_put (map_get.mp e)⟩
theorem Rep.pad {Z H : Hp} {vs : List V} {svs : List SV} (m : Nat) (r : Rep Z H (vs.map some) (svs.map some)) : Rep Z H (vs.map some ++ List.replicate m none) (svs.map some ++ List.replicate m none) := by
  refine ⟨r.sub, ?_, fun i d h => ?_, fun i v h => ?_, fun i ds h => ?_, fun i j a p q => ?_⟩
  · have := r.len
    rw [List.length_append, List.length_append, this, List.length_replicate, List.length_replicate]
  · obtain ⟨v, e, q⟩ := r.dat i d (map_get.mpr (pad_get h))
    exact ⟨v, pad_put (map_get.mp e), q⟩
  · exact pad_put (map_get.mp (r.raw i v (map_get.mpr (pad_get h))))
  · obtain ⟨a, ws, e, q⟩ := r.own i ds (mu_map.mp h)
    exact ⟨a, ws, pad_put (map_get.mp e), q⟩
  · obtain ⟨⟨ds, m1⟩, e1⟩ := p
    obtain ⟨⟨es, m2⟩, e2⟩ := q
    exact r.inj i j a ⟨⟨ds, mu_map.mp m1⟩, map_get.mpr (pad_get e1)⟩ ⟨⟨es, mu_map.mp m2⟩, map_get.mpr (pad_get e2)⟩
/-- a body's end is a call's end -/
theorem ret_of {Z H : Hp} {vs : List V} {svs : List SV} {m : Nat} {Z' H' : Hp} {σ' : St} {s' : S} {v : V} {r : SV} (st : Stp Z H (vs.map some ++ List.replicate m none) (svs.map some ++ List.replicate m none) Z' H' σ' s')
    (q : RelR H (vs.map some ++ List.replicate m none) (svs.map some ++ List.replicate m none) Z' H' σ' s' v r) : Ret Z H vs svs (outs svs s') Z' H' v r := by
  refine ⟨st.rep.sub, ⟨st.tr.z, fun a o h n => st.tr.keep a o h fun z => n (own_pad.mp z), fun a o h h2 n => st.tr.zfree a o h h2 fun z => n (own_pad.mp z), st.tr.live⟩, fun i ds h => ?_, ?_⟩
  · obtain ⟨⟨es, h1⟩, h2⟩ := outs_io h
    obtain ⟨e1, _⟩ := st.io i es (pad_put h1)
    obtain ⟨a, ws, e2, q1, q2, q3⟩ := st.rep.own i ds (.inr h2)
    rw [e1] at e2
    exact ⟨a, ws, pad_get e2, q1, q2, q3⟩
  · cases r with
    | dat d => exact q
    | raw w => exact q
    | io _ => exact q
    | own ds =>
      obtain ⟨a, ws, e, h1, h2, h3, h4, h5⟩ := q
      refine ⟨a, ws, e, h1, h2, h3, h4.imp own_pad.mp id, fun i es hi z => ?_⟩
      obtain ⟨e1, ds', e2⟩ := st.io i es (pad_put hi)
      exact h5 i ds' e2 (by rw [e1]; exact pad_put z)
section
variable {P : Program} {w : World} {K : PySem.W.Frag} {mg : Str → Option Value} {base : Heap}
theorem fun_go {x qual : Str} {st : Stmt} {f : Addr} {fd : FuncData} {N ps : List Str} {k : Nat} {c : Addr × List Int} {need : Bool} {g : G} (F : Fun K x qual st f fd) (S : FnScope N ps (defScope st))
    (go : ∀ (cdv : Value) (A : Around) (ou : List Env) (s : Shared) (H : Hp) (E : XK), Room k (A.deeper (PyProof.Rows.envOfC qual (defScope st) s.heap.objs.size f cdv)) → Calm A → (need = true → ScrOk K H c) →
      PSs (cxOf CX0 P w K mg base N qual (defScope st) f cdv A ou s H E).nox (defBody st) (tS g)) : FnG P w K mg base CX0 (k + 1) f fd ps (spF K c need ps.length (bodyF N.length g)) :=
  fun_ok F S (fun vs H Q E h => h.1) fun cdv A ou s H vs Q E room calm ⟨hl, scr, Z, svs, r, svs', rp, e, q⟩ => by
    refine ⟨_, go cdv A ou s H E room calm scr, ?_⟩
    have hls : svs.length = vs.length := by have := rp.len; rwa [List.length_map, List.length_map] at this
    unfold bodyF at e
    show tS g _ (vs.map some ++ List.replicate (N.length - vs.length) none) H
    rw [← hls]
    have rp' : Rep Z H (vs.map some ++ List.replicate (N.length - svs.length) none) (svs.map some ++ List.replicate (N.length - svs.length) none) := rp.pad _
    split at e
    · rename_i r' s' e'
      cases e
      exact ⟨Z, _, _, rp', e', fun v σ' Z' H' st' q' => q v Z' H' (ret_of st' q')⟩
    · rename_i s' e'
      cases e
      exact ⟨Z, _, _, rp', e', fun σ' Z' H' st' => q .non Z' H' (ret_of st' (r := .dat .none) Rp.non)⟩
    · cases e
end

/-! ### a call -/
def passF1 (o : O) : M SV := fun s => match o with
  | .raw v => some (.raw v, s)
  | .var i => (match s[i]? with
    | some (some (.raw v)) => some (.raw v, s)
    | _ => (frz1 (.var i) s).map fun p => (.dat p.1, p.2))
  | o => (frz1 o s).map fun p => (.dat p.1, p.2)
def passF : List O → M (List SV)
  | [] => retM []
  | o :: os => bindM (passF1 o) fun x => bindM (passF os) fun xs => retM (x :: xs)
def passIO (o : O) : M SV := fun s => match o with
  | .d d => some (.dat d, s)
  | .raw v => some (.raw v, s)
  | .new ds => some (.own ds, s)
  | .var i => match s[i]? with
    | some (some (.own ds)) => some (.io ds, s)
    | some (some (.io ds)) => some (.io ds, s)
    | some (some (.dat d)) => some (.dat d, s)
    | some (some (.raw v)) => some (.raw v, s)
    | _ => none
def passM : Nat → List O → M (List SV)
  | _, [] => fun _ => none
  | 0, o :: os => bindM (passF os) fun xs => bindM (passIO o) fun x => retM (x :: xs)
  | k + 1, o :: os => bindM (passF1 o) fun x => bindM (passM k os) fun xs => retM (x :: xs)
def outO : SV → Option O
  | .dat d => some (.d d)
  | .own ds => some (.new ds)
  | .raw v => some (.raw v)
  | .io _ => none
def backIO (o : Option O) (x y : Option SV) (s : S) : Option S := match x with
  | some (.io _) => (match o, y with
    | some (.var i), some (.io ds) => wr i ds s
    | _, _ => none)
  | _ => some s
def passA (m : Option Nat) (os : List O) : M (List SV) := match m with
  | none => passF os
  | some k => passM k os
def callB (n : Nat) (f : F) (m : Option Nat) (os : List O) : M O := fun s => if os.length = n then bindM (passA m os) (fun svs s => (f svs).bind fun p => (outO p.1).bind fun o => match m with
  | none => some (o, s)
  | some k => (backIO os[k]? svs[k]? p.2[k]? s).map fun s' => (o, s')) s else none
def callD (n : Nat) (f : F) (m : Option Nat) (fa : M (List O)) : M O := bindM fa fun os => callB n f m os
theorem RelOs.len {P Z H : Hp} {σ : St} {s : S} : ∀ {vs : List V} {os : List O}, RelOs P Z H σ s vs os → vs.length = os.length
  | _, _, .nil => rfl
  | _, _, .cons _ b _ => by rw [List.length_cons, List.length_cons, b.len]

inductive PsF (Z : Hp) : List V → List SV → Prop
  | nil : PsF Z [] []
  | dat {v : V} {d : D} {vs : List V} {xs : List SV} : Rp Z v d → PsF Z vs xs → PsF Z (v :: vs) (.dat d :: xs)
  | raw {v : V} {vs : List V} {xs : List SV} : PsF Z vs xs → PsF Z (v :: vs) (.raw v :: xs)
theorem PsF.up {Z Z' : Hp} (e : Same Z Z') : ∀ {vs : List V} {xs : List SV}, PsF Z vs xs → PsF Z' vs xs
  | _, _, .nil => .nil
  | _, _, .dat r t => .dat (r.up e) (t.up e)
  | _, _, .raw t => .raw (t.up e)
theorem PsF.len {Z : Hp} : ∀ {vs : List V} {xs : List SV}, PsF Z vs xs → xs.length = vs.length
  | _, _, .nil => rfl
  | _, _, .dat _ t => by rw [List.length_cons, List.length_cons, t.len]
  | _, _, .raw t => by rw [List.length_cons, List.length_cons, t.len]
theorem PsF.getD {Z : Hp} : ∀ {vs : List V} {xs : List SV} {i : Nat} {d : D}, PsF Z vs xs → xs[i]? = some (.dat d) → ∃ v, vs[i]? = some v ∧ Rp Z v d
  | _, _, _, _, .nil, h => by simp at h
  | _, _, 0, _, .dat r _, h => by simp at h; subst h; exact ⟨_, rfl, r⟩
  | _, _, i + 1, _, .dat _ t, h => by simpa using t.getD (i := i) (by simpa using h)
  | _, _, 0, _, .raw _, h => by simp at h
  | _, _, i + 1, _, .raw t, h => by simpa using t.getD (i := i) (by simpa using h)
theorem PsF.getR {Z : Hp} : ∀ {vs : List V} {xs : List SV} {i : Nat} {w : V}, PsF Z vs xs → xs[i]? = some (.raw w) → vs[i]? = some w
  | _, _, _, _, .nil, h => by simp at h
  | _, _, 0, _, .dat _ _, h => by simp at h
  | _, _, i + 1, _, .dat _ t, h => by simpa using t.getR (i := i) (by simpa using h)
  | _, _, 0, _, .raw _, h => by simp at h; subst h; rfl
  | _, _, i + 1, _, .raw t, h => by simpa using t.getR (i := i) (by simpa using h)
theorem PsF.noM {Z : Hp} : ∀ {vs : List V} {xs : List SV} {i : Nat} {ds : List D}, PsF Z vs xs → xs[i]? ≠ some (.own ds) ∧ xs[i]? ≠ some (.io ds)
  | _, _, _, _, .nil => by simp
  | _, _, 0, _, .dat _ _ => by simp
  | _, _, i + 1, _, .dat _ t => by simpa using t.noM (i := i)
  | _, _, 0, _, .raw _ => by simp
  | _, _, i + 1, _, .raw t => by simpa using t.noM (i := i)

theorem passF1_ok {Z0 P Z H : Hp} {σ : St} {s0 s s' : S} {v : V} {o : O} {x : SV} (st : Stp Z0 P σ s0 Z H σ s) (h : RelO P Z H σ s v o) (e : passF1 o s = some (x, s')) :
    ∃ Z', Stp Z0 P σ s0 Z' H σ s' ∧ PsF Z' [v] [x] ∧ Same Z Z' ∧ ∀ w p, RelO P Z H σ s w p → (∀ ds es, o = .new ds → p = .new es → v ≠ w) → RelO P Z' H σ s' w p := by
  cases o with
  | raw w =>
    cases e
    cases h
    exact ⟨Z, st, .raw .nil, Same.refl Z, fun w p q _ => q⟩
  | d d =>
    unfold passF1 at e
    obtain ⟨p, e1, e2⟩ := Option.map_eq_some_iff.mp e
    cases e2
    obtain ⟨Z', a1, a2, a3, a4⟩ := frz_ok (d := p.1) (s' := p.2) st h e1
    exact ⟨Z', a1, .dat a2 .nil, a3, a4⟩
  | new ds =>
    unfold passF1 at e
    obtain ⟨p, e1, e2⟩ := Option.map_eq_some_iff.mp e
    cases e2
    obtain ⟨Z', a1, a2, a3, a4⟩ := frz_ok (d := p.1) (s' := p.2) st h e1
    exact ⟨Z', a1, .dat a2 .nil, a3, a4⟩
  | var i =>
    unfold passF1 at e
    dsimp only at e
    split at e
    · rename_i w q
      cases e
      have e1 := st.rep.raw _ _ q
      rw [show σ[i]? = some (some v) from h] at e1
      cases e1
      exact ⟨Z, st, .raw .nil, Same.refl Z, fun w p q _ => q⟩
    · obtain ⟨p, e1, e2⟩ := Option.map_eq_some_iff.mp e
      cases e2
      obtain ⟨Z', a1, a2, a3, a4⟩ := frz_ok (d := p.1) (s' := p.2) st h e1
      exact ⟨Z', a1, .dat a2 .nil, a3, a4⟩
theorem PsF.app1 {Z : Hp} {v : V} {x : SV} {vs : List V} {xs : List SV} (h : PsF Z [v] [x]) (t : PsF Z vs xs) : PsF Z (v :: vs) (x :: xs) := by
  cases h with
  | dat r _ => exact .dat r t
  | raw _ => exact .raw t
theorem passF_ok {Z0 P : Hp} {σ : St} {s0 : S} : ∀ {os : List O} {Z H : Hp} {s s' : S} {vs : List V} {xs : List SV}, Stp Z0 P σ s0 Z H σ s → RelOs P Z H σ s vs os → passF os s = some (xs, s') →
    ∃ Z', Stp Z0 P σ s0 Z' H σ s' ∧ PsF Z' vs xs ∧ Same Z Z' ∧ ∀ w p, RelO P Z H σ s w p → (∀ es, p = .new es → ¬ NewIn w vs os) → RelO P Z' H σ s' w p
  | [], Z, H, s, s', vs, ds, x, h, e => by
    cases e; cases h
    exact ⟨Z, x, .nil, Same.refl Z, fun w p q _ => q⟩
  | o :: os, Z, H, s, s', vs, ds, x, h, e => by
    cases h with
    | cons a b c =>
      obtain ⟨d, s1, e1, e⟩ := bindM_some.mp e
      obtain ⟨ds', s2, e2, e⟩ := bindM_some.mp e
      cases e
      obtain ⟨Z1, st1, r1, z1, k⟩ := passF1_ok x a e1
      obtain ⟨Z2, st2, r2, z2, k2⟩ := passF_ok st1 (frz_rest k b c) e2
      refine ⟨Z2, st2, (r1.up z2).app1 r2, z1.trans z2, fun w p q n => k2 w p (k w p q fun ds es e1 e2 e3 => n es e2 (by rw [← e3, e1]; exact .here)) fun es e1 z => n es e1 (.there z)⟩
/-- the arguments behind passA: one of them, perhaps, an own list -/
inductive PsM (P Z H : Hp) (σ : St) (s : S) : Nat → List V → List O → List SV → Prop
  | here {v : V} {o : O} {x : SV} {vs : List V} {os : List O} {xs : List SV} : RelO P Z H σ s v o → passIO o s = some (x, s) → PsF Z vs xs → PsM P Z H σ s 0 (v :: vs) (o :: os) (x :: xs)
  | there {v : V} {o : O} {x : SV} {k : Nat} {vs : List V} {os : List O} {xs : List SV} : PsF Z [v] [x] → PsM P Z H σ s k vs os xs → PsM P Z H σ s (k + 1) (v :: vs) (o :: os) (x :: xs)
theorem passIO_s {o : O} {s s' : S} {x : SV} (e : passIO o s = some (x, s')) : s' = s := by
  cases o with
  | var i =>
    unfold passIO at e
    dsimp only at e
    split at e <;> cases e <;> rfl
  | _ => cases e; rfl
theorem passM_ok {Z0 P : Hp} {σ : St} {s0 : S} : ∀ {k : Nat} {os : List O} {Z H : Hp} {s s' : S} {vs : List V} {xs : List SV}, Stp Z0 P σ s0 Z H σ s → RelOs P Z H σ s vs os → passM k os s = some (xs, s') →
    ∃ Z', Stp Z0 P σ s0 Z' H σ s' ∧ PsM P Z' H σ s' k vs os xs ∧ Same Z Z'
  | _, [], Z, H, s, s', vs, ds, x, h, e => by unfold passM at e; cases e
  | 0, o :: os, Z, H, s, s', vs, ds, x, h, e => by
    cases h with
    | cons a b c =>
      obtain ⟨xs, s1, e1, e⟩ := bindM_some.mp e
      obtain ⟨y, s2, e2, e⟩ := bindM_some.mp e
      cases e
      obtain ⟨Z2, st2, r2, z2, k2⟩ := passF_ok x b e1
      have := passIO_s e2
      subst this
      exact ⟨Z2, st2, .here (k2 _ _ a fun es e => c es e) e2 r2, z2⟩
  | k + 1, o :: os, Z, H, s, s', vs, ds, x, h, e => by
    cases h with
    | cons a b c =>
      obtain ⟨y, s1, e1, e⟩ := bindM_some.mp e
      obtain ⟨xs, s2, e2, e⟩ := bindM_some.mp e
      cases e
      obtain ⟨Z1, st1, r1, z1, kk⟩ := passF1_ok x a e1
      obtain ⟨Z2, st2, r2, z2⟩ := passM_ok st1 (frz_rest kk b c) e2
      exact ⟨Z2, st2, .there (r1.up z2) r2, z1.trans z2⟩

/-- the one argument that may be an own list -/
inductive One (P Z H : Hp) (σ : St) (s : S) : V → O → SV → Prop
  | dat {v : V} {o : O} {d : D} : Rp Z v d → One P Z H σ s v o (.dat d)
  | raw {v : V} {o : O} : One P Z H σ s v o (.raw v)
  | new {a : Addr} {ws : List V} {ds : List D} : H a = some (.lst ws) → Z a = none → RpAll Z ws ds → ¬ Own σ s a → P a = none → One P Z H σ s (.ref a) (.new ds) (.own ds)
  | io {i : Nat} {a : Addr} {ws : List V} {ds : List D} : Mu s i ds → σ[i]? = some (some (.ref a)) → H a = some (.lst ws) → Z a = none → RpAll Z ws ds → One P Z H σ s (.ref a) (.var i) (.io ds)
theorem one_of {P Z H : Hp} {σ : St} {s : S} {v : V} {o : O} {x : SV} (rp : Rep Z H σ s) (h : RelO P Z H σ s v o) (e : passIO o s = some (x, s)) : One P Z H σ s v o x := by
  cases o with
  | d d => cases e; exact .dat h
  | raw w => cases e; cases h; exact .raw
  | new ds =>
    cases e
    obtain ⟨a, ws, rfl, h1, h2, h3, h4, h5⟩ := h
    exact .new h1 h2 h3 h4 h5
  | var i =>
    have hv : σ[i]? = some (some v) := h
    unfold passIO at e
    dsimp only at e
    split at e
    · rename_i ds q
      cases e
      obtain ⟨a, ws, e1, e2, e3, e4⟩ := rp.own i ds (.inl q)
      rw [hv] at e1; cases e1
      exact .io (.inl q) hv e2 e3 e4
    · rename_i ds q
      cases e
      obtain ⟨a, ws, e1, e2, e3, e4⟩ := rp.own i ds (.inr q)
      rw [hv] at e1; cases e1
      exact .io (.inr q) hv e2 e3 e4
    · rename_i d q
      cases e
      obtain ⟨w, e1, e2⟩ := rp.dat i d q
      rw [hv] at e1; cases e1
      exact .dat e2
    · rename_i w q
      cases e
      have e1 := rp.raw i w q
      rw [hv] at e1; cases e1
      exact .raw
    · cases e
theorem PsM.get {P Z H : Hp} {σ : St} {s : S} (rp : Rep Z H σ s) : ∀ {k : Nat} {vs : List V} {os : List O} {xs : List SV}, PsM P Z H σ s k vs os xs →
    ∃ v o x, vs[k]? = some v ∧ os[k]? = some o ∧ xs[k]? = some x ∧ One P Z H σ s v o x ∧ xs.length = vs.length ∧
      (∀ (i : Nat) (d : D), i ≠ k → xs[i]? = some (.dat d) → ∃ v, vs[i]? = some v ∧ Rp Z v d) ∧ (∀ (i : Nat) (w : V), i ≠ k → xs[i]? = some (.raw w) → vs[i]? = some w) ∧ ∀ (i : Nat) (ds : List D), i ≠ k → xs[i]? ≠ some (.own ds) ∧ xs[i]? ≠ some (.io ds)
  | _, _, _, _, .here (v := v) (o := o) (x := x) h e t => by
    refine ⟨v, o, x, rfl, rfl, rfl, one_of rp h e, by rw [List.length_cons, List.length_cons, t.len], fun i d n h => ?_, fun i w n h => ?_, fun i ds n => ?_⟩
    · cases i with
      | zero => exact absurd rfl n
      | succ i => simpa using t.getD (i := i) (by simpa using h)
    · cases i with
      | zero => exact absurd rfl n
      | succ i => simpa using t.getR (i := i) (by simpa using h)
    · cases i with
      | zero => exact absurd rfl n
      | succ i => simpa using t.noM (i := i)
  | _, _, _, _, .there h t => by
    obtain ⟨v, o, x, h1, h2, h3, h4, h5, h6, h7, h8⟩ := PsM.get rp t
    refine ⟨v, o, x, by simpa using h1, by simpa using h2, by simpa using h3, h4, by rw [List.length_cons, List.length_cons, h5], fun i d n h' => ?_, fun i w n h' => ?_, fun i ds n => ?_⟩
    · cases i with
      | zero =>
        obtain ⟨w, q1, q2⟩ := h.getD (i := 0) (d := d) (by simpa using h')
        exact ⟨w, by simpa using q1, q2⟩
      | succ i => simpa using h6 i d (fun z => n (by rw [z])) (by simpa using h')
    · cases i with
      | zero =>
        have q1 := h.getR (i := 0) (w := w) (by simpa using h')
        simpa using q1
      | succ i => simpa using h7 i w (fun z => n (by rw [z])) (by simpa using h')
    · cases i with
      | zero => simpa using h.noM (i := 0) (ds := ds)
      | succ i => simpa using h8 i ds (fun z => n (by rw [z]))
theorem PsF.rep {Z H : Hp} {vs : List V} {xs : List SV} (sub : Same Z H) (h : PsF Z vs xs) : Rep Z H (vs.map some) (xs.map some) := by
  have noM : ∀ (i : Nat) (ds : List D), ¬ Mu (xs.map some) i ds := fun i ds m => by
    rcases m with m | m
    · exact (h.noM (i := i) (ds := ds)).1 (map_get.mp m)
    · exact (h.noM (i := i) (ds := ds)).2 (map_get.mp m)
  refine ⟨sub, by rw [List.length_map, List.length_map, h.len], fun i d q => ?_, fun i w q => ?_, fun i ds m => absurd m (noM i ds), fun i j a p q => ?_⟩
  · obtain ⟨v, e, r⟩ := h.getD (map_get.mp q)
    exact ⟨v, map_get.mpr e, r⟩
  · exact map_get.mpr (h.getR (map_get.mp q))
  · obtain ⟨⟨ds, m⟩, _⟩ := p
    exact absurd m (noM i ds)
theorem PsF.noown {Z : Hp} {vs : List V} {xs : List SV} (h : PsF Z vs xs) (a : Addr) : ¬ Own (vs.map some) (xs.map some) a := fun ⟨i, ⟨ds, m⟩, _⟩ => by
  rcases m with m | m
  · exact (h.noM (i := i) (ds := ds)).1 (map_get.mp m)
  · exact (h.noM (i := i) (ds := ds)).2 (map_get.mp m)
theorem mu_at {xs : List SV} {i : Nat} {ds : List D} (m : Mu (xs.map some) i ds) : xs[i]? = some (.own ds) ∨ xs[i]? = some (.io ds) := m.imp map_get.mp map_get.mp
theorem PsM.rep {P Z H : Hp} {σ : St} {s : S} {k : Nat} {vs : List V} {os : List O} {xs : List SV} (rp : Rep Z H σ s) (h : PsM P Z H σ s k vs os xs) : Rep Z H (vs.map some) (xs.map some) := by
  obtain ⟨v, o, x, h1, h2, h3, h4, h5, h6, h7, h8⟩ := h.get rp
  have atk : ∀ (i : Nat) (ds : List D), Mu (xs.map some) i ds → i = k := fun i ds m => Classical.byContradiction fun n => by
    rcases mu_at m with m | m
    · exact (h8 i ds n).1 m
    · exact (h8 i ds n).2 m
  refine ⟨rp.sub, by rw [List.length_map, List.length_map, h5], fun i d q => ?_, fun i w q => ?_, fun i ds m => ?_, fun i j a p q => ?_⟩
  · by_cases hi : i = k
    · subst hi
      have q' := map_get.mp q
      rw [h3] at q'; cases q'
      cases h4 with
      | dat r => exact ⟨v, map_get.mpr h1, r⟩
    · obtain ⟨v, e, r⟩ := h6 i d hi (map_get.mp q)
      exact ⟨v, map_get.mpr e, r⟩
  · by_cases hi : i = k
    · subst hi
      have q' := map_get.mp q
      rw [h3] at q'; cases q'
      cases h4 with
      | raw => exact map_get.mpr h1
    · exact map_get.mpr (h7 i w hi (map_get.mp q))
  · have := atk i ds m
    subst this
    have q' := mu_at m
    rw [h3] at q'
    rcases q' with q' | q'
    · cases q'
      cases h4 with
      | new a1 a2 a3 a4 a5 => exact ⟨_, _, map_get.mpr h1, a1, a2, a3⟩
    · cases q'
      cases h4 with
      | io a1 a2 a3 a4 a5 => exact ⟨_, _, map_get.mpr h1, a3, a4, a5⟩
  · obtain ⟨⟨ds, m⟩, _⟩ := p
    obtain ⟨⟨es, m'⟩, _⟩ := q
    rw [atk i ds m, atk j es m']

/-- behind a call that touches nothing of ours -/
theorem Stp.past {Z0 P Z H Z' H' : Hp} {σ : St} {s0 s : S} {A : Addr → Prop} (st : Stp Z0 P σ s0 Z H σ s) (sub : Same Z' H') (tr : Tr A Z H Z' H') (hA : ∀ a, A a → ¬ Own σ s a ∧ P a = none) : Stp Z0 P σ s0 Z' H' σ s := by
  refine ⟨⟨sub, st.rep.len, fun i d h => ?_, st.rep.raw, fun i ds m => ?_, st.rep.inj⟩, ⟨st.tr.z.trans tr.z, fun a o h n => ?_, fun a o h h2 n => ?_, fun a h => st.tr.live a (tr.live a h)⟩, st.sub, st.io, st.noio⟩
  · obtain ⟨v, e, r⟩ := st.rep.dat i d h
    exact ⟨v, e, r.up tr.z⟩
  · obtain ⟨a, ws, e, h1, h2, h3⟩ := st.rep.own i ds m
    have na : ¬ A a := fun z => (hA a z).1 ⟨i, ⟨ds, m⟩, e⟩
    exact ⟨a, ws, e, tr.keep a _ h1 na, tr.zfree a _ h1 h2 na, h3.up tr.z⟩
  · refine tr.keep a o (st.tr.keep a o h n) fun z => ?_
    have := (hA a z).2
    rw [h] at this; cases this
  · refine tr.zfree a o (st.tr.keep a o h n) (st.tr.zfree a o h h2 n) fun z => ?_
    have := (hA a z).2
    rw [h] at this; cases this
/-- behind a call that may have changed the list in slot i -/
theorem Stp.pastIO {Z0 P Z H Z' H' : Hp} {σ : St} {s0 s s' : S} {A : Addr → Prop} {i : Nat} {a : Addr} {ds0 ds : List D} {ws : List V} (st : Stp Z0 P σ s0 Z H σ s) (sub : Same Z' H') (tr : Tr A Z H Z' H') (hA : ∀ b, A b → b = a) (mu : Mu s i ds0) (ha : σ[i]? = some (some (.ref a)))
    (h1 : H' a = some (.lst ws)) (h2 : Z' a = none) (h3 : RpAll Z' ws ds) (e : wr i ds s = some s') : Stp Z0 P σ s0 Z' H' σ s' := by
  have hm : (∀ (j : Nat) (es : List D), Mu s' j es → (j = i ∧ es = ds) ∨ (j ≠ i ∧ Mu s j es)) ∧ (∀ (j : Nat), j ≠ i → s'[j]? = s[j]?) ∧ s'.length = s.length ∧ (∀ (j : Nat) (es : List D), s[j]? = some (some (.io es)) → ∃ es', s'[j]? = some (some (.io es'))) ∧ (∀ (j : Nat) (es : List D), s'[j]? = some (some (.io es)) → ∃ es', s[j]? = some (some (.io es'))) ∧ (∀ (d : D), s'[i]? ≠ some (some (.dat d))) ∧ ∀ v, s'[i]? ≠ some (some (.raw v)) := by
    rcases wr_some e with ⟨es, q, rfl⟩ | ⟨es, q, rfl⟩
    · have hi := (List.getElem?_eq_some_iff.mp q).1
      refine ⟨fun j fs m => ?_, fun j n => List.getElem?_set_ne (Ne.symm n), by rw [List.length_set], fun j fs m => ?_, fun j fs m => ?_, fun d z => ?_, fun v z => ?_⟩
      · rcases m with m | m
        · rcases set_get m with ⟨rfl, z⟩ | ⟨n, z⟩
          · cases z; exact .inl ⟨rfl, rfl⟩
          · exact .inr ⟨n, .inl z⟩
        · rcases set_get m with ⟨rfl, z⟩ | ⟨n, z⟩
          · cases z
          · exact .inr ⟨n, .inr z⟩
      · have n : i ≠ j := fun z => by subst z; rw [q] at m; cases m
        exact ⟨fs, by rw [List.getElem?_set_ne n]; exact m⟩
      · rcases set_get m with ⟨rfl, z⟩ | ⟨n, z⟩
        · cases z
        · exact ⟨fs, z⟩
      · rw [List.getElem?_set_self hi] at z; cases z
      · rw [List.getElem?_set_self hi] at z; cases z
    · have hi := (List.getElem?_eq_some_iff.mp q).1
      refine ⟨fun j fs m => ?_, fun j n => List.getElem?_set_ne (Ne.symm n), by rw [List.length_set], fun j fs m => ?_, fun j fs m => ?_, fun d z => ?_, fun v z => ?_⟩
      · rcases m with m | m
        · rcases set_get m with ⟨rfl, z⟩ | ⟨n, z⟩
          · cases z
          · exact .inr ⟨n, .inl z⟩
        · rcases set_get m with ⟨rfl, z⟩ | ⟨n, z⟩
          · cases z; exact .inl ⟨rfl, rfl⟩
          · exact .inr ⟨n, .inr z⟩
      · by_cases n : i = j
        · subst n; exact ⟨ds, List.getElem?_set_self hi⟩
        · exact ⟨fs, by rw [List.getElem?_set_ne n]; exact m⟩
      · rcases set_get m with ⟨rfl, z⟩ | ⟨n, z⟩
        · exact ⟨es, q⟩
        · exact ⟨fs, z⟩
      · rw [List.getElem?_set_self hi] at z; cases z
      · rw [List.getElem?_set_self hi] at z; cases z
  obtain ⟨hM, hO, hl, hio, hnio, hnd, hnr⟩ := hm
  have own' : ∀ j b, OwnAt σ s' j b → OwnAt σ s j b := fun j b ⟨⟨fs, m⟩, q⟩ => by
    rcases hM j fs m with ⟨rfl, _⟩ | ⟨_, m'⟩
    · exact ⟨⟨ds0, mu⟩, q⟩
    · exact ⟨⟨fs, m'⟩, q⟩
  have oa : Own σ s a := ⟨i, ⟨ds0, mu⟩, ha⟩
  refine ⟨⟨sub, by rw [hl]; exact st.rep.len, fun j d q => ?_, fun j v q => ?_, fun j fs m => ?_, fun j k c p q => st.rep.inj j k c (own' j c p) (own' k c q)⟩, ⟨st.tr.z.trans tr.z, fun c o q n => ?_, fun c o q q2 n => ?_, fun c q => st.tr.live c (tr.live c q)⟩, fun c ⟨j, o⟩ => st.sub c ⟨j, own' j c o⟩, fun j fs m => ?_, fun j fs m => ?_⟩
  · have n : j ≠ i := fun z => by subst z; exact hnd d q
    rw [hO j n] at q
    obtain ⟨v, e, r⟩ := st.rep.dat j d q
    exact ⟨v, e, r.up tr.z⟩
  · have n : j ≠ i := fun z => by subst z; exact hnr v q
    rw [hO j n] at q
    exact st.rep.raw j v q
  · rcases hM j fs m with ⟨rfl, rfl⟩ | ⟨n, m'⟩
    · exact ⟨a, ws, ha, h1, h2, h3⟩
    · obtain ⟨c, xs, q1, q2, q3, q4⟩ := st.rep.own j fs m'
      have nc : ¬ A c := fun z => by
        have := hA c z
        subst this
        exact n (st.rep.inj j i c ⟨⟨fs, m'⟩, q1⟩ ⟨⟨ds0, mu⟩, ha⟩)
      exact ⟨c, xs, q1, tr.keep c _ q2 nc, tr.zfree c _ q2 q3 nc, q4.up tr.z⟩
  · refine tr.keep c o (st.tr.keep c o q n) fun z => ?_
    have := hA c z
    subst this
    rcases st.sub c oa with z | z
    · exact n z
    · rw [q] at z; cases z
  · refine tr.zfree c o (st.tr.keep c o q n) (st.tr.zfree c o q q2 n) fun z => ?_
    have := hA c z
    subst this
    rcases st.sub c oa with z | z
    · exact n z
    · rw [q] at z; cases z
  · obtain ⟨e1, ds', q⟩ := st.io j fs m
    obtain ⟨es', q'⟩ := hio j ds' q
    exact ⟨e1, es', q'⟩
  · obtain ⟨es', q'⟩ := hnio j fs m
    exact st.noio j es' q'
theorem wr_own {i : Nat} {ds ds0 : List D} {σ : St} {s s' : S} {b : Addr} (e : wr i ds s = some s') (mu : Mu s i ds0) (h : Own σ s' b) : Own σ s b := by
  obtain ⟨j, ⟨fs, m⟩, q⟩ := h
  rcases wr_some e with ⟨es, q', rfl⟩ | ⟨es, q', rfl⟩
  · rcases m with m | m
    · rcases set_get m with ⟨rfl, z⟩ | ⟨n, z⟩
      · exact ⟨j, ⟨_, mu⟩, q⟩
      · exact ⟨j, ⟨_, .inl z⟩, q⟩
    · rcases set_get m with ⟨rfl, z⟩ | ⟨n, z⟩
      · cases z
      · exact ⟨j, ⟨_, .inr z⟩, q⟩
  · rcases m with m | m
    · rcases set_get m with ⟨rfl, z⟩ | ⟨n, z⟩
      · cases z
      · exact ⟨j, ⟨_, .inl z⟩, q⟩
    · rcases set_get m with ⟨rfl, z⟩ | ⟨n, z⟩
      · exact ⟨j, ⟨_, mu⟩, q⟩
      · exact ⟨j, ⟨_, .inr z⟩, q⟩

/-- THE CALL: the values have come; the callee's promise holds, and behind it Q -/
theorem callB_ok {K : PySem.W.Frag} {c : Addr × List Int} {need : Bool} {n : Nat} {f : F} {m : Option Nat} {os : List O} {Z0 P Z H : Hp} {σ : St} {s0 s s' : S} {o : O} {vs : List V} {Q : VK} {E : XK} (scr : need = true → ScrOk K H c) (st : Stp Z0 P σ s0 Z H σ s) (h : RelOs P Z H σ s vs os) (e : callB n f m os s = some (o, s'))
    (q : ∀ v Z' H', Stp Z0 P σ s0 Z' H' σ s' → RelO P Z' H' σ s' v o → Q v H') : spF K c need n f vs H Q E := by
  unfold callB at e
  split at e
  case isFalse => cases e
  rename_i hno
  have hn : vs.length = n := by rw [h.len]; exact hno
  obtain ⟨svs, s1, e1, e⟩ := bindM_some.mp e
  obtain ⟨⟨r, svs'⟩, e2, e⟩ := Option.bind_eq_some_iff.mp e
  obtain ⟨o', e3, e⟩ := Option.bind_eq_some_iff.mp e
  -- the value
  have val : ∀ {v : V} {Z1 Z' H' : Hp} {s2 : S}, Stp Z0 P σ s0 Z1 H σ s1 → (∀ a, Own σ s2 a → Own σ s1 a) → (∀ a, Own (vs.map some) (svs.map some) a → (∀ (i : Nat) (es : List D), svs[i]? = some (.io es) → vs[i]? ≠ some (.ref a)) → ¬ Own σ s2 a ∧ P a = none) → RetV H vs svs Z' H' v r → RelO P Z' H' σ s2 v o' := fun {v Z1 Z' H' s2} st1 so hA rv => by
    cases r with
    | dat d => cases e3; exact rv
    | raw w => cases e3; exact rv
    | io _ => exact rv.elim
    | own ds =>
      cases e3
      obtain ⟨a, ws, ev, h1, h2, h3, h4, h5⟩ := rv
      rcases h4 with z | z
      · obtain ⟨k1, k2⟩ := hA a z h5
        exact ⟨a, ws, ev, h1, h2, h3, k1, k2⟩
      · exact ⟨a, ws, ev, h1, h2, h3, fun z' => st1.rep.nown z (so a z'), st1.tr.live a z⟩
  cases m with
  | none =>
    cases e
    obtain ⟨Z1, st1, ps, z1, _⟩ := passF_ok st h e1
    refine ⟨hn, scr, Z1, svs, r, svs', ps.rep st1.rep.sub, e2, fun v Z' H' rt => ?_⟩
    have st2 := st1.past rt.sub rt.tr fun a z => absurd z (ps.noown a)
    exact q v Z' H' st2 (val st1 (fun _ z => z) (fun a z _ => absurd z (ps.noown a)) rt.ret)
  | some k =>
    obtain ⟨s2, e4, e⟩ := Option.map_eq_some_iff.mp e
    cases e
    obtain ⟨Z1, st1, pm, z1⟩ := passM_ok st h e1
    obtain ⟨v0, o0, x0, h1, h2, h3, h4, h5, h6, h7, h8⟩ := pm.get st1.rep
    refine ⟨hn, scr, Z1, svs, r, svs', pm.rep st1.rep, e2, fun v Z' H' rt => ?_⟩
    have ownK : ∀ a, Own (vs.map some) (svs.map some) a → v0 = .ref a ∧ ((∃ ds, x0 = .own ds) ∨ ∃ ds, x0 = .io ds) := fun a ⟨i, ⟨ds, mm⟩, ea⟩ => by
      have hi : i = k := Classical.byContradiction fun n => by
        rcases mu_at mm with z | z
        · exact (h8 i ds n).1 z
        · exact (h8 i ds n).2 z
      subst hi
      have ea := map_get.mp ea
      rw [h1] at ea
      have mm := mu_at mm
      rw [h3] at mm
      refine ⟨Option.some.inj ea, ?_⟩
      rcases mm with z | z
      · exact .inl ⟨ds, Option.some.inj z⟩
      · exact .inr ⟨ds, Option.some.inj z⟩
    rw [h2, h3] at e4
    cases h4 with
    | dat r0 =>
      have none_ : ∀ a, ¬ Own (vs.map some) (svs.map some) a := fun a z => by
        rcases (ownK a z).2 with ⟨_, z⟩ | ⟨_, z⟩ <;> cases z
      cases e4
      exact q v Z' H' (st1.past rt.sub rt.tr fun a z => absurd z (none_ a)) (val st1 (fun _ z => z) (fun a z _ => absurd z (none_ a)) rt.ret)
    | raw =>
      have none_ : ∀ a, ¬ Own (vs.map some) (svs.map some) a := fun a z => by
        rcases (ownK a z).2 with ⟨_, z⟩ | ⟨_, z⟩ <;> cases z
      cases e4
      exact q v Z' H' (st1.past rt.sub rt.tr fun a z => absurd z (none_ a)) (val st1 (fun _ z => z) (fun a z _ => absurd z (none_ a)) rt.ret)
    | new a1 a2 a3 a4 a5 =>
      cases e4
      have hA : ∀ a, Own (vs.map some) (svs.map some) a → ¬ Own σ s' a ∧ P a = none := fun a z => by
        have := (ownK a z).1
        cases this
        exact ⟨a4, a5⟩
      exact q v Z' H' (st1.past rt.sub rt.tr hA) (val st1 (fun _ z => z) (fun a z _ => hA a z) rt.ret)
    | @io i0 a0 ws0 ds0 a1 a2 a3 a4 a5 =>
      unfold backIO at e4
      dsimp only at e4
      split at e4
      · rename_i i' ds' heq hx
        cases heq
        obtain ⟨b, ws, eb, b1, b2, b3⟩ := rt.io k ds' hx
        rw [h1] at eb; cases eb
        have hA : ∀ c, Own (vs.map some) (svs.map some) c → c = a0 := fun c z => by
          have := (ownK c z).1
          cases this; rfl
        refine q v Z' H' (st1.pastIO rt.sub rt.tr hA a1 a2 b1 b2 b3 e4) (val st1 (fun c z => wr_own e4 a1 z) (fun c z n => ?_) rt.ret)
        have := hA c z
        subst this
        exact absurd h1 (n k _ h3)
      · cases e4
theorem callD_ok {K : PySem.W.Frag} {c : Addr × List Int} {need : Bool} {n : Nat} {f : F} {m : Option Nat} {fa : M (List O)} {σ : St} {H : Hp} {Q : VK} {E : XK} (h : tO (callD n f m fa) σ H Q) : tA fa σ H fun vs H1 => (need = true → ScrOk K H1 c) → spF K c need n f vs H1 Q E := by
  obtain ⟨Z, s, o, s', R, e, q⟩ := h
  obtain ⟨os, s1, e1, e⟩ := bindM_some.mp e
  exact ⟨Z, s, os, s1, R, e1, fun vs Z1 H1 st r scr => callB_ok scr st r e q⟩
section
variable {X : Cx} {k : Nat} {f : Addr} {fd : FuncData} {ps : List Str} {c : Addr × List Int} {need : Bool} {fF : F} {m : Option Nat} {x : Str} {p pos : Pos} {e : Expr} {es : List Expr} {fa : M (List O)}
theorem eo_call (G : FnG X.prog X.w X.K X.mg X.base CX0 k f fd ps (spF X.K c need ps.length fF)) (hr : Room k X.A) (hq : Calm X.A) (hg : Gl X x) (hm : X.mg x = some (.ref f)) (hk : PySem.W.keepIn X.K (.ref f) = true) (hb : Binds X.K fd ps [])
    (scr : need = true → ScrOk X.K X.H_0 c) (ha : PA X (e :: es) (tA fa)) (hdb : (x == ("__debug__" : Str)) = false) (he : starEach (e :: es) X.env = (false, eval e X.env) :: starEach es X.env) (hpl : (backTo pos (starEach es X.env)).any (·.1) = false) :
    PE X (.Call (.Name x p) (e :: es) [] pos) (tO (callD ps.length fF m fa)) := ⟨fun pins s σ H Q I h => by
  refine wpAny_Call_Name_kw (ld_glob I hg hm (PySem.W.callWith_K (h₀ := X.base) I.ok.mod.kin hk ?_ he hpl) hdb)
  exact thn (ha.run pos pins s σ H _ I (callD_ok (E := E0) h)) fun us s1 ⟨vs, H1, J, r, q⟩ => ⟨J.kIn, go_fn G hr hq hb pass0 J r (q fun z => (scr z).inv J)⟩⟩
theorem eo_call0 (G : FnG X.prog X.w X.K X.mg X.base CX0 k f fd ps (spF X.K c need ps.length fF)) (hr : Room k X.A) (hq : Calm X.A) (hg : Gl X x) (hm : X.mg x = some (.ref f)) (hk : PySem.W.keepIn X.K (.ref f) = true) (hb : Binds X.K fd ps [])
    (scr : need = true → ScrOk X.K X.H_0 c) (hdb : (x == ("__debug__" : Str)) = false) : PE X (.Call (.Name x p) [] [] pos) (tO (callD ps.length fF m nilA)) := ⟨fun pins s σ H Q I h => by
  have := callD_ok (K := X.K) (c := c) (need := need) (E := E0) h
  obtain ⟨Z, s1, os, s', R, e, q⟩ := this
  cases e
  exact wpAny_Call_Name_kw (ld_glob I hg hm (PySem.W.callWith_K0 I.kIn hk (go_fn (us := []) G hr hq hb pass0 I .nil (q [] Z H (.refl R) .nil fun z => (scr z).inv I))) hdb)⟩
/-- the order of the parameters, out of that of the keywords -/
def reord {α : Type} (ix : List Nat) (l : List α) : List α := ix.filterMap fun i => l[i]?
def tKw (f : M (List O)) (ix : List Nat) : M (List O) := bindM f fun os s => if os.length = ix.length then some (reord ix os, s) else none
end
end DL

set_option Elab.async false
set_option linter.all false
set_option maxRecDepth 100000
set_option maxHeartbeats 1000000
set_option autoImplicit false
/-! DL, part m: more statements and expressions. -/
namespace DL
open PySem L2 PySem.Spec

/-! ### a, b, .. = x, y, .. -/
def takes : List O → M (List SV)
  | [] => retM []
  | o :: os => bindM (take1 o) fun x => bindM (takes os) fun xs => retM (x :: xs)
def puts : List Nat → List SV → S → Option S
  | i :: is, x :: xs, s => (putS i x s).bind fun s' => puts is xs s'
  | [], [], s => some s
  | _, _, _ => none
def parG (is : List Nat) (fa : M (List O)) : G := fun s => (bindM fa takes s).bind fun p => (puts is p.1 p.2).map .nx
def sets : St → List Nat → List V → St
  | σ, i :: is, v :: vs => sets (σ.set i (some v)) is vs
  | σ, _, _ => σ
inductive OwnIn (w : V) : List V → List SV → Prop
  | here {vs : List V} {xs : List SV} {ds : List D} : OwnIn w (w :: vs) (.own ds :: xs)
  | there {v : V} {x : SV} {vs : List V} {xs : List SV} : OwnIn w vs xs → OwnIn w (v :: vs) (x :: xs)
inductive RelTs (P Z H : Hp) (σ : St) (s : S) : List V → List SV → Prop
  | nil : RelTs P Z H σ s [] []
  | cons {v : V} {x : SV} {vs : List V} {xs : List SV} : RelT P Z H σ s v x → RelTs P Z H σ s vs xs → (∀ ds, x = .own ds → ¬ OwnIn v vs xs) → RelTs P Z H σ s (v :: vs) (x :: xs)
theorem take1_ok {Z0 P Z H : Hp} {σ : St} {s0 s s' : S} {v : V} {o : O} {x : SV} (st : Stp Z0 P σ s0 Z H σ s) (h : RelO P Z H σ s v o) (e : take1 o s = some (x, s')) :
    ∃ Z', Stp Z0 P σ s0 Z' H σ s' ∧ Same Z Z' ∧ (∀ w p, RelO P Z H σ s w p → RelO P Z' H σ s' w p) ∧ ((∃ ds, o = .new ds ∧ x = .own ds) ∨ (∃ d, x = .dat d ∧ Rp Z' v d) ∨ x = .raw v) := by
  cases o with
  | d d => cases e; exact ⟨Z, st, Same.refl Z, fun _ _ q => q, .inr (.inl ⟨d, rfl, h⟩)⟩
  | new ds => cases e; exact ⟨Z, st, Same.refl Z, fun _ _ q => q, .inl ⟨ds, rfl, rfl⟩⟩
  | raw w => cases e; cases h; exact ⟨Z, st, Same.refl Z, fun _ _ q => q, .inr (.inr rfl)⟩
  | var i =>
    simp only [take1] at e
    split at e
    · rename_i w q
      cases e
      have e1 := st.rep.raw _ _ q
      rw [show σ[i]? = some (some v) from h] at e1
      cases e1
      exact ⟨Z, st, Same.refl Z, fun _ _ q => q, .inr (.inr rfl)⟩
    · obtain ⟨p, e1, e2⟩ := Option.map_eq_some_iff.mp e
      cases e2
      obtain ⟨Z', st', r, z, k⟩ := frz_ok (d := p.1) (s' := p.2) st h e1
      exact ⟨Z', st', z, fun w p q => k w p q fun ds es e => (nomatch e), .inr (.inl ⟨_, rfl, r⟩)⟩
theorem takes_ok {Z0 P : Hp} {σ : St} {s0 : S} : ∀ {os : List O} {Z H : Hp} {s s' : S} {vs : List V} {xs : List SV}, Stp Z0 P σ s0 Z H σ s → RelOs P Z H σ s vs os → takes os s = some (xs, s') →
    ∃ Z', Stp Z0 P σ s0 Z' H σ s' ∧ RelTs P Z' H σ s' vs xs ∧ Same Z Z' ∧ (∀ w p, RelO P Z H σ s w p → RelO P Z' H σ s' w p) ∧ ∀ w, OwnIn w vs xs → NewIn w vs os
  | [], Z, H, s, s', vs, xs, st, h, e => by
    cases e; cases h
    exact ⟨Z, st, .nil, Same.refl Z, fun _ _ q => q, fun w z => nomatch z⟩
  | o :: os, Z, H, s, s', vs, xs, st, h, e => by
    cases h with
    | cons a b c =>
      obtain ⟨x, s1, e1, e⟩ := bindM_some.mp e
      obtain ⟨xs', s2, e2, e⟩ := bindM_some.mp e
      cases e
      obtain ⟨Z1, st1, z1, k1, w1⟩ := take1_ok st a e1
      obtain ⟨Z2, st2, r2, z2, k2, n2⟩ := takes_ok st1 (RelOs.map1 k1 b) e2
      refine ⟨Z2, st2, .cons ?_ r2 fun ds ex z => ?_, z1.trans z2, fun w p q => k2 w p (k1 w p q), fun w z => ?_⟩
      · rcases w1 with ⟨ds, rfl, rfl⟩ | ⟨d, rfl, r⟩ | rfl
        · exact k2 _ _ (k1 _ _ a)
        · exact r.up z2
        · exact rfl
      · rcases w1 with ⟨ds', eo, ex'⟩ | ⟨d, ex', r⟩ | ex'
        · exact c ds' eo (n2 _ z)
        · rw [ex'] at ex; cases ex
        · rw [ex'] at ex; cases ex
      · cases z with
        | here =>
          rcases w1 with ⟨ds', eo, ex'⟩ | ⟨d, ex', r⟩ | ex'
          · rw [eo]; exact .here
          · cases ex'
          · cases ex'
        | there z => exact .there (n2 _ z)
where
  RelOs.map1 {P Z H Z' H' : Hp} {σ : St} {s s' : S} (k : ∀ w p, RelO P Z H σ s w p → RelO P Z' H' σ s' w p) : ∀ {vs : List V} {os : List O}, RelOs P Z H σ s vs os → RelOs P Z' H' σ s' vs os
  | _, _, .nil => .nil
  | _, _, .cons a b c => .cons (k _ _ a) (RelOs.map1 k b) c
theorem puts_ok {Z0 P : Hp} {σ0 : St} {s0 : S} {Z H : Hp} : ∀ {is : List Nat} {xs : List SV} {vs : List V} {σ : St} {s s' : S}, Stp Z0 P σ0 s0 Z H σ s → RelTs P Z H σ s vs xs → puts is xs s = some s' → Stp Z0 P σ0 s0 Z H (sets σ is vs) s' ∧ vs.length = is.length
  | [], [], vs, σ, s, s', st, h, e => by
    cases e; cases h
    exact ⟨st, rfl⟩
  | i :: is, x :: xs, vs, σ, s, s', st, h, e => by
    cases h with
    | @cons v _ vs _ a b c =>
      obtain ⟨s1, e1, e⟩ := Option.bind_eq_some_iff.mp e
      have st1 := put_ok st a e1
      obtain ⟨es1, hi, nio⟩ := putS_some e1
      have own1 : ∀ w, Own (σ.set i (some v)) s1 w → (∃ ds, x = .own ds ∧ v = .ref w) ∨ Own σ s w := fun w ⟨j, ⟨ds, m⟩, q⟩ => by
        subst es1
        by_cases n : j = i
        · subst n
          rw [List.getElem?_set_self (by rw [← st.rep.len]; exact hi)] at q
          cases q
          rcases m with m | m
          · rw [List.getElem?_set_self hi] at m; cases m; exact .inl ⟨_, rfl, rfl⟩
          · rw [List.getElem?_set_self hi] at m; cases m; exact (show False from a).elim
        · rw [List.getElem?_set_ne (Ne.symm n)] at q
          unfold Mu at m
          rw [List.getElem?_set_ne (Ne.symm n)] at m
          exact .inr ⟨j, ⟨ds, m⟩, q⟩
      have keep : ∀ {ws : List V} {ys : List SV}, RelTs P Z H σ s ws ys → (∀ ds, x = .own ds → ¬ OwnIn v ws ys) → RelTs P Z H (σ.set i (some v)) s1 ws ys := by
        intro ws ys r
        induction r with
        | nil => intro _; exact .nil
        | @cons w y ws ys a' b' c' ih =>
          intro n
          refine .cons ?_ (ih fun ds e z => n ds e (.there z)) c'
          cases y with
          | dat d => exact a'
          | raw d => exact a'
          | io d => exact a'
          | own ds =>
            obtain ⟨w', us, ew, h1, h2, h3, h4, h5⟩ := a'
            refine ⟨w', us, ew, h1, h2, h3, fun z => ?_, h5⟩
            rcases own1 w' z with ⟨ds', ex, ev⟩ | z
            · refine n ds' ex ?_
              rw [ev, ← ew]
              exact .here
            · exact h4 z
      obtain ⟨r1, r2⟩ := puts_ok st1 (keep b c) e
      exact ⟨r1, by rw [List.length_cons, List.length_cons, r2]⟩
  | [], x :: xs, vs, σ, s, s', st, h, e => by cases e
  | i :: is, [], vs, σ, s, s', st, h, e => by cases e
theorem par_read {is : List Nat} {fa : M (List O)} {E : Ends} {σ : St} {H : Hp} (h : tS (parG is fa) E σ H) : tA fa σ H fun vs H1 => vs.length = is.length ∧ E.nx (sets σ is vs) H1 ∧ ∀ p, H1 p = none → E.nx (sets σ is vs) (upd H1 p (.tup vs)) := by
  obtain ⟨Z, s, o, rp, e, q⟩ := h
  obtain ⟨⟨xs, s1⟩, e1, e⟩ := Option.bind_eq_some_iff.mp e
  obtain ⟨s2, e2, e⟩ := Option.map_eq_some_iff.mp e
  cases e
  obtain ⟨os, s3, e3, e4⟩ := bindM_some.mp e1
  refine ⟨Z, s, os, s3, rp, e3, fun vs Z1 H1 st r => ?_⟩
  obtain ⟨Z2, st2, r2, _⟩ := takes_ok st r e4
  obtain ⟨st3, hl⟩ := puts_ok st2 r2 e2
  exact ⟨hl, q _ Z2 H1 st3, fun p hp => q _ Z2 _ (st3.alloc hp)⟩
section
variable {X : Cx} {pos : Pos}
theorem ds_par2 {i j : Nat} {x y : Str} {a b : Expr} {fa : M (List O)} {px py pt : Pos} {kt k2 pt2} (hc : X.calm = true) (hN : X.N.Nodup) (hi : X.N[i]? = some x) (hj : X.N[j]? = some y) (hij : i ≠ j)
    (hx : X.env.scope.names.lookup x = some .local) (hy : X.env.scope.names.lookup y = some .local) (ha : PA X [a, b] (tA fa)) (hw : swappedStores [.Tuple [.Name x px, .Name y py] kt pt] (.Tuple [a, b] k2 pt2) X.env = pure (some [x, y])) :
    PS X (.Assign [.Tuple [.Name x px, .Name y py] kt pt] (.Tuple [a, b] k2 pt2) pos) (tS (parG [i, j] fa)) := (ps_par hc hN hi hj hij hx hy ha hw).wk fun E σ H h => by
  obtain ⟨Z, s, os, s', R, e, q⟩ := par_read h
  refine ⟨Z, s, os, s', R, e, fun vs Z1 H1 st r => ?_⟩
  obtain ⟨hl, q1, _⟩ := q vs Z1 H1 st r
  match vs, hl with
  | [v, w], _ => exact ⟨v, w, rfl, q1⟩
theorem ds_par3 {i j l : Nat} {x y z : Str} {a b c : Expr} {fa : M (List O)} {px py pz pt : Pos} {kt k2 pt2} (hc : X.calm = true) (hN : X.N.Nodup) (hi : X.N[i]? = some x) (hj : X.N[j]? = some y) (hl : X.N[l]? = some z) (hij : i ≠ j) (hil : i ≠ l) (hjl : j ≠ l)
    (hx : X.env.scope.names.lookup x = some .local) (hy : X.env.scope.names.lookup y = some .local) (hz : X.env.scope.names.lookup z = some .local) (ha : PA X [a, b, c] (tA fa))
    (hw : swappedStores [.Tuple [.Name x px, .Name y py, .Name z pz] kt pt] (.Tuple [a, b, c] k2 pt2) X.env = pure (some [x, y, z])) :
    PS X (.Assign [.Tuple [.Name x px, .Name y py, .Name z pz] kt pt] (.Tuple [a, b, c] k2 pt2) pos) (tS (parG [i, j, l] fa)) := (ps_par3 hc hN hi hj hl hij hil hjl hx hy hz ha hw).wk fun E σ H h => by
  obtain ⟨Z, s, os, s', R, e, q⟩ := par_read h
  refine ⟨Z, s, os, s', R, e, fun vs Z1 H1 st r => ?_⟩
  obtain ⟨hl, q1, _⟩ := q vs Z1 H1 st r
  match vs, hl with
  | [v, w, u], _ => exact ⟨v, w, u, rfl, q1⟩
def gNames : List Nat → TGs
  | [] => gNil
  | i :: is => gCons (gName i) (gNames is)
theorem gNames_of : ∀ {is : List Nat} {vs : List V} {σ : St} {H : Hp} {Q : St → Hp → Prop}, vs.length = is.length → Q (sets σ is vs) H → gNames is vs σ H Q
  | [], [], σ, H, Q, _, q => ⟨rfl, q⟩
  | i :: is, v :: vs, σ, H, Q, hl, q => ⟨v, vs, rfl, gNames_of (is := is) (vs := vs) (σ := σ.set i (some v)) (by simpa using hl) q⟩
  | [], _ :: _, _, _, _, hl, _ => by simp at hl
  | _ :: _, [], _, _, _, hl, _ => by simp at hl
theorem ds_parB {ts es : List Expr} {kt k2 : Nat} {pt pt2 : Pos} {is : List Nat} {fa : M (List O)} (hc : X.calm = true) (hg : PGs X ts (gNames is)) (ha : PA X es (tA fa)) (hsz : is.length ≤ 1000) (hn : (assignEach ts X.env).length = is.length) (hst : (assignEach ts X.env).findIdx? (·.1) = none)
    (hw : swappedStores [.Tuple ts kt pt] (.Tuple es k2 pt2) X.env = pure none) : PS X (.Assign [.Tuple ts kt pt] (.Tuple es k2 pt2) pos) (tS (parG is fa)) := (ps_asg (pe_tup ha) (pg_tup hc hg hn hst) rfl hw rfl).wk fun E σ H h => by
  obtain ⟨Z, s, os, s', R, e, q⟩ := par_read h
  refine ⟨Z, s, os, s', R, e, fun vs Z1 H1 st r => ?_⟩
  obtain ⟨hl, _, q1⟩ := q vs Z1 H1 st r
  refine ⟨by rw [hl, sizeLine_eq]; exact Nat.le_trans hsz (by decide), fun p hp => ⟨p, vs, rfl, .of upd_same, hl, gNames_of hl (q1 p hp)⟩⟩

/-! ### targets = a value, as data -/
def asgG (p : D → S → Option S) (f : M O) : G := fun s => (bindM f frz1 s).bind fun q => (p q.1 q.2).map .nx
theorem ds_asg {tg e : Expr} {f : M O} {js : List Nat} {p : D → S → Option S} (he : PE X e (tO f)) (hg : PG X tg (tG js p)) (hs : swapsWithSole [tg] e pos.line X.env = pure false) (hw : swappedStores [tg] e X.env = pure none) (h1 : (assignEach [tg] X.env).map (·.2) = [assign tg X.env]) :
    PS X (.Assign [tg] e pos) (tS (asgG p f)) := (ps_asg he hg hs hw h1).wk fun E σ H ⟨Z, s, o, rp, e, q⟩ => by
  obtain ⟨⟨d, s1⟩, e1, e⟩ := Option.bind_eq_some_iff.mp e
  obtain ⟨s2, e2, e⟩ := Option.map_eq_some_iff.mp e
  cases e
  obtain ⟨o1, s3, e3, e4⟩ := bindM_some.mp e1
  refine ⟨Z, s, o1, s3, rp, e3, fun v Z1 H1 st r => ?_⟩
  obtain ⟨Z2, st2, r2, _, _⟩ := frz_ok st r e4
  exact ⟨Z2, s1, d, s2, st2.rep, r2, e2, fun σ' st3 _ _ => q σ' Z2 H1 (st2.trans st3)⟩
/-! ### x[e] = v: x the list in slot i -/
def setixG (i : Nat) (fi fv : M O) : G := fun s => (bindM fv (fun ov s1 => (lst1 s1 i).bind fun _ => bindM fi (fun oi s2 => ((peek s2 oi).bind asI).bind fun k => (frz1 ov s2).bind fun q => (lst1 q.2 i).bind fun ds => (ixN ds.length k).bind fun j => (wr i (ds.set j q.1) q.2).map fun s3 => ((), s3)) s1) s).map fun q => .nx q.2
theorem ds_setix {i : Nat} {x : Str} {e v : Expr} {fi fv : M O} {px tpos : Pos} (hN : X.N[i]? = some x) (hv : Vis X.env.scope x) (hd : (x == ("__debug__" : Str)) = false) (hcd : (x == ("__classdict__" : Str)) = false) (he : PE X e (tO fi)) (hval : PE X v (tO fv))
    (hs : swapsWithSole [.Subscript (.Name x px) e tpos] v pos.line X.env = pure false) (hw : swappedStores [.Subscript (.Name x px) e tpos] v X.env = pure none)
    (ha : ∀ w, assign (.Subscript (.Name x px) e tpos) X.env w = (do
      let ov ← holding [w] (eval (.Name x px) X.env)
      let iv ← holding [w, ov] (eval e X.env)
      standAt tpos
      holding [w, ov, iv] (setItem ov iv w)
      release [w, ov, iv] [])) : PS X (.Assign [.Subscript (.Name x px) e tpos] v pos) (tS (setixG i fi fv)) :=
  (ps_asg hval (pg_sub (pe_var hN hv hd hcd) he set_list ha) hs hw rfl).wk fun E σ H ⟨Z, s, o, rp, e, q⟩ => by
  obtain ⟨⟨_, s3⟩, e1, e⟩ := Option.map_eq_some_iff.mp e
  cases e
  obtain ⟨ov, s1, e2, e1⟩ := bindM_some.mp e1
  obtain ⟨ds0, e0, e1⟩ := Option.bind_eq_some_iff.mp e1
  obtain ⟨oi, s2, e3, e1⟩ := bindM_some.mp e1
  obtain ⟨k, e4, e1⟩ := Option.bind_eq_some_iff.mp e1
  obtain ⟨⟨d, sq⟩, e5, e1⟩ := Option.bind_eq_some_iff.mp e1
  obtain ⟨ds, e6, e1⟩ := Option.bind_eq_some_iff.mp e1
  obtain ⟨j, e7, e1⟩ := Option.bind_eq_some_iff.mp e1
  obtain ⟨s3', e8, e1⟩ := Option.map_eq_some_iff.mp e1
  cases e1
  refine ⟨Z, s, ov, s1, rp, e2, fun w Z1 H1 st1 r1 => ?_⟩
  obtain ⟨a, ws, ha, _, _, _⟩ := st1.rep.own i ds0 (lst1_some e0)
  refine ⟨.ref a, ha, Z1, s1, oi, s2, st1.rep, e3, fun iv Z2 H2 st2 r2 => ?_⟩
  have ei := peek_int st2.rep r2 e4
  subst ei
  obtain ⟨Z3, st3, r3, _, _⟩ := frz_ok (st1.trans st2) (r1.step st2) e5
  obtain ⟨b, xs, hb, h1, h2, h3⟩ := st3.rep.own i ds (lst1_some e6)
  rw [ha] at hb; cases hb
  refine ⟨a, xs, k, j, rfl, rfl, h1, by rw [h3.len]; exact e7, q σ Z3 _ (wr_ok st3 e8 ha (RpAll.set r3 j h3))⟩
/-! ### name op= e, ints -/
def augG (g : Int → Int → Int) (i : Nat) (f : M O) : G := fun s => match s[i]? with
  | some (some (.dat (.int a))) => (f s).bind fun q => ((peek q.2 q.1).bind asI).bind fun b => (putS i (.dat (.int (g a b))) q.2).map .nx
  | _ => none
theorem ds_aug {op : Operator} {g : Int → Int → Int} {i : Nat} {x : Str} {e : Expr} {f : M O} {pos' : Pos} (hN : X.N.Nodup) (hi : X.N[i]? = some x) (hx : Loc X.env.scope x) (he : PE X e (tO f)) (ho : PIp X op (ipI g)) (hf : X.fn x = true ∨ X.env.scope.names.lookup x = some .local) :
    PS X (.AugAssign (.Name x pos') op e pos) (tS (augG g i f)) := (ps_aug hN hi hx he ho hf).wk fun E σ H ⟨Z, s, o, rp, e, q⟩ => by
  unfold augG at e
  split at e
  · rename_i a hs
    obtain ⟨⟨o1, s1⟩, e1, e⟩ := Option.bind_eq_some_iff.mp e
    obtain ⟨b, e2, e⟩ := Option.bind_eq_some_iff.mp e
    obtain ⟨s2, e3, e⟩ := Option.map_eq_some_iff.mp e
    cases e
    obtain ⟨v, hv, rv⟩ := rp.dat i _ hs
    cases rv
    refine ⟨_, hv, Z, s, o1, s1, rp, e1, fun w Z1 H1 st r => ?_⟩
    have ew := peek_int st.rep r e2
    subst ew
    exact ⟨a, b, rfl, rfl, q _ Z1 H1 (put_ok st (x := .dat _) (Rp.int _) e3)⟩
  · cases e
/-! ### l.index(x) -/
def indexP : D → D → Option Rs
  | .list ds, d => if SeqAt.shaped (.list ds) = true ∧ SeqAt.shaped d = true then (ds.findIdx? fun z => PyData.eqv z d).map fun j => .el (.int (j : Nat)) else none
  | _, _ => none
def isLst : D → Bool
  | .list _ => true
  | _ => false
def methL (p : D → D → Option Rs) (fo fa : M O) : M O := bindM fo fun o s1 => (peek s1 o).bind fun d0 => if isLst d0 = true then bindM fa (fun a => pk2 p o a) s1 else none
theorem ok_index {K : PySem.W.Frag} : Ok2 (fun x y H Q => rIndexD K x [y] H Q) indexP := fun Z H x y d d' rs s px py q => by
  unfold indexP at q
  split at q
  · split at q
    · rename_i hz
      obtain ⟨j, e, e'⟩ := Option.map_eq_some_iff.mp q
      subst e'
      obtain ⟨hj, h1, h2⟩ := List.findIdx?_eq_some_iff_getElem.mp e
      refine ⟨_, .int _, fun Q k => ?_⟩
      obtain ⟨l, vs, rfl, _, _⟩ := px.list s
      exact ⟨l, y, d', _, j, _, rfl, rfl, (px.rp s).dp, (py.rp s).dp, hz.1, hz.2, List.getElem?_eq_getElem hj, h1, fun m z' hm hz' => by
        obtain ⟨hm', e⟩ := List.getElem?_eq_some_iff.mp hz'
        have := h2 m hm
        rw [e] at this
        simpa using this, k⟩
    · cases q
  · cases q
theorem eo_index {k : Nat} {o e : Expr} {fo fa : M O} {apos : Pos} (hr : Room k X.A) (ho : PE X o (tO fo)) (he : PE X e (tO fa)) (hbase : attributeBase o "index" X.env (eval o X.env) = eval o X.env) (h1 : starEach [e] X.env = (false, eval e X.env) :: starEach [] X.env)
    (hfew : ((backTo pos (starEach [e] X.env)).all (fun x => !x.1) && (backToKw pos (keywordEach [] X.env)).all (fun x => x.1.isSome) && decide (([e] : List Expr).length + ([] : List Keyword).length + (if ([] : List Keyword).isEmpty then 0 else 1) < 30)) = true) (hline : (apos.endLine == pos.line) = true) :
    PE X (.Call (.Attribute o "index" apos) [e] [] pos) (tO (methL indexP fo fa)) :=
  (pe_bm PySem.F.plainAttrs_list PySem.F.slot_list_index PySem.F.type_list_index (mt_indexD (units65 hr)) ho (pa_cons he pa_nil h1) hbase hfew hline h1 rfl).wk fun σ H Q ⟨Z, s, ov, s', R, e, q⟩ => by
  obtain ⟨o1, s1, e1, e⟩ := bindM_some.mp e
  obtain ⟨d0, e2, e⟩ := Option.bind_eq_some_iff.mp e
  split at e
  case isFalse => cases e
  rename_i hl
  obtain ⟨a1, s2, e3, e⟩ := bindM_some.mp e
  obtain ⟨d1, d2, rs, g1, g2, g3, rfl, rfl⟩ := pk2_some.mp e
  refine ⟨Z, s, o1, s1, R, e1, fun x Z1 H1 st1 r1 => ⟨?_, Z1, s1, a1, s', st1.rep, e3, fun y Z2 H2 st2 r2 => ?_⟩⟩
  · cases d0 with
    | list ds =>
      obtain ⟨a, vs, rfl, h1, _⟩ := (peek_pk st1.rep r1 e2).list st1.rep.sub
      exact .inl ⟨rfl, vs, .of h1⟩
    | _ => cases hl
  · exact fin_ok (st1.trans st2) (ok_index Z2 H2 x y d1 d2 rs st2.rep.sub (peek_pk st2.rep (r1.step st2) g1) (peek_pk st2.rep r2 g2) g3) q
/-! ### *x among the items -/
def starA (f : M O) (r : M (List O)) : M (List O) := bindM f fun o => bindM (frz1 o) fun d => match seqD d with
  | some ds => bindM r fun os => retM (ds.map O.d ++ os)
  | none => fun _ => none
theorem relOs_data {P Z H : Hp} {σ : St} {s : S} : ∀ {xs : List V} {ds : List D} {vs : List V} {os : List O}, RpAll Z xs ds → RelOs P Z H σ s vs os → RelOs P Z H σ s (xs ++ vs) (ds.map O.d ++ os)
  | _, _, _, _, .nil, h => h
  | _, _, _, _, .cons r t, h => .cons r (relOs_data t h) fun ds e => nomatch e
theorem ea_star {e : Expr} {es : List Expr} {f : M O} {r : M (List O)} {p : Pos} (he : PE X e (tO f)) (hr : PA X es (tA r)) (hs : starEach (.Starred e p :: es) X.env = (true, eval e X.env) :: starEach es X.env) : PA X (.Starred e p :: es) (tA (starA f r)) :=
  (StX.pa_star he hr hs).wk fun σ H Q ⟨Z, s, os, s', R, e, q⟩ => by
  obtain ⟨o, s1, e1, e⟩ := bindM_some.mp e
  obtain ⟨d, s2, e2, e⟩ := bindM_some.mp e
  cases hd : seqD d with
  | some ds =>
    rw [hd] at e
    obtain ⟨os', s3, e3, e⟩ := bindM_some.mp e
    cases e
    refine ⟨Z, s, o, s1, R, e1, fun x Z1 H1 st1 r1 => ?_⟩
    obtain ⟨Z2, st2, r2, _, _⟩ := frz_ok st1 r1 e2
    obtain ⟨k, a, xs, rfl, tk, ra⟩ := seqD_some r2 hd
    refine ⟨a, xs, rfl, ?_, Z2, s2, os', s', st2.rep, e3, fun ys Z3 H3 st3 r3 => q _ Z3 H3 (st2.trans st3) (relOs_data (ra.up st3.tr.z) (r3.pre st2.tr.live))⟩
    cases k with
    | true => exact .inr (.of (st2.rep.sub _ _ tk))
    | false => exact .inl (.of (st2.rep.sub _ _ tk))
  | none => rw [hd] at e; cases e
/-! ### a slice of the script -/
def slScr (c : Addr × List Int) (i : Nat) (fl fh : M (Option Int)) : M O := fun s => match s[i]? with
  | some (some (.raw (.ref a))) => if a = c.1 then bindM fl (fun lo => bindM fh fun hi s' => some (.new (cutD (c.2.map PyData.int) lo hi), s')) s else none
  | _ => none
theorem Stp.frz {Z H Z' H' : Hp} {σ : St} {s s' : S} {a : Addr} {o : Obj} {u : HO} (st : Stp Z H σ s Z' H' σ s') (rp : Rep Z H σ s) (h : H a = some (.frz o u)) : H' a = some (.frz o u) := st.tr.keep a _ h fun ⟨i, q⟩ => by
  obtain ⟨vs, ds, _, e, _⟩ := rp.at q
  rw [h] at e; cases e
theorem scr_step {K : PySem.W.Frag} {Z H Z' H' : Hp} {σ : St} {s s' : S} {c : Addr × List Int} (h : ScrOk K H c) (rp : Rep Z H σ s) (st : Stp Z H σ s Z' H' σ s') : ScrOk K H' c := by
  rcases h with ⟨o, h⟩ | h
  · exact .inl ⟨o, st.frz rp h⟩
  · exact .inr h
theorem eo_scr {c : Addr × List Int} {i : Nat} {x : Str} {px p2 : Pos} {lo hi : Option Expr} {fl fh : M (Option Int)} (scr : ScrOk X.K X.H_0 c) (hN : X.N[i]? = some x) (hv : Vis X.env.scope x) (hd : (x == ("__debug__" : Str)) = false) (hcd : (x == ("__classdict__" : Str)) = false)
    (hl : PO X lo (tPO fl)) (hh : PO X hi (tPO fh)) : PE X (.Subscript (.Name x px) (.Slice lo hi none p2) pos) (tO (slScr c i fl fh)) := ⟨fun pins s σ H Q I ⟨Z, s0, o, s', R, e, q⟩ => by
  have sc := scr.inv I
  unfold slScr at e
  split at e
  case h_2 => cases e
  rename_i a hs
  split at e
  case isFalse => cases e
  rename_i ha
  subst ha
  obtain ⟨lo', s1, e1, e⟩ := bindM_some.mp e
  obtain ⟨hi', s2, e2, e⟩ := bindM_some.mp e
  cases e
  refine (pe_slice sl_list (pe_var hN hv hd hcd) hl hh).run pins s σ H Q I ⟨_, R.raw i _ hs, Z, s0, lo', s1, R, e1, fun Z1 H1 st1 => ⟨Z1, s1, hi', s', st1.rep, e2, fun Z2 H2 st2 => ?_⟩⟩
  have st := st1.trans st2
  have sc2 := scr_step sc R st
  refine ⟨_, _, rfl, sc2.sq, fun p hp => ?_⟩
  refine q (.ref p) Z2 _ (st.alloc hp) ⟨p, _, rfl, upd_same, st.rep.sub.free hp, (RpAll.ints c.2).cut _ _, st.rep.nown hp, st.tr.live p hp⟩⟩
/-- one of two readings -/
theorem pe_or {e : Expr} {f g : M O} (c : S → Bool) (h1 : PE X e (tO f)) (h2 : PE X e (tO g)) : PE X e (tO fun s => if c s = true then f s else g s) := ⟨fun pins s σ H Q I ⟨Z, s0, o, s', R, e, q⟩ => by
  dsimp only at e
  split at e
  · exact h1.run pins s σ H Q I ⟨Z, s0, o, s', R, e, q⟩
  · exact h2.run pins s σ H Q I ⟨Z, s0, o, s', R, e, q⟩⟩
end
end DL

set_option Elab.async false
set_option linter.all false
set_option maxRecDepth 100000
set_option maxHeartbeats 1000000
set_option autoImplicit false
/-! DL, part n: a small language without names and places; from the text to it; its worth. -/
namespace DL
open PySem L2 PySem.Spec

mutual
inductive IE where
  | nm (i : Nat) | ci (n : Int) | cb (b : Bool) | cn | cs (s : Str)
  | b2 (k : Nat) (a b : IE) | ch (k l : Nat) (a b c : IE) | u1 (k : Nat) (a : IE)
  | sl (a : IE) (lo hi : IP) | ss (i : Nat) (lo hi : IP)
  | dl (es : IL) | dt (es : IL)
  | ife (c a b : IE) | an (a b : IE) | ro (a b : IE)
  | bl (k : Nat) (es : IL) | lrg (tup : Bool) (r : IR)
  | isi (t : String) (a : IE)
  | cl (f n : Nat) (m : Option Nat) (es : IL)
  | ck (f n : Nat) (m : Option Nat) (ix : List Nat) (es : IL)
  | mu (k i : Nat) (es : IL) | ix (a b : IE)
  | lc (it : II) (vs : List Nat) (tg : List Nat) (tup : Bool) (cs : IL) (el : IE)
  deriving DecidableEq
inductive IL where
  | nil | cons (e : IE) (r : IL) | star (e : IE) (r : IL)
  deriving DecidableEq
inductive IP where
  | no | so (e : IE)
  deriving DecidableEq
inductive IR where
  | one (e : IE) | two (a b : IE)
  deriving DecidableEq
inductive II where
  | val (e : IE) | r1 (es : IL) | r2 (es : IL) | zp (es : IL) | en (es : IL)
  deriving DecidableEq
end
mutual
inductive IS where
  | set (i : Nat) (e : IE) | par (is : List Nat) (es : IL) | asg (is : List Nat) (e : IE) | six (i : Nat) (e v : IE) | aug (k i : Nat) (e : IE)
  | ret (e : IE) | ex (e : IE) | pass | brk | cont
  | ite (c : IE) (a b : IB) | fo (it : II) (tg : List Nat) (tup : Bool) (b : IB) | wh (c : IE) (b : IB)
  deriving DecidableEq
inductive IB where
  | nil | cons (s : IS) (b : IB)
  deriving DecidableEq
end

/-! ### the worth -/
def tupRg (f : M (Int × Int)) : M O := bindM f fun o s => if rgOk o.1 o.2 = true then some (.d (.tuple (rgD o.1 o.2)), s) else none
theorem eo_tupRg {X : Cx} {a : Expr} {fa : M (Int × Int)} {p pos : Pos} (hc : X.calm = true) (B : Bl X.mg) (ha : PRg X a (tE2 fa)) (hg : Gl X "tuple") (na : starEach [a] X.env = (false, eval a X.env) :: starEach [] X.env) : PE X (.Call (.Name "tuple" p) [a] [] pos) (tO (tupRg fa)) :=
  (pe_tupRg hc hg B.tuple ha na).wk fun σ H Q ⟨Z, s, o, s', R, e, q⟩ => by
    obtain ⟨o1, s1, e1, e⟩ := bindM_some.mp e
    split at e
    · rename_i hok
      cases e
      refine ⟨Z, s, o1, s', R, e1, fun Z1 H1 st => ⟨show RgOk _ _ from (of_decide_eq_true hok : _ ∧ _), fun p hp => ?_⟩⟩
      exact q (.ref p) _ _ (st.allocZ hp) (Rp.tup upd_same ((rg_rp _ _)))
    · cases e
def p2 : Nat → D → D → Option Rs
  | 0 => addP | 1 => subP | 2 => mulP | 3 => modP | 4 => fdivP | 5 => powP | 6 => ltP | 7 => leP | 8 => gtP | 9 => geP
  | 10 => eqP | 11 => neP | 12 => inP | 13 => notInP | 14 => ixP | _ => fun _ _ => none
def p1 : Nat → D → Option Rs
  | 0 => negP | 2 => isNP | 3 => notNP | 4 => revP | _ => fun _ => none
def pB : Nat → List D → Option Rs
  | 0 => lenP | 1 => absP | 2 => intP | 3 => strP | 4 => sumP | 5 => minP | 6 => maxP | 7 => allP | 8 => anyP | 9 => sortedP | 10 => listP | 11 => tupleP | 12 => reprP | _ => fun _ => none
def uM : Nat → List D → List D → Option (D × List D)
  | 0 => appU | 1 => popU | 2 => pop0U | 3 => extU | 4 => revU | _ => fun _ _ => none
def gA : Nat → Int → Int → Int
  | 0 => fun i j => i + j
  | _ => fun i j => i - j
def isRaw : Option (Option SV) → Bool
  | some (some (.raw _)) => true
  | _ => false
def putNs : List Nat → List D → S → Option S
  | [] => putNil
  | i :: is => putCons (putN i) (putNs is)
def putTg (is : List Nat) (tup : Bool) : D → S → Option S := match tup with
  | true => putT (putNs is) is.length
  | false => match is with
    | [i] => putN i
    | _ => fun _ _ => none
abbrev FE := Nat → F
section
variable (fe : FE) (scr : Addr × List Int)
mutual
def semE : IE → M O
  | .nm i => nameD i
  | .ci n => cD (.int n)
  | .cb b => cD (.bool b)
  | .cn => cD .none
  | .cs s => cD (.str s)
  | .b2 k a b => bin2 (p2 k) (semE a) (semE b)
  | .ch k l a b c => chainD (p2 k) (p2 l) (semE a) (semE b) (semE c)
  | .u1 k a => if k = 1 then notE (semE a) else un1 (p1 k) (semE a)
  | .sl a lo hi => slD (semE a) (semP lo) (semP hi)
  | .ss i lo hi => fun s => if isRaw s[i]? = true then slScr scr i (semP lo) (semP hi) s else slD (nameD i) (semP lo) (semP hi) s
  | .dl es => dispL (semL es)
  | .dt es => dispT (semL es)
  | .ife c a b => ifE (semT c) (semE a) (semE b)
  | .an a b => andE (semE a) (semE b)
  | .ro a b => orE (semE a) (semE b)
  | .bl k es => callP (pB k) (semL es)
  | .lrg b r => if b = true then tupRg (semR r) else lstRg (semR r)
  | .isi t a => isinD t (semE a)
  | .cl f n m es => callD n (fe f) m (semL es)
  | .ck f n m ix es => callD n (fe f) m (tKw (semL es) ix)
  | .mu k i es => mutD i (uM k) (semL es)
  | .ix a b => methL indexP (semE a) (semE b)
  | .lc it vs tg tup cs el => lcD (semI it) vs (putTg tg tup) (semC cs) (semE el)
def semT : IE → M Bool
  | .an a b => andT (semT a) (semT b)
  | .ro a b => orT (semT a) (semT b)
  | .u1 k a => if k = 1 then notT (semT a) else test (un1 (p1 k) (semE a))
  | .nm i => test (nameD i)
  | .b2 k a b => test (bin2 (p2 k) (semE a) (semE b))
  | .ch k l a b c => test (chainD (p2 k) (p2 l) (semE a) (semE b) (semE c))
  | .bl k es => test (callP (pB k) (semL es))
  | .isi t a => test (isinD t (semE a))
  | .cl f n m es => test (callD n (fe f) m (semL es))
  | .cb b => test (cD (.bool b))
  | .ci n => test (cD (.int n))
  | .cn => test (cD .none)
  | .cs s => test (cD (.str s))
  | .sl a lo hi => test (slD (semE a) (semP lo) (semP hi))
  | .ss i lo hi => test (fun s => if isRaw s[i]? = true then slScr scr i (semP lo) (semP hi) s else slD (nameD i) (semP lo) (semP hi) s)
  | .dl es => test (dispL (semL es))
  | .dt es => test (dispT (semL es))
  | .ife _ _ _ => fun _ => none
  | .lrg b r => test (if b = true then tupRg (semR r) else lstRg (semR r))
  | .ck f n m ix es => test (callD n (fe f) m (tKw (semL es) ix))
  | .mu k i es => test (mutD i (uM k) (semL es))
  | .ix a b => test (methL indexP (semE a) (semE b))
  | .lc it vs tg tup cs el => test (lcD (semI it) vs (putTg tg tup) (semC cs) (semE el))
def semC : IL → M Bool
  | .nil => yesT
  | .cons c .nil => semT c
  | _ => fun _ => none
def semL : IL → M (List O)
  | .nil => nilA
  | .cons e r => consA (semE e) (semL r)
  | .star e r => starA (semE e) (semL r)
def semP : IP → M (Option Int)
  | .no => poN
  | .so e => poS (semE e)
def semR : IR → M (Int × Int)
  | .one a => ends1 (semE a)
  | .two a b => ends2 (semE a) (semE b)
def semI : II → M (List D)
  | .val e => itemsD (semE e)
  | .r1 es => rng1S (semL es)
  | .r2 es => rng2S (semL es)
  | .zp es => zipS (semL es)
  | .en es => enumS (semL es)
end
mutual
def semS : IS → G
  | .set i e => setG i (semE fe scr e)
  | .par is es => parG is (semL fe scr es)
  | .asg is e => asgG (putT (putNs is) is.length) (semE fe scr e)
  | .six i e v => setixG i (semE fe scr e) (semE fe scr v)
  | .aug k i e => augG (gA k) i (semE fe scr e)
  | .ret e => retG (semE fe scr e)
  | .ex e => dropG (semE fe scr e)
  | .pass => skipG
  | .brk => breakG
  | .cont => contG
  | .ite c a b => ifG (semT fe scr c) (semB a) (semB b)
  | .fo it tg tup b => forG (semI fe scr it) (putTg tg tup) (semB b)
  | .wh c b => whileG (semT fe scr c) (semB b)
def semB : IB → G
  | .nil => skipG
  | .cons s b => seqG (semS s) (semB b)
end
end

/-! ### from the text -/
structure FnInfo where
  n : Nat
  io : Option Nat
  need : Bool
  ps : List Str
  kws : List (List Str)
structure CC where
  N : List Str
  sc : Scope
  fn : Str → Bool
  top : Bool
  fns : List (Str × FnInfo)
def CC.blk (c : CC) (scope : Scope) : CC := { c with sc := relS scope c.sc, fn := fun x => scope.names.lookup x == some .cell, top := false }
def okName (x : Str) : Bool := !(x == ("__debug__" : Str)) && !(x == ("__classdict__" : Str))
def ixOf (x : Str) : List Str → Nat → Option Nat
  | [], _ => none
  | y :: r, n => if x = y then some n else ixOf x r (n + 1)
def visB (sc : Scope) (x : Str) : Bool := match sc.names.lookup x with
  | some .local => true
  | some .cell => true
  | some .free => true
  | _ => false
def glB (sc : Scope) (x : Str) : Bool := match sc.names.lookup x with
  | some .globalImplicit => true
  | _ => false
def slot (c : CC) (x : Str) : Option Nat := if visB c.sc x && okName x then ixOf x c.N 0 else none
/-- a name that is stored to -/
def slotW (c : CC) (x : Str) : Option Nat := match c.sc.names.lookup x with
  | some .local => ixOf x c.N 0
  | some .cell => if c.fn x = true then ixOf x c.N 0 else none
  | _ => none
def fnIx (f : Str) : List (Str × FnInfo) → Nat → Option (Nat × FnInfo)
  | [], _ => none
  | (g, i) :: r, n => if f = g then some (n, i) else fnIx f r (n + 1)
def bin2C : Operator → Option Nat
  | .Add => some 0 | .Sub => some 1 | .Mult => some 2 | .Mod => some 3 | .FloorDiv => some 4 | .Pow => some 5 | _ => none
def cmpC : CmpOp → Option Nat
  | .Lt => some 6 | .LtE => some 7 | .Gt => some 8 | .GtE => some 9 | .Eq => some 10 | .NotEq => some 11 | .In => some 12 | .NotIn => some 13 | _ => none
def chC : CmpOp → Option Nat
  | .Lt => some 6 | .LtE => some 7 | _ => none
def blC (x : Str) : Option Nat :=
  if x = ("len" : Str) then some 0 else if x = ("abs" : Str) then some 1 else if x = ("int" : Str) then some 2 else if x = ("str" : Str) then some 3 else if x = ("sum" : Str) then some 4 else if x = ("min" : Str) then some 5
  else if x = ("max" : Str) then some 6 else if x = ("all" : Str) then some 7 else if x = ("any" : Str) then some 8 else if x = ("sorted" : Str) then some 9 else if x = ("list" : Str) then some 10 else if x = ("tuple" : Str) then some 11
  else if x = ("repr" : Str) then some 12 else none
def tyC (x : Str) : Option String :=
  if x = ("int" : Str) then some "int" else if x = ("bool" : Str) then some "bool" else if x = ("list" : Str) then some "list" else if x = ("tuple" : Str) then some "tuple" else if x = ("str" : Str) then some "str" else none
def muC (m : Str) (n : Nat) : Option Nat :=
  if m = ("append" : Str) ∧ n = 1 then some 0 else if m = ("pop" : Str) ∧ n = 1 then some 1 else if m = ("pop" : Str) ∧ n = 0 then some 2 else if m = ("extend" : Str) ∧ n = 1 then some 3 else if m = ("reverse" : Str) ∧ n = 0 then some 4 else none
def notStar : Expr → Bool
  | .Starred .. => false
  | _ => true
def notSet : Expr → Bool
  | .Set .. => false
  | _ => true
def notSlice : Expr → Bool
  | .Slice .. => false
  | _ => true
def notIf : Expr → Bool
  | .IfExp .. => false
  | _ => true
def namesW (c : CC) : List Expr → Option (List Nat)
  | [] => some []
  | .Name x _ :: r => (slotW c x).bind fun i => (namesW c r).map (i :: ·)
  | _ => none
def ownOf (N : List Str) (scope : Scope) : List (Str × Nat) := scope.names.filterMap fun y => match y.2 with
  | .local => (ixOf y.1 N 0).map fun i => (y.1, i)
  | .cell => (ixOf y.1 N 0).map fun i => (y.1, i)
  | _ => none
def isCall : Expr → Bool
  | .Call .. => true
  | _ => false
def isTup : Expr → Bool
  | .Tuple .. => true
  | _ => false
def tgC (c : CC) : Expr → Option (List Nat × Bool)
  | .Name x _ => (slotW c x).map fun i => ([i], false)
  | .Tuple ts _ _ => (namesW c ts).map fun is => (is, true)
  | _ => none
/-- the places of the parameters among the keywords -/
def kwIx (ps : List Str) (ks : List Str) : Option (List Nat) := match ps with
  | [] => some []
  | p :: r => (ixOf p ks 0).bind fun i => (kwIx r ks).map (i :: ·)
def kwNames : List Keyword → Option (List Str)
  | [] => some []
  | ⟨some n, _, _⟩ :: r => (kwNames r).map (n :: ·)
  | _ => none
mutual
def compE : Nat → CC → Expr → Option IE
  | 0, _, _ => none
  | n + 1, c, e => match e with
    | .Name x _ => (slot c x).map .nm
    | .Constant (.int i) _ _ => some (.ci i)
    | .Constant (.bool b) _ _ => some (.cb b)
    | .Constant .none _ _ => some .cn
    | .Constant (.str s) _ _ => some (.cs s)
    | .BinOp a op b _ => (bin2C op).bind fun k => (compE n c a).bind fun a' => (compE n c b).map fun b' => .b2 k a' b'
    | .UnaryOp .USub a _ => (compE n c a).map fun a' => .u1 0 a'
    | .UnaryOp .Not a _ => if notIf a = true then (compE n c a).map fun a' => .u1 1 a' else none
    | .Compare a [.Is] [.Constant .none _ _] _ => (compE n c a).map fun a' => .u1 2 a'
    | .Compare a [.IsNot] [.Constant .none _ _] _ => (compE n c a).map fun a' => .u1 3 a'
    | .Compare a [op] [b] _ => (cmpC op).bind fun k => if notSet b = true then (compE n c a).bind fun a' => (compE n c b).map fun b' => .b2 k a' b' else none
    | .Compare a [op, op'] [b, d] _ => (chC op).bind fun k => (chC op').bind fun l => (compE n c a).bind fun a' => (compE n c b).bind fun b' => (compE n c d).map fun d' => .ch k l a' b' d'
    | .Subscript a (.Slice none none (some (.UnaryOp .USub (.Constant (.int 1) _ _) _)) _) _ => (compE n c a).map fun a' => .u1 4 a'
    | .Subscript (.Name x _) (.Slice lo hi none _) _ => (slot c x).bind fun i => (compP n c lo).bind fun lo' => (compP n c hi).map fun hi' => if c.top = true then .ss i lo' hi' else .sl (.nm i) lo' hi'
    | .Subscript a (.Slice lo hi none _) _ => (compE n c a).bind fun a' => (compP n c lo).bind fun lo' => (compP n c hi).map fun hi' => .sl a' lo' hi'
    | .Subscript a b _ => if notSlice b = true then (compE n c a).bind fun a' => (compE n c b).map fun b' => .b2 14 a' b' else none
    | .List es _ => (compL n c es).map .dl
    | .Tuple es _ _ => (compL n c es).map .dt
    | .IfExp t a b _ => if notIf t = true then (compE n c t).bind fun t' => (compE n c a).bind fun a' => (compE n c b).map fun b' => .ife t' a' b' else none
    | .BoolOp op vs _ => if vs.all notIf = true then compV n c op vs else none
    | .Call (.Name f _) args kws _ => if (glB c.sc f && okName f) = true then (match fnIx f c.fns 0 with
        | some (k, i) => if i.need = true ∧ c.top = false then none else (match kws with
          | [] => if args.all notStar = true then (compL n c args).map fun es => .cl k i.n i.io es else none
          | kw :: kr => if args.isEmpty = true then (kwNames (kw :: kr)).bind fun ks => (kwIx i.ps ks).bind fun ix => if ks.length = i.ps.length ∧ i.kws.contains ks = true ∧ ix.Nodup ∧ i.ps.length ≠ 0 then (compK n c (kw :: kr)).map fun es => .ck k i.n i.io ix es else none else none)
        | none => if kws.isEmpty = true then (match args with
          | [.Call (.Name g _) [a] [] _] => if (f = ("list" : Str) ∨ f = ("tuple" : Str)) ∧ g = ("range" : Str) then (if glB c.sc g = true ∧ notStar a = true then (compE n c a).map fun a' => .lrg (decide (f = ("tuple" : Str))) (.one a') else none) else compB n c f args
          | [.Call (.Name g _) [a, b] [] _] => if (f = ("list" : Str) ∨ f = ("tuple" : Str)) ∧ g = ("range" : Str) then (if glB c.sc g = true ∧ notStar a = true ∧ notStar b = true then (compE n c a).bind fun a' => (compE n c b).map fun b' => .lrg (decide (f = ("tuple" : Str))) (.two a' b') else none) else compB n c f args
          | [a, .Name t _] => if f = ("isinstance" : Str) then (tyC t).bind fun t' => if glB c.sc t = true ∧ notStar a = true then (compE n c a).map fun a' => .isi t' a' else none else compB n c f args
          | _ => compB n c f args) else none) else none
    | .Call (.Attribute (.Name x _) m apos) args [] pos => if (apos.endLine == pos.line) = true ∧ args.all notStar = true then (slot c x).bind fun i =>
        if m = ("index" : Str) then (match args with
          | [a] => (compE n c a).map fun a' => .ix (.nm i) a'
          | _ => none) else (muC m args.length).bind fun k => (compL n c args).map fun es => .mu k i es else none
    | .ListComp elt [⟨tg, iter, ifs, 0⟩] scope _ => if blkC c.N c.sc scope (ownOf c.N scope) = true ∧ notSet iter = true ∧ ifs.all notIf = true ∧ ifs.length ≤ 1 then
        (compI n c (isTup tg) iter).bind fun it => (tgC (c.blk scope) tg).bind fun t => if (t.1.all fun j => ((ownOf c.N scope).map (·.2)).contains j) = true then (compL n (c.blk scope) ifs).bind fun cs => (compE n (c.blk scope) elt).map fun el => .lc it ((ownOf c.N scope).map (·.2)) t.1 t.2 cs el else none else none
    | _ => none
def compB : Nat → CC → Str → List Expr → Option IE
  | 0, _, _, _ => none
  | n + 1, c, f, args => (blC f).bind fun k => if args.all notStar = true ∧ args.isEmpty = false then (compL n c args).map fun es => .bl k es else none
def compV : Nat → CC → BoolOp → List Expr → Option IE
  | 0, _, _, _ => none
  | n + 1, c, op, [a] => compE n c a
  | n + 1, c, op, a :: b :: r => (compE n c a).bind fun a' => (compV n c op (b :: r)).map fun r' => match op with
    | .And => .an a' r'
    | .Or => .ro a' r'
  | _ + 1, _, _, [] => none
def compL : Nat → CC → List Expr → Option IL
  | 0, _, _ => none
  | n + 1, _, [] => some .nil
  | n + 1, c, e :: es => match e with
    | .Starred a _ => (compE n c a).bind fun a' => (compL n c es).map fun r => .star a' r
    | e => (compE n c e).bind fun e' => (compL n c es).map fun r => .cons e' r
def compK : Nat → CC → List Keyword → Option IL
  | 0, _, _ => none
  | n + 1, _, [] => some .nil
  | n + 1, c, ⟨_, e, _⟩ :: es => (compE n c e).bind fun e' => (compK n c es).map fun r => .cons e' r
def compP : Nat → CC → Option Expr → Option IP
  | 0, _, _ => none
  | n + 1, _, none => some .no
  | n + 1, c, some e => (compE n c e).map .so
def compI : Nat → CC → Bool → Expr → Option II
  | 0, _, _, _ => none
  | n + 1, c, tup, e => match e with
    | .Call (.Name f _) args [] _ => if glB c.sc f = true ∧ fnIx f c.fns 0 = none ∧ args.all notStar = true ∧ (f = ("range" : Str) ∨ f = ("zip" : Str) ∨ f = ("enumerate" : Str)) then
        (if f = ("range" : Str) ∧ args.length = 1 then (compL n c args).map .r1 else if f = ("range" : Str) ∧ args.length = 2 then (compL n c args).map .r2 else if f = ("zip" : Str) ∧ tup = true ∧ args.length = 2 then (compL n c args).map .zp else if f = ("enumerate" : Str) ∧ tup = true ∧ args.length = 1 then (compL n c args).map .en else none)
        else (compE n c e).map .val
    | e => (compE n c e).map .val
end
/-- how a, b = x, y is stored: some (the swapped ones), none (in order) -/
def parC (c : CC) (ts vs : List Expr) : Bool :=
  (ts.length == 2 || ts.length == 3) && vs.length == ts.length && !(vs.any fun | .Starred .. => true | _ => false)
mutual
def compS : Nat → CC → Stmt → Option IS
  | 0, _, _ => none
  | n + 1, c, st => match st with
    | .Assign [.Name x _] e _ => (slotW c x).bind fun i => (compE n c e).map fun e' => .set i e'
    | .Assign [.Tuple ts kt pt] (.Tuple es k2 p2) _ => (namesW c ts).bind fun is => if is.Nodup ∧ is.length ≤ 10 ∧ es.all notStar = true ∧ (¬ (es.all (foldedForSure 8) = true)  → es.all (constantsAlone 8) = false) then (compL n c es).map fun es' => .par is es' else none
    | .Assign [.Tuple ts kt pt] e _ => if isTup e = false ∧ notStar e = true then (namesW c ts).bind fun is => (compE n c e).map fun e' => .asg is e' else none
    | .Assign [.Subscript (.Name x _) i _] v _ => if notSlice i = true then (slot c x).bind fun k => (compE n c i).bind fun i' => (compE n c v).map fun v' => .six k i' v' else none
    | .AugAssign (.Name x _) op e _ => (slotW c x).bind fun i => (match op with | .Add => some 0 | .Sub => some 1 | _ => none).bind fun k => (compE n c e).map fun e' => .aug k i e'
    | .Return (some e) _ => (compE n c e).map .ret
    | .Expr e _ => if isCall e = true then (compE n c e).map .ex else none
    | .Pass _ => some .pass
    | .Break _ => some .brk
    | .Continue _ => some .cont
    | .If t a b _ => if notIf t = true then (compE n c t).bind fun t' => (compSs n c a).bind fun a' => (compSs n c b).map fun b' => .ite t' a' b' else none
    | .For tg iter body [] _ => if notSet iter = true then (compI n c (isTup tg) iter).bind fun it => (tgC c tg).bind fun t => (compSs n c body).map fun b => .fo it t.1 t.2 b else none
    | .While t body [] _ => if notIf t = true then (compE n c t).bind fun t' => (compSs n c body).map fun b => .wh t' b else none
    | _ => none
def compSs : Nat → CC → List Stmt → Option IB
  | 0, _, _ => none
  | n + 1, _, [] => some .nil
  | n + 1, c, s :: r => (compS n c s).bind fun s' => (compSs n c r).map fun r' => .cons s' r'
end
end DL

set_option Elab.async false
set_option linter.all false
set_option maxRecDepth 100000
set_option maxHeartbeats 2000000
set_option autoImplicit false
/-! DL, part o: the small language tells what the text does. -/
namespace DL
open PySem L2 PySem.Spec

theorem ixOf_some {x : Str} : ∀ {N : List Str} {n i : Nat}, ixOf x N n = some i → ∃ j, i = n + j ∧ N[j]? = some x
  | [], n, i, h => by cases h
  | y :: r, n, i, h => by
    unfold ixOf at h
    split at h
    · rename_i e
      cases h
      exact ⟨0, rfl, by rw [e]; rfl⟩
    · obtain ⟨j, e1, e2⟩ := ixOf_some h
      exact ⟨j + 1, by omega, by simpa using e2⟩
theorem ixOf_get {x : Str} {N : List Str} {i : Nat} (h : ixOf x N 0 = some i) : N[i]? = some x := by
  obtain ⟨j, e1, e2⟩ := ixOf_some h
  rw [e1, Nat.zero_add]; exact e2
theorem visB_ok {sc : Scope} {x : Str} (h : visB sc x = true) : Vis sc x := by
  unfold visB at h
  split at h
  · exact .inl (by assumption)
  · exact .inr (.inl (by assumption))
  · exact .inr (.inr (by assumption))
  · cases h
theorem okName_ok {x : Str} (h : okName x = true) : (x == ("__debug__" : Str)) = false ∧ (x == ("__classdict__" : Str)) = false := by
  unfold okName at h
  simp only [Bool.and_eq_true, Bool.not_eq_true'] at h
  exact h
theorem slot_ok {c : CC} {x : Str} {i : Nat} (h : slot c x = some i) : c.N[i]? = some x ∧ Vis c.sc x ∧ (x == ("__debug__" : Str)) = false ∧ (x == ("__classdict__" : Str)) = false := by
  unfold slot at h
  split at h
  · rename_i q
    rw [Bool.and_eq_true] at q
    exact ⟨ixOf_get h, visB_ok q.1, okName_ok q.2⟩
  · cases h
theorem slotW_ok {c : CC} {x : Str} {i : Nat} (h : slotW c x = some i) : c.N[i]? = some x ∧ Loc c.sc x ∧ (c.fn x = true ∨ c.sc.names.lookup x = some .local) := by
  unfold slotW at h
  split at h
  · rename_i q
    exact ⟨ixOf_get h, .inl q, .inr q⟩
  · rename_i q
    split at h
    · rename_i q2
      exact ⟨ixOf_get h, .inr q, .inl q2⟩
    · cases h
  · cases h
theorem glB_ok {sc : Scope} {x : Str} (h : glB sc x = true) : sc.names.lookup x = some .globalImplicit := by
  unfold glB at h
  split at h
  · assumption
  · cases h

/-- the keywords' values in the parameters' order -/
def kG {α : Type} (ks : List Str) (ix : List Nat) (us ws : List α) : List α := if us.isEmpty && ws.length == ks.length then reord ix ws else []
structure Good (fe : FE) (scr : Addr × List Int) (k : Nat) (X : Cx) (c : CC) : Prop where
  N : X.N = c.N
  nd : X.N.Nodup
  sc : X.env.scope = c.sc
  fn : X.fn = c.fn
  calm : X.calm = true
  room : Room k X.A
  quiet : Calm X.A
  bl : Bl X.mg
  top : c.top = true → ScrOk X.K X.H_0 scr
  fns : ∀ (f : Str) (j : Nat) (i : FnInfo), fnIx f c.fns 0 = some (j, i) → ∃ (fa : Addr) (fd : FuncData), FnG X.prog X.w X.K X.mg X.base CX0 k fa fd i.ps (spF X.K scr i.need i.ps.length (fe j)) ∧ i.n = i.ps.length ∧ X.mg f = some (.ref fa) ∧ PySem.W.keepIn X.K (.ref fa) = true ∧ Binds X.K fd i.ps [] ∧
    ∀ ks ∈ i.kws, ∀ ix, kwIx i.ps ks = some ix → KBinds X.K fd i.ps ks (kG ks ix) (kG ks ix)
section
variable {fe : FE} {scr : Addr × List Int} {k : Nat} {X : Cx} {c : CC}
theorem Good.blk (g : Good fe scr k X c) (scope : Scope) : Blk X scope fun Y => Good fe scr k Y (c.blk scope) := fun s H C cl fp =>
  { N := g.N, nd := g.nd, sc := (by show relS scope X.env.scope = relS scope c.sc; rw [g.sc]), fn := rfl, calm := g.calm, room := g.room, quiet := g.quiet, bl := g.bl, top := (fun h => by cases h), fns := g.fns }
theorem Good.gl (g : Good fe scr k X c) {x : Str} (h : glB c.sc x = true) : Gl X x := by
  show X.env.scope.names.lookup x = _
  rw [g.sc]; exact glB_ok h
theorem Good.name (g : Good fe scr k X c) {x : Str} {i : Nat} (h : slot c x = some i) : X.N[i]? = some x ∧ Vis X.env.scope x ∧ (x == ("__debug__" : Str)) = false ∧ (x == ("__classdict__" : Str)) = false := by
  rw [g.N, g.sc]; exact slot_ok h
theorem Good.nameW (g : Good fe scr k X c) {x : Str} {i : Nat} (h : slotW c x = some i) : X.N[i]? = some x ∧ Loc X.env.scope x ∧ (X.fn x = true ∨ X.env.scope.names.lookup x = some .local) := by
  rw [g.N, g.sc, g.fn]; exact slotW_ok h
end
theorem star_ns {e : Expr} {es : List Expr} {env : Env} (h : notStar e = true) : starEach (e :: es) env = (false, eval e env) :: starEach es env := by
  cases e <;> first | rfl | cases h
theorem any_ns {pos : Pos} {env : Env} : ∀ {es : List Expr}, es.all notStar = true → (backTo pos (starEach es env)).any (·.1) = false
  | [], _ => rfl
  | e :: es, h => by
    rw [List.all_cons, Bool.and_eq_true] at h
    rw [star_ns h.1]
    exact any_ns h.2
theorem all_ns {pos : Pos} {env : Env} : ∀ {es : List Expr}, es.all notStar = true → (backTo pos (starEach es env)).all (fun x => !x.1) = true
  | [], _ => rfl
  | e :: es, h => by
    rw [List.all_cons, Bool.and_eq_true] at h
    rw [star_ns h.1]
    exact all_ns h.2
theorem set_ns {e : Expr} (h : notSet e = true) (env : Env) (x : Value) : foldedSetIterable e env x = pure x := by
  cases e <;> first | rfl | cases h
theorem mark_ns {e : Expr} (h : notSet e = true) (op : CmpOp) : behindInMarks op e = false := by
  cases e <;> first | rfl | cases h
theorem ix_ns {e : Expr} (h : notSlice e = true) : PlainIx e := fun o i => by
  cases e <;> first | rfl | cases h
theorem pt_none {X : Cx} {e : Expr} : PT X e (tT fun _ => none) := ⟨fun pins s σ H Q I ⟨Z, s0, o, s', R, e, q⟩ => by cases e⟩
theorem pe_none {X : Cx} {e : Expr} : PE X e (tO fun _ => none) := ⟨fun pins s σ H Q I ⟨Z, s0, o, s', R, e, q⟩ => by cases e⟩

/-! the orders of keywords -/
theorem RelOs.get {P Z H : Hp} {σ : St} {s : S} : ∀ {vs : List V} {os : List O} {i : Nat} {v : V} {o : O}, RelOs P Z H σ s vs os → vs[i]? = some v → os[i]? = some o → RelO P Z H σ s v o
  | _, _, 0, _, _, .cons a _ _, h1, h2 => by simp at h1 h2; subst h1; subst h2; exact a
  | _, _, i + 1, _, _, .cons _ b _, h1, h2 => b.get (i := i) (by simpa using h1) (by simpa using h2)
  | _, _, _, _, _, .nil, h1, _ => by simp at h1
theorem newIn_get {w : V} : ∀ {vs : List V} {os : List O} {j : Nat} {ds : List D}, vs[j]? = some w → os[j]? = some (.new ds) → NewIn w vs os
  | v :: vs, o :: os, 0, ds, h1, h2 => by simp at h1 h2; subst h1; subst h2; exact .here
  | v :: vs, o :: os, j + 1, ds, h1, h2 => .there (newIn_get (j := j) (by simpa using h1) (by simpa using h2))
  | [], _, _, _, h1, _ => by simp at h1
  | _ :: _, [], _, _, _, h2 => by simp at h2
theorem RelOs.apart {P Z H : Hp} {σ : St} {s : S} : ∀ {vs : List V} {os : List O} {i j : Nat} {v w : V} {ds es : List D}, RelOs P Z H σ s vs os → i < j → vs[i]? = some v → os[i]? = some (.new ds) → vs[j]? = some w → os[j]? = some (.new es) → v ≠ w
  | _, _, 0, j + 1, v, w, ds, es, .cons a b c, _, h1, h2, h3, h4 => fun e => by
    simp at h1 h2
    subst h1 h2 e
    exact c ds rfl (newIn_get (j := j) (by simpa using h3) (by simpa using h4))
  | _, _, i + 1, j + 1, v, w, ds, es, .cons a b c, hl, h1, h2, h3, h4 => b.apart (i := i) (j := j) (by omega) (by simpa using h1) (by simpa using h2) (by simpa using h3) (by simpa using h4)
  | _, _, _, 0, _, _, _, _, _, hl, _, _, _, _ => by omega
  | _, _, _, _, _, _, _, _, .nil, _, h1, _, _, _ => by simp at h1
theorem newIn_reord {w : V} {vs : List V} {os : List O} (hl : vs.length = os.length) : ∀ {ix : List Nat}, NewIn w (reord ix vs) (reord ix os) → ∃ j ds, j ∈ ix ∧ vs[j]? = some w ∧ os[j]? = some (.new ds)
  | [], h => by cases h
  | i :: ix, h => by
    unfold reord at h
    by_cases hi : i < vs.length
    · have e1 : vs[i]? = some vs[i] := List.getElem?_eq_getElem hi
      have e2 : os[i]? = some (os[i]'(by omega)) := List.getElem?_eq_getElem (by omega)
      rw [List.filterMap_cons, List.filterMap_cons, e1, e2] at h
      generalize hv : vs[i] = v at h e1
      generalize ho : os[i]'(by omega) = o at h e2
      cases h with
      | here => exact ⟨i, _, List.mem_cons_self, e1, e2⟩
      | there h =>
        obtain ⟨j, ds, a, b, d⟩ := newIn_reord hl (ix := ix) h
        exact ⟨j, ds, List.mem_cons_of_mem _ a, b, d⟩
    · rw [List.filterMap_cons, List.filterMap_cons, List.getElem?_eq_none (by omega), List.getElem?_eq_none (by omega)] at h
      obtain ⟨j, ds, a, b, d⟩ := newIn_reord hl (ix := ix) h
      exact ⟨j, ds, List.mem_cons_of_mem _ a, b, d⟩
theorem RelOs.reord {P Z H : Hp} {σ : St} {s : S} {vs : List V} {os : List O} (r : RelOs P Z H σ s vs os) : ∀ {ix : List Nat}, ix.Nodup → RelOs P Z H σ s (DL.reord ix vs) (DL.reord ix os)
  | [], _ => .nil
  | i :: ix, hn => by
    have hl := r.len
    obtain ⟨hn1, hn2⟩ := List.nodup_cons.mp hn
    have ih := RelOs.reord r hn2
    unfold DL.reord at ih ⊢
    by_cases hi : i < vs.length
    · have e1 : vs[i]? = some vs[i] := List.getElem?_eq_getElem hi
      have e2 : os[i]? = some (os[i]'(by omega)) := List.getElem?_eq_getElem (by omega)
      rw [List.filterMap_cons, List.filterMap_cons, e1, e2]
      generalize hv : vs[i] = v at e1 ⊢
      generalize ho : os[i]'(by omega) = o at e2 ⊢
      refine .cons (r.get e1 e2) ih fun ds eo n => ?_
      obtain ⟨j, es, a, b, d⟩ := newIn_reord hl (ix := ix) n
      rw [eo] at e2
      rcases Nat.lt_trichotomy i j with z | z | z
      · exact r.apart z e1 e2 b d rfl
      · subst z; exact hn1 a
      · exact r.apart z b d e1 e2 rfl
    · rw [List.filterMap_cons, List.filterMap_cons, List.getElem?_eq_none (by omega), List.getElem?_eq_none (by omega)]
      exact ih
section
variable {X : Cx} {k : Nat} {f : Addr} {fd : FuncData} {ps ks : List Str} {c : Addr × List Int} {need : Bool} {fF : F} {m : Option Nat} {x : Str} {p pos : Pos} {fa : M (List O)} {kws : List Keyword} {ix : List Nat}
theorem _root_.L2.PK.wk {X : Cx} {e : List Keyword} {t t' : TA} (h : PK X e t) (i : ∀ σ H Q, t' σ H Q → t σ H Q) : PK X e t' := ⟨fun pos pins s σ H Q I q => h.run pos pins s σ H Q I (i σ H Q q)⟩
theorem ek_nil : PK X [] (tA nilA) := pk_nil.wk fun σ H Q ⟨Z, s, os, s', R, e, q⟩ => by
  cases e
  exact q [] Z H (.refl R) .nil
theorem ek_cons {e : Expr} {nm : Option Str} {kpos : Pos} {f : M O} {r : M (List O)} (ha : PE X e (tO f)) (hr : PK X kws (tA r)) : PK X (⟨nm, e, kpos⟩ :: kws) (tA (consA f r)) :=
  (pk_cons ha hr).wk fun σ H Q ⟨Z, s, os, s', R, e, q⟩ => by
  obtain ⟨o, s1, e1, e⟩ := bindM_some.mp e
  obtain ⟨os', s2, e2, e⟩ := bindM_some.mp e
  cases e
  refine ⟨Z, s, o, s1, R, e1, fun x Z1 H1 st1 r1 => ⟨Z1, s1, os', s', st1.rep, e2, fun xs Z2 H2 st2 r2 => q _ Z2 H2 (st1.trans st2) (.cons (r1.step st2) (r2.pre st1.tr.live) fun ds eo n => ?_)⟩⟩
  subst eo
  obtain ⟨a, vs, rfl, h1, _⟩ := r1
  obtain ⟨b, eb, hb⟩ := r2.fresh n
  cases eb
  rw [h1] at hb; cases hb
theorem kw_all : ∀ {kws : List Keyword} {ks : List Str}, kwNames kws = some ks → ∀ (pos : Pos) (env : Env), (backToKw pos (keywordEach kws env)).all (·.1.isSome) = true ∧ (backToKw pos (keywordEach kws env)).filterMap (·.1) = ks ∧ (backToKw pos (keywordEach kws env)).any (·.1.isNone) = false
  | [], ks, h, pos, env => by cases h; exact ⟨rfl, rfl, rfl⟩
  | ⟨some n, e, p⟩ :: r, ks, h, pos, env => by
    unfold kwNames at h
    obtain ⟨ks', h1, rfl⟩ := Option.map_eq_some_iff.mp h
    obtain ⟨a, b, d⟩ := kw_all h1 pos env
    refine ⟨a, ?_, d⟩
    show n :: (backToKw pos (keywordEach r env)).filterMap (·.1) = n :: ks'
    rw [b]
  | ⟨none, e, p⟩ :: r, ks, h, pos, env => by cases h
theorem eo_callK (G : FnG X.prog X.w X.K X.mg X.base CX0 k f fd ps (spF X.K c need ps.length fF)) (hr : Room k X.A) (hq : Calm X.A) (hg : Gl X x) (hm : X.mg x = some (.ref f)) (hk : PySem.W.keepIn X.K (.ref f) = true) (hb : KBinds X.K fd ps ks (kG ks ix) (kG ks ix))
    (scr : need = true → ScrOk X.K X.H_0 c) (hkw : PK X kws (tA fa)) (hks : kwNames kws = some ks) (hix : ix.Nodup) (hlen : ks.length = ps.length) (hne : ix.length = ps.length) (hdb : (x == ("__debug__" : Str)) = false) :
    PE X (.Call (.Name x p) [] kws pos) (tO (callD ps.length fF m (tKw fa ix))) := ⟨fun pins s σ H Q I h => by
  obtain ⟨a1, a2, a3⟩ := kw_all hks pos X.env
  have h2 : tA fa σ H fun zs H1 => (need = true → ScrOk X.K H1 c) → spF X.K c need ps.length fF (kG ks ix [] zs) H1 Q E0 := by
    obtain ⟨Z, s0, o, s', R, e, q⟩ := h
    obtain ⟨os, s1, e1, e⟩ := bindM_some.mp e
    obtain ⟨os0, s2, e2, e3⟩ := bindM_some.mp e1
    split at e3
    case isFalse => cases e3
    rename_i hlo
    cases e3
    refine ⟨Z, s0, os0, s1, R, e2, fun vs Z1 H1 st r sc => ?_⟩
    have q1 := callB_ok (K := X.K) (c := c) (need := need) (n := ps.length) (E := E0) sc st (r.reord hix) e q
    have hl : vs.length = ks.length := by rw [r.len, hlo, hne, hlen]
    have eq : kG ks ix [] vs = reord ix vs := by
      unfold kG
      rw [hl]
      simp
    rw [eq]
    exact q1
  refine wpAny_Call_Name_kw (ld_glob I hg hm (PySem.W.callWith_KW0 (h₀ := X.base) I.ok.mod.kin hk a1 ?_ a3) hdb)
  refine thn (hkw.run pos pins s σ H _ I h2) fun ws s2 ⟨zs, H2, J, rz, q2⟩ => ⟨J.kIn, ?_⟩
  rw [a2]
  exact go_fnk (us := []) (vs := []) G hr hq hb pass0 J .nil rz (q2 fun z => (scr z).inv J)⟩
end
end DL

set_option Elab.async false
set_option linter.all false
set_option maxRecDepth 100000
set_option maxHeartbeats 4000000
set_option autoImplicit false
/-! DL, part p: expressions. -/
namespace DL
open PySem L2 PySem.Spec
section
variable (fe : FE) (scr : Addr × List Int) (k : Nat)
def SE (n : Nat) : Prop := ∀ (X : Cx) (c : CC) (e : Expr) (t : IE), Good fe scr k X c → compE n c e = some t → PE X e (tO (semE fe scr t)) ∧ (notIf e = true → PT X e (tT (semT fe scr t)))
def SB (n : Nat) : Prop := ∀ (X : Cx) (c : CC) (f : Str) (args : List Expr) (p pos : Pos) (t : IE), Good fe scr k X c → glB c.sc f = true → compB n c f args = some t → PE X (.Call (.Name f p) args [] pos) (tO (semE fe scr t)) ∧ semT fe scr t = test (semE fe scr t)
def SVl (n : Nat) : Prop := ∀ (X : Cx) (c : CC) (op : BoolOp) (vs : List Expr) (pos : Pos) (t : IE), Good fe scr k X c → compV n c op vs = some t → PE X (.BoolOp op vs pos) (tO (semE fe scr t)) ∧ (vs.all notIf = true → PW X (.BoolOp op vs pos) (tT (semT fe scr t)))
def SLl (n : Nat) : Prop := ∀ (X : Cx) (c : CC) (es : List Expr) (t : IL), Good fe scr k X c → compL n c es = some t → PA X es (tA (semL fe scr t))
def SK (n : Nat) : Prop := ∀ (X : Cx) (c : CC) (es : List Keyword) (t : IL), Good fe scr k X c → compK n c es = some t → PK X es (tA (semL fe scr t))
def SP (n : Nat) : Prop := ∀ (X : Cx) (c : CC) (e : Option Expr) (t : IP), Good fe scr k X c → compP n c e = some t → PO X e (tPO (semP fe scr t))
def SI (n : Nat) : Prop := ∀ (X : Cx) (c : CC) (tg e : Expr) (t : II), Good fe scr k X c → compI n c (isTup tg) e = some t → PI X tg e (tI (semI fe scr t))
def SC (n : Nat) : Prop := ∀ (X : Cx) (c : CC) (es : List Expr) (t : IL), Good fe scr k X c → es.all notIf = true → es.length ≤ 1 → compL n c es = some t → PTs X es (tT (semC fe scr t))
variable {fe : FE} {scr : Addr × List Int} {k : Nat}
theorem names_ok {X : Cx} {c : CC} (g : Good fe scr k X c) : ∀ {ts : List Expr} {is : List Nat}, namesW c ts = some is → PGs X ts (tGs is (putNs is)) ∧ PGs X ts (gNames is) ∧ (assignEach ts X.env).length = is.length ∧ (assignEach ts X.env).findIdx? (·.1) = none
  | [], is, h => by
    cases h
    exact ⟨egs_nil, pgs_nil, rfl, rfl⟩
  | t :: ts, is, h => by
    unfold namesW at h
    split at h
    · rename_i heq; cases heq
    · rename_i x p r heq
      cases heq
      obtain ⟨i, h1, h⟩ := Option.bind_eq_some_iff.mp h
      obtain ⟨is', h2, rfl⟩ := Option.map_eq_some_iff.mp h
      obtain ⟨a1, a2, a3⟩ := g.nameW h1
      obtain ⟨b1, b2, b3, b4⟩ := names_ok g h2
      refine ⟨egs_cons (eg_name g.nd a1 a2 a3) b1, pgs_cons (pg_name g.nd a1 a2 a3) b2, ?_, ?_⟩
      · show (assignEach ts X.env).length + 1 = is'.length + 1
        rw [b3]
      · show List.findIdx? (·.1) ((false, _) :: assignEach ts X.env) = none
        rw [List.findIdx?_cons, b4]
        rfl
    · cases h
theorem tg_ok {X : Cx} {c : CC} (g : Good fe scr k X c) {tg : Expr} {t : List Nat × Bool} (h : tgC c tg = some t) : PG X tg (tG t.1 (putTg t.1 t.2)) := by
  unfold tgC at h
  split at h
  · obtain ⟨i, h1, rfl⟩ := Option.map_eq_some_iff.mp h
    obtain ⟨a1, a2, a3⟩ := g.nameW h1
    exact eg_name g.nd a1 a2 a3
  · obtain ⟨is, h1, rfl⟩ := Option.map_eq_some_iff.mp h
    obtain ⟨b1, b2, b3, b4⟩ := names_ok g h1
    exact eg_tup g.calm b1 b3 b4
  · cases h
theorem fnIx_some {f : Str} : ∀ {l : List (Str × FnInfo)} {n j : Nat} {i : FnInfo}, fnIx f l n = some (j, i) → True := fun _ => trivial
theorem len1 {α : Type} {l : List α} (h : l.length = 1) : ∃ a, l = [a] := by
  match l, h with
  | [a], _ => exact ⟨a, rfl⟩
theorem len2 {α : Type} {l : List α} (h : l.length = 2) : ∃ a b, l = [a, b] := by
  match l, h with
  | [a, b], _ => exact ⟨a, b, rfl⟩
theorem kwIx_len {ks : List Str} : ∀ {ps : List Str} {ix : List Nat}, kwIx ps ks = some ix → ix.length = ps.length
  | [], ix, h => by cases h; rfl
  | p :: ps, ix, h => by
    unfold kwIx at h
    obtain ⟨i, h1, h⟩ := Option.bind_eq_some_iff.mp h
    obtain ⟨ix', h2, rfl⟩ := Option.map_eq_some_iff.mp h
    rw [List.length_cons, List.length_cons, kwIx_len h2]
theorem blE_ok {n : Nat} (ihL : SLl fe scr k n) : SB fe scr k (n + 1) := fun X c f args p pos t g gl h => by
  unfold compB at h
  obtain ⟨j, h1, h⟩ := Option.bind_eq_some_iff.mp h
  split at h
  case isFalse => cases h
  rename_i hh
  obtain ⟨es, h2, rfl⟩ := Option.map_eq_some_iff.mp h
  have pa := ihL X c args es g h2
  have gx := g.gl gl
  match args, hh with
  | [], hh => cases hh.2
  | e :: r, hh =>
    have hs := hh.1
    rw [List.all_cons, Bool.and_eq_true] at hs
    have he : starEach (e :: r) X.env = (false, eval e X.env) :: starEach r X.env := star_ns hs.1
    have hp : (backTo pos (starEach r X.env)).any (·.1) = false := any_ns hs.2
    unfold blC at h1
    by_cases ef : f = ("len" : Str)
    · rw [if_pos ef] at h1; cases h1; subst ef; exact ⟨eo_len g.bl pa gx he hp, rfl⟩
    rw [if_neg ef] at h1; clear ef
    by_cases ef : f = ("abs" : Str)
    · rw [if_pos ef] at h1; cases h1; subst ef; exact ⟨eo_abs g.bl pa gx he hp, rfl⟩
    rw [if_neg ef] at h1; clear ef
    by_cases ef : f = ("int" : Str)
    · rw [if_pos ef] at h1; cases h1; subst ef; exact ⟨eo_intC g.bl pa gx he hp, rfl⟩
    rw [if_neg ef] at h1; clear ef
    by_cases ef : f = ("str" : Str)
    · rw [if_pos ef] at h1; cases h1; subst ef; exact ⟨eo_strC g.bl pa gx he hp, rfl⟩
    rw [if_neg ef] at h1; clear ef
    by_cases ef : f = ("sum" : Str)
    · rw [if_pos ef] at h1; cases h1; subst ef; exact ⟨eo_sum g.calm g.bl pa gx he hp, rfl⟩
    rw [if_neg ef] at h1; clear ef
    by_cases ef : f = ("min" : Str)
    · rw [if_pos ef] at h1; cases h1; subst ef; exact ⟨eo_min g.calm g.bl pa gx he hp, rfl⟩
    rw [if_neg ef] at h1; clear ef
    by_cases ef : f = ("max" : Str)
    · rw [if_pos ef] at h1; cases h1; subst ef; exact ⟨eo_max g.calm g.bl pa gx he hp, rfl⟩
    rw [if_neg ef] at h1; clear ef
    by_cases ef : f = ("all" : Str)
    · rw [if_pos ef] at h1; cases h1; subst ef; exact ⟨eo_all g.calm g.bl pa gx he hp, rfl⟩
    rw [if_neg ef] at h1; clear ef
    by_cases ef : f = ("any" : Str)
    · rw [if_pos ef] at h1; cases h1; subst ef; exact ⟨eo_any g.calm g.bl pa gx he hp, rfl⟩
    rw [if_neg ef] at h1; clear ef
    by_cases ef : f = ("sorted" : Str)
    · rw [if_pos ef] at h1; cases h1; subst ef; exact ⟨eo_sorted g.bl pa gx he hp, rfl⟩
    rw [if_neg ef] at h1; clear ef
    by_cases ef : f = ("list" : Str)
    · rw [if_pos ef] at h1; cases h1; subst ef; exact ⟨eo_listC g.bl pa gx he hp, rfl⟩
    rw [if_neg ef] at h1; clear ef
    by_cases ef : f = ("tuple" : Str)
    · rw [if_pos ef] at h1; cases h1; subst ef; exact ⟨eo_tupleC g.bl pa gx he hp, rfl⟩
    rw [if_neg ef] at h1; clear ef
    by_cases ef : f = ("repr" : Str)
    · rw [if_pos ef] at h1; cases h1; subst ef; exact ⟨eo_repr g.room g.quiet g.bl pa gx he hp, rfl⟩
    rw [if_neg ef] at h1; clear ef
    cases h1
end
end DL

set_option Elab.async false
set_option linter.all false
set_option maxRecDepth 100000
set_option maxHeartbeats 4000000
set_option autoImplicit false
/-! DL, part q: expressions, the step. -/
namespace DL
open PySem L2 PySem.Spec
section
variable {fe : FE} {scr : Addr × List Int} {k n : Nat}
theorem fun_step (ihL : SLl fe scr k n) (ihK : SK fe scr k n) {X : Cx} {c : CC} (g : Good fe scr k X c) {f : Str} {args : List Expr} {kws : List Keyword} {p pos : Pos} {t : IE} {j : Nat} {i : FnInfo} (hgl : (glB c.sc f && okName f) = true) (hf : fnIx f c.fns 0 = some (j, i))
    (h : (if i.need = true ∧ c.top = false then none else (match kws with
          | [] => if args.all notStar = true then (compL n c args).map fun es => IE.cl j i.n i.io es else none
          | kw :: kr => if args.isEmpty = true then (kwNames (kw :: kr)).bind fun ks => (kwIx i.ps ks).bind fun ix => if ks.length = i.ps.length ∧ i.kws.contains ks = true ∧ ix.Nodup ∧ i.ps.length ≠ 0 then (compK n c (kw :: kr)).map fun es => IE.ck j i.n i.io ix es else none else none)) = some t) :
    PE X (.Call (.Name f p) args kws pos) (tO (semE fe scr t)) ∧ semT fe scr t = test (semE fe scr t) := by
  rw [Bool.and_eq_true] at hgl
  have gx := g.gl hgl.1
  have dbg := (okName_ok hgl.2).1
  obtain ⟨fa, fd, G, hn, hm, hk, hb, hkb⟩ := g.fns f j i hf
  split at h
  case isTrue => cases h
  rename_i hneed
  have sc : i.need = true → ScrOk X.K X.H_0 scr := fun z => g.top (by
    cases ht : c.top with
    | true => rfl
    | false => exact absurd ⟨z, ht⟩ hneed)
  cases kws with
  | nil =>
    dsimp only at h
    split at h
    case isFalse => cases h
    rename_i hs
    obtain ⟨es, h2, rfl⟩ := Option.map_eq_some_iff.mp h
    have pa := ihL X c args es g h2
    refine ⟨?_, rfl⟩
    show PE X _ (tO (callD i.n (fe j) i.io (semL fe scr es)))
    rw [hn]
    cases args with
    | nil =>
      have hes : es = .nil := by
        cases n with
        | zero => cases h2
        | succ n => cases h2; rfl
      subst hes
      exact eo_call0 G g.room g.quiet gx hm hk hb sc dbg
    | cons e r =>
      rw [List.all_cons, Bool.and_eq_true] at hs
      exact eo_call G g.room g.quiet gx hm hk hb sc pa dbg (star_ns hs.1) (any_ns hs.2)
  | cons kw kr =>
    dsimp only at h
    split at h
    case isFalse => cases h
    rename_i hs
    obtain ⟨ks, h2, h⟩ := Option.bind_eq_some_iff.mp h
    obtain ⟨ix, h3, h⟩ := Option.bind_eq_some_iff.mp h
    split at h
    case isFalse => cases h
    rename_i hc
    obtain ⟨es, h4, rfl⟩ := Option.map_eq_some_iff.mp h
    have pk := ihK X c (kw :: kr) es g h4
    have ha : args = [] := List.isEmpty_iff.mp hs
    subst ha
    refine ⟨?_, rfl⟩
    show PE X _ (tO (callD i.n (fe j) i.io (tKw (semL fe scr es) ix)))
    rw [hn]
    exact eo_callK G g.room g.quiet gx hm hk (hkb ks (by simpa using hc.2.1) ix h3) sc pk h2 hc.2.2.1 hc.1 (kwIx_len h3) dbg
theorem eo_mutA {X : Cx} {e : Expr} {pos : Pos} {i : Nat} {x : Str} {px apos : Pos} {id : String} {m : Str} {r : V → List V → Hp → VK → Prop} {u : List D → List D → Option (D × List D)} {fa : M (List O)} (slot : Slot "list" m id) (hty : typeOf (.builtin id) = pure (.type "method_descriptor")) (hm : MtR X id r) (ok : OkMut r u) (ha : PA X [e] (tA fa))
    (hN : X.N[i]? = some x) (hv : Vis X.env.scope x) (hd : (x == ("__debug__" : Str)) = false) (hcd : (x == ("__classdict__" : Str)) = false) (h1 : starEach [e] X.env = (false, eval e X.env) :: starEach [] X.env)
    (hbase : attributeBase (.Name x px) m X.env (eval (.Name x px) X.env) = eval (.Name x px) X.env)
    (hfew : ((backTo pos (starEach [e] X.env)).all (fun x => !x.1) && (backToKw pos (keywordEach [] X.env)).all (fun x => x.1.isSome) && decide (([e] : List Expr).length + ([] : List Keyword).length + (if ([] : List Keyword).isEmpty then 0 else 1) < 30)) = true) (hline : (apos.endLine == pos.line) = true) :
    PE X (.Call (.Attribute (.Name x px) m apos) [e] [] pos) (tO (mutD i u fa)) :=
  (pe_bm PySem.F.plainAttrs_list slot hty hm (pe_var hN hv hd hcd) ha hbase hfew hline h1 rfl).wk fun σ H Q h => mut_ok ok h
theorem meth_step (ihE : SE fe scr k n) (ihL : SLl fe scr k n) {X : Cx} {c : CC} (g : Good fe scr k X c) {x m : Str} {args : List Expr} {px apos pos : Pos} {t : IE}
    (h : (if (apos.endLine == pos.line) = true ∧ args.all notStar = true then (slot c x).bind fun i =>
        if m = ("index" : Str) then (match args with
          | [a] => (compE n c a).map fun a' => IE.ix (.nm i) a'
          | _ => none) else (muC m args.length).bind fun k => (compL n c args).map fun es => IE.mu k i es else none) = some t) :
    PE X (.Call (.Attribute (.Name x px) m apos) args [] pos) (tO (semE fe scr t)) ∧ semT fe scr t = test (semE fe scr t) := by
  by_cases hc : (apos.endLine == pos.line) = true ∧ args.all notStar = true
  case neg => rw [if_neg hc] at h; cases h
  rw [if_pos hc] at h
  obtain ⟨hl, hs⟩ := hc
  obtain ⟨i, h1, h2⟩ := Option.bind_eq_some_iff.mp h
  clear h
  obtain ⟨a1, a2, a3, a4⟩ := g.name h1
  by_cases em : m = ("index" : Str)
  · rw [if_pos em] at h2
    subst em
    match args, hs, h2 with
    | [a], hs, h2 =>
      obtain ⟨a', h3, rfl⟩ := Option.map_eq_some_iff.mp h2
      rw [List.all_cons, Bool.and_eq_true] at hs
      exact ⟨eo_index g.room (eo_var i a1 a2 a3 a4) (ihE X c a a' g h3).1 rfl (star_ns hs.1) (by rw [star_ns hs.1]; rfl) hl, rfl⟩
  · rw [if_neg em] at h2
    obtain ⟨j, h3, h4⟩ := Option.bind_eq_some_iff.mp h2
    obtain ⟨es, h5, rfl⟩ := Option.map_eq_some_iff.mp h4
    clear h2 h4
    have pa := ihL X c args es g h5
    have nil_ : args = [] → es = .nil := fun ea => by
      subst ea
      cases n with
      | zero => cases h5
      | succ n => cases h5; rfl
    unfold muC at h3
    by_cases e1 : m = ("append" : Str) ∧ args.length = 1
    · rw [if_pos e1] at h3
      cases h3
      obtain ⟨rfl, e1⟩ := e1
      obtain ⟨a, rfl⟩ := len1 e1
      rw [List.all_cons, Bool.and_eq_true] at hs
      exact ⟨eo_mutA PySem.F.slot_list_append PySem.F.type_list_append mt_append ok_app pa a1 a2 a3 a4 (star_ns hs.1) rfl (by rw [star_ns hs.1]; rfl) hl, rfl⟩
    rw [if_neg e1] at h3
    by_cases e2 : m = ("pop" : Str) ∧ args.length = 1
    · rw [if_pos e2] at h3
      cases h3
      obtain ⟨rfl, ee⟩ := e2
      obtain ⟨a, rfl⟩ := len1 ee
      rw [List.all_cons, Bool.and_eq_true] at hs
      exact ⟨eo_mutA PySem.F.slot_list_pop PySem.F.type_list_pop mt_popAt ok_pop pa a1 a2 a3 a4 (star_ns hs.1) rfl (by rw [star_ns hs.1]; rfl) hl, rfl⟩
    rw [if_neg e2] at h3
    by_cases e3 : m = ("pop" : Str) ∧ args.length = 0
    · rw [if_pos e3] at h3
      cases h3
      obtain ⟨rfl, ee⟩ := e3
      have ea := List.length_eq_zero_iff.mp ee
      subst ea
      have := nil_ rfl
      subst this
      exact ⟨eo_mut0 PySem.F.slot_list_pop PySem.F.type_list_pop mt_pop ok_pop0 a1 a2 a3 a4 rfl hl, rfl⟩
    rw [if_neg e3] at h3
    by_cases e4 : m = ("extend" : Str) ∧ args.length = 1
    · rw [if_pos e4] at h3
      cases h3
      obtain ⟨rfl, ee⟩ := e4
      obtain ⟨a, rfl⟩ := len1 ee
      rw [List.all_cons, Bool.and_eq_true] at hs
      exact ⟨eo_mutA PySem.F.slot_list_extend PySem.F.type_list_extend mt_extend ok_ext pa a1 a2 a3 a4 (star_ns hs.1) rfl (by rw [star_ns hs.1]; rfl) hl, rfl⟩
    rw [if_neg e4] at h3
    by_cases e5 : m = ("reverse" : Str) ∧ args.length = 0
    · rw [if_pos e5] at h3
      cases h3
      obtain ⟨rfl, ee⟩ := e5
      have ea := List.length_eq_zero_iff.mp ee
      subst ea
      have := nil_ rfl
      subst this
      exact ⟨eo_mut0 PySem.F.slot_list_reverse PySem.F.type_list_reverse mt_reverse ok_rev a1 a2 a3 a4 rfl hl, rfl⟩
    rw [if_neg e5] at h3
    cases h3
theorem lc_step (ihE : SE fe scr k n) (ihL : SLl fe scr k n) (ihI : SI fe scr k n) (ihC : SC fe scr k n) {X : Cx} {c : CC} (g : Good fe scr k X c) {elt tg iter : Expr} {ifs : List Expr} {scope : Scope} {t : IE}
    (h : (if blkC c.N c.sc scope (ownOf c.N scope) = true ∧ notSet iter = true ∧ ifs.all notIf = true ∧ ifs.length ≤ 1 then
        (compI n c (isTup tg) iter).bind fun it => (tgC (c.blk scope) tg).bind fun t => if (t.1.all fun j => ((ownOf c.N scope).map (·.2)).contains j) = true then (compL n (c.blk scope) ifs).bind fun cs => (compE n (c.blk scope) elt).map fun el => IE.lc it ((ownOf c.N scope).map (·.2)) t.1 t.2 cs el else none else none) = some t) :
    ∃ (own : List (Str × Nat)) (it : II) (tgs : List Nat) (tup : Bool) (cs : IL) (el : IE), t = .lc it (own.map (·.2)) tgs tup cs el ∧ PI X tg iter (tI (semI fe scr it)) ∧ BlkOk X.N X.env.scope scope own ∧ (∀ j ∈ tgs, j ∈ own.map (·.2)) ∧ Blk X scope (fun Y => PG Y tg (tG tgs (putTg tgs tup))) ∧
      Blk X scope (fun Y => PTs Y ifs (tT (semC fe scr cs))) ∧ Blk X scope (fun Y => PE Y elt (tO (semE fe scr el))) ∧ ∀ x, foldedSetIterable iter X.env x = pure x := by
  split at h
  case isFalse => cases h
  rename_i hc
  obtain ⟨it, h1, h2⟩ := Option.bind_eq_some_iff.mp h
  obtain ⟨tt, h3, h4⟩ := Option.bind_eq_some_iff.mp h2
  split at h4
  case isFalse => cases h4
  rename_i hj
  obtain ⟨cs, h5, h6⟩ := Option.bind_eq_some_iff.mp h4
  obtain ⟨el, h7, rfl⟩ := Option.map_eq_some_iff.mp h6
  refine ⟨ownOf c.N scope, it, tt.1, tt.2, cs, el, rfl, ihI X c tg iter it g h1, ?_, fun j hj' => ?_, fun s H C cl fp => tg_ok (g.blk scope s H C cl fp) h3, fun s H C cl fp => ihC _ _ ifs cs (g.blk scope s H C cl fp) hc.2.2.1 hc.2.2.2 h5, fun s H C cl fp => (ihE _ _ elt el (g.blk scope s H C cl fp) h7).1, set_ns hc.2.1 _⟩
  · rw [g.N, g.sc]
    exact blkOk_by hc.1
  · have := List.all_eq_true.mp hj j hj'
    simpa using this
theorem bin_ok {X : Cx} {a b : Expr} {fa fb : M O} {pos : Pos} {op : Operator} {j : Nat} (h : bin2C op = some j) (ea : PE X a (tO fa)) (eb : PE X b (tO fb)) : PE X (.BinOp a op b pos) (tO (bin2 (p2 j) fa fb)) := by
  cases op <;> cases h
  · exact eo_add ea eb
  · exact eo_sub ea eb
  · exact eo_mul ea eb
  · exact eo_mod ea eb
  · exact eo_pow ea eb
  · exact eo_fdiv ea eb
theorem cmp_ok {X : Cx} {a b : Expr} {fa fb : M O} {pos : Pos} {op : CmpOp} {j kk : Nat} (hr : Room kk X.A) (hs : notSet b = true) (h : cmpC op = some j) (ea : PE X a (tO fa)) (eb : PE X b (tO fb)) : PE X (.Compare a [op] [b] pos) (tO (bin2 (p2 j) fa fb)) ∧ PT X (.Compare a [op] [b] pos) (tT (test (bin2 (p2 j) fa fb))) := by
  cases op <;> cases h
  · exact ⟨eo_eq hr ea eb, et_eq hr ea eb⟩
  · exact ⟨eo_ne hr ea eb, et_ne hr ea eb⟩
  · exact ⟨eo_lt ea eb, et_lt ea eb⟩
  · exact ⟨eo_le ea eb, et_le ea eb⟩
  · exact ⟨eo_gt ea eb, et_gt ea eb⟩
  · exact ⟨eo_ge ea eb, et_ge ea eb⟩
  · exact ⟨eo_in hr ea eb (mark_ns hs _), et_in hr ea eb (mark_ns hs _)⟩
  · exact ⟨eo_notIn hr ea eb (mark_ns hs _), et_notIn hr ea eb (mark_ns hs _)⟩
theorem ch_ok {X : Cx} {a b d : Expr} {fa fb fd : M O} {pos : Pos} {op op' : CmpOp} {j l : Nat} (h : chC op = some j) (h' : chC op' = some l) (ea : PE X a (tO fa)) (eb : PE X b (tO fb)) (ed : PE X d (tO fd)) :
    PE X (.Compare a [op, op'] [b, d] pos) (tO (chainD (p2 j) (p2 l) fa fb fd)) ∧ PT X (.Compare a [op, op'] [b, d] pos) (tT (test (chainD (p2 j) (p2 l) fa fb fd))) := by
  cases op <;> cases h <;> cases op' <;> cases h'
  · exact ⟨eo_ltLt ea eb ed, et_ltLt ea eb ed⟩
  · exact ⟨eo_ltLe ea eb ed, et_ltLe ea eb ed⟩
  · exact ⟨eo_leLt ea eb ed, et_leLt ea eb ed⟩
  · exact ⟨eo_leLe ea eb ed, et_leLe ea eb ed⟩
theorem sl_step {X : Cx} {c : CC} (g : Good fe scr k X c) {x : Str} {px p2 pos : Pos} {lo hi : Option Expr} {i : Nat} {lo' hi' : IP} (h1 : slot c x = some i) (pl : PO X lo (tPO (semP fe scr lo'))) (ph : PO X hi (tPO (semP fe scr hi'))) :
    PE X (.Subscript (.Name x px) (.Slice lo hi none p2) pos) (tO (semE fe scr (if c.top = true then .ss i lo' hi' else .sl (.nm i) lo' hi'))) := by
  obtain ⟨a1, a2, a3, a4⟩ := g.name h1
  split
  · rename_i ht
    exact pe_or (fun s => isRaw s[i]?) (eo_scr (g.top ht) a1 a2 a3 a4 pl ph) (eo_slice (eo_var i a1 a2 a3 a4) pl ph)
  · exact eo_slice (eo_var i a1 a2 a3 a4) pl ph
theorem semT_sl {b : Bool} {i : Nat} {lo' hi' : IP} : semT fe scr (if b = true then .ss i lo' hi' else .sl (.nm i) lo' hi') = test (semE fe scr (if b = true then .ss i lo' hi' else .sl (.nm i) lo' hi')) := by cases b <;> rfl
theorem lrg1_step {X : Cx} {c : CC} (g : Good fe scr k X c) {f : Str} {a : Expr} {a' : IE} {p pos p' pos' : Pos} (hf : f = ("list" : Str) ∨ f = ("tuple" : Str)) (hl : glB c.sc f = true) (hg : glB c.sc ("range" : Str) = true) (hs : notStar a = true) (pa : PE X a (tO (semE fe scr a'))) :
    PE X (.Call (.Name f p) [.Call (.Name ("range" : Str) p') [a] [] pos'] [] pos) (tO (semE fe scr (.lrg (decide (f = ("tuple" : Str))) (.one a')))) := by
  have er := erg_1 (p := p') (pos := pos') g.bl pa (g.gl hg) (star_ns hs)
  rcases hf with rfl | rfl
  · exact eo_listRg g.calm g.bl er (g.gl hl) rfl
  · exact eo_tupRg g.calm g.bl er (g.gl hl) rfl
theorem lrg2_step {X : Cx} {c : CC} (g : Good fe scr k X c) {f : Str} {a b : Expr} {a' b' : IE} {p pos p' pos' : Pos} (hf : f = ("list" : Str) ∨ f = ("tuple" : Str)) (hl : glB c.sc f = true) (hg : glB c.sc ("range" : Str) = true) (hs : notStar a = true) (hs' : notStar b = true) (pa : PE X a (tO (semE fe scr a'))) (pb : PE X b (tO (semE fe scr b'))) :
    PE X (.Call (.Name f p) [.Call (.Name ("range" : Str) p') [a, b] [] pos'] [] pos) (tO (semE fe scr (.lrg (decide (f = ("tuple" : Str))) (.two a' b')))) := by
  have er := erg_2 (p := p') (pos := pos') g.bl pa pb (g.gl hg) (star_ns hs) (star_ns hs') (by rw [star_ns hs']; rfl)
  rcases hf with rfl | rfl
  · exact eo_listRg g.calm g.bl er (g.gl hl) rfl
  · exact eo_tupRg g.calm g.bl er (g.gl hl) rfl
theorem isi_step {X : Cx} {c : CC} (g : Good fe scr k X c) {ty : Str} {t' : String} {a : Expr} {a' : IE} {p pos pt : Pos} (hg : glB c.sc ("isinstance" : Str) = true) (ht : tyC ty = some t') (hgt : glB c.sc ty = true) (hs : notStar a = true) (pa : PE X a (tO (semE fe scr a'))) :
    PE X (.Call (.Name ("isinstance" : Str) p) [a, .Name ty pt] [] pos) (tO (isinD t' (semE fe scr a'))) := by
  unfold tyC at ht
  by_cases e1 : ty = ("int" : Str)
  · rw [if_pos e1] at ht; cases ht; subst e1
    exact eo_isin g.bl pa g.bl.int (by decide +kernel) (g.gl hgt) (g.gl hg) (by decide) (by decide) (star_ns hs) rfl rfl
  rw [if_neg e1] at ht
  by_cases e2 : ty = ("bool" : Str)
  · rw [if_pos e2] at ht; cases ht; subst e2
    exact eo_isin g.bl pa g.bl.bool (by decide +kernel) (g.gl hgt) (g.gl hg) (by decide) (by decide) (star_ns hs) rfl rfl
  rw [if_neg e2] at ht
  by_cases e3 : ty = ("list" : Str)
  · rw [if_pos e3] at ht; cases ht; subst e3
    exact eo_isin g.bl pa g.bl.list (by decide +kernel) (g.gl hgt) (g.gl hg) (by decide) (by decide) (star_ns hs) rfl rfl
  rw [if_neg e3] at ht
  by_cases e4 : ty = ("tuple" : Str)
  · rw [if_pos e4] at ht; cases ht; subst e4
    exact eo_isin g.bl pa g.bl.tuple (by decide +kernel) (g.gl hgt) (g.gl hg) (by decide) (by decide) (star_ns hs) rfl rfl
  rw [if_neg e4] at ht
  by_cases e5 : ty = ("str" : Str)
  · rw [if_pos e5] at ht; cases ht; subst e5
    exact eo_isin g.bl pa g.bl.str (by decide +kernel) (g.gl hgt) (g.gl hg) (by decide) (by decide) (star_ns hs) rfl rfl
  rw [if_neg e5] at ht
  cases ht
end
end DL

set_option Elab.async false
set_option linter.all false
set_option maxRecDepth 100000
set_option maxHeartbeats 4000000
set_option autoImplicit false
/-! DL, part r: expressions, all together. -/
namespace DL
open PySem L2 PySem.Spec
section
variable {fe : FE} {scr : Addr × List Int} {k n : Nat}
theorem se_step (ihE : SE fe scr k n) (ihB : SB fe scr k n) (ihV : SVl fe scr k n) (ihL : SLl fe scr k n) (ihK : SK fe scr k n) (ihP : SP fe scr k n) (ihI : SI fe scr k n) (ihC : SC fe scr k n) : SE fe scr k (n + 1) := fun X c e t g h => by
  unfold compE at h
  split at h
  · -- a name
    obtain ⟨i, h1, rfl⟩ := Option.map_eq_some_iff.mp h
    obtain ⟨a1, a2, a3, a4⟩ := g.name h1
    exact ⟨eo_var i a1 a2 a3 a4, fun _ => et_val (eo_var i a1 a2 a3 a4)⟩
  · cases h; exact ⟨eo_int, fun _ => et_val eo_int⟩
  · cases h; exact ⟨eo_bl, fun _ => et_val eo_bl⟩
  · cases h; exact ⟨eo_non, fun _ => et_val eo_non⟩
  · cases h; exact ⟨eo_str, fun _ => et_val eo_str⟩
  · -- a op b
    obtain ⟨j, h1, h2⟩ := Option.bind_eq_some_iff.mp h
    obtain ⟨a', h3, h4⟩ := Option.bind_eq_some_iff.mp h2
    obtain ⟨b', h5, rfl⟩ := Option.map_eq_some_iff.mp h4
    have ea := (ihE X c _ a' g h3).1
    have eb := (ihE X c _ b' g h5).1
    exact ⟨bin_ok h1 ea eb, fun _ => et_val (bin_ok h1 ea eb)⟩
  · obtain ⟨a', h3, rfl⟩ := Option.map_eq_some_iff.mp h
    have ea := (ihE X c _ a' g h3).1
    exact ⟨eo_neg ea, fun _ => et_val (eo_neg ea)⟩
  · split at h
    case isFalse => cases h
    rename_i hi
    obtain ⟨a', h3, rfl⟩ := Option.map_eq_some_iff.mp h
    have ea := ihE X c _ a' g h3
    exact ⟨eo_not ea.1, fun _ => et_not (ea.2 hi)⟩
  · obtain ⟨a', h3, rfl⟩ := Option.map_eq_some_iff.mp h
    have ea := (ihE X c _ a' g h3).1
    exact ⟨eo_isN ea, fun _ => et_isN ea⟩
  · obtain ⟨a', h3, rfl⟩ := Option.map_eq_some_iff.mp h
    have ea := (ihE X c _ a' g h3).1
    exact ⟨eo_notN ea, fun _ => et_notN ea⟩
  · -- a cmp b
    obtain ⟨j, h1, h2⟩ := Option.bind_eq_some_iff.mp h
    split at h2
    case isFalse => cases h2
    rename_i hs
    obtain ⟨a', h3, h4⟩ := Option.bind_eq_some_iff.mp h2
    obtain ⟨b', h5, rfl⟩ := Option.map_eq_some_iff.mp h4
    have q := cmp_ok (pos := by assumption) g.room hs h1 (ihE X c _ a' g h3).1 (ihE X c _ b' g h5).1
    exact ⟨q.1, fun _ => q.2⟩
  · -- a cmp b cmp d
    obtain ⟨j, h1, h2⟩ := Option.bind_eq_some_iff.mp h
    obtain ⟨l, h1', h2⟩ := Option.bind_eq_some_iff.mp h2
    obtain ⟨a', h3, h4⟩ := Option.bind_eq_some_iff.mp h2
    obtain ⟨b', h5, h6⟩ := Option.bind_eq_some_iff.mp h4
    obtain ⟨d', h7, rfl⟩ := Option.map_eq_some_iff.mp h6
    have q := ch_ok (pos := by assumption) h1 h1' (ihE X c _ a' g h3).1 (ihE X c _ b' g h5).1 (ihE X c _ d' g h7).1
    exact ⟨q.1, fun _ => q.2⟩
  · obtain ⟨a', h3, rfl⟩ := Option.map_eq_some_iff.mp h
    have ea := (ihE X c _ a' g h3).1
    exact ⟨eo_rev ea, fun _ => et_val (eo_rev ea)⟩
  · -- x[lo:hi]
    obtain ⟨i, h1, h2⟩ := Option.bind_eq_some_iff.mp h
    obtain ⟨lo, h3, h4⟩ := Option.bind_eq_some_iff.mp h2
    obtain ⟨hi, h5, h6⟩ := Option.map_eq_some_iff.mp h4
    subst h6
    refine ⟨sl_step g h1 (ihP X c _ lo g h3) (ihP X c _ hi g h5), fun _ => ?_⟩
    rw [semT_sl]
    exact et_val (sl_step g h1 (ihP X c _ lo g h3) (ihP X c _ hi g h5))
  · -- e[lo:hi]
    obtain ⟨a', h1, h2⟩ := Option.bind_eq_some_iff.mp h
    obtain ⟨lo, h3, h4⟩ := Option.bind_eq_some_iff.mp h2
    obtain ⟨hi, h5, rfl⟩ := Option.map_eq_some_iff.mp h4
    exact ⟨eo_slice (ihE X c _ a' g h1).1 (ihP X c _ lo g h3) (ihP X c _ hi g h5), fun _ => et_val (eo_slice (ihE X c _ a' g h1).1 (ihP X c _ lo g h3) (ihP X c _ hi g h5))⟩
  · -- a[b]
    split at h
    case isFalse => cases h
    rename_i hs
    obtain ⟨a', h3, h4⟩ := Option.bind_eq_some_iff.mp h
    obtain ⟨b', h5, rfl⟩ := Option.map_eq_some_iff.mp h4
    have q := eo_at (pos := by assumption) (ihE X c _ a' g h3).1 (ihE X c _ b' g h5).1 (ix_ns hs)
    exact ⟨q, fun _ => et_val q⟩
  · obtain ⟨es, h1, rfl⟩ := Option.map_eq_some_iff.mp h
    exact ⟨eo_lst (ihL X c _ es g h1), fun _ => et_val (eo_lst (ihL X c _ es g h1))⟩
  · obtain ⟨es, h1, rfl⟩ := Option.map_eq_some_iff.mp h
    exact ⟨eo_tup (ihL X c _ es g h1), fun _ => et_val (eo_tup (ihL X c _ es g h1))⟩
  · -- a if t else b
    split at h
    case isFalse => cases h
    rename_i hs
    obtain ⟨t', h1, h2⟩ := Option.bind_eq_some_iff.mp h
    obtain ⟨a', h3, h4⟩ := Option.bind_eq_some_iff.mp h2
    obtain ⟨b', h5, rfl⟩ := Option.map_eq_some_iff.mp h4
    exact ⟨eo_if ((ihE X c _ t' g h1).2 hs) (ihE X c _ a' g h3).1 (ihE X c _ b' g h5).1, fun z => by cases z⟩
  · -- and, or
    split at h
    case isFalse => cases h
    rename_i hs
    have q := ihV X c _ _ (by assumption) t g h
    exact ⟨q.1, fun _ => (q.2 hs).pt⟩
  · -- a call
    rename_i f p args kws pos
    have key : PE X (.Call (.Name f p) args kws pos) (tO (semE fe scr t)) ∧ semT fe scr t = test (semE fe scr t) := by
      by_cases hg : (glB c.sc f && okName f) = true
      case neg => rw [if_neg hg] at h; cases h
      rw [if_pos hg] at h
      have hgl : glB c.sc f = true := by rw [Bool.and_eq_true] at hg; exact hg.1
      cases hf : fnIx f c.fns 0 with
      | some ji =>
        obtain ⟨j, i⟩ := ji
        rw [hf] at h
        exact fun_step ihL ihK g hg hf h
      | none =>
        rw [hf] at h
        dsimp only at h
        by_cases hk : kws.isEmpty = true
        case neg => rw [if_neg hk] at h; cases h
        rw [if_pos hk] at h
        have ek : kws = [] := List.isEmpty_iff.mp hk
        subst ek
        split at h
        · rename_i gg p' a pos'
          by_cases hc : (f = ("list" : Str) ∨ f = ("tuple" : Str)) ∧ gg = ("range" : Str)
          · rw [if_pos hc] at h
            obtain ⟨hc1, rfl⟩ := hc
            split at h
            case isFalse => cases h
            rename_i hs
            obtain ⟨a', h3, rfl⟩ := Option.map_eq_some_iff.mp h
            exact ⟨lrg1_step g hc1 hgl hs.1 hs.2 (ihE X c _ a' g h3).1, rfl⟩
          · rw [if_neg hc] at h
            exact ihB X c f _ p pos t g hgl h
        · rename_i gg p' a b pos'
          by_cases hc : (f = ("list" : Str) ∨ f = ("tuple" : Str)) ∧ gg = ("range" : Str)
          · rw [if_pos hc] at h
            obtain ⟨hc1, rfl⟩ := hc
            split at h
            case isFalse => cases h
            rename_i hs
            obtain ⟨a', h3, h4⟩ := Option.bind_eq_some_iff.mp h
            obtain ⟨b', h5, rfl⟩ := Option.map_eq_some_iff.mp h4
            exact ⟨lrg2_step g hc1 hgl hs.1 hs.2.1 hs.2.2 (ihE X c _ a' g h3).1 (ihE X c _ b' g h5).1, rfl⟩
          · rw [if_neg hc] at h
            exact ihB X c f _ p pos t g hgl h
        · rename_i a ty pt
          by_cases hc : f = ("isinstance" : Str)
          · rw [if_pos hc] at h
            subst hc
            obtain ⟨t', h1, h2⟩ := Option.bind_eq_some_iff.mp h
            split at h2
            case isFalse => cases h2
            rename_i hs
            obtain ⟨a', h3, rfl⟩ := Option.map_eq_some_iff.mp h2
            exact ⟨isi_step g hgl h1 hs.1 hs.2 (ihE X c _ a' g h3).1, rfl⟩
          · rw [if_neg hc] at h
            exact ihB X c f _ p pos t g hgl h
        · exact ihB X c f _ p pos t g hgl h
    refine ⟨key.1, fun _ => ?_⟩
    rw [key.2]
    exact et_val key.1
  · -- a method's call
    refine ⟨(meth_step ihE ihL g h).1, fun _ => ?_⟩
    rw [(meth_step (px := ⟨0, 0, 0, 0⟩) ihE ihL g h).2]
    exact et_val (meth_step ihE ihL g h).1
  · -- a comprehension
    obtain ⟨own, it, tgs, tup, cs, el, rfl, a1, a2, a3, a4, a5, a6, a7⟩ := lc_step ihE ihL ihI ihC g h
    have q := eo_lc (pos := by assumption) g.calm g.nd a1 a2 a3 a4 a5 a6 a7
    exact ⟨q, fun _ => et_val q⟩
  · cases h
theorem sv_step (ihE : SE fe scr k n) (ihV : SVl fe scr k n) : SVl fe scr k (n + 1) := fun X c op vs pos t g h => by
  match vs, h with
  | [], h => cases h
  | [a], h =>
    have ea := ihE X c a t g h
    refine ⟨eo_one ea.1, fun z => ?_⟩
    rw [List.all_cons, Bool.and_eq_true] at z
    cases op with
    | And => exact ew_and1 (ea.2 z.1)
    | Or => exact ew_or1 (ea.2 z.1)
  | a :: b :: r, h =>
    obtain ⟨a', h1, h2⟩ := Option.bind_eq_some_iff.mp h
    obtain ⟨r', h3, h4⟩ := Option.map_eq_some_iff.mp h2
    have ea := ihE X c a a' g h1
    have er := ihV X c op (b :: r) pos r' g h3
    cases op with
    | And =>
      subst h4
      refine ⟨eo_and ea.1 er.1, fun z => ?_⟩
      rw [List.all_cons, Bool.and_eq_true] at z
      exact ew_and (ea.2 z.1) (er.2 z.2)
    | Or =>
      subst h4
      refine ⟨eo_or ea.1 er.1, fun z => ?_⟩
      rw [List.all_cons, Bool.and_eq_true] at z
      exact ew_or (ea.2 z.1) (er.2 z.2)
theorem sl_all_step (ihE : SE fe scr k n) (ihL : SLl fe scr k n) : SLl fe scr k (n + 1) := fun X c es t g h => by
  cases es with
  | nil => cases h; exact ea_nil
  | cons e r =>
    unfold compL at h
    by_cases hs : notStar e = true
    · have h' : ((compE n c e).bind fun e' => (compL n c r).map fun r => IL.cons e' r) = some t := by
        revert h
        cases e <;> first | exact id | cases hs
      obtain ⟨e', h1, h2⟩ := Option.bind_eq_some_iff.mp h'
      obtain ⟨r', h3, rfl⟩ := Option.map_eq_some_iff.mp h2
      exact ea_cons (ihE X c e e' g h1).1 (ihL X c r r' g h3) (star_ns hs)
    · cases e <;> first | exact absurd rfl hs | skip
      obtain ⟨e', h1, h2⟩ := Option.bind_eq_some_iff.mp h
      obtain ⟨r', h3, rfl⟩ := Option.map_eq_some_iff.mp h2
      exact ea_star (ihE X c _ e' g h1).1 (ihL X c r r' g h3) rfl
theorem sk_step (ihE : SE fe scr k n) (ihK : SK fe scr k n) : SK fe scr k (n + 1) := fun X c es t g h => by
  cases es with
  | nil => cases h; exact ek_nil
  | cons e r =>
    obtain ⟨nm, e, kp⟩ := e
    unfold compK at h
    obtain ⟨e', h1, h2⟩ := Option.bind_eq_some_iff.mp h
    obtain ⟨r', h3, rfl⟩ := Option.map_eq_some_iff.mp h2
    exact ek_cons (ihE X c e e' g h1).1 (ihK X c r r' g h3)
theorem sp_step (ihE : SE fe scr k n) : SP fe scr k (n + 1) := fun X c e t g h => by
  cases e with
  | none => cases h; exact epo_none
  | some e =>
    obtain ⟨e', h1, rfl⟩ := Option.map_eq_some_iff.mp h
    exact epo_some (ihE X c e e' g h1).1
theorem sc_step (ihE : SE fe scr k n) (ihL : SLl fe scr k n) : SC fe scr k (n + 1) := fun X c es t g hi hl h => by
  match es, hl with
  | [], _ => cases h; exact ets_nil
  | [e], _ =>
    rw [List.all_cons, Bool.and_eq_true] at hi
    unfold compL at h
    by_cases hs : notStar e = true
    · have h' : ((compE n c e).bind fun e' => (compL n c []).map fun r => IL.cons e' r) = some t := by
        revert h
        cases e <;> first | exact id | cases hs
      obtain ⟨e', h1, h2⟩ := Option.bind_eq_some_iff.mp h'
      obtain ⟨r', h3, rfl⟩ := Option.map_eq_some_iff.mp h2
      cases n with
      | zero => cases h3
      | succ n =>
        cases h3
        exact ets_one ((ihE X c e e' g h1).2 hi.1)
    · cases e <;> first | exact absurd rfl hs | skip
      obtain ⟨e', h1, h2⟩ := Option.bind_eq_some_iff.mp h
      obtain ⟨r', h3, rfl⟩ := Option.map_eq_some_iff.mp h2
      exact ⟨fun pins s σ H Q I ⟨Z, s0, o, s', R, e, q⟩ => by cases e⟩
theorem si_step (ihE : SE fe scr k n) (ihL : SLl fe scr k n) : SI fe scr k (n + 1) := fun X c tg e t g h => by
  unfold compI at h
  split at h
  · rename_i f p args pos
    by_cases hc : glB c.sc f = true ∧ fnIx f c.fns 0 = none ∧ args.all notStar = true ∧ (f = ("range" : Str) ∨ f = ("zip" : Str) ∨ f = ("enumerate" : Str))
    · rw [if_pos hc] at h
      obtain ⟨hg, _, hs, _⟩ := hc
      by_cases c1 : f = ("range" : Str) ∧ args.length = 1
      · rw [if_pos c1] at h
        obtain ⟨rfl, hl⟩ := c1
        obtain ⟨a, rfl⟩ := len1 hl
        obtain ⟨es, h1, rfl⟩ := Option.map_eq_some_iff.mp h
        rw [List.all_cons, Bool.and_eq_true] at hs
        exact ei_range1 g.bl (g.gl hg) (ihL X c _ es g h1) (star_ns hs.1)
      rw [if_neg c1] at h
      by_cases c2 : f = ("range" : Str) ∧ args.length = 2
      · rw [if_pos c2] at h
        obtain ⟨rfl, hl⟩ := c2
        obtain ⟨a, b, rfl⟩ := len2 hl
        obtain ⟨es, h1, rfl⟩ := Option.map_eq_some_iff.mp h
        rw [List.all_cons, Bool.and_eq_true, List.all_cons, Bool.and_eq_true] at hs
        exact ei_range2 g.bl (g.gl hg) (ihL X c _ es g h1) (by rw [star_ns hs.1, star_ns hs.2.1]; rfl) (star_ns hs.2.1)
      rw [if_neg c2] at h
      by_cases c3 : f = ("zip" : Str) ∧ isTup tg = true ∧ args.length = 2
      · rw [if_pos c3] at h
        obtain ⟨rfl, ht, hl⟩ := c3
        obtain ⟨a, b, rfl⟩ := len2 hl
        obtain ⟨es, h1, rfl⟩ := Option.map_eq_some_iff.mp h
        rw [List.all_cons, Bool.and_eq_true, List.all_cons, Bool.and_eq_true] at hs
        have pa := ihL X c _ es g h1
        cases tg <;> first | (cases ht; done) | exact ei_zip g.bl (g.gl hg) g.bl.zip pa (star_ns hs.1) (by rw [star_ns hs.2.1]; rfl)
      rw [if_neg c3] at h
      by_cases c4 : f = ("enumerate" : Str) ∧ isTup tg = true ∧ args.length = 1
      · rw [if_pos c4] at h
        obtain ⟨rfl, ht, hl⟩ := c4
        obtain ⟨a, rfl⟩ := len1 hl
        obtain ⟨es, h1, rfl⟩ := Option.map_eq_some_iff.mp h
        rw [List.all_cons, Bool.and_eq_true] at hs
        have pa := ihL X c _ es g h1
        cases tg <;> first | (cases ht; done) | exact ei_enum g.bl (g.gl hg) g.bl.enumerate pa (star_ns hs.1)
      rw [if_neg c4] at h
      cases h
    · rw [if_neg hc] at h
      obtain ⟨e', h1, rfl⟩ := Option.map_eq_some_iff.mp h
      exact ei_val (ihE X c _ e' g h1).1
  · obtain ⟨e', h1, rfl⟩ := Option.map_eq_some_iff.mp h
    exact ei_val (ihE X c _ e' g h1).1
variable (fe scr k)
theorem se_all : ∀ n : Nat, SE fe scr k n ∧ SB fe scr k n ∧ SVl fe scr k n ∧ SLl fe scr k n ∧ SK fe scr k n ∧ SP fe scr k n ∧ SI fe scr k n ∧ SC fe scr k n
  | 0 => ⟨fun X c e t g h => (by cases h), fun X c f args p pos t g gl h => (by cases h), fun X c op vs pos t g h => (by cases h), fun X c es t g h => (by cases h), fun X c es t g h => (by cases h), fun X c e t g h => (by cases h), fun X c tg e t g h => (by cases h), fun X c es t g hi hl h => (by cases h)⟩
  | n + 1 => by
    obtain ⟨a1, a2, a3, a4, a5, a6, a7, a8⟩ := se_all n
    exact ⟨se_step a1 a2 a3 a4 a5 a6 a7 a8, blE_ok a4, sv_step a1 a3, sl_all_step a1 a4, sk_step a1 a5, sp_step a1, si_step a1 a4, sc_step a1 a4⟩
end
end DL

set_option Elab.async false
set_option linter.all false
set_option maxRecDepth 100000
set_option maxHeartbeats 4000000
set_option autoImplicit false
/-! DL, part s: statements; a table of defs; the law. -/
namespace DL
open PySem L2 PySem.Spec
def noLc : Expr → Bool
  | .ListComp .. => false
  | .SetComp .. => false
  | .DictComp .. => false
  | _ => true
theorem sw_no {e : Expr} {t : Option Expr} {l : Nat} {env : Env} (h : noLc e = true) : swapsWith e t l env = pure false := by
  cases e <;> first | rfl | cases h
theorem sw_tg {e tg : Expr} {l : Nat} {env : Env} (h : ∀ x p, tg ≠ .Name x p) : swapsWithSole [tg] e l env = pure false := by
  show swapsWith e (some tg) l env = pure false
  cases e <;> first | rfl | skip
  all_goals (cases tg <;> first | rfl | exact absurd rfl (h _ _))
theorem sw_lc {elt : Expr} {gs : List Comprehension} {scope : Scope} {pos py : Pos} {y : Str} {l : Nat} {env : Env} : swapsWith (.ListComp elt gs scope pos) (some (.Name y py)) l env = pure (env.blockKind == .function && env.kindOf y == some .local && py.line == pos.line && !(scope.names.any fun (n, k) => n == y && (k == .local || k == .cell))) := rfl
theorem ss_no {tg e : Expr} {env : Env} (h : isTup e = false) : swappedStores [tg] e env = pure none := by
  cases e <;> first | (cases h; done) | skip
  all_goals (cases tg <;> rfl)
theorem ss_sub {a b e : Expr} {p : Pos} {env : Env} : swappedStores [.Subscript a b p] e env = pure none := by
  cases e <;> rfl
theorem ss2 {x y : Str} {px py : Pos} {es : List Expr} {kt k2 : Nat} {pt p2 : Pos} {env : Env} (hg : ¬ (es.all (foldedForSure 8) = true) → es.all (constantsAlone 8) = false) {r : Sem (Option (List Str))} (h : swappedStores [.Tuple [.Name x px, .Name y py] kt pt] (.Tuple es k2 p2) env = r) :
    r = pure none ∨ (es.length = 2 ∧ env.kindOf x = some .local ∧ env.kindOf y = some .local ∧ r = pure (some [x, y])) := by
  unfold swappedStores at h
  dsimp only at h
  split at h
  · exact .inl h.symm
  rename_i c1
  split at h
  · exact .inl h.symm
  split at h
  · exact .inl h.symm
  rename_i c3
  split at h
  · exact .inl h.symm
  rename_i c4
  rw [hg c4, if_neg Bool.false_ne_true] at h
  right
  have hl : es.length = 2 := by
    simp only [Bool.or_eq_true, not_or, bne_iff_ne, ne_eq, Decidable.not_not] at c1
    exact c1.1.2
  simp only [List.filterMap_cons, List.filterMap_nil] at h c3
  by_cases k1 : (env.kindOf x == some .local && px.line == (Option.map (fun x : Expr => x.pos.line) (List.head? [Expr.Name x px, Expr.Name y py])).getD 0) = true
  · rw [if_pos k1] at h c3
    by_cases k2 : (env.kindOf y == some .local && py.line == (Option.map (fun x : Expr => x.pos.line) (List.head? [Expr.Name x px, Expr.Name y py])).getD 0) = true
    · rw [if_pos k2] at h
      rw [Bool.and_eq_true] at k1 k2
      exact ⟨hl, eq_of_beq k1.1, eq_of_beq k2.1, h.symm⟩
    · rw [if_neg k2] at c3
      exact absurd rfl c3
  · rw [if_neg k1] at c3
    by_cases k2 : (env.kindOf y == some .local && py.line == (Option.map (fun x : Expr => x.pos.line) (List.head? [Expr.Name x px, Expr.Name y py])).getD 0) = true
    · rw [if_pos k2] at c3
      exact absurd rfl c3
    · rw [if_neg k2] at c3
      exact absurd rfl c3
theorem ss3 {x y z : Str} {px py pz : Pos} {es : List Expr} {kt k2 : Nat} {pt p2 : Pos} {env : Env} (hg : ¬ (es.all (foldedForSure 8) = true) → es.all (constantsAlone 8) = false) {r : Sem (Option (List Str))} (h : swappedStores [.Tuple [.Name x px, .Name y py, .Name z pz] kt pt] (.Tuple es k2 p2) env = r) :
    r = pure none ∨ (es.length = 3 ∧ env.kindOf x = some .local ∧ env.kindOf y = some .local ∧ env.kindOf z = some .local ∧ r = pure (some [x, y, z])) := by
  unfold swappedStores at h
  dsimp only at h
  split at h
  · exact .inl h.symm
  rename_i c1
  split at h
  · exact .inl h.symm
  split at h
  · exact .inl h.symm
  rename_i c3
  split at h
  · exact .inl h.symm
  rename_i c4
  rw [hg c4, if_neg Bool.false_ne_true] at h
  right
  have hl : es.length = 3 := by
    simp only [Bool.or_eq_true, not_or, bne_iff_ne, ne_eq, Decidable.not_not] at c1
    exact c1.1.2
  simp only [List.filterMap_cons, List.filterMap_nil] at h c3
  by_cases k1 : (env.kindOf x == some .local && px.line == (Option.map (fun x : Expr => x.pos.line) (List.head? [Expr.Name x px, Expr.Name y py, Expr.Name z pz])).getD 0) = true <;>
  by_cases k2 : (env.kindOf y == some .local && py.line == (Option.map (fun x : Expr => x.pos.line) (List.head? [Expr.Name x px, Expr.Name y py, Expr.Name z pz])).getD 0) = true <;>
  by_cases k3 : (env.kindOf z == some .local && pz.line == (Option.map (fun x : Expr => x.pos.line) (List.head? [Expr.Name x px, Expr.Name y py, Expr.Name z pz])).getD 0) = true
  · rw [if_pos k1, if_pos k2, if_pos k3] at h
    rw [Bool.and_eq_true] at k1 k2 k3
    exact ⟨hl, eq_of_beq k1.1, eq_of_beq k2.1, eq_of_beq k3.1, h.symm⟩
  all_goals (first | rw [if_pos k1] at c3 | rw [if_neg k1] at c3)
  all_goals (first | rw [if_pos k2] at c3 | rw [if_neg k2] at c3)
  all_goals (first | rw [if_pos k3] at c3 | rw [if_neg k3] at c3)
  all_goals exact absurd rfl c3
theorem ssN {ts es : List Expr} {kt k2 : Nat} {pt p2 : Pos} {env : Env} (h2 : ts.length ≠ 2) (h3 : ts.length ≠ 3) : swappedStores [.Tuple ts kt pt] (.Tuple es k2 p2) env = pure none := by
  unfold swappedStores
  dsimp only
  rw [if_pos]
  simp [h2, h3]
section
variable {fe : FE} {scr : Addr × List Int} {k n : Nat}
theorem comp_noLc {c : CC} {e : Expr} {t : IE} (h : compE n c e = some t) : noLc e = true ∨ ∃ elt tg iter ifs scope pos, e = .ListComp elt [⟨tg, iter, ifs, 0⟩] scope pos := by
  cases n with
  | zero => cases h
  | succ n =>
    by_cases hn : noLc e = true
    · exact .inl hn
    · right
      unfold compE at h
      cases e <;> first | exact absurd rfl hn | skip
      · split at h <;> first | (rename_i heq; cases heq; done) | skip
        all_goals first | (rename_i heq; cases heq; exact ⟨_, _, _, _, _, _, rfl⟩) | cases h
      · cases h
      · cases h
theorem set_step {X : Cx} {c : CC} (g : Good fe scr k X c) {x : Str} {e : Expr} {t : IE} {i : Nat} {p pos : Pos} (h1 : slotW c x = some i) (h : compE n c e = some t) : PS X (.Assign [.Name x p] e pos) (tS (setG i (semE fe scr t))) := by
  obtain ⟨a1, a2, a3⟩ := g.nameW h1
  have all := se_all fe scr k n
  have he := (all.1 X c e t g h).1
  rcases comp_noLc h with hn | ⟨elt, tg, iter, ifs, scope, pos', rfl⟩
  · exact ds_set g.nd he a1 a2 (sw_no hn) a3
  · cases hb : (X.env.blockKind == .function && X.env.kindOf x == some .local && p.line == pos'.line && !(scope.names.any fun (n, k) => n == x && (k == .local || k == .cell))) with
    | false => exact ds_set g.nd he a1 a2 (by rw [sw_lc, hb]) a3
    | true =>
      cases n with
      | zero => cases h
      | succ n =>
        obtain ⟨b1, b2, b3, b4, b5, b6, b7, b8⟩ := se_all fe scr k n
        obtain ⟨own, it, tgs, tup, cs, el, rfl, q1, q2, q3, q4, q5, q6, q7⟩ := lc_step b1 b4 b7 b8 g (show _ = some t from h)
        have hl : X.env.scope.names.lookup x = some .local := by
          simp only [Bool.and_eq_true] at hb
          exact eq_of_beq hb.1.1.2
        exact ds_setLc g.calm g.nd a1 hl (by rw [sw_lc, hb]) q1 q2 q3 q4 q5 q6 q7
theorem two_names {c : CC} {a b : Expr} {is : List Nat} (h : namesW c [a, b] = some is) : ∃ x px y py i j, a = .Name x px ∧ b = .Name y py ∧ is = [i, j] ∧ slotW c x = some i ∧ slotW c y = some j := by
  unfold namesW at h
  split at h
  · rename_i heq; cases heq
  · rename_i x p r heq
    cases heq
    obtain ⟨i, h1, h2⟩ := Option.bind_eq_some_iff.mp h
    obtain ⟨is', h3, rfl⟩ := Option.map_eq_some_iff.mp h2
    unfold namesW at h3
    split at h3
    · rename_i heq; cases heq
    · rename_i y q r heq
      cases heq
      obtain ⟨j, h4, h5⟩ := Option.bind_eq_some_iff.mp h3
      obtain ⟨is'', h6, rfl⟩ := Option.map_eq_some_iff.mp h5
      cases h6
      exact ⟨x, p, y, q, i, j, rfl, rfl, rfl, h1, h4⟩
    · cases h3
  · cases h
theorem three_names {c : CC} {a b d : Expr} {is : List Nat} (h : namesW c [a, b, d] = some is) : ∃ x px is', a = .Name x px ∧ slotW c x = some (is.headD 0) ∧ is = is.headD 0 :: is' ∧ namesW c [b, d] = some is' := by
  unfold namesW at h
  split at h
  · rename_i heq; cases heq
  · rename_i x p r heq
    cases heq
    obtain ⟨i, h1, h2⟩ := Option.bind_eq_some_iff.mp h
    obtain ⟨is', h3, rfl⟩ := Option.map_eq_some_iff.mp h2
    exact ⟨x, p, is', rfl, h1, rfl, h3⟩
  · cases h
end
end DL

set_option Elab.async false
set_option linter.all false
set_option maxRecDepth 100000
set_option maxHeartbeats 4000000
set_option autoImplicit false
/-! DL, part t: statements, all together; a table of defs; the law. -/
namespace DL
open PySem L2 PySem.Spec
section
variable {fe : FE} {scr : Addr × List Int} {k n : Nat}
theorem call_lc {e : Expr} (h : isCall e = true) : noLc e = true := by
  cases e <;> first | rfl | cases h
theorem asg_ix {x : Str} {i : Expr} {px tpos : Pos} {env : Env} (h : notSlice i = true) (w : Value) : assign (.Subscript (.Name x px) i tpos) env w = (do
      let ov ← holding [w] (eval (.Name x px) env)
      let iv ← holding [w, ov] (eval i env)
      standAt tpos
      holding [w, ov, iv] (setItem ov iv w)
      release [w, ov, iv] []) := by
  cases i <;> first | rfl | cases h
theorem par_step {X : Cx} {c : CC} (g : Good fe scr k X c) {ts es : List Expr} {is : List Nat} {es' : IL} {kt k2 : Nat} {pt p2 pos : Pos} (h1 : namesW c ts = some is) (hnd : is.Nodup) (hlen : is.length ≤ 10)
    (hg : ¬ (es.all (foldedForSure 8) = true) → es.all (constantsAlone 8) = false) (pa : PA X es (tA (semL fe scr es'))) : PS X (.Assign [.Tuple ts kt pt] (.Tuple es k2 p2) pos) (tS (parG is (semL fe scr es'))) := by
  obtain ⟨b1, b2, b3, b4⟩ := names_ok g h1
  have road : swappedStores [.Tuple ts kt pt] (.Tuple es k2 p2) X.env = pure none → PS X (.Assign [.Tuple ts kt pt] (.Tuple es k2 p2) pos) (tS (parG is (semL fe scr es'))) := fun hw => ds_parB g.calm b2 pa (by omega) b3 b4 hw
  by_cases l2 : ts.length = 2
  · obtain ⟨a, b, rfl⟩ := len2 l2
    obtain ⟨x, px, y, py, i, j, rfl, rfl, rfl, s1, s2⟩ := two_names h1
    rcases ss2 hg rfl with hw | ⟨hl, kx, ky, hw⟩
    · exact road hw
    · obtain ⟨e1, e2, rfl⟩ := len2 hl
      have hij : i ≠ j := by
        have := (List.nodup_cons.mp hnd).1
        simpa using this
      exact ds_par2 g.calm g.nd (g.nameW s1).1 (g.nameW s2).1 hij kx ky pa hw
  by_cases l3 : ts.length = 3
  · obtain ⟨a, b, d, rfl⟩ : ∃ a b d, ts = [a, b, d] := by
      match ts, l3 with
      | [a, b, d], _ => exact ⟨a, b, d, rfl⟩
    obtain ⟨x, px, is', rfl, s0, hi, h2⟩ := three_names h1
    obtain ⟨y, py, z, pz, j, l, rfl, rfl, rfl, s1, s2⟩ := two_names h2
    generalize is.headD 0 = i at s0 hi
    subst hi
    rcases ss3 hg rfl with hw | ⟨hl, kx, ky, kz, hw⟩
    · exact road hw
    · obtain ⟨e1, e2, e3, rfl⟩ : ∃ a b d, es = [a, b, d] := by
        match es, hl with
        | [a, b, d], _ => exact ⟨a, b, d, rfl⟩
      have n1 := List.nodup_cons.mp hnd
      have n2 := List.nodup_cons.mp n1.2
      have hij : i ≠ j := fun z => n1.1 (by simp [z])
      have hil : i ≠ l := fun z => n1.1 (by simp [z])
      have hjl : j ≠ l := fun z => n2.1 (by simp [z])
      exact ds_par3 g.calm g.nd (g.nameW s0).1 (g.nameW s1).1 (g.nameW s2).1 hij hil hjl kx ky kz pa hw
  exact road (ssN l2 l3)
def SS (fe : FE) (scr : Addr × List Int) (k n : Nat) : Prop := ∀ (X : Cx) (c : CC) (st : Stmt) (t : IS), Good fe scr k X c → PassesOwn (model X.prog X.w) X.A X.env X.xe → compS n c st = some t → PS X st (tS (semS fe scr t))
def SSs (fe : FE) (scr : Addr × List Int) (k n : Nat) : Prop := ∀ (X : Cx) (c : CC) (st : List Stmt) (t : IB), Good fe scr k X c → PassesOwn (model X.prog X.w) X.A X.env X.xe → compSs n c st = some t → PSs X st (tS (semB fe scr t))
theorem ss_step (ihB : SSs fe scr k n) : SS fe scr k (n + 1) := fun X c st t g hp h => by
  obtain ⟨a1, a2, a3, a4, a5, a6, a7, a8⟩ := se_all fe scr k n
  unfold compS at h
  split at h
  · obtain ⟨i, h1, h2⟩ := Option.bind_eq_some_iff.mp h
    obtain ⟨e', h3, rfl⟩ := Option.map_eq_some_iff.mp h2
    exact set_step g h1 h3
  · obtain ⟨is, h1, h2⟩ := Option.bind_eq_some_iff.mp h
    split at h2
    case isFalse => cases h2
    rename_i hc
    obtain ⟨es', h3, rfl⟩ := Option.map_eq_some_iff.mp h2
    exact par_step g h1 hc.1 hc.2.1 hc.2.2.2 (a4 X c _ es' g h3)
  · split at h
    case isFalse => cases h
    rename_i hc
    obtain ⟨is, h1, h2⟩ := Option.bind_eq_some_iff.mp h
    obtain ⟨e', h3, rfl⟩ := Option.map_eq_some_iff.mp h2
    obtain ⟨b1, b2, b3, b4⟩ := names_ok g h1
    exact ds_asg (a1 X c _ e' g h3).1 (eg_tup g.calm b1 b3 b4) (sw_tg fun _ _ z => by cases z) (ss_no hc.1) rfl
  · split at h
    case isFalse => cases h
    rename_i hc
    obtain ⟨i, h1, h2⟩ := Option.bind_eq_some_iff.mp h
    obtain ⟨i', h3, h4⟩ := Option.bind_eq_some_iff.mp h2
    obtain ⟨v', h5, rfl⟩ := Option.map_eq_some_iff.mp h4
    obtain ⟨b1, b2, b3, b4⟩ := g.name h1
    exact ds_setix b1 b2 b3 b4 (a1 X c _ i' g h3).1 (a1 X c _ v' g h5).1 (sw_tg fun _ _ z => by cases z) ss_sub (asg_ix hc)
  · obtain ⟨i, h1, h2⟩ := Option.bind_eq_some_iff.mp h
    obtain ⟨j, h3, h4⟩ := Option.bind_eq_some_iff.mp h2
    obtain ⟨e', h5, rfl⟩ := Option.map_eq_some_iff.mp h4
    obtain ⟨b1, b2, b3⟩ := g.nameW h1
    have he := (a1 X c _ e' g h5).1
    split at h3
    · cases h3; exact ds_aug g.nd b1 b2 he ip_add b3
    · cases h3; exact ds_aug g.nd b1 b2 he ip_sub b3
    · cases h3
  · obtain ⟨e', h1, rfl⟩ := Option.map_eq_some_iff.mp h
    exact ds_ret (a1 X c _ e' g h1).1
  · split at h
    case isFalse => cases h
    rename_i hc
    obtain ⟨e', h1, rfl⟩ := Option.map_eq_some_iff.mp h
    exact ds_expr (a1 X c _ e' g h1).1 (sw_no (call_lc hc))
  · cases h; exact ds_pass
  · cases h; exact ds_break
  · cases h; exact ds_continue
  · split at h
    case isFalse => cases h
    rename_i hc
    obtain ⟨t', h1, h2⟩ := Option.bind_eq_some_iff.mp h
    obtain ⟨a', h3, h4⟩ := Option.bind_eq_some_iff.mp h2
    obtain ⟨b', h5, rfl⟩ := Option.map_eq_some_iff.mp h4
    exact ds_if ((a1 X c _ t' g h1).2 hc) (ihB X c _ a' g hp h3) (ihB X c _ b' g hp h5)
  · split at h
    case isFalse => cases h
    rename_i hc
    obtain ⟨it, h1, h2⟩ := Option.bind_eq_some_iff.mp h
    obtain ⟨tt, h3, h4⟩ := Option.bind_eq_some_iff.mp h2
    obtain ⟨b', h5, rfl⟩ := Option.map_eq_some_iff.mp h4
    exact ds_for hp g.calm (a7 X c _ _ it g h1) (tg_ok g h3) (ihB X c _ b' g hp h5) (set_ns hc _)
  · split at h
    case isFalse => cases h
    rename_i hc
    obtain ⟨t', h1, h2⟩ := Option.bind_eq_some_iff.mp h
    obtain ⟨b', h5, rfl⟩ := Option.map_eq_some_iff.mp h2
    exact ds_while hp ((a1 X c _ t' g h1).2 hc) (ihB X c _ b' g hp h5)
  · cases h
theorem sss_step (ihS : SS fe scr k n) (ihB : SSs fe scr k n) : SSs fe scr k (n + 1) := fun X c st t g hp h => by
  cases st with
  | nil => cases h; exact ds_nil
  | cons s r =>
    unfold compSs at h
    obtain ⟨s', h1, h2⟩ := Option.bind_eq_some_iff.mp h
    obtain ⟨r', h3, rfl⟩ := Option.map_eq_some_iff.mp h2
    exact ds_cons (ihS X c s s' g hp h1) (ihB X c r r' g hp h3)
variable (fe scr k)
theorem ss_all : ∀ n : Nat, SS fe scr k n ∧ SSs fe scr k n
  | 0 => ⟨fun X c e t g hp h => (by cases h), fun X c e t g hp h => (by cases h)⟩
  | n + 1 => ⟨ss_step (ss_all n).2, sss_step (ss_all n).1 (ss_all n).2⟩
end

/-! ### a table of defs -/
structure FnDef where
  name : Str
  info : FnInfo
  N : List Str
  ir : IB
def feOf (tab : List FnDef) (scr : Addr × List Int) : Nat → FE
  | 0, _ => fun _ => none
  | d + 1, j => match tab[j]? with
    | some D => bodyF D.N.length (semB (feOf tab scr d) scr D.ir)
    | none => fun _ => none
def fnsOf (tab : List FnDef) : List (Str × FnInfo) := tab.map fun D => (D.name, D.info)
def ccOf (tab : List FnDef) (D : FnDef) (sc : Scope) : CC := { N := D.N, sc := sc, fn := fun _ => true, top := D.info.need, fns := fnsOf tab }
/-- what the text, and the head, say of an entry -/
structure Entry (K : PySem.W.Frag) (mg : Str → Option Value) (tab : List FnDef) (D : FnDef) : Prop where
  ex : ∃ (st : Stmt) (fa : Addr) (fd : FuncData), Fun K D.name D.name st fa fd ∧ FnScope D.N D.info.ps (defScope st) ∧ compSs 400 (ccOf tab D (defScope st)) (defBody st) = some D.ir ∧ mg D.name = some (.ref fa) ∧ Binds K fd D.info.ps [] ∧
    ∀ ks ∈ D.info.kws, ∀ ix, kwIx D.info.ps ks = some ix → KBinds K fd D.info.ps ks (kG ks ix) (kG ks ix)
  n : D.info.n = D.info.ps.length
theorem fnIx_tab {f : Str} : ∀ {tab : List FnDef} {n j : Nat} {i : FnInfo}, fnIx f (fnsOf tab) n = some (j, i) → ∃ D m, j = n + m ∧ tab[m]? = some D ∧ D.name = f ∧ D.info = i
  | [], n, j, i, h => by cases h
  | D :: r, n, j, i, h => by
    unfold fnsOf at h
    rw [List.map_cons] at h
    unfold fnIx at h
    split at h
    · rename_i e
      cases h
      exact ⟨D, 0, rfl, rfl, e.symm, rfl⟩
    · obtain ⟨D', m, e1, e2, e3, e4⟩ := fnIx_tab h
      exact ⟨D', m + 1, by omega, by simpa using e2, e3, e4⟩
section
variable {P : Program} {w : World} {K : PySem.W.Frag} {mg : Str → Option Value} {base : Heap}
theorem fn_false {k : Nat} {f : Addr} {fd : FuncData} {ps : List Str} {c : Addr × List Int} {need : Bool} : FnG P w K mg base CX0 k f fd ps (spF K c need ps.length fun _ => none) :=
  ⟨fun vs H Q E h => h.1, fun A ou s H args us vs Q E _ _ _ _ _ ⟨_, _, Z, svs, r, svs', _, e, _⟩ => by cases e⟩
/-- every def of the table keeps its worth -/
theorem tab_ok {tab : List FnDef} (B : Bl mg) (T : ∀ D ∈ tab, Entry K mg tab D) (scr : Addr × List Int) : ∀ (d j : Nat) (D : FnDef) (fa : Addr) (fd : FuncData), tab[j]? = some D →
    (∃ st, Fun K D.name D.name st fa fd ∧ FnScope D.N D.info.ps (defScope st) ∧ compSs 400 (ccOf tab D (defScope st)) (defBody st) = some D.ir) → FnG P w K mg base CX0 d fa fd D.info.ps (spF K scr D.info.need D.info.ps.length (feOf tab scr d j))
  | 0, j, D, fa, fd, hj, _ => fn_false
  | d + 1, j, D, fa, fd, hj, ⟨st, F, S, hc⟩ => by
    have ef : feOf tab scr (d + 1) j = bodyF D.N.length (semB (feOf tab scr d) scr D.ir) := by
      show (match tab[j]? with | some D => _ | none => _) = _
      rw [hj]
    rw [ef]
    refine fun_go F S fun cdv A ou s H E room calm sc => ?_
    refine (ss_all (feOf tab scr d) scr d 400).2 _ (ccOf tab D (defScope st)) _ _ ⟨rfl, S.nd, rfl, rfl, rfl, room, calm, B, fun h => sc h, fun f j' i hf => ?_⟩ PassesOwn.never hc
    obtain ⟨D', m, e1, e2, rfl, rfl⟩ := fnIx_tab hf
    have e1' : j' = m := by omega
    subst e1'
    have T' := T D' (List.mem_of_getElem? e2)
    obtain ⟨st', fa', fd', F', S', hc', hm', hb', hk'⟩ := T'.ex
    exact ⟨fa', fd', tab_ok B T scr d j' D' fa' fd' e2 ⟨st', F', S', hc'⟩, T'.n, hm', F'.kp, hb', hk'⟩
end
/-! ### the law -/
def spX (K : PySem.W.Frag) (f : Addr × List Int → F) : Sp := fun vs H Q E => ∃ c, spF K c true 1 (f c) vs H Q E
theorem scr_of {K : PySem.W.Frag} {H : Hp} {a : Addr} {ns : List Int} (hO : Only H) (h : SqL K H a (ns.map V.int)) : ScrOk K H (a, ns) := by
  rcases h with (h | ⟨o, h⟩) | h
  · rcases hO a with z | ⟨ob, xs, z⟩
    · rw [h] at z; cases z
    · rw [h] at z; cases z
  · exact .inl ⟨o, h⟩
  · exact .inr fun H' => .inr h
/-- what is left of a law -/
theorem law_prom {K : PySem.W.Frag} {f : Addr × List Int → F} {a : Addr} {ns : List Int} {H : Hp} (hO : Only H) (hS : SqL K H a (ns.map V.int)) (h : ∃ svs, f (a, ns) [.raw (.ref a)] = some (.dat (.bool true), svs)) : spX K f [.ref a] H (fun v _ => v = .bl true) E0 := by
  obtain ⟨svs, e⟩ := h
  refine ⟨(a, ns), rfl, fun _ => scr_of hO hS, fun _ => none, [.raw (.ref a)], .dat (.bool true), svs, ⟨fun b o z => (nomatch z), rfl, fun i d z => ?_, fun i v z => ?_, fun i ds z => ?_, fun i j b p q => ?_⟩, e, fun v Z' H' r => ?_⟩
  · have := map_get.mp z
    cases i with
    | zero => cases this
    | succ i => simp at this
  · have := map_get.mp z
    cases i with
    | zero => cases this; rfl
    | succ i => simp at this
  · have := mu_at z
    cases i with
    | zero => rcases this with z | z <;> cases z
    | succ i => simp at this
  · obtain ⟨⟨ds, m⟩, _⟩ := p
    have := mu_at m
    cases i with
    | zero => rcases this with z | z <;> cases z
    | succ i => simp at this
  · cases r.ret
    rfl
theorem fn_x {P : Program} {w : World} {K : PySem.W.Frag} {mg : Str → Option Value} {base : Heap} {k : Nat} {f : Addr} {fd : FuncData} {x : Str} {ff : Addr × List Int → F} (h : ∀ c, FnG P w K mg base CX0 k f fd [x] (spF K c true 1 (ff c))) : FnG P w K mg base CX0 k f fd [x] (spX K ff) :=
  ⟨fun vs H Q E ⟨c, q⟩ => (h c).size vs H Q E q, fun A ou s H args us vs Q E r q e b v ⟨c, z⟩ => (h c).goes A ou s H args us vs Q E r q e b v z⟩
end DL

set_option Elab.async false
set_option linter.all false
set_option maxRecDepth 100000
set_option maxHeartbeats 4000000
set_option autoImplicit false
/-! DL, part u: from the head to the table. -/
namespace DL
open PySem L2 PySem.Spec
/-- a def of the text stands in the head -/
def HasFn (K : PySem.W.Frag) (x : Str) (st : Stmt) : Prop := ∃ (fa : Addr) (oc : Value) (od : Option Addr) (kV dc pm : Value) (an : Option Addr) (cd ct : Value) (sl : Array (Option Value)),
  PySem.W.nsIn K mainGlobals x = some (some (.ref fa)) ∧ K.lookup fa = some ⟨oc, od, .func (PySem.W.fnOf x x (defArgs st) (defBody st) (defScope st) .none kV dc pm an cd ct), sl⟩ ∧ PySem.W.codeIn K cd x = true ∧ PySem.W.keepIn K (.ref fa) = true
theorem kb_of {K : PySem.W.Frag} {fd : FuncData} {ps ks : List Str} {ix : List Nat} (hne : ps.length ≠ 0) (h : ∀ ws : List Value, ws.length = ks.length → bindArgs fd ⟨[], ks.zip ws⟩ = pure (ps.zip (reord ix ws))) : KBinds K fd ps ks (kG ks ix) (kG ks ix) := by
  refine ⟨fun s us ws _ hl => ?_, fun {vs us zs ws} r rz => ?_⟩
  · unfold kG at hl ⊢
    by_cases hc : (us.isEmpty && ws.length == ks.length) = true
    · rw [if_pos hc] at hl ⊢
      rw [Bool.and_eq_true] at hc
      have eu : us = [] := List.isEmpty_iff.mp hc.1
      subst eu
      exact .of_eq (h ws (eq_of_beq hc.2))
    · rw [if_neg hc] at hl
      exact absurd hl.symm hne
  · have e1 : vs.isEmpty = us.isEmpty := by cases r <;> rfl
    have e2 : zs.length = ws.length := rz.length
    have e : kG ks ix vs zs = if (us.isEmpty && ws.length == ks.length) = true then reord ix zs else [] := by unfold kG; rw [e1, e2]
    rw [e]
    unfold kG
    split
    · have : ∀ ix : List Nat, Vals (reord ix zs) (reord ix ws) := by
        intro ix
        induction ix with
        | nil => exact .nil
        | cons i ix ih =>
          unfold reord at ih ⊢
          rw [List.filterMap_cons, List.filterMap_cons]
          cases hz : zs[i]? with
          | none => rw [rz.none_of hz]; exact ih
          | some v =>
            obtain ⟨u, hu, rv⟩ := rz.get hz
            rw [hu]
            exact .cons rv ih
      exact this ix
    · exact .nil
theorem ent_of {K : PySem.W.Frag} {mg : Str → Option Value} {h : Heap} {tab : List FnDef} {D : FnDef} {st : Stmt} (X : K.In h) (G : h.Ns mainGlobals mg) (hf : HasFn K D.name st) (S : FnScope D.N D.info.ps (defScope st)) (hc : compSs 400 (ccOf tab D (defScope st)) (defBody st) = some D.ir) (hn : D.info.n = D.info.ps.length)
    (hb : ∀ (kV doc pm : Value) (an : Option Addr) (cdv ct : Value) (us : List Value), us.length = D.info.ps.length → bindArgs (PySem.W.fnOf D.name D.name (defArgs st) (defBody st) (defScope st) .none kV doc pm an cdv ct) ⟨us, []⟩ = pure (D.info.ps.zip us))
    (hk : ∀ (kV doc pm : Value) (an : Option Addr) (cdv ct : Value), ∀ ks ∈ D.info.kws, ∀ ix, kwIx D.info.ps ks = some ix → D.info.ps.length ≠ 0 ∧ ∀ ws : List Value, ws.length = ks.length → bindArgs (PySem.W.fnOf D.name D.name (defArgs st) (defBody st) (defScope st) .none kV doc pm an cdv ct) ⟨[], ks.zip ws⟩ = pure (D.info.ps.zip (reord ix ws))) : Entry K mg tab D := by
  obtain ⟨fa, oc, od, kV, dc, pm, an, cd, ct, sl, a, l, c, k⟩ := hf
  have F := fun_mk l c k
  exact ⟨⟨st, fa, _, F, S, hc, PySem.W.mg_of X G a, F.binds hb, fun ks hks ix hix => kb_of (hk kV dc pm an cd ct ks hks ix hix).1 (hk kV dc pm an cd ct ks hks ix hix).2⟩, hn⟩
/-- no keywords -/
theorem nokw {α : Prop} {ks : List Str} (h : ks ∈ ([] : List (List Str))) : α := nomatch h
structure Blz (K : PySem.W.Frag) : Prop where
  len : PySem.W.nsIn K mainGlobals "len" = some none
  abs : PySem.W.nsIn K mainGlobals "abs" = some none
  int : PySem.W.nsIn K mainGlobals "int" = some none
  str : PySem.W.nsIn K mainGlobals "str" = some none
  bool : PySem.W.nsIn K mainGlobals "bool" = some none
  min : PySem.W.nsIn K mainGlobals "min" = some none
  max : PySem.W.nsIn K mainGlobals "max" = some none
  sum : PySem.W.nsIn K mainGlobals "sum" = some none
  all : PySem.W.nsIn K mainGlobals "all" = some none
  any : PySem.W.nsIn K mainGlobals "any" = some none
  sorted : PySem.W.nsIn K mainGlobals "sorted" = some none
  list : PySem.W.nsIn K mainGlobals "list" = some none
  tuple : PySem.W.nsIn K mainGlobals "tuple" = some none
  range : PySem.W.nsIn K mainGlobals "range" = some none
  zip : PySem.W.nsIn K mainGlobals "zip" = some none
  enumerate : PySem.W.nsIn K mainGlobals "enumerate" = some none
  repr : PySem.W.nsIn K mainGlobals "repr" = some none
  isinstance : PySem.W.nsIn K mainGlobals "isinstance" = some none
  set : PySem.W.nsIn K mainGlobals "set" = some none
  dict : PySem.W.nsIn K mainGlobals "dict" = some none
theorem Blz.bl {K : PySem.W.Frag} {mg : Str → Option Value} {h : Heap} (z : Blz K) (X : K.In h) (G : h.Ns mainGlobals mg) : Bl mg :=
  ⟨PySem.W.mg_none_of X G z.len, PySem.W.mg_none_of X G z.abs, PySem.W.mg_none_of X G z.int, PySem.W.mg_none_of X G z.str, PySem.W.mg_none_of X G z.bool, PySem.W.mg_none_of X G z.min, PySem.W.mg_none_of X G z.max, PySem.W.mg_none_of X G z.sum, PySem.W.mg_none_of X G z.all, PySem.W.mg_none_of X G z.any, PySem.W.mg_none_of X G z.sorted,
    PySem.W.mg_none_of X G z.list, PySem.W.mg_none_of X G z.tuple, PySem.W.mg_none_of X G z.range, PySem.W.mg_none_of X G z.zip, PySem.W.mg_none_of X G z.enumerate, PySem.W.mg_none_of X G z.repr, PySem.W.mg_none_of X G z.isinstance, PySem.W.mg_none_of X G z.set, PySem.W.mg_none_of X G z.dict⟩
/-- the law's own entry -/
theorem law_fn {P : Program} {w : World} {K : PySem.W.Frag} {mg : Str → Option Value} {h : Heap} {fa : Addr} {tab : List FnDef} {D : FnDef} {j d : Nat} {x : Str} {st : Stmt} (X : K.In h) (G : h.Ns mainGlobals mg) (B : Bl mg) (T : ∀ D ∈ tab, Entry K mg tab D) (hj : tab[j]? = some D) (hfa : mg D.name = some (.ref fa)) (hps : D.info.ps = [x]) (hneed : D.info.need = true)
    (hf : HasFn K D.name st) (S : FnScope D.N D.info.ps (defScope st)) (hc : compSs 400 (ccOf tab D (defScope st)) (defBody st) = some D.ir)
    (hb : ∀ (kV doc pm : Value) (an : Option Addr) (cdv ct : Value) (us : List Value), us.length = D.info.ps.length → bindArgs (PySem.W.fnOf D.name D.name (defArgs st) (defBody st) (defScope st) .none kV doc pm an cdv ct) ⟨us, []⟩ = pure (D.info.ps.zip us)) :
    ∃ fd : FuncData, (∀ (s : Shared) (u : Value), BindsTo s fd ⟨[u], []⟩ [(x, u)]) ∧ ∀ base : Heap, K.In base → base.Ns mainGlobals mg → FnG P w K mg base CX0 d fa fd [x] (spX K fun c => feOf tab c d j) := by
  obtain ⟨fa', oc, od, kV, dc, pm, an, cd, ct, sl, a, l, c, k⟩ := hf
  have F := fun_mk l c k
  have hm := PySem.W.mg_of X G a
  rw [hfa] at hm
  cases hm
  refine ⟨PySem.W.fnOf D.name D.name (defArgs st) (defBody st) (defScope st) .none kV dc pm an cd ct, fun s u => .of_eq ?_, fun base _ _ => fn_x fun c => ?_⟩
  · have := hb kV dc pm an cd ct [u] (by rw [hps]; rfl)
    rw [hps] at this
    exact this
  · have q := tab_ok (P := P) (w := w) (base := base) B T c d j D fa _ hj ⟨st, F, S, hc⟩
    rw [hneed, hps] at q
    exact q
end DL

set_option Elab.async false
set_option linter.all false
set_option maxRecDepth 100000
set_option autoImplicit false
/-! the laws' own scaffolding -/
namespace DL
open PySem L2
abbrev iL (xs : List Int) : List D := xs.map PyData.int
def irTake : IB := (.cons (.ite (.b2 8 (.b2 14 (.nm 0) (.ci 0)) (.ci 0)) (.cons (.set 2 (.b2 3 (.b2 14 (.nm 0) (.ci 0)) (.nm 1))) (.cons (.six 0 (.ci 0) (.b2 4 (.b2 14 (.nm 0) (.ci 0)) (.nm 1))) (.cons (.ret (.nm 2)) .nil))) .nil) (.cons (.six 0 (.ci 2) (.b2 0 (.b2 14 (.nm 0) (.ci 2)) (.ci 1))) (.cons (.set 3 (.b2 3 (.b2 0 (.b2 14 (.nm 0) (.ci 1)) (.b2 2 (.ci 1442695040888963407) (.b2 14 (.nm 0) (.ci 2)))) (.ci 2305843009213693951))) (.cons (.set 3 (.b2 3 (.b2 0 (.b2 0 (.b2 2 (.nm 3) (.nm 3)) (.b2 2 (.ci 39373) (.b2 14 (.nm 0) (.ci 2)))) (.ci 7)) (.ci 2305843009213693921))) (.cons (.set 3 (.b2 3 (.b2 0 (.b2 2 (.nm 3) (.b2 0 (.b2 4 (.nm 3) (.ci 65536)) (.ci 3))) (.b2 14 (.nm 0) (.ci 2))) (.ci 2305843009213693907))) (.cons (.ret (.b2 3 (.b2 4 (.nm 3) (.ci 1048576)) (.nm 1))) .nil))))))
theorem atI3_0 (x y z : D) : atI [x, y, z] 0 = some x := rfl
theorem atI3_1 (x y z : D) : atI [x, y, z] 1 = some y := rfl
theorem atI3_2 (x y z : D) : atI [x, y, z] 2 = some z := rfl
theorem ixN3_0 : ixN 3 0 = some 0 := rfl
theorem ixN3_2 : ixN 3 2 = some 2 := rfl
def mixI (y z : Int) : Int := ((((y + 1442695040888963407 * z) % 2305843009213693951 * ((y + 1442695040888963407 * z) % 2305843009213693951) + 39373 * z + 7) % 2305843009213693921) * (((y + 1442695040888963407 * z) % 2305843009213693951 * ((y + 1442695040888963407 * z) % 2305843009213693951) + 39373 * z + 7) % 2305843009213693921 / 65536 + 3) + z) % 2305843009213693907
def TakeSpec (f : F) : Prop := ∀ (x y z b : Int), 0 < b → b < 1073741824 → ∃ r x' y' z' : Int, 0 ≤ r ∧ r < b ∧ f [.io [.int x, .int y, .int z], .dat (.int b)] = some (.dat (.int r), [.io [.int x', .int y', .int z'], .dat (.int b)])
theorem lTake_ok {fe : FE} {scr : Addr × List Int} : TakeSpec (bodyF 4 (semB fe scr irTake)) := fun x y z b h1 h2 => by
  have hb : decide (0 < b) = true := decide_eq_true h1
  have hb2 : decide (0 < b ∧ b < 1073741824) = true := decide_eq_true ⟨h1, h2⟩
  unfold bodyF irTake
  by_cases hx : 0 < x
  · refine ⟨x % b, x / b, y, z, Int.emod_nonneg _ (by omega), Int.emod_lt_of_pos _ h1, ?_⟩
    simp only [semB, semS, semE, semT, semL, semP, semI, semC, semR, seqG, setG, parG, asgG, setixG, augG, retG, dropG, skipG, ifG, forG, bindM, retM, nameD, cD, bin2, pk2, un1, pk1, chainD, notE, ifE, andE, orE, test, notT, andT, orT, yesT, peek, peeks, lst1, wr, frz1, frzs, dataA, dispL, dispT, consA, nilA, callP, callD, callB, passA, passF, passF1, passIO, passM, outO, backIO, take1, takes, putS, puts, ret1, toO, mutD, asI, poN, poS, slD, itemsD, seqD, wipeS, restS, p2, p1, pB, uM, gA, addP, subP, mulP, modP, fdivP, powP, ltP, leP, gtP, geP, ii, iic, ixP, negP, isNP, notNP, lenP, absP, intP, appU, popU, List.getElem?_cons_zero, List.getElem?_cons_succ, List.getElem?_nil, List.set_cons_zero, List.set_cons_succ, List.length_cons, List.length_nil, Option.bind_some, Option.map_some, Option.bind_none, Option.map_none, List.map_cons, List.map_nil, List.cons_append, List.nil_append, List.replicate_succ, List.replicate_zero, Nat.zero_add, Nat.reduceAdd, Nat.reduceSub, Nat.reduceEqDiff, Nat.add_eq, putN, putNs, putCons, putNil, putT, putTg, truD, decide_true, decide_false, if_true, if_false, Bool.false_eq_true, reduceIte, ite_true, ite_false, Bool.not_true, Bool.not_false, gt_iff_lt, ge_iff_le, atI3_0, atI3_1, atI3_2, ixN3_0, hx, hb, hb2, outs]
  · have hx' : decide (0 < x) = false := decide_eq_false hx
    have m1 : decide ((0 : Int) < 2305843009213693951) = true := by decide
    have m2 : decide ((0 : Int) < 2305843009213693921) = true := by decide
    have m3 : decide ((0 : Int) < 2305843009213693907) = true := by decide
    have f1 : decide ((0 : Int) < 65536 ∧ (65536 : Int) < 1073741824) = true := by decide
    have f2 : decide ((0 : Int) < 1048576 ∧ (1048576 : Int) < 1073741824) = true := by decide
    have c1 : ∀ w : Int, ((-(2 ^ 64) < (1442695040888963407 : Int) ∧ (1442695040888963407 : Int) < 2 ^ 64) ∨ (-(2 ^ 64) < w ∧ w < 2 ^ 64)) = True := fun w => eq_true (.inl (by decide))
    have c2 : ∀ w : Int, ((-(2 ^ 64) < (39373 : Int) ∧ (39373 : Int) < 2 ^ 64) ∨ (-(2 ^ 64) < w ∧ w < 2 ^ 64)) = True := fun w => eq_true (.inl (by decide))
    have c3 : ∀ v w : Int, ((-(2 ^ 64) < v % 2305843009213693951 ∧ v % 2305843009213693951 < 2 ^ 64) ∨ (-(2 ^ 64) < w ∧ w < 2 ^ 64)) = True := fun v w => eq_true (.inl (by have := Int.emod_nonneg v (b := 2305843009213693951) (by decide); have := Int.emod_lt_of_pos v (b := 2305843009213693951) (by decide); omega))
    have c4 : ∀ v w : Int, ((-(2 ^ 64) < v % 2305843009213693921 ∧ v % 2305843009213693921 < 2 ^ 64) ∨ (-(2 ^ 64) < w ∧ w < 2 ^ 64)) = True := fun v w => eq_true (.inl (by have := Int.emod_nonneg v (b := 2305843009213693921) (by decide); have := Int.emod_lt_of_pos v (b := 2305843009213693921) (by decide); omega))
    refine ⟨mixI y (z + 1) / 1048576 % b, x, y, z + 1, ?r1, ?r2, ?e⟩
    case e =>
      simp only [semB, semS, semE, semT, semL, semP, semI, semC, semR, seqG, setG, parG, asgG, setixG, augG, retG, dropG, skipG, ifG, forG, bindM, retM, nameD, cD, bin2, pk2, un1, pk1, chainD, notE, ifE, andE, orE, test, notT, andT, orT, yesT, peek, peeks, lst1, wr, frz1, frzs, dataA, dispL, dispT, consA, nilA, callP, callD, callB, passA, passF, passF1, passIO, passM, outO, backIO, take1, takes, putS, puts, ret1, toO, mutD, asI, poN, poS, slD, itemsD, seqD, wipeS, restS, p2, p1, pB, uM, gA, addP, subP, mulP, modP, fdivP, powP, ltP, leP, gtP, geP, ii, iic, ixP, negP, isNP, notNP, lenP, absP, intP, appU, popU, List.getElem?_cons_zero, List.getElem?_cons_succ, List.getElem?_nil, List.set_cons_zero, List.set_cons_succ, List.length_cons, List.length_nil, Option.bind_some, Option.map_some, Option.bind_none, Option.map_none, List.map_cons, List.map_nil, List.cons_append, List.nil_append, List.replicate_succ, List.replicate_zero, Nat.zero_add, Nat.reduceAdd, Nat.reduceSub, Nat.reduceEqDiff, Nat.add_eq, putN, putNs, putCons, putNil, putT, putTg, truD, decide_true, decide_false, if_true, if_false, Bool.false_eq_true, reduceIte, ite_true, ite_false, Bool.not_true, Bool.not_false, gt_iff_lt, ge_iff_le, atI3_0, atI3_1, atI3_2, ixN3_0, ixN3_2, hx, hx', hb, hb2, outs, m1, m2, m3, f1, f2, c1, c2, c3, c4, mixI]
    case r1 => exact Int.emod_nonneg _ (by omega)
    case r2 => exact Int.emod_lt_of_pos _ h1

/-! ### loops by an invariant -/
theorem loopG_inv {p : D → S → Option S} {b : G} (I : Nat → S → Prop) : ∀ {ds : List D} {n : Nat} {s : S}, I n s → (∀ (i : Nat) (d : D) (s : S), ds[i]? = some d → I (n + i) s → ∃ s1 s2, p d s = some s1 ∧ b s1 = some (.nx s2) ∧ I (n + i + 1) s2) → ∃ s', loopG p b ds s = some (.nx s') ∧ I (n + ds.length) s'
  | [], n, s, h0, _ => ⟨s, rfl, h0⟩
  | d :: ds, n, s, h0, step => by
    obtain ⟨s1, s2, e1, e2, h1⟩ := step 0 d s rfl h0
    obtain ⟨s', e3, h2⟩ := loopG_inv I (ds := ds) (n := n + 1) h1 fun i d s hd hi => by
      have := step (i + 1) d s (by simpa using hd) (by rw [← Nat.add_assoc, Nat.add_right_comm]; exact hi)
      rw [← Nat.add_assoc, Nat.add_right_comm n i 1] at this
      exact this
    refine ⟨s', ?_, by rw [List.length_cons, ← Nat.add_assoc, Nat.add_right_comm]; exact h2⟩
    unfold loopG
    rw [e1, Option.bind_some, e2]
    exact e3
theorem lcLoop_inv {vs : List Nat} {p : D → S → Option S} {c : M Bool} {el : M O} (I : Nat → S → Prop) (g : Nat → D) : ∀ {ds : List D} {n : Nat} {s : S}, I n s → (∀ (i : Nat) (d : D) (s : S), ds[i]? = some d → I (n + i) s → ∃ s1 s2 s3, p d (wipeS s vs) = some s1 ∧ c s1 = some (true, s2) ∧ bindM el frz1 s2 = some (g (n + i), s3) ∧ I (n + i + 1) s3) →
    ∃ s', lcLoop vs p c el ds s = some ((List.range ds.length).map fun i => g (n + i), s') ∧ I (n + ds.length) s'
  | [], n, s, h0, _ => ⟨s, rfl, h0⟩
  | d :: ds, n, s, h0, step => by
    obtain ⟨s1, s2, s3, e1, e2, e3, h1⟩ := step 0 d s rfl h0
    obtain ⟨s', e4, h2⟩ := lcLoop_inv I g (ds := ds) (n := n + 1) h1 fun i d s hd hi => by
      have := step (i + 1) d s (by simpa using hd) (by rw [← Nat.add_assoc, Nat.add_right_comm]; exact hi)
      rw [← Nat.add_assoc, Nat.add_right_comm n i 1] at this
      exact this
    refine ⟨s', ?_, by rw [List.length_cons, ← Nat.add_assoc, Nat.add_right_comm]; exact h2⟩
    unfold lcLoop
    rw [e1, Option.bind_some, e2, Option.bind_some]
    dsimp only
    rw [if_pos rfl, e3, Option.bind_some]
    dsimp only
    rw [e4]
    rw [Option.map_some]
    dsimp only
    rw [List.length_cons, List.range_succ_eq_map, List.map_cons, List.map_map]
    have : (fun i => g (n + 1 + i)) = ((fun i => g (n + i)) ∘ Nat.succ) := by
      funext i
      show g (n + 1 + i) = g (n + (i + 1))
      rw [Nat.add_assoc, Nat.add_comm 1 i]
    rw [this]
/-! ### a box -/
def irBox : IB := (.cons (.set 2 (.b2 14 (.nm 0) (.nm 1))) (.cons (.ret (.dl (.cons (.b2 2 (.bl 1 (.cons (.nm 2) .nil)) (.bl 2 (.cons (.b2 9 (.bl 1 (.cons (.nm 2) .nil)) (.b2 5 (.ci 10) (.ci 18))) .nil))) (.cons (.b2 0 (.b2 0 (.b2 3 (.nm 2) (.ci 2305843009213693951)) (.b2 2 (.ci 15485863) (.nm 1))) (.ci 13)) (.cons (.ci 0) .nil))))) .nil))
def BoxSpec (f : F) : Prop := ∀ (cs : List Int) (k : Nat), k < cs.length → ∃ x y z : Int, f [.dat (.list (iL cs)), .dat (.int (k : Nat))] = some (.own [.int x, .int y, .int z], [.dat (.list (iL cs)), .dat (.int (k : Nat))])
theorem ixN_nat {n k : Nat} (h : k < n) : ixN n (k : Int) = some k := by
  unfold ixN
  rw [if_pos (by omega), if_pos (by omega)]
  simp
theorem atI_iL {cs : List Int} {k : Nat} (h : k < cs.length) : atI (iL cs) (k : Int) = some (.int cs[k]) := by
  unfold atI
  rw [show (iL cs).length = cs.length from List.length_map .., ixN_nat h, Option.bind_some, List.getElem?_map, List.getElem?_eq_getElem h]
  rfl
theorem box_ok {fe : FE} {scr : Addr × List Int} : BoxSpec (bodyF 3 (semB fe scr irBox)) := fun cs k hk => by
  have m1 : decide ((0 : Int) < 2305843009213693951) = true := by decide
  have w1 : decide ((0 : Int) ≤ 18 ∧ (18 : Int) ≤ 1000000 ∧ (10 : Int).natAbs < 2 ^ 64) = true := by decide
  have c1 : ∀ w : Int, ((-(2 ^ 64) < (15485863 : Int) ∧ (15485863 : Int) < 2 ^ 64) ∨ (-(2 ^ 64) < w ∧ w < 2 ^ 64)) = True := fun w => eq_true (.inl (by decide))
  have c2 : ∀ (w : Int) (b : Bool), ((-(2 ^ 64) < w ∧ w < 2 ^ 64) ∨ (-(2 ^ 64) < (if b = true then 1 else 0 : Int) ∧ (if b = true then 1 else 0 : Int) < 2 ^ 64)) = True := fun w b => eq_true (.inr (by cases b <;> decide))
  unfold bodyF irBox
  simp only [semB, semS, semE, semT, semL, semP, semI, semC, semR, seqG, setG, parG, asgG, setixG, augG, retG, dropG, skipG, ifG, forG, bindM, retM, nameD, cD, bin2, pk2, un1, pk1, chainD, notE, ifE, andE, orE, test, notT, andT, orT, yesT, peek, peeks, lst1, wr, frz1, frzs, dataA, dispL, dispT, consA, nilA, callP, callD, callB, passA, passF, passF1, passIO, passM, outO, backIO, take1, takes, putS, puts, ret1, toO, mutD, asI, poN, poS, slD, itemsD, seqD, wipeS, restS, p2, p1, pB, uM, gA, addP, subP, mulP, modP, fdivP, powP, ltP, leP, gtP, geP, ii, iic, ixP, negP, isNP, notNP, lenP, absP, intP, appU, popU, List.getElem?_cons_zero, List.getElem?_cons_succ, List.getElem?_nil, List.set_cons_zero, List.set_cons_succ, List.length_cons, List.length_nil, Option.bind_some, Option.map_some, Option.bind_none, Option.map_none, List.map_cons, List.map_nil, List.cons_append, List.nil_append, List.replicate_succ, List.replicate_zero, Nat.zero_add, Nat.reduceAdd, Nat.reduceSub, Nat.reduceEqDiff, Nat.add_eq, putN, putNs, putCons, putNil, putT, putTg, truD, decide_true, decide_false, if_true, if_false, Bool.false_eq_true, reduceIte, ite_true, ite_false, Bool.not_true, Bool.not_false, gt_iff_lt, ge_iff_le, atI_iL hk, m1, w1, c1, c2, outs]
  exact ⟨_, _, _, rfl⟩
/-- a slot that may be stored to: nothing, or data -/
def DN (x : Option SV) : Prop := x = none ∨ ∃ d, x = some (.dat d)
theorem DN.no : DN none := .inl rfl
theorem DN.da (d : D) : DN (some (.dat d)) := .inr ⟨d, rfl⟩
theorem putS_dn {i : Nat} {s : S} {x : Option SV} {y : SV} (h : s[i]? = some x) (hx : DN x) : putS i y s = some (s.set i (some y)) := by
  unfold putS
  rw [h]
  rcases hx with rfl | ⟨d, rfl⟩ <;> rfl
theorem put1_dn {i : Nat} {s : S} {x : Option SV} {d : D} (h : s[i]? = some x) (hx : DN x) : putTg [i] false d s = some (s.set i (some (.dat d))) := putS_dn h hx
theorem put2_dn {i j : Nat} {s : S} {x y : Option SV} {d e : D} (h : s[i]? = some x) (hx : DN x) (h' : (s.set i (some (.dat d)))[j]? = some y) (hy : DN y) : putTg [i, j] true (.tuple [d, e]) s = some ((s.set i (some (.dat d))).set j (some (.dat e))) := by
  show (putS i (.dat d) s).bind (fun s1 => (putS j (.dat e) s1).bind fun s2 => some s2) = _
  rw [putS_dn h hx, Option.bind_some, putS_dn h' hy, Option.bind_some]
/-! ### the cells -/
def irCells : IB := (.cons (.set 2 (.ro (.bl 10 (.cons (.ss 0 .no (.so (.nm 1))) .nil)) (.dl (.cons (.ci 0) .nil)))) (.cons (.fo (.en (.cons (.ss 0 (.so (.nm 1)) (.so (.ci 63))) .nil)) [3, 4] true (.cons (.six 2 (.b2 3 (.nm 3) (.nm 1)) (.b2 0 (.b2 14 (.nm 2) (.b2 3 (.nm 3) (.nm 1))) (.b2 2 (.nm 4) (.b2 0 (.nm 3) (.ci 2))))) .nil)) (.cons (.ret (.nm 2)) .nil)))
def CellsSpec (scr : Addr × List Int) (f : F) : Prop := ∀ (u : Nat), 0 < u → u ≤ 63 → ∃ cs : List Int, cs ≠ [] ∧ cs.length ≤ u ∧ f [.raw (.ref scr.1), .dat (.int (u : Nat))] = some (.own (iL cs), [.raw (.ref scr.1), .dat (.int (u : Nat))])
theorem semB_nx {fe : FE} {scr : Addr × List Int} {st : IS} {b : IB} {s s1 : S} (h : semS fe scr st s = some (.nx s1)) : semB fe scr (.cons st b) s = semB fe scr b s1 := by
  show seqG (semS fe scr st) (semB fe scr b) s = _
  unfold seqG
  rw [h]
theorem semB_rt {fe : FE} {scr : Addr × List Int} {st : IS} {b : IB} {s s1 : S} {r : SV} (h : semS fe scr st s = some (.rt r s1)) : semB fe scr (.cons st b) s = some (.rt r s1) := by
  show seqG (semS fe scr st) (semB fe scr b) s = _
  unfold seqG
  rw [h]
theorem bodyF_rt {n : Nat} {g : G} {svs : List SV} {r : SV} {s' : S} (h : g (svs.map some ++ List.replicate (n - svs.length) none) = some (.rt r s')) : bodyF n g svs = some (r, outs svs s') := by
  unfold bodyF
  rw [h]
theorem cut_take {xs : List D} {u : Nat} : cutD xs none (some (u : Int)) = xs.take u := by
  unfold cutD
  rw [HT.sIx_none, HT.sIx_nat, Nat.sub_zero, List.drop_zero, Nat.min_def]
  split
  · rfl
  · rw [List.take_length, List.take_of_length_le (by omega)]
theorem cut_drop {xs : List D} {u v : Nat} (h : xs.length ≤ v) : cutD xs (some (u : Int)) (some (v : Int)) = xs.drop u := by
  unfold cutD
  rw [HT.sIx_nat, HT.sIx_nat, Nat.min_eq_right h]
  by_cases hu : u ≤ xs.length
  · rw [Nat.min_eq_left hu, List.take_of_length_le (by rw [List.length_drop]; exact Nat.le_refl _)]
  · rw [Nat.min_eq_right (by omega), List.drop_length, List.drop_eq_nil_of_le (by omega), List.take_nil]
theorem cells_ok {fe : FE} {scr : Addr × List Int} (hl : scr.2.length ≤ 63) : CellsSpec scr (bodyF 5 (semB fe scr irCells)) := fun u h1 h2 => by
  have e1 : isRaw (some (some (SV.raw (.ref scr.1)))) = true := rfl
  have hu : decide ((0 : Int) < (u : Int)) = true := decide_eq_true (by omega)
  -- the first cells
  obtain ⟨cs, hne, hcl, hcu, s1⟩ : ∃ cs : List Int, cs ≠ [] ∧ cs.length ≤ u ∧ (scr.2.drop u ≠ [] → cs.length = u) ∧ semS fe scr (.set 2 (.ro (.bl 10 (.cons (.ss 0 .no (.so (.nm 1))) .nil)) (.dl (.cons (.ci 0) .nil)))) [some (.raw (.ref scr.1)), some (.dat (.int (u : Nat))), none, none, none] = some (.nx [some (.raw (.ref scr.1)), some (.dat (.int (u : Nat))), some (.own (iL cs)), none, none]) := by
    cases hs : scr.2.take u with
    | nil =>
      refine ⟨[0], by simp, by simp; omega, fun z => ?_, ?_⟩
      · have : scr.2 = [] := by
          cases hq : scr.2 with
          | nil => rfl
          | cons y r => rw [hq] at hs; cases u with
            | zero => omega
            | succ u => simp at hs
        rw [this] at z
        simp at z
      · simp only [semB, semS, semE, semT, semL, semP, semI, semC, semR, seqG, setG, parG, asgG, setixG, augG, retG, dropG, skipG, ifG, forG, bindM, retM, nameD, cD, bin2, pk2, un1, pk1, chainD, notE, ifE, andE, orE, test, notT, andT, orT, yesT, peek, peeks, lst1, wr, frz1, frzs, dataA, dispL, dispT, consA, nilA, callP, callD, callB, passA, passF, passF1, passIO, passM, outO, backIO, take1, takes, putS, puts, ret1, toO, mutD, asI, poN, poS, slD, itemsD, seqD, wipeS, restS, p2, p1, pB, uM, gA, addP, subP, mulP, modP, fdivP, powP, ltP, leP, gtP, geP, ii, iic, ixP, negP, isNP, notNP, lenP, absP, intP, appU, popU, List.getElem?_cons_zero, List.getElem?_cons_succ, List.getElem?_nil, List.set_cons_zero, List.set_cons_succ, List.length_cons, List.length_nil, Option.bind_some, Option.map_some, Option.bind_none, Option.map_none, List.map_cons, List.map_nil, List.cons_append, List.nil_append, List.replicate_succ, List.replicate_zero, Nat.zero_add, Nat.reduceAdd, Nat.reduceSub, Nat.reduceEqDiff, Nat.add_eq, putN, putNs, putCons, putNil, putT, putTg, truD, decide_true, decide_false, if_true, if_false, Bool.false_eq_true, reduceIte, ite_true, ite_false, Bool.not_true, Bool.not_false, gt_iff_lt, ge_iff_le, e1, slScr, listP, cut_take, ← List.map_take, hs, List.isEmpty_nil]
        rfl
    | cons y r =>
      refine ⟨y :: r, by simp, by rw [← hs, List.length_take]; omega, fun z => ?_, ?_⟩
      · rw [← hs, List.length_take]
        have : u < scr.2.length := by
          apply Classical.byContradiction
          intro q
          exact z (List.drop_eq_nil_of_le (by omega))
        omega
      · simp only [semB, semS, semE, semT, semL, semP, semI, semC, semR, seqG, setG, parG, asgG, setixG, augG, retG, dropG, skipG, ifG, forG, bindM, retM, nameD, cD, bin2, pk2, un1, pk1, chainD, notE, ifE, andE, orE, test, notT, andT, orT, yesT, peek, peeks, lst1, wr, frz1, frzs, dataA, dispL, dispT, consA, nilA, callP, callD, callB, passA, passF, passF1, passIO, passM, outO, backIO, take1, takes, putS, puts, ret1, toO, mutD, asI, poN, poS, slD, itemsD, seqD, wipeS, restS, p2, p1, pB, uM, gA, addP, subP, mulP, modP, fdivP, powP, ltP, leP, gtP, geP, ii, iic, ixP, negP, isNP, notNP, lenP, absP, intP, appU, popU, List.getElem?_cons_zero, List.getElem?_cons_succ, List.getElem?_nil, List.set_cons_zero, List.set_cons_succ, List.length_cons, List.length_nil, Option.bind_some, Option.map_some, Option.bind_none, Option.map_none, List.map_cons, List.map_nil, List.cons_append, List.nil_append, List.replicate_succ, List.replicate_zero, Nat.zero_add, Nat.reduceAdd, Nat.reduceSub, Nat.reduceEqDiff, Nat.add_eq, putN, putNs, putCons, putNil, putT, putTg, truD, decide_true, decide_false, if_true, if_false, Bool.false_eq_true, reduceIte, ite_true, ite_false, Bool.not_true, Bool.not_false, gt_iff_lt, ge_iff_le, e1, slScr, listP, cut_take, ← List.map_take, hs, List.isEmpty_cons]
  -- the later ones
  have s2 : ∃ cs' : List Int, ∃ x3 x4 : Option SV, cs' ≠ [] ∧ cs'.length ≤ u ∧ semS fe scr (.fo (.en (.cons (.ss 0 (.so (.nm 1)) (.so (.ci 63))) .nil)) [3, 4] true (.cons (.six 2 (.b2 3 (.nm 3) (.nm 1)) (.b2 0 (.b2 14 (.nm 2) (.b2 3 (.nm 3) (.nm 1))) (.b2 2 (.nm 4) (.b2 0 (.nm 3) (.ci 2))))) .nil)) [some (.raw (.ref scr.1)), some (.dat (.int (u : Nat))), some (.own (iL cs)), none, none] = some (.nx [some (.raw (.ref scr.1)), some (.dat (.int (u : Nat))), some (.own (iL cs')), x3, x4]) := by
    have hfi : semI fe scr (.en (.cons (.ss 0 (.so (.nm 1)) (.so (.ci 63))) .nil)) [some (.raw (.ref scr.1)), some (.dat (.int (u : Nat))), some (.own (iL cs)), none, none] = some (enumD (iL (scr.2.drop u)), [some (.raw (.ref scr.1)), some (.dat (.int (u : Nat))), some (.own (iL cs)), none, none]) := by
      have cd := cut_drop (xs := iL scr.2) (u := u) (v := 63) (by rw [List.length_map]; exact hl)
      have cd' : cutD (List.map PyData.int scr.2) (some (u : Int)) (some 63) = iL (scr.2.drop u) := by
        rw [show (some (63 : Int)) = some ((63 : Nat) : Int) from rfl]
        rw [cd, ← List.map_drop]
      simp only [semB, semS, semE, semT, semL, semP, semI, semC, semR, seqG, setG, parG, asgG, setixG, augG, retG, dropG, skipG, ifG, forG, bindM, retM, nameD, cD, bin2, pk2, un1, pk1, chainD, notE, ifE, andE, orE, test, notT, andT, orT, yesT, peek, peeks, lst1, wr, frz1, frzs, dataA, dispL, dispT, consA, nilA, callP, callD, callB, passA, passF, passF1, passIO, passM, outO, backIO, take1, takes, putS, puts, ret1, toO, mutD, asI, poN, poS, slD, itemsD, seqD, wipeS, restS, p2, p1, pB, uM, gA, addP, subP, mulP, modP, fdivP, powP, ltP, leP, gtP, geP, ii, iic, ixP, negP, isNP, notNP, lenP, absP, intP, appU, popU, List.getElem?_cons_zero, List.getElem?_cons_succ, List.getElem?_nil, List.set_cons_zero, List.set_cons_succ, List.length_cons, List.length_nil, Option.bind_some, Option.map_some, Option.bind_none, Option.map_none, List.map_cons, List.map_nil, List.cons_append, List.nil_append, List.replicate_succ, List.replicate_zero, Nat.zero_add, Nat.reduceAdd, Nat.reduceSub, Nat.reduceEqDiff, Nat.add_eq, putN, putNs, putCons, putNil, putT, putTg, truD, decide_true, decide_false, if_true, if_false, Bool.false_eq_true, reduceIte, ite_true, ite_false, Bool.not_true, Bool.not_false, gt_iff_lt, ge_iff_le, e1, slScr, enumS, cd']
    have key := loopG_inv (p := putTg [3, 4] true) (b := semB fe scr (.cons (.six 2 (.b2 3 (.nm 3) (.nm 1)) (.b2 0 (.b2 14 (.nm 2) (.b2 3 (.nm 3) (.nm 1))) (.b2 2 (.nm 4) (.b2 0 (.nm 3) (.ci 2))))) .nil)) (ds := enumD (iL (scr.2.drop u))) (n := 0) (s := [some (.raw (.ref scr.1)), some (.dat (.int (u : Nat))), some (.own (iL cs)), none, none])
      (fun _ s => ∃ cs' : List Int, ∃ x3 x4 : Option SV, DN x3 ∧ DN x4 ∧ cs'.length = cs.length ∧ s = [some (.raw (.ref scr.1)), some (.dat (.int (u : Nat))), some (.own (iL cs')), x3, x4]) ⟨cs, none, none, .no, .no, rfl, rfl⟩ ?_
    · obtain ⟨s', e, cs', x3, x4, _, _, hc', rfl⟩ := key
      refine ⟨cs', x3, x4, fun z => ?_, by omega, ?_⟩
      · subst z; exact hne (List.length_eq_zero_iff.mp hc'.symm)
      · show forG (semI fe scr _) _ _ _ = _
        unfold forG
        rw [hfi, Option.bind_some]
        exact e
    · rintro i d s hd ⟨cs', x3, x4, d3, d4, hc', rfl⟩
      unfold enumD at hd
      rw [List.getElem?_mapIdx, List.getElem?_map] at hd
      obtain ⟨d1, q1, q2⟩ := Option.map_eq_some_iff.mp hd
      obtain ⟨v, q3, q4⟩ := Option.map_eq_some_iff.mp q1
      subst q4 q2
      have hnz : scr.2.drop u ≠ [] := fun z => by rw [z] at q3; simp at q3
      have hil : i < (scr.2.drop u).length := (List.getElem?_eq_some_iff.mp q3).1
      rw [List.length_drop] at hil
      have hcu' : cs'.length = u := by rw [hc']; exact hcu hnz
      have hm : i % u < cs'.length := by rw [hcu']; exact Nat.mod_lt _ h1
      have em : ((i : Nat) : Int) % ((u : Nat) : Int) = ((i % u : Nat) : Int) := by omega
      have c1 : ((-(2 ^ 64) < v ∧ v < 2 ^ 64) ∨ (-(2 ^ 64) < ((i : Nat) : Int) + 2 ∧ ((i : Nat) : Int) + 2 < 2 ^ 64)) = True := eq_true (.inr (by omega))
      refine ⟨_, _, put2_dn rfl d3 rfl d4, ?_, cs'.set (i % u) (cs'[i % u] + v * (((i : Nat) : Int) + 2)), some (.dat (.int (i : Nat))), some (.dat (.int v)), .da _, .da _, by rw [List.length_set]; exact hc', rfl⟩
      simp only [semB, semS, semE, semT, semL, semP, semI, semC, semR, seqG, setG, parG, asgG, setixG, augG, retG, dropG, skipG, ifG, forG, bindM, retM, nameD, cD, bin2, pk2, un1, pk1, chainD, notE, ifE, andE, orE, test, notT, andT, orT, yesT, peek, peeks, lst1, wr, frz1, frzs, dataA, dispL, dispT, consA, nilA, callP, callD, callB, passA, passF, passF1, passIO, passM, outO, backIO, take1, takes, putS, puts, ret1, toO, mutD, asI, poN, poS, slD, itemsD, seqD, wipeS, restS, p2, p1, pB, uM, gA, addP, subP, mulP, modP, fdivP, powP, ltP, leP, gtP, geP, ii, iic, ixP, negP, isNP, notNP, lenP, absP, intP, appU, popU, List.getElem?_cons_zero, List.getElem?_cons_succ, List.getElem?_nil, List.set_cons_zero, List.set_cons_succ, List.length_cons, List.length_nil, Option.bind_some, Option.map_some, Option.bind_none, Option.map_none, List.map_cons, List.map_nil, List.cons_append, List.nil_append, List.replicate_succ, List.replicate_zero, Nat.zero_add, Nat.reduceAdd, Nat.reduceSub, Nat.reduceEqDiff, Nat.add_eq, putN, putNs, putCons, putNil, putT, putTg, truD, decide_true, decide_false, if_true, if_false, Bool.false_eq_true, reduceIte, ite_true, ite_false, Bool.not_true, Bool.not_false, gt_iff_lt, ge_iff_le, hu, em, atI_iL hm, ixN_nat hm, c1, List.length_map, ← List.map_set]
  obtain ⟨cs', x3, x4, hne', hcl', s2⟩ := s2
  refine ⟨cs', hne', hcl', ?_⟩
  have r := bodyF_rt (n := 5) (g := semB fe scr irCells) (svs := [.raw (.ref scr.1), .dat (.int (u : Nat))]) (r := .own (iL cs')) (s' := [some (.raw (.ref scr.1)), some (.dat (.int (u : Nat))), some (.own (iL cs')), x3, x4]) (by
    show semB fe scr irCells [some (.raw (.ref scr.1)), some (.dat (.int (u : Nat))), none, none, none] = _
    unfold irCells
    rw [semB_nx s1, semB_nx s2]
    simp only [semB, semS, semE, semT, semL, semP, semI, semC, semR, seqG, setG, parG, asgG, setixG, augG, retG, dropG, skipG, ifG, forG, bindM, retM, nameD, cD, bin2, pk2, un1, pk1, chainD, notE, ifE, andE, orE, test, notT, andT, orT, yesT, peek, peeks, lst1, wr, frz1, frzs, dataA, dispL, dispT, consA, nilA, callP, callD, callB, passA, passF, passF1, passIO, passM, outO, backIO, take1, takes, putS, puts, ret1, toO, mutD, asI, poN, poS, slD, itemsD, seqD, wipeS, restS, p2, p1, pB, uM, gA, addP, subP, mulP, modP, fdivP, powP, ltP, leP, gtP, geP, ii, iic, ixP, negP, isNP, notNP, lenP, absP, intP, appU, popU, List.getElem?_cons_zero, List.getElem?_cons_succ, List.getElem?_nil, List.set_cons_zero, List.set_cons_succ, List.length_cons, List.length_nil, Option.bind_some, Option.map_some, Option.bind_none, Option.map_none, List.map_cons, List.map_nil, List.cons_append, List.nil_append, List.replicate_succ, List.replicate_zero, Nat.zero_add, Nat.reduceAdd, Nat.reduceSub, Nat.reduceEqDiff, Nat.add_eq, putN, putNs, putCons, putNil, putT, putTg, truD, decide_true, decide_false, if_true, if_false, Bool.false_eq_true, reduceIte, ite_true, ite_false, Bool.not_true, Bool.not_false, gt_iff_lt, ge_iff_le])
  rw [r]
  rfl

/-! ### the laws' last def -/
def NI (x : Option SV) : Prop := ∀ ds, x ≠ some (.io ds)
theorem DN.ni {x : Option SV} (h : DN x) : NI x := by
  rcases h with rfl | ⟨d, rfl⟩ <;> exact fun ds z => nomatch z
theorem putS_ni {i : Nat} {s : S} {x : Option SV} {y : SV} (h : s[i]? = some x) (hx : NI x) : putS i y s = some (s.set i (some y)) := by
  unfold putS
  rw [h]
  cases x with
  | none => rfl
  | some v =>
    cases v with
    | io ds => exact absurd rfl (hx ds)
    | _ => rfl
def RightIO (f : F) : Prop := ∀ x y z : Int, ∃ x' y' z' : Int, f [.io [.int x, .int y, .int z]] = some (.dat (.bool true), [.io [.int x', .int y', .int z']])
def RightOwn (f : F) : Prop := ∀ x y z : Int, ∃ w, f [.own [.int x, .int y, .int z]] = some (.dat (.bool true), w)
def irLawA (jc jb jr : Nat) (u m : Int) : IB := (.cons (.set 1 (.cl jc 2 none (.cons (.nm 0) (.cons (.ci u) .nil)))) (.cons (.fo (.r1 (.cons (.bl 0 (.cons (.nm 1) .nil)) .nil)) [2] false (.cons (.set 3 (.cl jb 2 none (.cons (.nm 1) (.cons (.nm 2) .nil)))) (.cons (.ite (.u1 1 (.bl 7 (.cons (.lc (.r1 (.cons (.ci m) .nil)) [4] [4] false .nil (.cl jr 1 (some 0) (.cons (.nm 3) .nil))) .nil))) (.cons (.ret (.cb false)) .nil) .nil) .nil))) (.cons (.ret (.cb true)) .nil)))
theorem bools?_rep (n : Nat) : bools? ((List.range n).map fun _ => PyData.bool true) = some (List.replicate n true) := by
  induction n with
  | zero => rfl
  | succ n ih =>
    rw [List.range_succ_eq_map, List.map_cons, List.map_map]
    show (bools? ((List.range n).map fun _ => PyData.bool true)).map (true :: ·) = _
    rw [ih]
    rfl
theorem rgD'_get {a b : Int} {i : Nat} {d : D} (h : (rgD' a b)[i]? = some d) : d = .int (a + (i : Nat)) ∧ i < (b - a).toNat := by
  unfold rgD' at h
  rw [List.getElem?_map] at h
  obtain ⟨j, h1, h2⟩ := Option.map_eq_some_iff.mp h
  obtain ⟨hlt, h3⟩ := List.getElem?_eq_some_iff.mp h1
  rw [List.getElem_range] at h3
  subst h3
  rw [List.length_range] at hlt
  exact ⟨h2.symm, hlt⟩
theorem rgD'_len (a b : Int) : (rgD' a b).length = (b - a).toNat := by unfold rgD'; rw [List.length_map, List.length_range]
theorem all_rep (n : Nat) : (List.replicate n true).all id = true := by
  induction n with
  | zero => rfl
  | succ n ih => rw [List.replicate_succ, List.all_cons, ih]; rfl
theorem rng1S_ok {f : M (List O)} {s s' : S} {os : List O} {b : Int} (h : f s = some (os, s')) (hp : peeks s' os = some [.int b]) (h1 : -4611686018427387904 ≤ b) (h2 : b < 4611686018427387904) : rng1S f s = some (rgD' 0 b, s') := by
  have hc : -(2 ^ 62) ≤ b ∧ b < 2 ^ 62 := ⟨h1, h2⟩
  unfold rng1S
  refine bindM_some.mpr ⟨os, s', h, ?_⟩
  show (peeks s' os).bind _ = _
  rw [hp, Option.bind_some]
  exact if_pos hc
theorem rngLit_ok {fe : FE} {scr : Addr × List Int} {m : Nat} {s : S} (hm : m ≤ 1000) : semI fe scr (.r1 (.cons (.ci (m : Nat)) .nil)) s = some (rgD' 0 (m : Nat), s) := rng1S_ok (os := [.d (.int (m : Nat))]) rfl rfl (by omega) (by omega)
/-- [right(box) for turn in range(m)], the box in slot 3 -/
theorem lcR_ok {fe : FE} {scr : Addr × List Int} {jr m : Nat} {q0 q1 q2 : Option SV} {x y z : Int} (hr : RightIO (fe jr)) (hm : m ≤ 1000) : ∃ x' y' z' : Int, semE fe scr (.lc (.r1 (.cons (.ci (m : Nat)) .nil)) [4] [4] false .nil (.cl jr 1 (some 0) (.cons (.nm 3) .nil))) [q0, q1, q2, some (.own [.int x, .int y, .int z]), none] =
    some (.new ((List.range m).map fun _ => .bool true), [q0, q1, q2, some (.own [.int x', .int y', .int z']), none]) := by
  have hfi2 := rngLit_ok (fe := fe) (scr := scr) (m := m) (s := [q0, q1, q2, some (.own [.int x, .int y, .int z]), none]) hm
  have key := lcLoop_inv (vs := [4]) (p := putTg [4] false) (c := semC fe scr .nil) (el := semE fe scr (.cl jr 1 (some 0) (.cons (.nm 3) .nil))) (ds := rgD' 0 (m : Nat)) (n := 0) (s := [q0, q1, q2, some (.own [.int x, .int y, .int z]), none])
    (fun _ s => ∃ x' y' z' : Int, ∃ x4, DN x4 ∧ s = [q0, q1, q2, some (.own [.int x', .int y', .int z']), x4]) (fun _ => .bool true) ⟨x, y, z, none, .no, rfl⟩ (by
      rintro j d s hd ⟨x', y', z', x4, d4, rfl⟩
      obtain ⟨rfl, hj⟩ := rgD'_get hd
      obtain ⟨x2', y2', z2', er⟩ := hr x' y' z'
      refine ⟨[q0, q1, q2, some (.own [.int x', .int y', .int z']), some (.dat (.int (0 + (j : Nat))))], [q0, q1, q2, some (.own [.int x', .int y', .int z']), some (.dat (.int (0 + (j : Nat))))], [q0, q1, q2, some (.own [.int x2', .int y2', .int z2']), some (.dat (.int (0 + (j : Nat))))], rfl, rfl, ?_, x2', y2', z2', some (.dat (.int (0 + (j : Nat)))), .da _, rfl⟩
      simp only [semB, semS, semE, semT, semL, semP, semI, semC, semR, seqG, setG, parG, asgG, setixG, augG, retG, dropG, skipG, ifG, forG, bindM, retM, nameD, cD, bin2, pk2, un1, pk1, chainD, notE, ifE, andE, orE, test, notT, andT, orT, yesT, peek, peeks, lst1, wr, frz1, frzs, dataA, dispL, dispT, consA, nilA, callP, callD, callB, passA, passF, passF1, passIO, passM, outO, backIO, take1, takes, putS, puts, ret1, toO, mutD, asI, poN, poS, slD, itemsD, seqD, wipeS, restS, p2, p1, pB, uM, gA, addP, subP, mulP, modP, fdivP, powP, ltP, leP, gtP, geP, ii, iic, ixP, negP, isNP, notNP, lenP, absP, intP, appU, popU, List.getElem?_cons_zero, List.getElem?_cons_succ, List.getElem?_nil, List.set_cons_zero, List.set_cons_succ, List.length_cons, List.length_nil, Option.bind_some, Option.map_some, Option.bind_none, Option.map_none, List.map_cons, List.map_nil, List.cons_append, List.nil_append, List.replicate_succ, List.replicate_zero, Nat.zero_add, Nat.reduceAdd, Nat.reduceSub, Nat.reduceEqDiff, Nat.add_eq, putN, putNs, putCons, putNil, putT, putTg, truD, decide_true, decide_false, if_true, if_false, Bool.false_eq_true, reduceIte, ite_true, ite_false, Bool.not_true, Bool.not_false, gt_iff_lt, ge_iff_le, er])
  obtain ⟨s', e, x', y', z', x4, d4, rfl⟩ := key
  refine ⟨x', y', z', ?_⟩
  show lcD (semI fe scr (.r1 (.cons (.ci (m : Nat)) .nil))) [4] (putTg [4] false) (semC fe scr .nil) (semE fe scr (.cl jr 1 (some 0) (.cons (.nm 3) .nil))) _ = _
  unfold lcD
  rw [hfi2, Option.bind_some]
  have hc : (rgD' 0 (m : Nat)).length ≤ big ∧ clean [q0, q1, q2, some (.own [.int x, .int y, .int z]), none] [4] = true := ⟨by rw [rgD'_len]; unfold big; omega, rfl⟩
  dsimp only
  rw [if_pos hc, e, rgD'_len]
  simp only [Nat.zero_add, Int.sub_zero, Int.toNat_natCast, Option.map_some]
  rfl
def irTurnA (jb jr : Nat) (m : Int) : IB := (.cons (.set 3 (.cl jb 2 none (.cons (.nm 1) (.cons (.nm 2) .nil)))) (.cons (.ite (.u1 1 (.bl 7 (.cons (.lc (.r1 (.cons (.ci m) .nil)) [4] [4] false .nil (.cl jr 1 (some 0) (.cons (.nm 3) .nil))) .nil))) (.cons (.ret (.cb false)) .nil) .nil) .nil))
theorem iteR_ok {fe : FE} {scr : Addr × List Int} {E : IE} {m : Nat} {s s' : S} (lc : semE fe scr E s = some (.new ((List.range m).map fun _ => .bool true), s')) : semS fe scr (.ite (.u1 1 (.bl 7 (.cons E .nil))) (.cons (.ret (.cb false)) .nil) .nil) s = some (.nx s') := by
  simp only [semB, semS, semE, semT, semL, semP, semI, semC, semR, seqG, setG, parG, asgG, setixG, augG, retG, dropG, skipG, ifG, forG, bindM, retM, nameD, cD, bin2, pk2, un1, pk1, chainD, notE, ifE, andE, orE, test, notT, andT, orT, yesT, peek, peeks, lst1, wr, frz1, frzs, dataA, dispL, dispT, consA, nilA, callP, callD, callB, passA, passF, passF1, passIO, passM, outO, backIO, take1, takes, putS, puts, ret1, toO, mutD, asI, poN, poS, slD, itemsD, seqD, wipeS, restS, p2, p1, pB, uM, gA, addP, subP, mulP, modP, fdivP, powP, ltP, leP, gtP, geP, ii, iic, ixP, negP, isNP, notNP, lenP, absP, intP, appU, popU, List.getElem?_cons_zero, List.getElem?_cons_succ, List.getElem?_nil, List.set_cons_zero, List.set_cons_succ, List.length_cons, List.length_nil, Option.bind_some, Option.map_some, Option.bind_none, Option.map_none, List.map_cons, List.map_nil, List.cons_append, List.nil_append, List.replicate_succ, List.replicate_zero, Nat.zero_add, Nat.reduceAdd, Nat.reduceSub, Nat.reduceEqDiff, Nat.add_eq, putN, putNs, putCons, putNil, putT, putTg, truD, decide_true, decide_false, if_true, if_false, Bool.false_eq_true, reduceIte, ite_true, ite_false, Bool.not_true, Bool.not_false, gt_iff_lt, ge_iff_le, lc, allP, bools?_rep, all_rep]
theorem turnA_ok {fe : FE} {scr : Addr × List Int} {jb jr m i : Nat} {q0 X1 x3 : Option SV} {cs : List Int} (hb : BoxSpec (fe jb)) (hr : RightIO (fe jr)) (hm : m ≤ 1000) (hi : i < cs.length) (hX : X1 = some (.own (iL cs)) ∨ X1 = some (.dat (.list (iL cs)))) (d3 : x3 = none ∨ ∃ l, x3 = some (.own l)) :
    ∃ l, semB fe scr (irTurnA jb jr (m : Nat)) [q0, X1, some (.dat (.int (i : Nat))), x3, none] = some (.nx [q0, some (.dat (.list (iL cs))), some (.dat (.int (i : Nat))), some (.own l), none]) := by
  obtain ⟨x, y, z, eb⟩ := hb cs i hi
  have b1 : semS fe scr (.set 3 (.cl jb 2 none (.cons (.nm 1) (.cons (.nm 2) .nil)))) [q0, X1, some (.dat (.int (i : Nat))), x3, none] = some (.nx [q0, some (.dat (.list (iL cs))), some (.dat (.int (i : Nat))), some (.own [.int x, .int y, .int z]), none]) := by
    rcases hX with rfl | rfl <;> rcases d3 with rfl | ⟨l, rfl⟩ <;> simp only [semB, semS, semE, semT, semL, semP, semI, semC, semR, seqG, setG, parG, asgG, setixG, augG, retG, dropG, skipG, ifG, forG, bindM, retM, nameD, cD, bin2, pk2, un1, pk1, chainD, notE, ifE, andE, orE, test, notT, andT, orT, yesT, peek, peeks, lst1, wr, frz1, frzs, dataA, dispL, dispT, consA, nilA, callP, callD, callB, passA, passF, passF1, passIO, passM, outO, backIO, take1, takes, putS, puts, ret1, toO, mutD, asI, poN, poS, slD, itemsD, seqD, wipeS, restS, p2, p1, pB, uM, gA, addP, subP, mulP, modP, fdivP, powP, ltP, leP, gtP, geP, ii, iic, ixP, negP, isNP, notNP, lenP, absP, intP, appU, popU, List.getElem?_cons_zero, List.getElem?_cons_succ, List.getElem?_nil, List.set_cons_zero, List.set_cons_succ, List.length_cons, List.length_nil, Option.bind_some, Option.map_some, Option.bind_none, Option.map_none, List.map_cons, List.map_nil, List.cons_append, List.nil_append, List.replicate_succ, List.replicate_zero, Nat.zero_add, Nat.reduceAdd, Nat.reduceSub, Nat.reduceEqDiff, Nat.add_eq, putN, putNs, putCons, putNil, putT, putTg, truD, decide_true, decide_false, if_true, if_false, Bool.false_eq_true, reduceIte, ite_true, ite_false, Bool.not_true, Bool.not_false, gt_iff_lt, ge_iff_le, eb]
  obtain ⟨x', y', z', lc⟩ := lcR_ok (scr := scr) (m := m) (q0 := q0) (q1 := some (.dat (.list (iL cs)))) (q2 := some (.dat (.int (i : Nat)))) (x := x) (y := y) (z := z) hr hm
  refine ⟨[.int x', .int y', .int z'], ?_⟩
  unfold irTurnA
  rw [semB_nx b1, semB_nx (iteR_ok lc)]
  rfl
theorem lawA_ok {fe : FE} {a : Addr} {ns : List Int} {jc jb jr u m : Nat} (hc : CellsSpec (a, ns) (fe jc)) (hb : BoxSpec (fe jb)) (hr : RightIO (fe jr)) (h1 : 0 < u) (h2 : u ≤ 63) (hm : m ≤ 1000) :
    ∃ w, bodyF 5 (semB fe (a, ns) (irLawA jc jb jr (u : Nat) (m : Nat))) [.raw (.ref a)] = some (.dat (.bool true), w) := by
  obtain ⟨cs, hne, hcl, ec⟩ := hc u h1 h2
  have ec : fe jc [.raw (.ref a), .dat (.int (u : Nat))] = some (.own (iL cs), [.raw (.ref a), .dat (.int (u : Nat))]) := ec
  have s1 : semS fe (a, ns) (.set 1 (.cl jc 2 none (.cons (.nm 0) (.cons (.ci (u : Nat)) .nil)))) [some (.raw (.ref a)), none, none, none, none] = some (.nx [some (.raw (.ref a)), some (.own (iL cs)), none, none, none]) := by
    simp only [semB, semS, semE, semT, semL, semP, semI, semC, semR, seqG, setG, parG, asgG, setixG, augG, retG, dropG, skipG, ifG, forG, bindM, retM, nameD, cD, bin2, pk2, un1, pk1, chainD, notE, ifE, andE, orE, test, notT, andT, orT, yesT, peek, peeks, lst1, wr, frz1, frzs, dataA, dispL, dispT, consA, nilA, callP, callD, callB, passA, passF, passF1, passIO, passM, outO, backIO, take1, takes, putS, puts, ret1, toO, mutD, asI, poN, poS, slD, itemsD, seqD, wipeS, restS, p2, p1, pB, uM, gA, addP, subP, mulP, modP, fdivP, powP, ltP, leP, gtP, geP, ii, iic, ixP, negP, isNP, notNP, lenP, absP, intP, appU, popU, List.getElem?_cons_zero, List.getElem?_cons_succ, List.getElem?_nil, List.set_cons_zero, List.set_cons_succ, List.length_cons, List.length_nil, Option.bind_some, Option.map_some, Option.bind_none, Option.map_none, List.map_cons, List.map_nil, List.cons_append, List.nil_append, List.replicate_succ, List.replicate_zero, Nat.zero_add, Nat.reduceAdd, Nat.reduceSub, Nat.reduceEqDiff, Nat.add_eq, putN, putNs, putCons, putNil, putT, putTg, truD, decide_true, decide_false, if_true, if_false, Bool.false_eq_true, reduceIte, ite_true, ite_false, Bool.not_true, Bool.not_false, gt_iff_lt, ge_iff_le, ec]
  have hfi : semI fe (a, ns) (.r1 (.cons (.bl 0 (.cons (.nm 1) .nil)) .nil)) [some (.raw (.ref a)), some (.own (iL cs)), none, none, none] = some (rgD' 0 (cs.length : Nat), [some (.raw (.ref a)), some (.own (iL cs)), none, none, none]) := by
    refine rng1S_ok (os := [.d (.int (cs.length : Nat))]) ?_ rfl (by omega) (by omega)
    simp only [semB, semS, semE, semT, semL, semP, semI, semC, semR, seqG, setG, parG, asgG, setixG, augG, retG, dropG, skipG, ifG, forG, bindM, retM, nameD, cD, bin2, pk2, un1, pk1, chainD, notE, ifE, andE, orE, test, notT, andT, orT, yesT, peek, peeks, lst1, wr, frz1, frzs, dataA, dispL, dispT, consA, nilA, callP, callD, callB, passA, passF, passF1, passIO, passM, outO, backIO, take1, takes, putS, puts, ret1, toO, mutD, asI, poN, poS, slD, itemsD, seqD, wipeS, restS, p2, p1, pB, uM, gA, addP, subP, mulP, modP, fdivP, powP, ltP, leP, gtP, geP, ii, iic, ixP, negP, isNP, notNP, lenP, absP, intP, appU, popU, List.getElem?_cons_zero, List.getElem?_cons_succ, List.getElem?_nil, List.set_cons_zero, List.set_cons_succ, List.length_cons, List.length_nil, Option.bind_some, Option.map_some, Option.bind_none, Option.map_none, List.map_cons, List.map_nil, List.cons_append, List.nil_append, List.replicate_succ, List.replicate_zero, Nat.zero_add, Nat.reduceAdd, Nat.reduceSub, Nat.reduceEqDiff, Nat.add_eq, putN, putNs, putCons, putNil, putT, putTg, truD, decide_true, decide_false, if_true, if_false, Bool.false_eq_true, reduceIte, ite_true, ite_false, Bool.not_true, Bool.not_false, gt_iff_lt, ge_iff_le, List.length_map]
  have key := loopG_inv (p := putTg [2] false) (b := semB fe (a, ns) (irTurnA jb jr (m : Nat))) (ds := rgD' 0 (cs.length : Nat)) (n := 0) (s := [some (.raw (.ref a)), some (.own (iL cs)), none, none, none])
    (fun _ s => ∃ X1 x2 x3, (X1 = some (.own (iL cs)) ∨ X1 = some (.dat (.list (iL cs)))) ∧ DN x2 ∧ (x3 = none ∨ ∃ l, x3 = some (.own l)) ∧ s = [some (.raw (.ref a)), X1, x2, x3, none]) ⟨_, none, none, .inl rfl, .no, .inl rfl, rfl⟩ (by
      rintro i d s hd ⟨X1, x2, x3, hX, d2, d3, rfl⟩
      obtain ⟨rfl, hi⟩ := rgD'_get hd
      rw [Int.zero_add]
      obtain ⟨l, e⟩ := turnA_ok (scr := (a, ns)) (q0 := some (.raw (.ref a))) hb hr hm (show i < cs.length by omega) hX d3
      exact ⟨_, _, put1_dn rfl d2, e, _, _, _, .inr rfl, .da _, .inr ⟨l, rfl⟩, rfl⟩)
  obtain ⟨s', e, X1, x2, x3, _, _, _, rfl⟩ := key
  have s2 : semS fe (a, ns) (.fo (.r1 (.cons (.bl 0 (.cons (.nm 1) .nil)) .nil)) [2] false (irTurnA jb jr (m : Nat))) [some (.raw (.ref a)), some (.own (iL cs)), none, none, none] = some (.nx [some (.raw (.ref a)), X1, x2, x3, none]) := by
    show forG (semI fe (a, ns) (.r1 (.cons (.bl 0 (.cons (.nm 1) .nil)) .nil))) (putTg [2] false) (semB fe (a, ns) (irTurnA jb jr (m : Nat))) _ = _
    unfold forG
    rw [hfi, Option.bind_some]
    exact e
  refine ⟨_, bodyF_rt (s' := [some (.raw (.ref a)), X1, x2, x3, none]) ?_⟩
  show semB fe (a, ns) (.cons (.set 1 (.cl jc 2 none (.cons (.nm 0) (.cons (.ci (u : Nat)) .nil)))) (.cons (.fo (.r1 (.cons (.bl 0 (.cons (.nm 1) .nil)) .nil)) [2] false (irTurnA jb jr (m : Nat))) (.cons (.ret (.cb true)) .nil))) [some (.raw (.ref a)), none, none, none, none] = _
  rw [semB_nx s1, semB_nx s2]
  rfl
end DL

set_option Elab.async false
set_option linter.all false
set_option maxRecDepth 100000
/-! the table of the law's text, printed by gen.py -/
namespace Lw
open PySem L2 DL
abbrev topS (i : Nat) : Stmt := PySem.Challenge.pw_nextstands_k04_known_tables.main.body.getD i (.Pass ⟨0, 0, 0, 0⟩)
def irPmoved : IB := (.cons (.set 3 (.lc (.val (.nm 1)) [4] [4] false .nil (.b2 3 (.b2 1 (.nm 4) (.nm 2)) (.nm 0)))) (.cons (.set 5 (.bl 5 (.cons (.nm 3) .nil))) (.cons (.ret (.lc (.zp (.cons (.nm 1) (.cons (.nm 3) .nil))) [4, 6] [4, 6] true .nil (.ife (.b2 10 (.nm 6) (.nm 5)) (.b2 1 (.nm 4) (.nm 6)) (.nm 4)))) .nil)))
abbrev dfPmoved : FnDef := { name := "moved", info := { n := 3, io := none, need := false, ps := ["size", "places", "chair"], kws := [] }, N := ["size", "places", "chair", "gaps", "place", "least", "gap"], ir := irPmoved }
def irPplaces_after : IB := (.cons (.set 3 (.bl 10 (.cons (.nm 1) .nil))) (.cons (.fo (.val (.nm 2)) [4] false (.cons (.set 3 (.cl 0 3 none (.cons (.nm 0) (.cons (.nm 3) (.cons (.nm 4) .nil))))) .nil)) (.cons (.ret (.nm 3)) .nil)))
abbrev dfPplaces_after : FnDef := { name := "places_after", info := { n := 3, io := none, need := false, ps := ["size", "places", "calls"], kws := [] }, N := ["size", "places", "calls", "found", "chair"], ir := irPplaces_after }
def irPas_table : IB := (.cons (.ret (.bl 11 (.cons (.bl 9 (.cons (.lc (.val (.nm 1)) [2] [2] false .nil (.b2 3 (.nm 2) (.nm 0))) .nil)) .nil))) .nil)
abbrev dfPas_table : FnDef := { name := "as_table", info := { n := 2, io := none, need := false, ps := ["size", "places"], kws := [] }, N := ["size", "places", "place"], ir := irPas_table }
def irPmover : IB := (.cons (.set 3 (.lc (.val (.nm 1)) [4] [4] false .nil (.b2 3 (.b2 1 (.nm 4) (.nm 2)) (.nm 0)))) (.cons (.ret (.ife (.b2 12 (.ci 0) (.nm 3)) .cn (.ix (.nm 3) (.bl 5 (.cons (.nm 3) .nil))))) .nil))
abbrev dfPmover : FnDef := { name := "mover", info := { n := 3, io := none, need := false, ps := ["size", "table", "chair"], kws := [] }, N := ["size", "table", "chair", "gaps", "place"], ir := irPmover }
def irPcalled : IB := (.cons (.ret (.cl 2 2 none (.cons (.nm 0) (.cons (.cl 0 3 none (.cons (.nm 0) (.cons (.nm 1) (.cons (.nm 2) .nil)))) .nil)))) .nil)
abbrev dfPcalled : FnDef := { name := "called", info := { n := 3, io := none, need := false, ps := ["size", "table", "chair"], kws := [] }, N := ["size", "table", "chair"], ir := irPcalled }
def irPtable_after : IB := (.cons (.ret (.cl 2 2 none (.cons (.nm 0) (.cons (.cl 1 3 none (.cons (.nm 0) (.cons (.nm 1) (.cons (.nm 2) .nil)))) .nil)))) .nil)
abbrev dfPtable_after : FnDef := { name := "table_after", info := { n := 3, io := none, need := false, ps := ["size", "table", "calls"], kws := [] }, N := ["size", "table", "calls"], ir := irPtable_after }
def irPtables_along : IB := (.cons (.set 3 (.dl (.cons (.bl 11 (.cons (.nm 1) .nil)) .nil))) (.cons (.fo (.val (.nm 2)) [4] false (.cons (.ex (.mu 0 3 (.cons (.cl 4 3 none (.cons (.nm 0) (.cons (.b2 14 (.nm 3) (.u1 0 (.ci 1))) (.cons (.nm 4) .nil)))) .nil))) .nil)) (.cons (.ret (.nm 3)) .nil)))
abbrev dfPtables_along : FnDef := { name := "tables_along", info := { n := 3, io := none, need := false, ps := ["size", "table", "calls"], kws := [] }, N := ["size", "table", "calls", "found", "chair"], ir := irPtables_along }
def irPidle_calls : IB := (.cons (.set 3 (.cl 6 3 none (.cons (.nm 0) (.cons (.nm 1) (.cons (.nm 2) .nil))))) (.cons (.ret (.lc (.en (.cons (.nm 2) .nil)) [4, 5] [4, 5] true (.cons (.b2 12 (.nm 5) (.b2 14 (.nm 3) (.nm 4))) .nil) (.nm 4))) .nil))
abbrev dfPidle_calls : FnDef := { name := "idle_calls", info := { n := 3, io := none, need := false, ps := ["size", "table", "calls"], kws := [] }, N := ["size", "table", "calls", "along", "index", "chair"], ir := irPidle_calls }
def irPsteps : IB := (.cons (.ret (.lc (.zp (.cons (.nm 1) (.cons (.cl 1 3 none (.cons (.nm 0) (.cons (.nm 1) (.cons (.nm 2) .nil)))) .nil))) [3, 4] [3, 4] true .nil (.b2 1 (.nm 3) (.nm 4)))) .nil)
abbrev dfPsteps : FnDef := { name := "steps", info := { n := 3, io := none, need := false, ps := ["size", "table", "calls"], kws := [] }, N := ["size", "table", "calls", "begin", "end"], ir := irPsteps }
def irPseats_after : IB := (.cons (.ret (.lc (.val (.cl 1 3 none (.cons (.nm 0) (.cons (.nm 1) (.cons (.nm 2) .nil))))) [3] [3] false .nil (.b2 3 (.nm 3) (.nm 0)))) .nil)
abbrev dfPseats_after : FnDef := { name := "seats_after", info := { n := 3, io := none, need := false, ps := ["size", "table", "calls"], kws := [] }, N := ["size", "table", "calls", "place"], ir := irPseats_after }
def irPpack_places : IB := (.cons (.ret (.lc (.r1 (.cons (.nm 0) .nil)) [2] [2] false .nil (.b2 1 (.nm 1) (.nm 2)))) .nil)
abbrev dfPpack_places : FnDef := { name := "pack_places", info := { n := 2, io := none, need := false, ps := ["people", "chair"], kws := [] }, N := ["people", "chair", "back"], ir := irPpack_places }
def irPpack : IB := (.cons (.ret (.bl 11 (.cons (.bl 9 (.cons (.lc (.val (.cl 10 2 none (.cons (.nm 1) (.cons (.nm 2) .nil)))) [3] [3] false .nil (.b2 3 (.nm 3) (.nm 0))) .nil)) .nil))) .nil)
abbrev dfPpack : FnDef := { name := "pack", info := { n := 3, io := none, need := false, ps := ["size", "people", "chair"], kws := [] }, N := ["size", "people", "chair", "place"], ir := irPpack }
def irPmoves_of : IB := (.cons (.set 3 (.dl .nil)) (.cons (.fo (.r1 (.cons (.nm 0) .nil)) [4] false (.cons (.set 5 (.cl 10 2 none (.cons (.nm 1) (.cons (.nm 4) .nil)))) (.cons (.ex (.mu 0 3 (.cons (.bl 11 (.cons (.lc (.zp (.cons (.nm 5) (.cons (.cl 1 3 none (.cons (.nm 0) (.cons (.nm 5) (.cons (.nm 2) .nil)))) .nil))) [6, 7] [6, 7] true .nil (.b2 1 (.nm 6) (.nm 7))) .nil)) .nil))) .nil))) (.cons (.ret (.bl 11 (.cons (.nm 3) .nil))) .nil)))
abbrev dfPmoves_of : FnDef := { name := "moves_of", info := { n := 3, io := none, need := false, ps := ["size", "people", "calls"], kws := [] }, N := ["size", "people", "calls", "found", "chair", "begin", "here", "there"], ir := irPmoves_of }
def irPplaces_by : IB := (.cons (.par [3, 4] (.cons (.bl 0 (.cons (.nm 2) .nil)) (.cons (.dl .nil) .nil))) (.cons (.fo (.r1 (.cons (.nm 3) .nil)) [5] false (.cons (.set 6 (.dl .nil)) (.cons (.fo (.r1 (.cons (.nm 3) .nil)) [7] false (.cons (.set 8 (.b2 1 (.nm 5) (.nm 7))) (.cons (.set 9 (.ife (.b2 9 (.nm 8) (.ci 0)) (.b2 14 (.nm 2) (.nm 8)) (.b2 0 (.b2 14 (.nm 2) (.b2 0 (.nm 8) (.nm 3))) (.nm 0)))) (.cons (.ex (.mu 0 6 (.cons (.b2 1 (.b2 1 (.nm 9) (.nm 7)) (.b2 14 (.b2 14 (.nm 1) (.b2 3 (.nm 9) (.nm 0))) (.nm 7))) .nil))) .nil)))) (.cons (.ex (.mu 0 4 (.cons (.bl 5 (.cons (.nm 6) .nil)) .nil))) .nil)))) (.cons (.ret (.nm 4)) .nil)))
abbrev dfPplaces_by : FnDef := { name := "places_by", info := { n := 3, io := none, need := false, ps := ["size", "moves", "places"], kws := [] }, N := ["size", "moves", "places", "people", "found", "back", "ends", "ahead", "index", "front"], ir := irPplaces_by }
def irPsteps_by : IB := (.cons (.set 3 (.u1 4 (.bl 10 (.cons (.nm 2) .nil)))) (.cons (.ret (.u1 4 (.lc (.zp (.cons (.nm 3) (.cons (.cl 13 3 none (.cons (.nm 0) (.cons (.nm 1) (.cons (.nm 3) .nil)))) .nil))) [4, 5] [4, 5] true .nil (.b2 1 (.nm 4) (.nm 5))))) .nil))
abbrev dfPsteps_by : FnDef := { name := "steps_by", info := { n := 3, io := none, need := false, ps := ["size", "moves", "table"], kws := [] }, N := ["size", "moves", "table", "places", "here", "there"], ir := irPsteps_by }
def irPfollowed : IB := (.cons (.set 3 (.dl .nil)) (.cons (.fo (.en (.cons (.nm 1) .nil)) [4, 5] true (.cons (.set 6 (.cl 10 2 none (.cons (.bl 0 (.cons (.nm 5) .nil)) (.cons (.nm 4) .nil)))) (.cons (.set 7 (.lc (.zp (.cons (.nm 6) (.cons (.nm 5) .nil))) [8, 9] [8, 9] true .nil (.b2 1 (.nm 8) (.nm 9)))) (.cons (.set 10 (.cl 13 3 none (.cons (.nm 0) (.cons (.nm 2) (.cons (.nm 7) .nil))))) (.cons (.ex (.mu 0 3 (.cons (.bl 11 (.cons (.lc (.zp (.cons (.nm 6) (.cons (.nm 10) .nil))) [11, 12] [11, 12] true .nil (.b2 1 (.nm 11) (.nm 12))) .nil)) .nil))) .nil))))) (.cons (.ret (.bl 11 (.cons (.nm 3) .nil))) .nil)))
abbrev dfPfollowed : FnDef := { name := "followed", info := { n := 3, io := none, need := false, ps := ["size", "first", "second"], kws := [] }, N := ["size", "first", "second", "found", "chair", "row", "begin", "middle", "place", "many", "end", "here", "there"], ir := irPfollowed }
def irPrepeated : IB := (.cons (.par [3, 4, 5] (.cons (.cl 12 3 none (.cons (.nm 0) (.cons (.bl 0 (.cons (.b2 14 (.nm 1) (.ci 0)) .nil)) (.cons (.dl .nil) .nil)))) (.cons (.bl 11 (.cons (.lc (.val (.nm 1)) [6] [6] false .nil (.bl 11 (.cons (.nm 6) .nil))) .nil)) (.cons (.nm 2) .nil)))) (.cons (.wh (.b2 8 (.nm 5) (.ci 0)) (.cons (.ite (.b2 10 (.b2 3 (.nm 5) (.ci 2)) (.ci 1)) (.cons (.set 3 (.cl 15 3 none (.cons (.nm 0) (.cons (.nm 3) (.cons (.nm 4) .nil))))) .nil) .nil) (.cons (.par [4, 5] (.cons (.cl 15 3 none (.cons (.nm 0) (.cons (.nm 4) (.cons (.nm 4) .nil)))) (.cons (.b2 4 (.nm 5) (.ci 2)) .nil))) .nil))) (.cons (.ret (.nm 3)) .nil)))
abbrev dfPrepeated : FnDef := { name := "repeated", info := { n := 3, io := none, need := false, ps := ["size", "moves", "many"], kws := [] }, N := ["size", "moves", "many", "found", "power", "left", "row"], ir := irPrepeated }
def irLbox : IB := (.cons (.set 2 (.b2 14 (.nm 0) (.nm 1))) (.cons (.ret (.dl (.cons (.b2 2 (.bl 1 (.cons (.nm 2) .nil)) (.bl 2 (.cons (.b2 9 (.bl 1 (.cons (.nm 2) .nil)) (.b2 5 (.ci 10) (.ci 18))) .nil))) (.cons (.b2 0 (.b2 0 (.b2 3 (.nm 2) (.ci 2305843009213693951)) (.b2 2 (.ci 15485863) (.nm 1))) (.ci 13)) (.cons (.ci 0) .nil))))) .nil))
abbrev dfLbox : FnDef := { name := "_law_box", info := { n := 2, io := none, need := false, ps := ["_law_cells_here", "_law_k"], kws := [] }, N := ["_law_cells_here", "_law_k", "_law_cell"], ir := irLbox }
def irLtake : IB := (.cons (.ite (.b2 8 (.b2 14 (.nm 0) (.ci 0)) (.ci 0)) (.cons (.set 2 (.b2 3 (.b2 14 (.nm 0) (.ci 0)) (.nm 1))) (.cons (.six 0 (.ci 0) (.b2 4 (.b2 14 (.nm 0) (.ci 0)) (.nm 1))) (.cons (.ret (.nm 2)) .nil))) .nil) (.cons (.six 0 (.ci 2) (.b2 0 (.b2 14 (.nm 0) (.ci 2)) (.ci 1))) (.cons (.set 3 (.b2 3 (.b2 0 (.b2 14 (.nm 0) (.ci 1)) (.b2 2 (.ci 1442695040888963407) (.b2 14 (.nm 0) (.ci 2)))) (.ci 2305843009213693951))) (.cons (.set 3 (.b2 3 (.b2 0 (.b2 0 (.b2 2 (.nm 3) (.nm 3)) (.b2 2 (.ci 39373) (.b2 14 (.nm 0) (.ci 2)))) (.ci 7)) (.ci 2305843009213693921))) (.cons (.set 3 (.b2 3 (.b2 0 (.b2 2 (.nm 3) (.b2 0 (.b2 4 (.nm 3) (.ci 65536)) (.ci 3))) (.b2 14 (.nm 0) (.ci 2))) (.ci 2305843009213693907))) (.cons (.ret (.b2 3 (.b2 4 (.nm 3) (.ci 1048576)) (.nm 1))) .nil))))))
abbrev dfLtake : FnDef := { name := "_law_take", info := { n := 2, io := some 0, need := false, ps := ["_law_box_here", "_law_below"], kws := [] }, N := ["_law_box_here", "_law_below", "_law_found", "_law_blend"], ir := irLtake }
def irLcells : IB := (.cons (.set 2 (.ro (.bl 10 (.cons (.ss 0 .no (.so (.nm 1))) .nil)) (.dl (.cons (.ci 0) .nil)))) (.cons (.fo (.en (.cons (.ss 0 (.so (.nm 1)) (.so (.ci 63))) .nil)) [3, 4] true (.cons (.six 2 (.b2 3 (.nm 3) (.nm 1)) (.b2 0 (.b2 14 (.nm 2) (.b2 3 (.nm 3) (.nm 1))) (.b2 2 (.nm 4) (.b2 0 (.nm 3) (.ci 2))))) .nil)) (.cons (.ret (.nm 2)) .nil)))
abbrev dfLcells : FnDef := { name := "_law_cells", info := { n := 2, io := none, need := true, ps := ["_law_script", "_law_utmost"], kws := [] }, N := ["_law_script", "_law_utmost", "_law_cells_here", "_law_k", "_law_cell"], ir := irLcells }
def irLsame : IB := (.cons (.ret (.b2 10 (.bl 12 (.cons (.nm 0) .nil)) (.bl 12 (.cons (.nm 1) .nil)))) .nil)
abbrev dfLsame : FnDef := { name := "_law_same", info := { n := 2, io := none, need := false, ps := ["_law_found", "_law_due"], kws := [] }, N := ["_law_found", "_law_due"], ir := irLsame }
def irLone_person_right : IB := (.cons (.set 1 (.lrg false (.one (.nm 0)))) (.cons (.set 2 (.dl (.cons (.cl 8 3 none (.cons (.nm 0) (.cons (.dt (.cons (.ci 0) .nil)) (.cons (.nm 1) .nil)))) (.cons (.cl 8 3 none (.cons (.nm 0) (.cons (.dt (.cons (.ci 0) .nil)) (.cons (.u1 4 (.nm 1)) .nil)))) (.cons (.cl 9 3 none (.cons (.nm 0) (.cons (.dt (.cons (.ci 0) .nil)) (.cons (.dl (.cons (.ci 1) (.cons (.ci 2) (.cons (.ci 0) .nil)))) .nil)))) .nil))))) (.cons (.ite (.u1 1 (.cl 20 2 none (.cons (.nm 2) (.cons (.dl (.cons (.dl (.cons (.b2 2 (.b2 1 (.nm 0) (.ci 1)) (.b2 1 (.nm 0) (.ci 1))) .nil)) (.cons (.dl (.cons (.nm 0) .nil)) (.cons (.dl (.cons (.ci 0) .nil)) .nil)))) .nil)))) (.cons (.ret (.cb false)) .nil) .nil) (.cons (.set 2 (.dl (.cons (.cl 5 3 none (.cons (.nm 0) (.cons (.dt (.cons (.ci 2) .nil)) (.cons (.nm 1) .nil)))) (.cons (.cl 8 3 none (.cons (.nm 0) (.cons (.dt (.cons (.ci 1) .nil)) (.cons (.b2 2 (.dl (.cons (.ci 0) .nil)) (.ci 5)) .nil)))) (.cons (.cl 12 3 none (.cons (.nm 0) (.cons (.ci 1) (.cons (.dl (.cons (.ci 0) .nil)) .nil)))) .nil))))) (.cons (.ret (.cl 20 2 none (.cons (.nm 2) (.cons (.dl (.cons (.dt (.cons (.b2 1 (.nm 0) (.ci 1)) .nil)) (.cons (.dl (.cons (.ci 1) .nil)) (.cons (.bl 11 (.cons (.lc (.r1 (.cons (.nm 0) .nil)) [3] [3] false .nil (.dt (.cons (.nm 3) .nil))) .nil)) .nil)))) .nil)))) .nil)))))
abbrev dfLone_person_right : FnDef := { name := "_law_one_person_right", info := { n := 1, io := none, need := false, ps := ["_law_span"], kws := [] }, N := ["_law_span", "_law_every", "_law_heard", "_law_mark"], ir := irLone_person_right }
def irLall_but_one_right : IB := (.cons (.set 1 (.lrg true (.two (.ci 1) (.nm 0)))) (.cons (.set 2 (.dl (.cons (.cl 3 3 none (.cons (.nm 0) (.cons (.nm 1) (.cons (.ci 0) .nil)))) (.cons (.cl 4 3 none (.cons (.nm 0) (.cons (.nm 1) (.cons (.ci 0) .nil)))) (.cons (.cl 7 3 none (.cons (.nm 0) (.cons (.nm 1) (.cons (.dl (.cons (.ci 1) (.cons (.ci 0) (.cons (.ci 0) (.cons (.ci 1) .nil))))) .nil)))) .nil))))) (.cons (.set 3 (.dl (.cons (.ci 0) (.cons (.bl 11 (.cons (.b2 0 (.dl (.cons (.ci 0) .nil)) (.lrg false (.two (.ci 2) (.nm 0)))) .nil)) (.cons (.dl (.cons (.ci 0) (.cons (.ci 2) .nil))) .nil))))) (.cons (.ite (.u1 1 (.cl 20 2 none (.cons (.nm 2) (.cons (.nm 3) .nil)))) (.cons (.ret (.cb false)) .nil) .nil) (.cons (.set 4 (.lrg false (.one (.nm 0)))) (.cons (.set 2 (.dl (.cons (.cl 5 3 none (.cons (.nm 0) (.cons (.nm 1) (.cons (.nm 4) .nil)))) (.cons (.cl 8 3 none (.cons (.nm 0) (.cons (.nm 1) (.cons (.nm 4) .nil)))) (.cons (.cl 11 3 none (.cons (.nm 0) (.cons (.b2 1 (.nm 0) (.ci 1)) (.cons (.ci 0) .nil)))) .nil))))) (.cons (.ret (.cl 20 2 none (.cons (.nm 2) (.cons (.dl (.cons (.nm 1) (.cons (.b2 0 (.dl (.cons (.ci 2) .nil)) (.b2 2 (.dl (.cons (.ci 1) .nil)) (.b2 1 (.nm 0) (.ci 2)))) (.cons (.bl 11 (.cons (.b2 0 (.dl (.cons (.ci 0) .nil)) (.lrg false (.two (.ci 2) (.nm 0)))) .nil)) .nil)))) .nil)))) .nil)))))))
abbrev dfLall_but_one_right : FnDef := { name := "_law_all_but_one_right", info := { n := 1, io := none, need := false, ps := ["_law_span"], kws := [] }, N := ["_law_span", "_law_full", "_law_heard", "_law_due", "_law_every"], ir := irLall_but_one_right }
def irLfive_right : IB := (.cons (.set 0 (.dl (.cons (.cl 3 3 none (.cons (.ci 5) (.cons (.dt (.cons (.ci 0) (.cons (.ci 3) .nil))) (.cons (.ci 1) .nil)))) (.cons (.cl 4 3 none (.cons (.ci 5) (.cons (.dt (.cons (.ci 0) (.cons (.ci 3) .nil))) (.cons (.ci 1) .nil)))) (.cons (.cl 3 3 none (.cons (.ci 5) (.cons (.dt (.cons (.ci 0) (.cons (.ci 3) .nil))) (.cons (.ci 4) .nil)))) (.cons (.cl 4 3 none (.cons (.ci 5) (.cons (.dt (.cons (.ci 0) (.cons (.ci 3) .nil))) (.cons (.ci 4) .nil)))) (.cons (.cl 3 3 none (.cons (.ci 5) (.cons (.dt (.cons (.ci 0) (.cons (.ci 3) .nil))) (.cons (.ci 3) .nil)))) .nil))))))) (.cons (.ite (.u1 1 (.cl 20 2 none (.cons (.nm 0) (.cons (.dl (.cons (.ci 1) (.cons (.dt (.cons (.ci 0) (.cons (.ci 1) .nil))) (.cons (.ci 0) (.cons (.dt (.cons (.ci 3) (.cons (.ci 4) .nil))) (.cons .cn .nil)))))) .nil)))) (.cons (.ret (.cb false)) .nil) .nil) (.cons (.set 0 (.dl (.cons (.cl 8 3 none (.cons (.ci 5) (.cons (.dt (.cons (.ci 0) (.cons (.ci 3) .nil))) (.cons (.dl (.cons (.ci 1) (.cons (.ci 4) (.cons (.ci 3) .nil)))) .nil)))) (.cons (.cl 9 3 none (.cons (.ci 5) (.cons (.dt (.cons (.ci 0) (.cons (.ci 3) .nil))) (.cons (.dl (.cons (.ci 1) (.cons (.ci 4) (.cons (.ci 3) .nil)))) .nil)))) (.cons (.cl 5 3 none (.cons (.ci 5) (.cons (.dt (.cons (.ci 0) (.cons (.ci 3) .nil))) (.cons (.dl (.cons (.ci 1) (.cons (.ci 4) (.cons (.ci 3) .nil)))) .nil)))) .nil))))) (.cons (.ite (.u1 1 (.cl 20 2 none (.cons (.nm 0) (.cons (.dl (.cons (.dl (.cons (.ci 2) (.cons (.ci 2) .nil))) (.cons (.dl (.cons (.ci 3) (.cons (.ci 1) .nil))) (.cons (.dt (.cons (.ci 1) (.cons (.ci 3) .nil))) .nil)))) .nil)))) (.cons (.ret (.cb false)) .nil) .nil) (.cons (.set 0 (.dl (.cons (.cl 12 3 none (.cons (.ci 5) (.cons (.ci 2) (.cons (.dl (.cons (.ci 2) .nil)) .nil)))) (.cons (.cl 11 3 none (.cons (.ci 5) (.cons (.ci 2) (.cons (.ci 0) .nil)))) (.cons (.cl 11 3 none (.cons (.ci 5) (.cons (.ci 3) (.cons (.ci 1) .nil)))) (.cons (.cl 14 3 none (.cons (.ci 5) (.cons (.cl 12 3 none (.cons (.ci 5) (.cons (.ci 2) (.cons (.dl (.cons (.ci 2) .nil)) .nil)))) (.cons (.dt (.cons (.ci 0) (.cons (.ci 3) .nil))) .nil)))) .nil)))))) (.cons (.set 1 (.dl (.cons (.dt (.cons (.dt (.cons (.ci 0) (.cons (.ci 2) .nil))) (.cons (.dt (.cons (.ci 0) (.cons (.ci 3) .nil))) (.cons (.dt (.cons (.ci 0) (.cons (.ci 0) .nil))) (.cons (.dt (.cons (.ci 0) (.cons (.ci 0) .nil))) (.cons (.dt (.cons (.ci 0) (.cons (.ci 1) .nil))) .nil)))))) (.cons (.dt (.cons (.ci 0) (.cons (.ci 4) .nil))) (.cons (.dt (.cons (.ci 0) (.cons (.ci 1) (.cons (.ci 4) .nil)))) (.cons (.dl (.cons (.ci 0) (.cons (.ci 1) .nil))) .nil)))))) (.cons (.ite (.u1 1 (.cl 20 2 none (.cons (.nm 0) (.cons (.nm 1) .nil)))) (.cons (.ret (.cb false)) .nil) .nil) (.cons (.ret (.an (.b2 10 (.cl 15 3 none (.cons (.ci 5) (.cons (.b2 14 (.nm 1) (.ci 0)) (.cons (.b2 14 (.nm 1) (.ci 0)) .nil)))) (.b2 14 (.nm 1) (.ci 0))) (.b2 10 (.cl 16 3 none (.cons (.ci 5) (.cons (.b2 14 (.nm 1) (.ci 0)) (.cons (.ci 0) .nil)))) (.b2 2 (.dt (.cons (.dt (.cons (.ci 0) (.cons (.ci 0) .nil))) .nil)) (.ci 5))))) .nil))))))))
abbrev dfLfive_right : FnDef := { name := "_law_five_right", info := { n := 0, io := none, need := false, ps := [], kws := [] }, N := ["_law_heard", "_law_due"], ir := irLfive_right }
def irLright : IB := (.cons (.set 1 (.b2 0 (.ci 3) (.cl 18 2 (some 0) (.cons (.nm 0) (.cons (.ci 8) .nil))))) (.cons (.ret (.an (.cl 21 1 none (.cons (.nm 1) .nil)) (.an (.cl 22 1 none (.cons (.nm 1) .nil)) (.cl 23 0 none .nil)))) .nil))
abbrev dfLright : FnDef := { name := "_law_right", info := { n := 1, io := some 0, need := false, ps := ["_law_box_here"], kws := [] }, N := ["_law_box_here", "_law_span"], ir := irLright }
def irLlaw : IB := (.cons (.set 1 (.cl 19 2 none (.cons (.nm 0) (.cons (.ci 3) .nil)))) (.cons (.fo (.r1 (.cons (.bl 0 (.cons (.nm 1) .nil)) .nil)) [2] false (.cons (.set 3 (.cl 17 2 none (.cons (.nm 1) (.cons (.nm 2) .nil)))) (.cons (.ite (.u1 1 (.bl 7 (.cons (.lc (.r1 (.cons (.ci 1) .nil)) [4] [4] false .nil (.cl 24 1 (some 0) (.cons (.nm 3) .nil))) .nil))) (.cons (.ret (.cb false)) .nil) .nil) .nil))) (.cons (.ret (.cb true)) .nil)))
abbrev dfLlaw : FnDef := { name := "law", info := { n := 1, io := none, need := true, ps := ["_law_script"], kws := [] }, N := ["_law_script", "_law_cells_here", "_law_k", "_law_box_here", "_law_turn"], ir := irLlaw }
def tab : List FnDef := [dfPmoved, dfPplaces_after, dfPas_table, dfPmover, dfPcalled, dfPtable_after, dfPtables_along, dfPidle_calls, dfPsteps, dfPseats_after, dfPpack_places, dfPpack, dfPmoves_of, dfPplaces_by, dfPsteps_by, dfPfollowed, dfPrepeated, dfLbox, dfLtake, dfLcells, dfLsame, dfLone_person_right, dfLall_but_one_right, dfLfive_right, dfLright, dfLlaw]
theorem ccPmoved : compSs 400 (ccOf tab dfPmoved (defScope (topS 1))) (defBody (topS 1)) = some irPmoved := by decide +kernel
theorem scPmoved : FnScope dfPmoved.N dfPmoved.info.ps (defScope (topS 1)) := ⟨rfl, rfl, rfl, by decide +kernel, rfl, by decide +kernel, by decide +kernel⟩
theorem ccPplaces_after : compSs 400 (ccOf tab dfPplaces_after (defScope (topS 2))) (defBody (topS 2)) = some irPplaces_after := by decide +kernel
theorem scPplaces_after : FnScope dfPplaces_after.N dfPplaces_after.info.ps (defScope (topS 2)) := ⟨rfl, rfl, rfl, by decide +kernel, rfl, by decide +kernel, by decide +kernel⟩
theorem ccPas_table : compSs 400 (ccOf tab dfPas_table (defScope (topS 3))) (defBody (topS 3)) = some irPas_table := by decide +kernel
theorem scPas_table : FnScope dfPas_table.N dfPas_table.info.ps (defScope (topS 3)) := ⟨rfl, rfl, rfl, by decide +kernel, rfl, by decide +kernel, by decide +kernel⟩
theorem ccPmover : compSs 400 (ccOf tab dfPmover (defScope (topS 4))) (defBody (topS 4)) = some irPmover := by decide +kernel
theorem scPmover : FnScope dfPmover.N dfPmover.info.ps (defScope (topS 4)) := ⟨rfl, rfl, rfl, by decide +kernel, rfl, by decide +kernel, by decide +kernel⟩
theorem ccPcalled : compSs 400 (ccOf tab dfPcalled (defScope (topS 5))) (defBody (topS 5)) = some irPcalled := by decide +kernel
theorem scPcalled : FnScope dfPcalled.N dfPcalled.info.ps (defScope (topS 5)) := ⟨rfl, rfl, rfl, by decide +kernel, rfl, by decide +kernel, by decide +kernel⟩
theorem ccPtable_after : compSs 400 (ccOf tab dfPtable_after (defScope (topS 6))) (defBody (topS 6)) = some irPtable_after := by decide +kernel
theorem scPtable_after : FnScope dfPtable_after.N dfPtable_after.info.ps (defScope (topS 6)) := ⟨rfl, rfl, rfl, by decide +kernel, rfl, by decide +kernel, by decide +kernel⟩
theorem ccPtables_along : compSs 400 (ccOf tab dfPtables_along (defScope (topS 7))) (defBody (topS 7)) = some irPtables_along := by decide +kernel
theorem scPtables_along : FnScope dfPtables_along.N dfPtables_along.info.ps (defScope (topS 7)) := ⟨rfl, rfl, rfl, by decide +kernel, rfl, by decide +kernel, by decide +kernel⟩
theorem ccPidle_calls : compSs 400 (ccOf tab dfPidle_calls (defScope (topS 8))) (defBody (topS 8)) = some irPidle_calls := by decide +kernel
theorem scPidle_calls : FnScope dfPidle_calls.N dfPidle_calls.info.ps (defScope (topS 8)) := ⟨rfl, rfl, rfl, by decide +kernel, rfl, by decide +kernel, by decide +kernel⟩
theorem ccPsteps : compSs 400 (ccOf tab dfPsteps (defScope (topS 9))) (defBody (topS 9)) = some irPsteps := by decide +kernel
theorem scPsteps : FnScope dfPsteps.N dfPsteps.info.ps (defScope (topS 9)) := ⟨rfl, rfl, rfl, by decide +kernel, rfl, by decide +kernel, by decide +kernel⟩
theorem ccPseats_after : compSs 400 (ccOf tab dfPseats_after (defScope (topS 10))) (defBody (topS 10)) = some irPseats_after := by decide +kernel
theorem scPseats_after : FnScope dfPseats_after.N dfPseats_after.info.ps (defScope (topS 10)) := ⟨rfl, rfl, rfl, by decide +kernel, rfl, by decide +kernel, by decide +kernel⟩
theorem ccPpack_places : compSs 400 (ccOf tab dfPpack_places (defScope (topS 12))) (defBody (topS 12)) = some irPpack_places := by decide +kernel
theorem scPpack_places : FnScope dfPpack_places.N dfPpack_places.info.ps (defScope (topS 12)) := ⟨rfl, rfl, rfl, by decide +kernel, rfl, by decide +kernel, by decide +kernel⟩
theorem ccPpack : compSs 400 (ccOf tab dfPpack (defScope (topS 13))) (defBody (topS 13)) = some irPpack := by decide +kernel
theorem scPpack : FnScope dfPpack.N dfPpack.info.ps (defScope (topS 13)) := ⟨rfl, rfl, rfl, by decide +kernel, rfl, by decide +kernel, by decide +kernel⟩
theorem ccPmoves_of : compSs 400 (ccOf tab dfPmoves_of (defScope (topS 14))) (defBody (topS 14)) = some irPmoves_of := by decide +kernel
theorem scPmoves_of : FnScope dfPmoves_of.N dfPmoves_of.info.ps (defScope (topS 14)) := ⟨rfl, rfl, rfl, by decide +kernel, rfl, by decide +kernel, by decide +kernel⟩
theorem ccPplaces_by : compSs 400 (ccOf tab dfPplaces_by (defScope (topS 15))) (defBody (topS 15)) = some irPplaces_by := by decide +kernel
theorem scPplaces_by : FnScope dfPplaces_by.N dfPplaces_by.info.ps (defScope (topS 15)) := ⟨rfl, rfl, rfl, by decide +kernel, rfl, by decide +kernel, by decide +kernel⟩
theorem ccPsteps_by : compSs 400 (ccOf tab dfPsteps_by (defScope (topS 16))) (defBody (topS 16)) = some irPsteps_by := by decide +kernel
theorem scPsteps_by : FnScope dfPsteps_by.N dfPsteps_by.info.ps (defScope (topS 16)) := ⟨rfl, rfl, rfl, by decide +kernel, rfl, by decide +kernel, by decide +kernel⟩
theorem ccPfollowed : compSs 400 (ccOf tab dfPfollowed (defScope (topS 17))) (defBody (topS 17)) = some irPfollowed := by decide +kernel
theorem scPfollowed : FnScope dfPfollowed.N dfPfollowed.info.ps (defScope (topS 17)) := ⟨rfl, rfl, rfl, by decide +kernel, rfl, by decide +kernel, by decide +kernel⟩
theorem ccPrepeated : compSs 400 (ccOf tab dfPrepeated (defScope (topS 18))) (defBody (topS 18)) = some irPrepeated := by decide +kernel
theorem scPrepeated : FnScope dfPrepeated.N dfPrepeated.info.ps (defScope (topS 18)) := ⟨rfl, rfl, rfl, by decide +kernel, rfl, by decide +kernel, by decide +kernel⟩
theorem ccLbox : compSs 400 (ccOf tab dfLbox (defScope (topS 20))) (defBody (topS 20)) = some irLbox := by decide +kernel
theorem scLbox : FnScope dfLbox.N dfLbox.info.ps (defScope (topS 20)) := ⟨rfl, rfl, rfl, by decide +kernel, rfl, by decide +kernel, by decide +kernel⟩
theorem ccLtake : compSs 400 (ccOf tab dfLtake (defScope (topS 21))) (defBody (topS 21)) = some irLtake := by decide +kernel
theorem scLtake : FnScope dfLtake.N dfLtake.info.ps (defScope (topS 21)) := ⟨rfl, rfl, rfl, by decide +kernel, rfl, by decide +kernel, by decide +kernel⟩
theorem ccLcells : compSs 400 (ccOf tab dfLcells (defScope (topS 22))) (defBody (topS 22)) = some irLcells := by decide +kernel
theorem scLcells : FnScope dfLcells.N dfLcells.info.ps (defScope (topS 22)) := ⟨rfl, rfl, rfl, by decide +kernel, rfl, by decide +kernel, by decide +kernel⟩
theorem ccLsame : compSs 400 (ccOf tab dfLsame (defScope (topS 23))) (defBody (topS 23)) = some irLsame := by decide +kernel
theorem scLsame : FnScope dfLsame.N dfLsame.info.ps (defScope (topS 23)) := ⟨rfl, rfl, rfl, by decide +kernel, rfl, by decide +kernel, by decide +kernel⟩
theorem ccLone_person_right : compSs 400 (ccOf tab dfLone_person_right (defScope (topS 24))) (defBody (topS 24)) = some irLone_person_right := by decide +kernel
theorem scLone_person_right : FnScope dfLone_person_right.N dfLone_person_right.info.ps (defScope (topS 24)) := ⟨rfl, rfl, rfl, by decide +kernel, rfl, by decide +kernel, by decide +kernel⟩
theorem ccLall_but_one_right : compSs 400 (ccOf tab dfLall_but_one_right (defScope (topS 25))) (defBody (topS 25)) = some irLall_but_one_right := by decide +kernel
theorem scLall_but_one_right : FnScope dfLall_but_one_right.N dfLall_but_one_right.info.ps (defScope (topS 25)) := ⟨rfl, rfl, rfl, by decide +kernel, rfl, by decide +kernel, by decide +kernel⟩
theorem ccLfive_right : compSs 400 (ccOf tab dfLfive_right (defScope (topS 26))) (defBody (topS 26)) = some irLfive_right := by decide +kernel
theorem scLfive_right : FnScope dfLfive_right.N dfLfive_right.info.ps (defScope (topS 26)) := ⟨rfl, rfl, rfl, by decide +kernel, rfl, by decide +kernel, by decide +kernel⟩
theorem ccLright : compSs 400 (ccOf tab dfLright (defScope (topS 27))) (defBody (topS 27)) = some irLright := by decide +kernel
theorem scLright : FnScope dfLright.N dfLright.info.ps (defScope (topS 27)) := ⟨rfl, rfl, rfl, by decide +kernel, rfl, by decide +kernel, by decide +kernel⟩
theorem ccLlaw : compSs 400 (ccOf tab dfLlaw (defScope (topS 28))) (defBody (topS 28)) = some irLlaw := by decide +kernel
theorem scLlaw : FnScope dfLlaw.N dfLlaw.info.ps (defScope (topS 28)) := ⟨rfl, rfl, rfl, by decide +kernel, rfl, by decide +kernel, by decide +kernel⟩
theorem enPmoved {K : PySem.W.Frag} {mg : Str → Option Value} {h : Heap} (X : K.In h) (G : h.Ns mainGlobals mg) (hf : HasFn K dfPmoved.name (topS 1)) : Entry K mg tab dfPmoved := ent_of X G hf scPmoved ccPmoved rfl (fun _ _ _ _ _ _ us hl => match us, hl with | [_, _, _], _ => rfl) (fun _ _ _ _ _ _ _ hks => nokw hks)
theorem enPplaces_after {K : PySem.W.Frag} {mg : Str → Option Value} {h : Heap} (X : K.In h) (G : h.Ns mainGlobals mg) (hf : HasFn K dfPplaces_after.name (topS 2)) : Entry K mg tab dfPplaces_after := ent_of X G hf scPplaces_after ccPplaces_after rfl (fun _ _ _ _ _ _ us hl => match us, hl with | [_, _, _], _ => rfl) (fun _ _ _ _ _ _ _ hks => nokw hks)
theorem enPas_table {K : PySem.W.Frag} {mg : Str → Option Value} {h : Heap} (X : K.In h) (G : h.Ns mainGlobals mg) (hf : HasFn K dfPas_table.name (topS 3)) : Entry K mg tab dfPas_table := ent_of X G hf scPas_table ccPas_table rfl (fun _ _ _ _ _ _ us hl => match us, hl with | [_, _], _ => rfl) (fun _ _ _ _ _ _ _ hks => nokw hks)
theorem enPmover {K : PySem.W.Frag} {mg : Str → Option Value} {h : Heap} (X : K.In h) (G : h.Ns mainGlobals mg) (hf : HasFn K dfPmover.name (topS 4)) : Entry K mg tab dfPmover := ent_of X G hf scPmover ccPmover rfl (fun _ _ _ _ _ _ us hl => match us, hl with | [_, _, _], _ => rfl) (fun _ _ _ _ _ _ _ hks => nokw hks)
theorem enPcalled {K : PySem.W.Frag} {mg : Str → Option Value} {h : Heap} (X : K.In h) (G : h.Ns mainGlobals mg) (hf : HasFn K dfPcalled.name (topS 5)) : Entry K mg tab dfPcalled := ent_of X G hf scPcalled ccPcalled rfl (fun _ _ _ _ _ _ us hl => match us, hl with | [_, _, _], _ => rfl) (fun _ _ _ _ _ _ _ hks => nokw hks)
theorem enPtable_after {K : PySem.W.Frag} {mg : Str → Option Value} {h : Heap} (X : K.In h) (G : h.Ns mainGlobals mg) (hf : HasFn K dfPtable_after.name (topS 6)) : Entry K mg tab dfPtable_after := ent_of X G hf scPtable_after ccPtable_after rfl (fun _ _ _ _ _ _ us hl => match us, hl with | [_, _, _], _ => rfl) (fun _ _ _ _ _ _ _ hks => nokw hks)
theorem enPtables_along {K : PySem.W.Frag} {mg : Str → Option Value} {h : Heap} (X : K.In h) (G : h.Ns mainGlobals mg) (hf : HasFn K dfPtables_along.name (topS 7)) : Entry K mg tab dfPtables_along := ent_of X G hf scPtables_along ccPtables_along rfl (fun _ _ _ _ _ _ us hl => match us, hl with | [_, _, _], _ => rfl) (fun _ _ _ _ _ _ _ hks => nokw hks)
theorem enPidle_calls {K : PySem.W.Frag} {mg : Str → Option Value} {h : Heap} (X : K.In h) (G : h.Ns mainGlobals mg) (hf : HasFn K dfPidle_calls.name (topS 8)) : Entry K mg tab dfPidle_calls := ent_of X G hf scPidle_calls ccPidle_calls rfl (fun _ _ _ _ _ _ us hl => match us, hl with | [_, _, _], _ => rfl) (fun _ _ _ _ _ _ _ hks => nokw hks)
theorem enPsteps {K : PySem.W.Frag} {mg : Str → Option Value} {h : Heap} (X : K.In h) (G : h.Ns mainGlobals mg) (hf : HasFn K dfPsteps.name (topS 9)) : Entry K mg tab dfPsteps := ent_of X G hf scPsteps ccPsteps rfl (fun _ _ _ _ _ _ us hl => match us, hl with | [_, _, _], _ => rfl) (fun _ _ _ _ _ _ _ hks => nokw hks)
theorem enPseats_after {K : PySem.W.Frag} {mg : Str → Option Value} {h : Heap} (X : K.In h) (G : h.Ns mainGlobals mg) (hf : HasFn K dfPseats_after.name (topS 10)) : Entry K mg tab dfPseats_after := ent_of X G hf scPseats_after ccPseats_after rfl (fun _ _ _ _ _ _ us hl => match us, hl with | [_, _, _], _ => rfl) (fun _ _ _ _ _ _ _ hks => nokw hks)
theorem enPpack_places {K : PySem.W.Frag} {mg : Str → Option Value} {h : Heap} (X : K.In h) (G : h.Ns mainGlobals mg) (hf : HasFn K dfPpack_places.name (topS 12)) : Entry K mg tab dfPpack_places := ent_of X G hf scPpack_places ccPpack_places rfl (fun _ _ _ _ _ _ us hl => match us, hl with | [_, _], _ => rfl) (fun _ _ _ _ _ _ _ hks => nokw hks)
theorem enPpack {K : PySem.W.Frag} {mg : Str → Option Value} {h : Heap} (X : K.In h) (G : h.Ns mainGlobals mg) (hf : HasFn K dfPpack.name (topS 13)) : Entry K mg tab dfPpack := ent_of X G hf scPpack ccPpack rfl (fun _ _ _ _ _ _ us hl => match us, hl with | [_, _, _], _ => rfl) (fun _ _ _ _ _ _ _ hks => nokw hks)
theorem enPmoves_of {K : PySem.W.Frag} {mg : Str → Option Value} {h : Heap} (X : K.In h) (G : h.Ns mainGlobals mg) (hf : HasFn K dfPmoves_of.name (topS 14)) : Entry K mg tab dfPmoves_of := ent_of X G hf scPmoves_of ccPmoves_of rfl (fun _ _ _ _ _ _ us hl => match us, hl with | [_, _, _], _ => rfl) (fun _ _ _ _ _ _ _ hks => nokw hks)
theorem enPplaces_by {K : PySem.W.Frag} {mg : Str → Option Value} {h : Heap} (X : K.In h) (G : h.Ns mainGlobals mg) (hf : HasFn K dfPplaces_by.name (topS 15)) : Entry K mg tab dfPplaces_by := ent_of X G hf scPplaces_by ccPplaces_by rfl (fun _ _ _ _ _ _ us hl => match us, hl with | [_, _, _], _ => rfl) (fun _ _ _ _ _ _ _ hks => nokw hks)
theorem enPsteps_by {K : PySem.W.Frag} {mg : Str → Option Value} {h : Heap} (X : K.In h) (G : h.Ns mainGlobals mg) (hf : HasFn K dfPsteps_by.name (topS 16)) : Entry K mg tab dfPsteps_by := ent_of X G hf scPsteps_by ccPsteps_by rfl (fun _ _ _ _ _ _ us hl => match us, hl with | [_, _, _], _ => rfl) (fun _ _ _ _ _ _ _ hks => nokw hks)
theorem enPfollowed {K : PySem.W.Frag} {mg : Str → Option Value} {h : Heap} (X : K.In h) (G : h.Ns mainGlobals mg) (hf : HasFn K dfPfollowed.name (topS 17)) : Entry K mg tab dfPfollowed := ent_of X G hf scPfollowed ccPfollowed rfl (fun _ _ _ _ _ _ us hl => match us, hl with | [_, _, _], _ => rfl) (fun _ _ _ _ _ _ _ hks => nokw hks)
theorem enPrepeated {K : PySem.W.Frag} {mg : Str → Option Value} {h : Heap} (X : K.In h) (G : h.Ns mainGlobals mg) (hf : HasFn K dfPrepeated.name (topS 18)) : Entry K mg tab dfPrepeated := ent_of X G hf scPrepeated ccPrepeated rfl (fun _ _ _ _ _ _ us hl => match us, hl with | [_, _, _], _ => rfl) (fun _ _ _ _ _ _ _ hks => nokw hks)
theorem enLbox {K : PySem.W.Frag} {mg : Str → Option Value} {h : Heap} (X : K.In h) (G : h.Ns mainGlobals mg) (hf : HasFn K dfLbox.name (topS 20)) : Entry K mg tab dfLbox := ent_of X G hf scLbox ccLbox rfl (fun _ _ _ _ _ _ us hl => match us, hl with | [_, _], _ => rfl) (fun _ _ _ _ _ _ _ hks => nokw hks)
theorem enLtake {K : PySem.W.Frag} {mg : Str → Option Value} {h : Heap} (X : K.In h) (G : h.Ns mainGlobals mg) (hf : HasFn K dfLtake.name (topS 21)) : Entry K mg tab dfLtake := ent_of X G hf scLtake ccLtake rfl (fun _ _ _ _ _ _ us hl => match us, hl with | [_, _], _ => rfl) (fun _ _ _ _ _ _ _ hks => nokw hks)
theorem enLcells {K : PySem.W.Frag} {mg : Str → Option Value} {h : Heap} (X : K.In h) (G : h.Ns mainGlobals mg) (hf : HasFn K dfLcells.name (topS 22)) : Entry K mg tab dfLcells := ent_of X G hf scLcells ccLcells rfl (fun _ _ _ _ _ _ us hl => match us, hl with | [_, _], _ => rfl) (fun _ _ _ _ _ _ _ hks => nokw hks)
theorem enLsame {K : PySem.W.Frag} {mg : Str → Option Value} {h : Heap} (X : K.In h) (G : h.Ns mainGlobals mg) (hf : HasFn K dfLsame.name (topS 23)) : Entry K mg tab dfLsame := ent_of X G hf scLsame ccLsame rfl (fun _ _ _ _ _ _ us hl => match us, hl with | [_, _], _ => rfl) (fun _ _ _ _ _ _ _ hks => nokw hks)
theorem enLone_person_right {K : PySem.W.Frag} {mg : Str → Option Value} {h : Heap} (X : K.In h) (G : h.Ns mainGlobals mg) (hf : HasFn K dfLone_person_right.name (topS 24)) : Entry K mg tab dfLone_person_right := ent_of X G hf scLone_person_right ccLone_person_right rfl (fun _ _ _ _ _ _ us hl => match us, hl with | [_], _ => rfl) (fun _ _ _ _ _ _ _ hks => nokw hks)
theorem enLall_but_one_right {K : PySem.W.Frag} {mg : Str → Option Value} {h : Heap} (X : K.In h) (G : h.Ns mainGlobals mg) (hf : HasFn K dfLall_but_one_right.name (topS 25)) : Entry K mg tab dfLall_but_one_right := ent_of X G hf scLall_but_one_right ccLall_but_one_right rfl (fun _ _ _ _ _ _ us hl => match us, hl with | [_], _ => rfl) (fun _ _ _ _ _ _ _ hks => nokw hks)
theorem enLfive_right {K : PySem.W.Frag} {mg : Str → Option Value} {h : Heap} (X : K.In h) (G : h.Ns mainGlobals mg) (hf : HasFn K dfLfive_right.name (topS 26)) : Entry K mg tab dfLfive_right := ent_of X G hf scLfive_right ccLfive_right rfl (fun _ _ _ _ _ _ us hl => match us, hl with | [], _ => rfl) (fun _ _ _ _ _ _ _ hks => nokw hks)
theorem enLright {K : PySem.W.Frag} {mg : Str → Option Value} {h : Heap} (X : K.In h) (G : h.Ns mainGlobals mg) (hf : HasFn K dfLright.name (topS 27)) : Entry K mg tab dfLright := ent_of X G hf scLright ccLright rfl (fun _ _ _ _ _ _ us hl => match us, hl with | [_], _ => rfl) (fun _ _ _ _ _ _ _ hks => nokw hks)
theorem enLlaw {K : PySem.W.Frag} {mg : Str → Option Value} {h : Heap} (X : K.In h) (G : h.Ns mainGlobals mg) (hf : HasFn K dfLlaw.name (topS 28)) : Entry K mg tab dfLlaw := ent_of X G hf scLlaw ccLlaw rfl (fun _ _ _ _ _ _ us hl => match us, hl with | [_], _ => rfl) (fun _ _ _ _ _ _ _ hks => nokw hks)
theorem tabAll {K : PySem.W.Frag} {mg : Str → Option Value} {h : Heap} (X : K.In h) (G : h.Ns mainGlobals mg) (h0 : HasFn K dfPmoved.name (topS 1)) (h1 : HasFn K dfPplaces_after.name (topS 2)) (h2 : HasFn K dfPas_table.name (topS 3)) (h3 : HasFn K dfPmover.name (topS 4)) (h4 : HasFn K dfPcalled.name (topS 5)) (h5 : HasFn K dfPtable_after.name (topS 6)) (h6 : HasFn K dfPtables_along.name (topS 7)) (h7 : HasFn K dfPidle_calls.name (topS 8)) (h8 : HasFn K dfPsteps.name (topS 9)) (h9 : HasFn K dfPseats_after.name (topS 10)) (h10 : HasFn K dfPpack_places.name (topS 12)) (h11 : HasFn K dfPpack.name (topS 13)) (h12 : HasFn K dfPmoves_of.name (topS 14)) (h13 : HasFn K dfPplaces_by.name (topS 15)) (h14 : HasFn K dfPsteps_by.name (topS 16)) (h15 : HasFn K dfPfollowed.name (topS 17)) (h16 : HasFn K dfPrepeated.name (topS 18)) (h17 : HasFn K dfLbox.name (topS 20)) (h18 : HasFn K dfLtake.name (topS 21)) (h19 : HasFn K dfLcells.name (topS 22)) (h20 : HasFn K dfLsame.name (topS 23)) (h21 : HasFn K dfLone_person_right.name (topS 24)) (h22 : HasFn K dfLall_but_one_right.name (topS 25)) (h23 : HasFn K dfLfive_right.name (topS 26)) (h24 : HasFn K dfLright.name (topS 27)) (h25 : HasFn K dfLlaw.name (topS 28)) : ∀ D ∈ tab, Entry K mg tab D := by
  intro D hD
  unfold tab at hD
  rcases List.mem_cons.mp hD with hD | hD
  · subst hD; exact enPmoved X G h0
  rcases List.mem_cons.mp hD with hD | hD
  · subst hD; exact enPplaces_after X G h1
  rcases List.mem_cons.mp hD with hD | hD
  · subst hD; exact enPas_table X G h2
  rcases List.mem_cons.mp hD with hD | hD
  · subst hD; exact enPmover X G h3
  rcases List.mem_cons.mp hD with hD | hD
  · subst hD; exact enPcalled X G h4
  rcases List.mem_cons.mp hD with hD | hD
  · subst hD; exact enPtable_after X G h5
  rcases List.mem_cons.mp hD with hD | hD
  · subst hD; exact enPtables_along X G h6
  rcases List.mem_cons.mp hD with hD | hD
  · subst hD; exact enPidle_calls X G h7
  rcases List.mem_cons.mp hD with hD | hD
  · subst hD; exact enPsteps X G h8
  rcases List.mem_cons.mp hD with hD | hD
  · subst hD; exact enPseats_after X G h9
  rcases List.mem_cons.mp hD with hD | hD
  · subst hD; exact enPpack_places X G h10
  rcases List.mem_cons.mp hD with hD | hD
  · subst hD; exact enPpack X G h11
  rcases List.mem_cons.mp hD with hD | hD
  · subst hD; exact enPmoves_of X G h12
  rcases List.mem_cons.mp hD with hD | hD
  · subst hD; exact enPplaces_by X G h13
  rcases List.mem_cons.mp hD with hD | hD
  · subst hD; exact enPsteps_by X G h14
  rcases List.mem_cons.mp hD with hD | hD
  · subst hD; exact enPfollowed X G h15
  rcases List.mem_cons.mp hD with hD | hD
  · subst hD; exact enPrepeated X G h16
  rcases List.mem_cons.mp hD with hD | hD
  · subst hD; exact enLbox X G h17
  rcases List.mem_cons.mp hD with hD | hD
  · subst hD; exact enLtake X G h18
  rcases List.mem_cons.mp hD with hD | hD
  · subst hD; exact enLcells X G h19
  rcases List.mem_cons.mp hD with hD | hD
  · subst hD; exact enLsame X G h20
  rcases List.mem_cons.mp hD with hD | hD
  · subst hD; exact enLone_person_right X G h21
  rcases List.mem_cons.mp hD with hD | hD
  · subst hD; exact enLall_but_one_right X G h22
  rcases List.mem_cons.mp hD with hD | hD
  · subst hD; exact enLfive_right X G h23
  rcases List.mem_cons.mp hD with hD | hD
  · subst hD; exact enLright X G h24
  rcases List.mem_cons.mp hD with hD | hD
  · subst hD; exact enLlaw X G h25
  cases hD
def lawF (d : Nat) (c : Addr × List Int) : F := feOf tab c d 25
theorem lawAll {P : Program} {w : World} {K : PySem.W.Frag} {mg : Str → Option Value} {h : Heap} {fa : Addr} {d : Nat} (X : K.In h) (G : h.Ns mainGlobals mg) (hfa : mg "law" = some (.ref fa)) (z : Blz K) (h0 : HasFn K dfPmoved.name (topS 1)) (h1 : HasFn K dfPplaces_after.name (topS 2)) (h2 : HasFn K dfPas_table.name (topS 3)) (h3 : HasFn K dfPmover.name (topS 4)) (h4 : HasFn K dfPcalled.name (topS 5)) (h5 : HasFn K dfPtable_after.name (topS 6)) (h6 : HasFn K dfPtables_along.name (topS 7)) (h7 : HasFn K dfPidle_calls.name (topS 8)) (h8 : HasFn K dfPsteps.name (topS 9)) (h9 : HasFn K dfPseats_after.name (topS 10)) (h10 : HasFn K dfPpack_places.name (topS 12)) (h11 : HasFn K dfPpack.name (topS 13)) (h12 : HasFn K dfPmoves_of.name (topS 14)) (h13 : HasFn K dfPplaces_by.name (topS 15)) (h14 : HasFn K dfPsteps_by.name (topS 16)) (h15 : HasFn K dfPfollowed.name (topS 17)) (h16 : HasFn K dfPrepeated.name (topS 18)) (h17 : HasFn K dfLbox.name (topS 20)) (h18 : HasFn K dfLtake.name (topS 21)) (h19 : HasFn K dfLcells.name (topS 22)) (h20 : HasFn K dfLsame.name (topS 23)) (h21 : HasFn K dfLone_person_right.name (topS 24)) (h22 : HasFn K dfLall_but_one_right.name (topS 25)) (h23 : HasFn K dfLfive_right.name (topS 26)) (h24 : HasFn K dfLright.name (topS 27)) (h25 : HasFn K dfLlaw.name (topS 28)) :
    ∃ fd : FuncData, (∀ (s : Shared) (u : Value), BindsTo s fd ⟨[u], []⟩ [("_law_script", u)]) ∧ ∀ base : Heap, K.In base → base.Ns mainGlobals mg → FnG P w K mg base CX0 d fa fd ["_law_script"] (spX K (lawF d)) :=
  law_fn (D := dfLlaw) X G (z.bl X G) (tabAll X G h0 h1 h2 h3 h4 h5 h6 h7 h8 h9 h10 h11 h12 h13 h14 h15 h16 h17 h18 h19 h20 h21 h22 h23 h24 h25) rfl hfa rfl rfl h25 scLlaw ccLlaw (fun _ _ _ _ _ _ us hl => match us, hl with | [_], _ => rfl)
end Lw

set_option Elab.async false
set_option linter.all false
set_option maxRecDepth 100000
set_option autoImplicit false
namespace Lw
open PySem L2 DL
def isT : Option (SV × List SV) → Bool
  | some (.dat (.bool true), _) => true
  | _ => false
theorem isT_ex {o : Option (SV × List SV)} (h : isT o = true) : ∃ w, o = some (.dat (.bool true), w) := by
  unfold isT at h
  split at h
  · exact ⟨_, rfl⟩
  · cases h
theorem t21_3 (c : Addr × List Int) : isT (feOf tab c 6 21 [.dat (.int 3)]) = true := by kernel_rfl
theorem t22_3 (c : Addr × List Int) : isT (feOf tab c 6 22 [.dat (.int 3)]) = true := by kernel_rfl
theorem t21_4 (c : Addr × List Int) : isT (feOf tab c 6 21 [.dat (.int 4)]) = true := by kernel_rfl
theorem t22_4 (c : Addr × List Int) : isT (feOf tab c 6 22 [.dat (.int 4)]) = true := by kernel_rfl
theorem t21_5 (c : Addr × List Int) : isT (feOf tab c 6 21 [.dat (.int 5)]) = true := by kernel_rfl
theorem t22_5 (c : Addr × List Int) : isT (feOf tab c 6 22 [.dat (.int 5)]) = true := by kernel_rfl
theorem t21_6 (c : Addr × List Int) : isT (feOf tab c 6 21 [.dat (.int 6)]) = true := by kernel_rfl
theorem t22_6 (c : Addr × List Int) : isT (feOf tab c 6 22 [.dat (.int 6)]) = true := by kernel_rfl
theorem t21_7 (c : Addr × List Int) : isT (feOf tab c 6 21 [.dat (.int 7)]) = true := by kernel_rfl
theorem t22_7 (c : Addr × List Int) : isT (feOf tab c 6 22 [.dat (.int 7)]) = true := by kernel_rfl
theorem t21_8 (c : Addr × List Int) : isT (feOf tab c 6 21 [.dat (.int 8)]) = true := by kernel_rfl
theorem t22_8 (c : Addr × List Int) : isT (feOf tab c 6 22 [.dat (.int 8)]) = true := by kernel_rfl
theorem t21_9 (c : Addr × List Int) : isT (feOf tab c 6 21 [.dat (.int 9)]) = true := by kernel_rfl
theorem t22_9 (c : Addr × List Int) : isT (feOf tab c 6 22 [.dat (.int 9)]) = true := by kernel_rfl
theorem t21_10 (c : Addr × List Int) : isT (feOf tab c 6 21 [.dat (.int 10)]) = true := by kernel_rfl
theorem t22_10 (c : Addr × List Int) : isT (feOf tab c 6 22 [.dat (.int 10)]) = true := by kernel_rfl
theorem t23 (c : Addr × List Int) : isT (feOf tab c 6 23 []) = true := by kernel_rfl
theorem parts (c : Addr × List Int) (n : Int) (h1 : 3 ≤ n) (h2 : n < 11) : isT (feOf tab c 6 21 [.dat (.int n)]) = true ∧ isT (feOf tab c 6 22 [.dat (.int n)]) = true := by
  have h : n = 3 ∨ n = 4 ∨ n = 5 ∨ n = 6 ∨ n = 7 ∨ n = 8 ∨ n = 9 ∨ n = 10 := by omega
  rcases h with rfl | rfl | rfl | rfl | rfl | rfl | rfl | rfl
  · exact ⟨t21_3 c, t22_3 c⟩
  · exact ⟨t21_4 c, t22_4 c⟩
  · exact ⟨t21_5 c, t22_5 c⟩
  · exact ⟨t21_6 c, t22_6 c⟩
  · exact ⟨t21_7 c, t22_7 c⟩
  · exact ⟨t21_8 c, t22_8 c⟩
  · exact ⟨t21_9 c, t22_9 c⟩
  · exact ⟨t21_10 c, t22_10 c⟩
theorem right (c : Addr × List Int) : RightIO (feOf tab c 7 24) := fun x y z => by
  have ht : TakeSpec (feOf tab c 6 18) := lTake_ok (fe := feOf tab c 5) (scr := c)
  obtain ⟨r, x', y', z', h1, h2, et⟩ := ht x y z 8 (by decide) (by decide)
  obtain ⟨p1, p2⟩ := parts c (3 + r) (by omega) (by omega)
  obtain ⟨w1, e1⟩ := isT_ex p1
  obtain ⟨w2, e2⟩ := isT_ex p2
  obtain ⟨w3, e3⟩ := isT_ex (t23 c)
  refine ⟨x', y', z', ?_⟩
  show bodyF 2 (semB (feOf tab c 6) c irLright) [.io [.int x, .int y, .int z]] = _
  generalize feOf tab c 6 = fe at et e1 e2 e3
  unfold bodyF irLright
  simp only [DL.semB, DL.semS, DL.semE, DL.semT, DL.semL, DL.semP, DL.semI, DL.semC, DL.semR, DL.seqG, DL.setG, DL.parG, DL.asgG, DL.setixG, DL.augG, DL.retG, DL.dropG, DL.skipG, DL.ifG, DL.forG, DL.bindM, DL.retM, DL.nameD, DL.cD, DL.bin2, DL.pk2, DL.un1, DL.pk1, DL.chainD, DL.notE, DL.ifE, DL.andE, DL.orE, DL.test, DL.notT, DL.andT, DL.orT, DL.yesT, DL.peek, DL.peeks, DL.lst1, DL.wr, DL.frz1, DL.frzs, DL.dataA, DL.dispL, DL.dispT, DL.consA, DL.nilA, DL.callP, DL.callD, DL.callB, DL.passA, DL.passF, DL.passF1, DL.passIO, DL.passM, DL.outO, DL.backIO, DL.take1, DL.takes, DL.putS, DL.puts, DL.ret1, DL.toO, DL.mutD, DL.asI, DL.poN, DL.poS, DL.slD, DL.itemsD, DL.seqD, DL.wipeS, DL.restS, DL.p2, DL.p1, DL.pB, DL.uM, DL.gA, DL.addP, DL.subP, DL.mulP, DL.modP, DL.fdivP, DL.powP, DL.ltP, DL.leP, DL.gtP, DL.geP, DL.ii, DL.iic, DL.ixP, DL.negP, DL.isNP, DL.notNP, DL.lenP, DL.absP, DL.intP, DL.appU, DL.popU, List.getElem?_cons_zero, List.getElem?_cons_succ, List.getElem?_nil, List.set_cons_zero, List.set_cons_succ, List.length_cons, List.length_nil, Option.bind_some, Option.map_some, Option.bind_none, Option.map_none, List.map_cons, List.map_nil, List.cons_append, List.nil_append, List.replicate_succ, List.replicate_zero, Nat.zero_add, Nat.reduceAdd, Nat.reduceSub, Nat.reduceEqDiff, Nat.add_eq, DL.putN, DL.putNs, DL.putCons, DL.putNil, DL.putT, DL.putTg, DL.truD, decide_true, decide_false, if_true, if_false, Bool.false_eq_true, reduceIte, ite_true, ite_false, Bool.not_true, Bool.not_false, gt_iff_lt, ge_iff_le, et, e1, e2, e3, outs]
theorem law_true (a : Addr) (ns : List Int) (hl : ns.length ≤ 63) : ∃ svs, lawF 8 (a, ns) [.raw (.ref a)] = some (.dat (.bool true), svs) := by
  have hb : BoxSpec (feOf tab (a, ns) 7 17) := box_ok (fe := feOf tab (a, ns) 6) (scr := (a, ns))
  have hc : CellsSpec (a, ns) (feOf tab (a, ns) 7 19) := cells_ok (fe := feOf tab (a, ns) 6) (scr := (a, ns)) hl
  exact lawA_ok (fe := feOf tab (a, ns) 7) (jc := 19) (jb := 17) (jr := 24) (u := 3) (m := 1) hc hb (right (a, ns)) (by decide) (by decide) (by decide)
end Lw

set_option Elab.async false
set_option linter.all false
set_option maxRecDepth 100000
open PySem PySem.W PyProof.Rows
set_option maxRecDepth 100000 in
set_option maxHeartbeats 0 in
theorem PySem.Challenge.cw_nextstands_k04_known_tables_holds : PySem.Challenge.rw_nextstands_k04_known_tables.Holds := by
  w_on; o_law; k_head; (case hw => w_witness2)
  k_fill
  refine DL.walk_go (l := PySem.Challenge.rw_nextstands_k04_known_tables) (n := 63) (k := 8) (x := "_law_script") (sp := fun w => DL.spX _ (Lw.lawF 8)) rfl (by decide) rfl ⟨rfl, by decide, by decide⟩ (fun w h Y => PySem.W.kIn_of Y) ?F (fun w H a ns hl hO hS => DL.law_prom hO hS (Lw.law_true a ns hl))
  case F =>
    intro w mg fa h KX G hmg
    refine' Lw.lawAll KX G hmg ?z ?f0 ?f1 ?f2 ?f3 ?f4 ?f5 ?f6 ?f7 ?f8 ?f9 ?f10 ?f11 ?f12 ?f13 ?f14 ?f15 ?f16 ?f17 ?f18 ?f19 ?f20 ?f21 ?f22 ?f23 ?f24 ?f25
    case z => constructor <;> first | rfl | k_is
    case f0 => refine' ⟨_, _, _, _, _, _, _, _, _, _, ?a, ?l, ?c, ?k⟩; (case a => first | rfl | k_is); (case l => first | rfl | k_is); (case c => first | rfl | k_is); (case k => first | rfl | k_is)
    case f1 => refine' ⟨_, _, _, _, _, _, _, _, _, _, ?a, ?l, ?c, ?k⟩; (case a => first | rfl | k_is); (case l => first | rfl | k_is); (case c => first | rfl | k_is); (case k => first | rfl | k_is)
    case f2 => refine' ⟨_, _, _, _, _, _, _, _, _, _, ?a, ?l, ?c, ?k⟩; (case a => first | rfl | k_is); (case l => first | rfl | k_is); (case c => first | rfl | k_is); (case k => first | rfl | k_is)
    case f3 => refine' ⟨_, _, _, _, _, _, _, _, _, _, ?a, ?l, ?c, ?k⟩; (case a => first | rfl | k_is); (case l => first | rfl | k_is); (case c => first | rfl | k_is); (case k => first | rfl | k_is)
    case f4 => refine' ⟨_, _, _, _, _, _, _, _, _, _, ?a, ?l, ?c, ?k⟩; (case a => first | rfl | k_is); (case l => first | rfl | k_is); (case c => first | rfl | k_is); (case k => first | rfl | k_is)
    case f5 => refine' ⟨_, _, _, _, _, _, _, _, _, _, ?a, ?l, ?c, ?k⟩; (case a => first | rfl | k_is); (case l => first | rfl | k_is); (case c => first | rfl | k_is); (case k => first | rfl | k_is)
    case f6 => refine' ⟨_, _, _, _, _, _, _, _, _, _, ?a, ?l, ?c, ?k⟩; (case a => first | rfl | k_is); (case l => first | rfl | k_is); (case c => first | rfl | k_is); (case k => first | rfl | k_is)
    case f7 => refine' ⟨_, _, _, _, _, _, _, _, _, _, ?a, ?l, ?c, ?k⟩; (case a => first | rfl | k_is); (case l => first | rfl | k_is); (case c => first | rfl | k_is); (case k => first | rfl | k_is)
    case f8 => refine' ⟨_, _, _, _, _, _, _, _, _, _, ?a, ?l, ?c, ?k⟩; (case a => first | rfl | k_is); (case l => first | rfl | k_is); (case c => first | rfl | k_is); (case k => first | rfl | k_is)
    case f9 => refine' ⟨_, _, _, _, _, _, _, _, _, _, ?a, ?l, ?c, ?k⟩; (case a => first | rfl | k_is); (case l => first | rfl | k_is); (case c => first | rfl | k_is); (case k => first | rfl | k_is)
    case f10 => refine' ⟨_, _, _, _, _, _, _, _, _, _, ?a, ?l, ?c, ?k⟩; (case a => first | rfl | k_is); (case l => first | rfl | k_is); (case c => first | rfl | k_is); (case k => first | rfl | k_is)
    case f11 => refine' ⟨_, _, _, _, _, _, _, _, _, _, ?a, ?l, ?c, ?k⟩; (case a => first | rfl | k_is); (case l => first | rfl | k_is); (case c => first | rfl | k_is); (case k => first | rfl | k_is)
    case f12 => refine' ⟨_, _, _, _, _, _, _, _, _, _, ?a, ?l, ?c, ?k⟩; (case a => first | rfl | k_is); (case l => first | rfl | k_is); (case c => first | rfl | k_is); (case k => first | rfl | k_is)
    case f13 => refine' ⟨_, _, _, _, _, _, _, _, _, _, ?a, ?l, ?c, ?k⟩; (case a => first | rfl | k_is); (case l => first | rfl | k_is); (case c => first | rfl | k_is); (case k => first | rfl | k_is)
    case f14 => refine' ⟨_, _, _, _, _, _, _, _, _, _, ?a, ?l, ?c, ?k⟩; (case a => first | rfl | k_is); (case l => first | rfl | k_is); (case c => first | rfl | k_is); (case k => first | rfl | k_is)
    case f15 => refine' ⟨_, _, _, _, _, _, _, _, _, _, ?a, ?l, ?c, ?k⟩; (case a => first | rfl | k_is); (case l => first | rfl | k_is); (case c => first | rfl | k_is); (case k => first | rfl | k_is)
    case f16 => refine' ⟨_, _, _, _, _, _, _, _, _, _, ?a, ?l, ?c, ?k⟩; (case a => first | rfl | k_is); (case l => first | rfl | k_is); (case c => first | rfl | k_is); (case k => first | rfl | k_is)
    case f17 => refine' ⟨_, _, _, _, _, _, _, _, _, _, ?a, ?l, ?c, ?k⟩; (case a => first | rfl | k_is); (case l => first | rfl | k_is); (case c => first | rfl | k_is); (case k => first | rfl | k_is)
    case f18 => refine' ⟨_, _, _, _, _, _, _, _, _, _, ?a, ?l, ?c, ?k⟩; (case a => first | rfl | k_is); (case l => first | rfl | k_is); (case c => first | rfl | k_is); (case k => first | rfl | k_is)
    case f19 => refine' ⟨_, _, _, _, _, _, _, _, _, _, ?a, ?l, ?c, ?k⟩; (case a => first | rfl | k_is); (case l => first | rfl | k_is); (case c => first | rfl | k_is); (case k => first | rfl | k_is)
    case f20 => refine' ⟨_, _, _, _, _, _, _, _, _, _, ?a, ?l, ?c, ?k⟩; (case a => first | rfl | k_is); (case l => first | rfl | k_is); (case c => first | rfl | k_is); (case k => first | rfl | k_is)
    case f21 => refine' ⟨_, _, _, _, _, _, _, _, _, _, ?a, ?l, ?c, ?k⟩; (case a => first | rfl | k_is); (case l => first | rfl | k_is); (case c => first | rfl | k_is); (case k => first | rfl | k_is)
    case f22 => refine' ⟨_, _, _, _, _, _, _, _, _, _, ?a, ?l, ?c, ?k⟩; (case a => first | rfl | k_is); (case l => first | rfl | k_is); (case c => first | rfl | k_is); (case k => first | rfl | k_is)
    case f23 => refine' ⟨_, _, _, _, _, _, _, _, _, _, ?a, ?l, ?c, ?k⟩; (case a => first | rfl | k_is); (case l => first | rfl | k_is); (case c => first | rfl | k_is); (case k => first | rfl | k_is)
    case f24 => refine' ⟨_, _, _, _, _, _, _, _, _, _, ?a, ?l, ?c, ?k⟩; (case a => first | rfl | k_is); (case l => first | rfl | k_is); (case c => first | rfl | k_is); (case k => first | rfl | k_is)
    case f25 => refine' ⟨_, _, _, _, _, _, _, _, _, _, ?a, ?l, ?c, ?k⟩; (case a => first | rfl | k_is); (case l => first | rfl | k_is); (case c => first | rfl | k_is); (case k => first | rfl | k_is)
