import PyProof.Rows.All
import Wide.All
import OpenK.AllK
import Wide.FinOn
import HandS.ForMost
import HandS.ForExc
import HandS.Deep
import HandS.IsInst
import KE.KDictKeyed
import HandS.Zip
import HandS.TryMany
import HandS.Style
import HandS.TupAny
import HandS.TupMul
import HandS.Wide
import HandS.Flow
import KE.SortData
import KE.LtData
import KE.GoesEnum
import HandS.TupLe
import PyProof.StrBlock2
import HandS.SetFor
import HandS.Strs
import PyProof.Rows.TupDisplay
import PySem.Challenge.RW_shiftroads_k27_parting_words
set_option Elab.async false
set_option linter.all false
set_option maxRecDepth 100000
set_option maxHeartbeats 4000000
/-! PD1: the data layer. Values are data (PyData); a def's body is a map of slots to outcomes; the heap is split into a part that never changes (S)
and lists that one slot owns. -/
namespace PD
open PySem L2

abbrev Dt := PyData

section dp
variable {K : PySem.W.Frag} {H H' : Hp}
theorem sqT_mono (e : Same H H') {a : Addr} {xs : List V} (h : SqT K H a xs) : SqT K H' a xs := by
  rcases h with (h | ⟨o, h⟩) | h
  · exact .inl (.inl (e _ _ h))
  · exact .inl (.inr ⟨o, e _ _ h⟩)
  · exact .inr h
mutual
theorem dp_mono (e : Same H H') : ∀ (d : Dt) (v : V), Dp K H v d → Dp K H' v d
  | .none, _, h => by cases h; exact .non
  | .bool b, _, h => by cases h; exact .bl b
  | .int i, _, h => by cases h; exact .int i
  | .str x, _, h => by cases h; exact .str x
  | .list ds, _, h => by
    cases h with
    | lst hs ha => exact .lst (e.seq hs) (dpAll_mono e ds _ ha)
  | .tuple ds, _, h => by
    cases h with
    | tup hs ha => exact .tup (sqT_mono e hs) (dpAll_mono e ds _ ha)
  | .dict _, _, h => by cases h
theorem dpAll_mono (e : Same H H') : ∀ (ds : List Dt) (vs : List V), DpAll K H vs ds → DpAll K H' vs ds
  | [], _, h => by cases h; exact .nil
  | d :: ds, _, h => by
    cases h with
    | cons h1 h2 => exact .cons (dp_mono e d _ h1) (dpAll_mono e ds _ h2)
end
theorem dpa_len : ∀ {vs : List V} {ds : List Dt}, DpAll K H vs ds → vs.length = ds.length
  | _, _, .nil => rfl
  | _, _, .cons _ t => by rw [List.length_cons, List.length_cons, dpa_len t]
theorem dpa_getE : ∀ {vs : List V} {ds : List Dt} {i : Nat} {v : V} {d : Dt}, DpAll K H vs ds → vs[i]? = some v → ds[i]? = some d → Dp K H v d
  | _, _, _, _, _, .nil, e, _ => by simp at e
  | _, _, 0, _, _, .cons r _, e, e' => by simp at e e'; subst e; subst e'; exact r
  | _, _, i + 1, _, _, .cons _ t, e, e' => dpa_getE (i := i) t (by simpa using e) (by simpa using e')
theorem dpa_app : ∀ {vs ws : List V} {ds es : List Dt}, DpAll K H vs ds → DpAll K H ws es → DpAll K H (vs ++ ws) (ds ++ es)
  | _, _, _, _, .nil, s => s
  | _, _, _, _, .cons r t, s => .cons r (dpa_app t s)
theorem dpa_snoc {vs : List V} {ds : List Dt} {v : V} {d : Dt} (h : DpAll K H vs ds) (r : Dp K H v d) : DpAll K H (vs ++ [v]) (ds ++ [d]) := dpa_app h (.cons r .nil)
theorem dpa_tk : ∀ {vs : List V} {ds : List Dt} (n : Nat), DpAll K H vs ds → DpAll K H (vs.take n) (ds.take n)
  | _, _, 0, _ => .nil
  | _, _, _ + 1, .nil => .nil
  | _, _, n + 1, .cons r t => .cons r (dpa_tk n t)
theorem dpa_dr : ∀ {vs : List V} {ds : List Dt} (n : Nat), DpAll K H vs ds → DpAll K H (vs.drop n) (ds.drop n)
  | _, _, 0, r => r
  | _, _, _ + 1, .nil => .nil
  | _, _, n + 1, .cons _ t => dpa_dr n t
theorem dpa_st : ∀ {vs : List V} {ds : List Dt} {v : V} {d : Dt} (i : Nat), DpAll K H vs ds → Dp K H v d → DpAll K H (vs.set i v) (ds.set i d)
  | _, _, _, _, _, .nil, _ => .nil
  | _, _, _, _, 0, .cons _ t, r => .cons r t
  | _, _, _, _, i + 1, .cons q t, r => .cons q (dpa_st i t r)
theorem dpa_rev : ∀ {vs : List V} {ds : List Dt}, DpAll K H vs ds → DpAll K H vs.reverse ds.reverse
  | _, _, .nil => .nil
  | _, _, .cons r t => by
    rw [List.reverse_cons, List.reverse_cons]
    exact dpa_snoc (dpa_rev t) r
theorem dpa_some : ∀ {vs : List V} {ds : List Dt} {i : Nat} {d : Dt}, DpAll K H vs ds → ds[i]? = some d → ∃ v, vs[i]? = some v ∧ Dp K H v d
  | _, _, _, _, .nil, e => by simp at e
  | _, _, 0, _, .cons r _, e => by simp at e; subst e; exact ⟨_, rfl, r⟩
  | _, _, i + 1, _, .cons _ t, e => by
    obtain ⟨v, h1, h2⟩ := dpa_some (i := i) t (by simpa using e)
    exact ⟨v, by simpa using h1, h2⟩
theorem dpa_someL : ∀ {vs : List V} {ds : List Dt} {i : Nat} {v : V}, DpAll K H vs ds → vs[i]? = Option.some v → ∃ d, ds[i]? = Option.some d ∧ Dp K H v d
  | _, _, _, _, .nil, e => by simp at e
  | _, _, 0, _, .cons r _, e => by simp at e; subst e; exact ⟨_, rfl, r⟩
  | _, _, i + 1, _, .cons _ t, e => by
    obtain ⟨v, h1, h2⟩ := dpa_someL (i := i) t (by simpa using e)
    exact ⟨v, by simpa using h1, h2⟩
end dp

/-! ### slots and outcomes -/
/-- what a slot holds: nothing that is known, data that never changes, a list of the slot's own -/
inductive Sl where
  | un
  | sh (d : Dt)
  | ow (ds : List Dt)
  | od (kds : List (Dt × Dt))
abbrev Ev := List Sl
inductive Ex (α : Type) where
  | ok (a : α) (ρ : Ev)
  | ex (c : Str) (ρ : Ev)
/-- a value's telling: data, or the list that a slot owns -/
inductive Rv where
  | val (d : Dt)
  | loc (i : Nat)
abbrev M (α : Type) := Ev → Option (Ex α)
def pur {α : Type} (a : α) : M α := fun ρ => some (.ok a ρ)
def bd {α β : Type} (m : M α) (k : α → M β) : M β := fun ρ => match m ρ with
  | none => none
  | some (.ok a ρ') => k a ρ'
  | some (.ex c ρ') => some (.ex c ρ')
def opt {α : Type} (o : Option α) : M α := fun ρ => match o with
  | none => none
  | some a => some (.ok a ρ)
def res (r : Rv) : M Dt := fun ρ => match r with
  | .val d => some (.ok d ρ)
  | .loc i => match ρ[i]? with
    | some (.ow ds) => some (.ok (.list ds) ρ)
    | _ => none

/-- a def's entry: the still part, the heap, the parameters that are handed in to be changed (slot, address) -/
structure Ent where
  S : Hp
  H : Hp
  io : List (Nat × Addr)

/-- a slot that owns an object -/
def isO : Option Sl → Prop
  | some (.ow _) => True
  | some (.od _) => True
  | _ => False
theorem isO_cases {s : Option Sl} (h : isO s) : (∃ ds, s = some (.ow ds)) ∨ ∃ ks, s = some (.od ks) := by
  match s, h with
  | some (.ow ds), _ => exact .inl ⟨ds, rfl⟩
  | some (.od ks), _ => exact .inr ⟨ks, rfl⟩
/-- a key of data: None, ints, tuples of such -/
def nkS : Dt → Option PySem.NestedKey
  | .none => some .none
  | .int i => some (.num i)
  | _ => none
def nkL : List Dt → Option (List PySem.NestedKey)
  | [] => some []
  | d :: ds => match nkS d, nkL ds with
    | some k, some ks => some (k :: ks)
    | _, _ => none
def nkD : Dt → Option PySem.NestedKey
  | .tuple ds => (nkL ds).map .tup
  | _ => none
/-- a dict with such keys: its rows are hash, key, the key's tuple, value -/
def DO (a : Addr) (xs : List (Int × PySem.NestedKey × Addr × Value)) : HO := .ext fun h => (a == sysModules) = false ∧ xs.length ≤ sizeLine ∧ (xs.map (·.2.1)).Nodup ∧
  ∃ o es ep, h.get? a = some o ∧ o.ExactDict ∧ o.data = .dict es ep ∧ es.toList = xs.map fun x => ⟨x.1, .ref x.2.2.1, x.2.2.2⟩
section dk
variable (K : PySem.W.Frag) (S : Hp)
def DkOk (x : Int × PySem.NestedKey × Addr × Value) (kd : Dt × Dt) : Prop := nkD kd.1 = some x.2.1 ∧ (∀ w, x.1 = x.2.1.hash w) ∧ Dp K S (.ref x.2.2.1) kd.1 ∧ ∃ v, RelV v x.2.2.2 ∧ Dp K S v kd.2
inductive DkAll : List (Int × PySem.NestedKey × Addr × Value) → List (Dt × Dt) → Prop
  | nil : DkAll [] []
  | cons {x kd xs kds} : DkOk K S x kd → DkAll xs kds → DkAll (x :: xs) (kd :: kds)
def DRel (a : Addr) (o : HO) (kds : List (Dt × Dt)) : Prop := ∃ xs, o = DO a xs ∧ DkAll K S xs kds
end dk
theorem dk_mono {K : PySem.W.Frag} {S S' : Hp} (s : Same S S') : ∀ {xs : List (Int × PySem.NestedKey × Addr × Value)} {kds : List (Dt × Dt)}, DkAll K S xs kds → DkAll K S' xs kds
  | _, _, .nil => .nil
  | _, _, .cons ⟨h1, h2, h3, v, h4, h5⟩ t => .cons ⟨h1, h2, dp_mono s _ _ h3, v, h4, dp_mono s _ _ h5⟩ (dk_mono s t)
theorem dr_mono {K : PySem.W.Frag} {S S' : Hp} (s : Same S S') {a : Addr} {o : HO} {kds : List (Dt × Dt)} (h : DRel K S a o kds) : DRel K S' a o kds := by
  obtain ⟨xs, h1, h2⟩ := h
  exact ⟨xs, h1, dk_mono s h2⟩
theorem dr_lst {K : PySem.W.Frag} {S : Hp} {a : Addr} {xs : List V} {kds : List (Dt × Dt)} (h : DRel K S a (.lst xs) kds) : False := by
  obtain ⟨_, h1, _⟩ := h
  cases h1
section rep
variable (K : PySem.W.Frag) (G : Ent)
def SlOk (S H : Hp) (o : Option (Option V)) : Sl → Prop
  | .un => True
  | .sh d => ∃ v, o = some (some v) ∧ Dp K S v d
  | .ow ds => ∃ a xs, o = some (some (.ref a)) ∧ H a = some (.lst xs) ∧ DpAll K S xs ds ∧ S a = none ∧ (a ∈ G.io.map (·.2) ∨ G.H a = none)
  | .od ks => ∃ a ob, o = some (some (.ref a)) ∧ H a = some ob ∧ DRel K S a ob ks ∧ S a = none ∧ G.H a = none
structure Rep (S H : Hp) (σ : St) (ρ : Ev) : Prop where
  sub : Same S H
  ent : Same G.S S
  frm : ∀ a o, G.H a = some o → a ∉ G.io.map (·.2) → H a = some o
  new : ∀ a o, S a = some o → G.S a = some o ∨ G.H a = none
  len : ρ.length = σ.length
  slot : ∀ (i : Nat) (sl : Sl), ρ[i]? = some sl → SlOk K G S H σ[i]? sl
  dist : ∀ (i j : Nat) (a : Addr), isO ρ[i]? → isO ρ[j]? → σ[i]? = some (some (.ref a)) → σ[j]? = some (some (.ref a)) → i = j
  io : ∀ (i : Nat) (a : Addr), (i, a) ∈ G.io → (∃ ds, ρ[i]? = some (.ow ds)) ∧ σ[i]? = some (some (.ref a))
def RvOk (S : Hp) (σ : St) (v : V) : Rv → Prop
  | .val d => Dp K S v d
  | .loc i => σ[i]? = some (some v)
/-- read now: still data, or a list of a slot's own -/
def Tr (S H : Hp) (v : V) (d : Dt) : Prop := Dp K S v d ∨ ∃ a xs ds, v = .ref a ∧ d = .list ds ∧ H a = some (.lst xs) ∧ DpAll K S xs ds
/-- the still part and the heap grow by new objects -/
structure Grow (S H S' H' : Hp) : Prop where
  s : Same S S'
  h : Same H H'
  sub : Same S' H'
  new : ∀ a o, S' a = some o → S a = some o ∨ H a = none
end rep

section
variable {K : PySem.W.Frag} {G : Ent} {S H S' H' : Hp} {σ : St} {ρ : Ev}
theorem Grow.rfl' (h : Same S H) : Grow S H S H := ⟨Same.refl _, Same.refl _, h, fun _ _ e => .inl e⟩
theorem upd_same' {H : Hp} {p : Addr} {o : HO} (h : H p = none) : Same H (upd H p o) := fun b u e => by
  rw [upd_ne (ne_of_none e h)]
  exact e
theorem Grow.one (h : Same S H) {p : Addr} (hp : H p = none) (o : HO) : Grow S H (upd S p o) (upd H p o) := by
  have sp : S p = none := h.free hp
  refine ⟨upd_same' sp, upd_same' hp, fun b u e => ?_, fun b u e => ?_⟩
  · by_cases hb : b = p
    · subst hb; rw [upd_same] at e ⊢; exact e
    · rw [upd_ne hb] at e ⊢; exact h _ _ e
  · by_cases hb : b = p
    · subst hb; exact .inr hp
    · rw [upd_ne hb] at e; exact .inl e
theorem Tr.full (s : Same S H) {v : V} {d : Dt} (h : Tr K S H v d) : Dp K H v d := by
  rcases h with h | ⟨a, xs, ds, rfl, rfl, e, q⟩
  · exact dp_mono s _ _ h
  · exact .lst (SqL.of e) (dpAll_mono s _ _ q)
theorem Tr.of (h : Dp K S v d) : Tr K S H v d := .inl h
theorem Rep.live (R : Rep K G S H σ ρ) {a : Addr} {o : HO} (e : G.H a = some o) : ∃ u, H a = some u := by
  by_cases hm : a ∈ G.io.map (·.2)
  · obtain ⟨⟨i, b⟩, h1, h2⟩ := List.mem_map.mp hm
    have h3 : b = a := h2
    subst h3
    obtain ⟨⟨ds, h4⟩, h5⟩ := R.io i b h1
    obtain ⟨c, xs, h6, h7, _⟩ := R.slot i _ h4
    rw [h5] at h6
    cases h6
    exact ⟨_, h7⟩
  · exact ⟨o, R.frm a o e hm⟩
theorem Rep.gone (R : Rep K G S H σ ρ) {a : Addr} (e : H a = none) : G.H a = none := by
  cases q : G.H a with
  | none => rfl
  | some o =>
    obtain ⟨u, hu⟩ := R.live q
    rw [e] at hu; cases hu
theorem Rep.grow (R : Rep K G S H σ ρ) (g : Grow S H S' H') : Rep K G S' H' σ ρ := by
  refine ⟨g.sub, R.ent.trans g.s, fun a o h1 h2 => g.h _ _ (R.frm a o h1 h2), fun a o h1 => ?_, R.len, fun i sl h1 => ?_, R.dist, R.io⟩
  · rcases g.new a o h1 with h2 | h2
    · exact R.new a o h2
    · exact .inr (R.gone h2)
  · have h2 := R.slot i sl h1
    cases sl with
    | un => trivial
    | sh d =>
      obtain ⟨v, e, q⟩ := h2
      exact ⟨v, e, dp_mono g.s _ _ q⟩
    | ow ds =>
      obtain ⟨a, xs, e, q1, q2, q3, q4⟩ := h2
      refine ⟨a, xs, e, g.h _ _ q1, dpAll_mono g.s _ _ q2, ?_, q4⟩
      cases z : S' a with
      | none => rfl
      | some o =>
        rcases g.new a o z with y | y
        · rw [q3] at y; cases y
        · rw [q1] at y; cases y
    | od ks =>
      obtain ⟨a, ob, e, q1, q2, q3, q4⟩ := h2
      refine ⟨a, ob, e, g.h _ _ q1, dr_mono g.s q2, ?_, q4⟩
      cases z : S' a with
      | none => rfl
      | some o =>
        rcases g.new a o z with y | y
        · rw [q3] at y; cases y
        · rw [q1] at y; cases y
/-- a new object that nothing but the heap knows -/
theorem Rep.alloc (R : Rep K G S H σ ρ) {p : Addr} (hp : H p = none) (o : HO) : Rep K G S (upd H p o) σ ρ := by
  have sm : Same H (upd H p o) := upd_same' hp
  refine ⟨R.sub.trans sm, R.ent, fun a u h1 h2 => sm _ _ (R.frm a u h1 h2), R.new, R.len, fun i sl h1 => ?_, R.dist, R.io⟩
  have h2 := R.slot i sl h1
  cases sl with
  | un => trivial
  | sh d => exact h2
  | ow ds =>
    obtain ⟨a, xs, e, q1, q2, q3, q4⟩ := h2
    exact ⟨a, xs, e, sm _ _ q1, q2, q3, q4⟩
  | od ks =>
    obtain ⟨a, xs, e, q1, q2, q3, q4⟩ := h2
    exact ⟨a, xs, e, sm _ _ q1, q2, q3, q4⟩
/-- a fresh list: known to nothing -/
structure Fresh (K : PySem.W.Frag) (G : Ent) (S H : Hp) (σ : St) (ρ : Ev) (v : V) (ds : List Dt) : Prop where
  ex : ∃ a xs, v = .ref a ∧ H a = some (.lst xs) ∧ DpAll K S xs ds ∧ S a = none ∧ G.H a = none ∧ ∀ (i : Nat) (di : List Dt), ρ[i]? = some (.ow di) → σ[i]? ≠ some (some (.ref a))
theorem Rep.fresh (R : Rep K G S H σ ρ) {p : Addr} (hp : H p = none) {xs : List V} {ds : List Dt} (h : DpAll K S xs ds) : Fresh K G S (upd H p (.lst xs)) σ ρ (.ref p) ds := by
  refine ⟨⟨p, xs, rfl, upd_same, h, R.sub.free hp, R.gone hp, fun i di h1 h2 => ?_⟩⟩
  obtain ⟨a, ys, e, q1, _⟩ := R.slot i _ h1
  rw [h2] at e
  cases e
  rw [hp] at q1; cases q1
/-- a fresh list is let be -/
theorem Rep.freeze (R : Rep K G S H σ ρ) {v : V} {ds : List Dt} (f : Fresh K G S H σ ρ v ds) : ∃ S', Rep K G S' H σ ρ ∧ Same S S' ∧ Dp K S' v (.list ds) := by
  obtain ⟨a, xs, rfl, h1, h2, h3, h4, h5⟩ := f.ex
  have sm : Same S (upd S a (.lst xs)) := upd_same' h3
  refine ⟨upd S a (.lst xs), ⟨fun b u e => ?_, R.ent.trans sm, R.frm, fun b u e => ?_, R.len, fun i sl e => ?_, R.dist, R.io⟩, sm, .lst (SqL.of upd_same) (dpAll_mono sm _ _ h2)⟩
  · by_cases hb : b = a
    · subst hb; rw [upd_same] at e; cases e; exact h1
    · rw [upd_ne hb] at e; exact R.sub _ _ e
  · by_cases hb : b = a
    · subst hb; exact .inr h4
    · rw [upd_ne hb] at e; exact R.new _ _ e
  · have q := R.slot i sl e
    cases sl with
    | un => trivial
    | sh d =>
      obtain ⟨v, e1, q1⟩ := q
      exact ⟨v, e1, dp_mono sm _ _ q1⟩
    | ow ds =>
      obtain ⟨b, ys, e1, q1, q2, q3, q4⟩ := q
      refine ⟨b, ys, e1, q1, dpAll_mono sm _ _ q2, ?_, q4⟩
      have hb : b ≠ a := fun z => by subst z; exact h5 i ds e e1
      rw [upd_ne hb]; exact q3
    | od ks =>
      obtain ⟨b, ob, e1, q1, q2, q3, q4⟩ := q
      refine ⟨b, ob, e1, q1, dr_mono sm q2, ?_, q4⟩
      have hb : b ≠ a := fun z => by
        subst z
        rw [h1] at q1
        cases q1
        exact dr_lst q2
      rw [upd_ne hb]; exact q3
theorem isO_set {ρ : Ev} {i j : Nat} {x : Sl} (h : isO (ρ.set i x)[j]?) : (i = j ∧ isO (some x)) ∨ (i ≠ j ∧ isO ρ[j]?) := by
  by_cases hij : i = j
  · subst hij
    rw [List.getElem?_set, if_pos rfl] at h
    by_cases hl : i < ρ.length
    · rw [if_pos hl] at h; exact .inl ⟨rfl, h⟩
    · rw [if_neg hl] at h; exact h.elim
  · rw [List.getElem?_set, if_neg hij] at h
    exact .inr ⟨hij, h⟩
theorem get_set {α : Type} {l : List α} {i j : Nat} {x y : α} (h : (l.set i x)[j]? = some y) : (i = j ∧ y = x) ∨ (i ≠ j ∧ l[j]? = some y) := by
  rw [List.getElem?_set] at h
  split at h
  · split at h
    · rename_i h1 h2; cases h; exact .inl ⟨h1, rfl⟩
    · cases h
  · rename_i h1; exact .inr ⟨h1, h⟩
theorem get_set_ne {α : Type} {l : List α} {i j : Nat} {x : α} (h : i ≠ j) : (l.set i x)[j]? = l[j]? := by rw [List.getElem?_set, if_neg h]
theorem get_set_eq {α : Type} {l : List α} {i : Nat} {x : α} (h : i < l.length) : (l.set i x)[i]? = some x := by rw [List.getElem?_set, if_pos rfl, if_pos h]
/-- slot i is no parameter that is handed in to be changed -/
def Free (G : Ent) (i : Nat) : Prop := ∀ p ∈ G.io, p.1 ≠ i
/-- x = data -/
theorem Rep.setS (R : Rep K G S H σ ρ) {i : Nat} (hf : Free G i) {v : V} {d : Dt} (h : Dp K S v d) : Rep K G S H (σ.set i (some v)) (ρ.set i (.sh d)) := by
  refine ⟨R.sub, R.ent, R.frm, R.new, by rw [List.length_set, List.length_set]; exact R.len, fun j sl e => ?_, fun j k a h1 h2 h3 h4 => ?_, fun j a e => ?_⟩
  · have hl : j < σ.length := by
      have := (List.getElem?_eq_some_iff.mp e).1
      rw [List.length_set] at this
      rw [← R.len]; exact this
    rcases get_set e with ⟨rfl, rfl⟩ | ⟨ne, e⟩
    · exact ⟨v, get_set_eq hl, h⟩
    · rw [get_set_ne ne]; exact R.slot j sl e
  · rcases isO_set h1 with ⟨_, z⟩ | ⟨n1, h1⟩
    · exact z.elim
    · rcases isO_set h2 with ⟨_, z⟩ | ⟨n2, h2⟩
      · exact z.elim
      · rw [get_set_ne n1] at h3; rw [get_set_ne n2] at h4
        exact R.dist j k a h1 h2 h3 h4
  · have ne : i ≠ j := fun z => hf _ e z.symm
    rw [get_set_ne ne, get_set_ne ne]
    exact R.io j a e
/-- forget a slot -/
theorem Rep.setU (R : Rep K G S H σ ρ) {i : Nat} (hf : Free G i) (o : Option V) : Rep K G S H (σ.set i o) (ρ.set i .un) := by
  refine ⟨R.sub, R.ent, R.frm, R.new, by rw [List.length_set, List.length_set]; exact R.len, fun j sl e => ?_, fun j k a h1 h2 h3 h4 => ?_, fun j a e => ?_⟩
  · rcases get_set e with ⟨rfl, rfl⟩ | ⟨ne, e⟩
    · trivial
    · rw [get_set_ne ne]; exact R.slot j sl e
  · rcases isO_set h1 with ⟨_, z⟩ | ⟨n1, h1⟩
    · exact z.elim
    · rcases isO_set h2 with ⟨_, z⟩ | ⟨n2, h2⟩
      · exact z.elim
      · rw [get_set_ne n1] at h3; rw [get_set_ne n2] at h4
        exact R.dist j k a h1 h2 h3 h4
  · have ne : i ≠ j := fun z => hf _ e z.symm
    rw [get_set_ne ne, get_set_ne ne]
    exact R.io j a e
theorem Rep.forget (R : Rep K G S H σ ρ) {i : Nat} (hf : Free G i) : Rep K G S H σ (ρ.set i .un) := by
  refine ⟨R.sub, R.ent, R.frm, R.new, by rw [List.length_set]; exact R.len, fun j sl e => ?_, fun j k a h1 h2 h3 h4 => ?_, fun j a e => ?_⟩
  · rcases get_set e with ⟨rfl, rfl⟩ | ⟨ne, e⟩
    · trivial
    · exact R.slot j sl e
  · rcases isO_set h1 with ⟨_, z⟩ | ⟨n1, h1⟩
    · exact z.elim
    · rcases isO_set h2 with ⟨_, z⟩ | ⟨n2, h2⟩
      · exact z.elim
      · exact R.dist j k a h1 h2 h3 h4
  · have ne : i ≠ j := fun z => hf _ e z.symm
    rw [get_set_ne ne]
    exact R.io j a e
/-- x = a fresh list, to be the slot's own -/
theorem Rep.setO (R : Rep K G S H σ ρ) {i : Nat} (hf : Free G i) {v : V} {ds : List Dt} (f : Fresh K G S H σ ρ v ds) : Rep K G S H (σ.set i (some v)) (ρ.set i (.ow ds)) := by
  obtain ⟨a, xs, rfl, q1, q2, q3, q4, q5⟩ := f.ex
  refine ⟨R.sub, R.ent, R.frm, R.new, by rw [List.length_set, List.length_set]; exact R.len, fun j sl e => ?_, fun j k b h1 h2 h3 h4 => ?_, fun j b e => ?_⟩
  · have hl : j < σ.length := by
      have := (List.getElem?_eq_some_iff.mp e).1
      rw [List.length_set] at this
      rw [← R.len]; exact this
    rcases get_set e with ⟨rfl, rfl⟩ | ⟨ne, e⟩
    · exact ⟨a, xs, get_set_eq hl, q1, q2, q3, .inr q4⟩
    · rw [get_set_ne ne]; exact R.slot j sl e
  · have un : ∀ m : Nat, isO ρ[m]? → σ[m]? ≠ some (some (V.ref a)) := fun m hm z => by
      rcases isO_cases hm with ⟨dm, hm⟩ | ⟨km, hm⟩
      · exact q5 m dm hm z
      · obtain ⟨c, ob, z1, z2, z3, _⟩ := R.slot m _ hm
        rw [z] at z1; cases z1
        rw [q1] at z2; cases z2
        exact dr_lst z3
    rcases isO_set h1 with ⟨e1, _⟩ | ⟨n1, h1⟩
    · rcases isO_set h2 with ⟨e2, _⟩ | ⟨n2, h2⟩
      · rw [← e1, ← e2]
      · exfalso
        rw [get_set_ne n2] at h4
        rcases get_set h3 with ⟨_, z⟩ | ⟨z, _⟩
        · cases z; exact un k h2 h4
        · exact z e1
    · rw [get_set_ne n1] at h3
      rcases isO_set h2 with ⟨e2, _⟩ | ⟨n2, h2⟩
      · exfalso
        rcases get_set h4 with ⟨_, z⟩ | ⟨z, _⟩
        · cases z; exact un j h1 h3
        · exact z e2
      · rw [get_set_ne n2] at h4
        exact R.dist j k b h1 h2 h3 h4
  · have ne : i ≠ j := fun z => hf _ e z.symm
    rw [get_set_ne ne, get_set_ne ne]
    exact R.io j b e
/-- a slot's own list is changed -/
theorem Rep.put (R : Rep K G S H σ ρ) {i : Nat} {ds es : List Dt} {a : Addr} {ys : List V} (e : ρ[i]? = some (.ow ds)) (ea : σ[i]? = some (some (.ref a))) (h : DpAll K S ys es) :
    Rep K G S (upd H a (.lst ys)) σ (ρ.set i (.ow es)) := by
  obtain ⟨b, xs, e1, q1, q2, q3, q4⟩ := R.slot i _ e
  rw [ea] at e1; cases e1
  have hi : i < ρ.length := (List.getElem?_eq_some_iff.mp e).1
  refine ⟨fun b u eb => ?_, R.ent, fun b u h1 h2 => ?_, R.new, by rw [List.length_set]; exact R.len, fun j sl ej => ?_, fun j k b h1 h2 h3 h4 => ?_, fun j b ej => ?_⟩
  · have ne : b ≠ a := fun z => by subst z; rw [q3] at eb; cases eb
    rw [upd_ne ne]; exact R.sub _ _ eb
  · have ne : b ≠ a := fun z => by
      subst z
      rcases q4 with q4 | q4
      · exact h2 q4
      · rw [q4] at h1; cases h1
    rw [upd_ne ne]; exact R.frm b u h1 h2
  · rcases get_set ej with ⟨rfl, rfl⟩ | ⟨ne, ej⟩
    · exact ⟨a, ys, ea, upd_same, h, q3, q4⟩
    · have z := R.slot j sl ej
      cases sl with
      | un => trivial
      | sh d => exact z
      | ow dz =>
        obtain ⟨c, zs, z1, z2, z3, z4, z5⟩ := z
        have nc : c ≠ a := fun y => by subst y; exact ne (R.dist i j c (by rw [e]; trivial) (by rw [ej]; trivial) ea z1)
        exact ⟨c, zs, z1, by rw [upd_ne nc]; exact z2, z3, z4, z5⟩
      | od kz =>
        obtain ⟨c, zs, z1, z2, z3, z4, z5⟩ := z
        have nc : c ≠ a := fun y => by subst y; exact ne (R.dist i j c (by rw [e]; trivial) (by rw [ej]; trivial) ea z1)
        exact ⟨c, zs, z1, by rw [upd_ne nc]; exact z2, z3, z4, z5⟩
  · have f : ∀ {m : Nat}, isO (ρ.set i (.ow es))[m]? → isO ρ[m]? := fun {m} hm => by
      rcases isO_set hm with ⟨rfl, _⟩ | ⟨_, hm⟩
      · rw [e]; trivial
      · exact hm
    exact R.dist j k b (f h1) (f h2) h3 h4
  · obtain ⟨⟨dj, h1⟩, h2⟩ := R.io j b ej
    refine ⟨?_, h2⟩
    by_cases hj : i = j
    · subst hj; exact ⟨es, get_set_eq hi⟩
    · exact ⟨dj, by rw [get_set_ne hj]; exact h1⟩
theorem Rep.res (R : Rep K G S H σ ρ) {v : V} {r : Rv} {d : Dt} {ρ' : Ev} (h : RvOk K S σ v r) (e : res r ρ = some (.ok d ρ')) : ρ' = ρ ∧ Tr K S H v d := by
  cases r with
  | val x =>
    have e1 : some (Ex.ok x ρ) = some (.ok d ρ') := e
    cases e1
    exact ⟨rfl, .inl h⟩
  | loc i =>
    unfold PD.res at e
    dsimp only at e
    split at e
    · rename_i ds q
      cases e
      obtain ⟨a, xs, e1, q1, q2, _⟩ := R.slot i _ q
      have e2 : σ[i]? = some (some v) := h
      rw [e2] at e1; cases e1
      exact ⟨rfl, .inr ⟨a, xs, ds, rfl, rfl, q1, q2⟩⟩
    · cases e
theorem RvOk.mono (s : Same S S') {v : V} {r : Rv} (h : RvOk K S σ v r) : RvOk K S' σ v r := by
  cases r with
  | val x => exact dp_mono s _ _ h
  | loc i => exact h
end

/-! ### judgements over data -/
section
variable (K : PySem.W.Frag) (mg : Str → Option Value) (W : WX)
def exW (c : Str) (σ : St) (H : Hp) : Prop := ∃ C, mg c = some (.ref C) ∧ W (.ref C) none σ H
def tD (m : M Rv) : TE := fun σ H Q => ∃ G S ρ o, Rep K G S H σ ρ ∧ m ρ = some o ∧ match o with
  | .ok r ρ' => ∀ v S' H', Rep K G S' H' σ ρ' → Same S S' → RvOk K S' σ v r → Q v H'
  | .ex c ρ' => ∀ S' H', Rep K G S' H' σ ρ' → Same S S' → exW mg W c σ H'
/-- a fresh list -/
def tN (m : M (List Dt)) : TE := fun σ H Q => ∃ G S ρ o, Rep K G S H σ ρ ∧ m ρ = some o ∧ match o with
  | .ok ds ρ' => ∀ v S' H', Rep K G S' H' σ ρ' → Same S S' → Fresh K G S' H' σ ρ' v ds → Q v H'
  | .ex c ρ' => ∀ S' H', Rep K G S' H' σ ρ' → Same S S' → exW mg W c σ H'
def tB (m : M Bool) : TT := fun σ H Q => ∃ G S ρ o, Rep K G S H σ ρ ∧ m ρ = some o ∧ match o with
  | .ok b ρ' => ∀ S' H', Rep K G S' H' σ ρ' → Same S S' → Q b H'
  | .ex c ρ' => ∀ S' H', Rep K G S' H' σ ρ' → Same S S' → exW mg W c σ H'
def AllRv (K : PySem.W.Frag) (S : Hp) (σ : St) : List V → List Rv → Prop
  | [], [] => True
  | v :: vs, r :: rs => RvOk K S σ v r ∧ AllRv K S σ vs rs
  | _, _ => False
def tA (m : M (List Rv)) : TA := fun σ H Q => ∃ G S ρ o, Rep K G S H σ ρ ∧ m ρ = some o ∧ match o with
  | .ok rs ρ' => ∀ vs S' H', Rep K G S' H' σ ρ' → Same S S' → AllRv K S' σ vs rs → Q vs H'
  | .ex c ρ' => ∀ S' H', Rep K G S' H' σ ρ' → Same S S' → exW mg W c σ H'
end

/-- the same state with a new entry: what is there now, apart from the slots' own objects, is kept from here on -/
def ownedIn (σ : St) (ρ : Ev) : List (Nat × Addr) := (List.range ρ.length).filterMap fun (i : Nat) => match (ρ[i]? : Option Sl), (σ[i]? : Option (Option V)) with
  | some (.ow _), some (some (.ref a)) => some (i, a)
  | _, _ => none
theorem mem_owned {σ : St} {ρ : Ev} {i : Nat} {a : Addr} : (i, a) ∈ ownedIn σ ρ ↔ (∃ ds, ρ[i]? = some (.ow ds)) ∧ σ[i]? = some (some (.ref a)) := by
  unfold ownedIn
  rw [List.mem_filterMap]
  constructor
  · rintro ⟨j, _, e⟩
    split at e
    · rename_i ds b h1 h2
      cases e
      exact ⟨⟨ds, h1⟩, h2⟩
    · cases e
  · rintro ⟨⟨ds, h1⟩, h2⟩
    refine ⟨i, List.mem_range.mpr (List.getElem?_eq_some_iff.mp h1).1, ?_⟩
    rw [h1, h2]
/-- a dict of some slot's own -/
def OwnD (σ : St) (ρ : Ev) (a : Addr) : Prop := ∃ (i : Nat) (ks : List (Dt × Dt)), ρ[i]? = some (.od ks) ∧ σ[i]? = some (some (.ref a))
open Classical in
/-- the heap without the slots' own dicts -/
noncomputable def hide (σ : St) (ρ : Ev) (H : Hp) : Hp := fun a => if OwnD σ ρ a then none else H a
theorem hide_some {σ : St} {ρ : Ev} {H : Hp} {a : Addr} {o : HO} (h : hide σ ρ H a = some o) : H a = some o ∧ ¬ OwnD σ ρ a := by
  unfold hide at h
  split at h
  · cases h
  · rename_i q; exact ⟨h, q⟩
theorem hide_none {σ : St} {ρ : Ev} {H : Hp} {a : Addr} (h : hide σ ρ H a = none) : H a = none ∨ OwnD σ ρ a := by
  unfold hide at h
  split at h
  · rename_i q; exact .inr q
  · exact .inl h
theorem hide_of {σ : St} {ρ : Ev} {H : Hp} {a : Addr} {o : HO} (h : H a = some o) (q : ¬ OwnD σ ρ a) : hide σ ρ H a = some o := by
  unfold hide
  rw [if_neg q]
  exact h
theorem hide_own {σ : St} {ρ : Ev} {H : Hp} {a : Addr} (q : OwnD σ ρ a) : hide σ ρ H a = none := by
  unfold hide
  rw [if_pos q]
/-- the entry of what is looked at in place -/
noncomputable abbrev entN (S H : Hp) (σ : St) (ρ : Ev) : Ent := ⟨S, hide σ ρ H, ownedIn σ ρ⟩
theorem Rep.ownD {K : PySem.W.Frag} {G : Ent} {S H : Hp} {σ : St} {ρ : Ev} (R : Rep K G S H σ ρ) {a : Addr} (h : OwnD σ ρ a) : G.H a = none ∧ a ∉ G.io.map (·.2) ∧ S a = none := by
  obtain ⟨i, ks, h1, h2⟩ := h
  obtain ⟨b, ob, e1, q1, q2, q3, q4⟩ := R.slot i _ h1
  rw [h2] at e1; cases e1
  refine ⟨q4, fun z => ?_, q3⟩
  obtain ⟨⟨j, c⟩, z1, z2⟩ := List.mem_map.mp z
  have z2 : c = a := z2
  subst z2
  obtain ⟨⟨ds, z3⟩, z4⟩ := R.io j c z1
  obtain ⟨c', xs, e2, p1, _⟩ := R.slot j _ z3
  rw [z4] at e2; cases e2
  rw [p1] at q1; cases q1
  exact dr_lst q2
theorem Rep.again {K : PySem.W.Frag} {G : Ent} {S H : Hp} {σ : St} {ρ : Ev} (R : Rep K G S H σ ρ) : Rep K (entN S H σ ρ) S H σ ρ := by
  refine ⟨R.sub, Same.refl _, fun a o e _ => (hide_some e).1, fun a o e => .inl e, R.len, fun i sl e => ?_, R.dist, fun i a e => mem_owned.mp e⟩
  have q := R.slot i sl e
  cases sl with
  | un => trivial
  | sh d => exact q
  | ow ds =>
    obtain ⟨a, xs, e1, q1, q2, q3, _⟩ := q
    exact ⟨a, xs, e1, q1, q2, q3, .inl (List.mem_map.mpr ⟨(i, a), mem_owned.mpr ⟨⟨ds, e⟩, e1⟩, rfl⟩)⟩
  | od ks =>
    obtain ⟨a, xs, e1, q1, q2, q3, _⟩ := q
    exact ⟨a, xs, e1, q1, q2, q3, hide_own ⟨i, ks, e, e1⟩⟩
theorem Rep.back {K : PySem.W.Frag} {G : Ent} {S H S' H' : Hp} {σ : St} {ρ ρ' : Ev} (R : Rep K G S H σ ρ) (R' : Rep K (entN S H σ ρ) S' H' σ ρ') : Rep K G S' H' σ ρ' := by
  have ow : ∀ a, a ∈ (ownedIn σ ρ).map (·.2) → a ∈ G.io.map (·.2) ∨ G.H a = none := fun a h => by
    obtain ⟨⟨i, b⟩, h1, h2⟩ := List.mem_map.mp h
    have h3 : b = a := h2
    subst h3
    obtain ⟨⟨ds, h4⟩, h5⟩ := mem_owned.mp h1
    obtain ⟨c, xs, e1, _, _, _, q⟩ := R.slot i _ h4
    rw [h5] at e1; cases e1
    exact q
  have hn : ∀ a, hide σ ρ H a = none → G.H a = none := fun a h => by
    rcases hide_none h with z | z
    · exact R.gone z
    · exact (R.ownD z).1
  refine ⟨R'.sub, R.ent.trans R'.ent, fun a o h1 h2 => ?_, fun a o h1 => ?_, R'.len, fun i sl e => ?_, R'.dist, fun i a e => ?_⟩
  · refine R'.frm a o (hide_of (R.frm a o h1 h2) fun z => ?_) fun h3 => ?_
    · rw [(R.ownD z).1] at h1; cases h1
    · rcases ow a h3 with h4 | h4
      · exact h2 h4
      · rw [h4] at h1; cases h1
  · rcases R'.new a o h1 with h2 | h2
    · exact R.new a o h2
    · exact .inr (hn a h2)
  · have q := R'.slot i sl e
    cases sl with
    | un => trivial
    | sh d => exact q
    | ow ds =>
      obtain ⟨a, xs, e1, q1, q2, q3, q4⟩ := q
      refine ⟨a, xs, e1, q1, q2, q3, ?_⟩
      rcases q4 with q4 | q4
      · exact ow a q4
      · exact .inr (hn a q4)
    | od ks =>
      obtain ⟨a, xs, e1, q1, q2, q3, q4⟩ := q
      exact ⟨a, xs, e1, q1, q2, q3, hn a q4⟩
  · obtain ⟨h1, h2⟩ := R.io i a e
    exact R'.io i a (mem_owned.mpr ⟨h1, h2⟩)
section
variable {X : Cx} {e : Expr}
theorem pe_imp {t t' : TE} (h : PE X e t) (i : ∀ σ H Q, t' σ H Q → t σ H Q) : PE X e t' := ⟨fun pins s σ H Q J w => h.run pins s σ H Q J (i _ _ _ w)⟩
theorem pt_imp {t t' : TT} (h : PT X e t) (i : ∀ σ H Q, t' σ H Q → t σ H Q) : PT X e t' := ⟨fun pins s σ H Q J w => h.run pins s σ H Q J (i _ _ _ w)⟩
theorem pw_imp {t t' : TT} (h : PW X e t) (i : ∀ σ H Q, t' σ H Q → t σ H Q) : PW X e t' := ⟨fun whole pins s σ H Q J w => h.run whole pins s σ H Q J (i _ _ _ w)⟩
theorem pa_imp {es : List Expr} {t t' : TA} (h : PA X es t) (i : ∀ σ H Q, t' σ H Q → t σ H Q) : PA X es t' := ⟨fun pos pins s σ H Q J w => h.run pos pins s σ H Q J (i _ _ _ w)⟩
theorem ps_imp {st : Stmt} {t t' : TS} (h : PS X st t) (i : ∀ D σ H, t' D σ H → t D σ H) : PS X st t' := ⟨fun pins s σ H D J w => h.run pins s σ H D J (i _ _ _ w)⟩
theorem pss_imp {st : List Stmt} {t t' : TS} (h : PSs X st t) (i : ∀ D σ H, t' D σ H → t D σ H) : PSs X st t' := ⟨fun pins s σ H D J w => h.run pins s σ H D J (i _ _ _ w)⟩
end
end PD
/-! PD2: expressions over data. -/
namespace PD
open PySem L2

/-! ### the maps -/
def mVar (i : Nat) : M Rv := fun ρ => match ρ[i]? with
  | some (.sh d) => some (.ok (.val d) ρ)
  | some (.ow _) => some (.ok (.loc i) ρ)
  | _ => none
def mC (d : Dt) : M Rv := pur (.val d)
def mRes (m : M Rv) : M Dt := bd m res
def mOp1 (g : Dt → Option Dt) (a : M Rv) : M Rv := bd a fun r => bd (res r) fun x => bd (opt (g x)) mC
def mOp2 (g : Dt → Dt → Option Dt) (a b : M Rv) : M Rv := bd a fun r => bd b fun q => bd (res r) fun x => bd (res q) fun y => bd (opt (g x y)) mC
def asB : Rv → M Bool
  | .val (.bool b) => pur b
  | _ => fun _ => none
def mTst (a : M Rv) : M Bool := bd a asB
def mAndT (a b : M Bool) : M Bool := bd a fun c => match c with | true => b | false => pur false
def mOrT (a b : M Bool) : M Bool := bd a fun c => match c with | true => pur true | false => b
def mNotT (a : M Bool) : M Bool := bd a fun c => pur (!c)
def mAndV (a b : M Rv) : M Rv := bd (mTst a) fun c => match c with | true => b | false => mC (.bool false)
def mOrV (a b : M Rv) : M Rv := bd (mTst a) fun c => match c with | true => mC (.bool true) | false => b
def mNotV (a : M Rv) : M Rv := bd (mTst a) fun c => mC (.bool (!c))
def mIf (t : M Bool) (a b : M Rv) : M Rv := bd t fun c => match c with | true => a | false => b
def mNil : M (List Rv) := pur []
def mCons (a : M Rv) (b : M (List Rv)) : M (List Rv) := bd a fun r => bd b fun rs => pur (r :: rs)
def resL : List Rv → M (List Dt)
  | [] => pur []
  | r :: rs => bd (res r) fun d => bd (resL rs) fun ds => pur (d :: ds)
def vals : List Rv → Option (List Dt)
  | [] => some []
  | .val d :: rs => (vals rs).map (d :: ·)
  | _ :: _ => none
def mOpN (g : List Dt → Option Dt) (a : M (List Rv)) : M Rv := bd a fun rs => bd (resL rs) fun ds => bd (opt (g ds)) mC
def mOpF (g : List Dt → Option (List Dt)) (a : M (List Rv)) : M (List Dt) := bd a fun rs => bd (resL rs) fun ds => opt (g ds)
def fits (n : Nat) : Option Unit := if n ≤ sizeLine then some () else none
def mTup (a : M (List Rv)) : M Rv := bd a fun rs => bd (opt (vals rs)) fun ds => bd (opt (fits ds.length)) fun _ => mC (.tuple ds)
def mLst (a : M (List Rv)) : M (List Dt) := bd a fun rs => bd (opt (vals rs)) fun ds => bd (opt (fits ds.length)) fun _ => pur ds
def mFrz (a : M (List Dt)) : M Rv := bd a fun ds => mC (.list ds)
def mChain (g g' : Dt → Dt → Option Dt) (a b c : M Rv) : M Rv := bd a fun r => bd b fun q => bd (res r) fun x => bd (res q) fun y => bd (opt (g x y)) fun z => match z with
  | .bool true => bd c fun p => bd (res p) fun w => bd (res q) fun y => bd (opt (g' y w)) mC
  | .bool false => mC (.bool false)
  | _ => fun _ => none

/-! ### what is asked of operators -/
section
variable (K : PySem.W.Frag)
def Pur1 (r : V → Hp → VK → Prop) (g : Dt → Option Dt) : Prop := ∀ (S H : Hp) (x : V) (dx dz : Dt) (Q : VK), Same S H → Tr K S H x dx → g dx = some dz → (∀ v S' H', Grow S H S' H' → Dp K S' v dz → Q v H') → r x H Q
def Pur2 (r : R2) (g : Dt → Dt → Option Dt) : Prop := ∀ (S H : Hp) (x y : V) (dx dy dz : Dt) (Q : VK), Same S H → Tr K S H x dx → Tr K S H y dy → g dx dy = some dz → (∀ v S' H', Grow S H S' H' → Dp K S' v dz → Q v H') → r x y H Q
def TrAll (S H : Hp) : List V → List Dt → Prop
  | [], [] => True
  | v :: vs, d :: ds => Tr K S H v d ∧ TrAll S H vs ds
  | _, _ => False
def PurN (r : List V → Hp → VK → Prop) (g : List Dt → Option Dt) : Prop := ∀ (S H : Hp) (xs : List V) (ds : List Dt) (dz : Dt) (Q : VK), Same S H → TrAll K S H xs ds → g ds = some dz → (∀ v S' H', Grow S H S' H' → Dp K S' v dz → Q v H') → r xs H Q
/-- a call that makes a list -/
def PurF (r : List V → Hp → VK → Prop) (g : List Dt → Option (List Dt)) : Prop := ∀ (S H : Hp) (xs : List V) (ds : List Dt) (dz : List Dt) (Q : VK), Same S H → TrAll K S H xs ds → g ds = some dz →
  (∀ p xs S' H', Grow S H S' H' → H' p = none → DpAll K S' xs dz → Q (.ref p) (upd H' p (.lst xs))) → r xs H Q
end

section
variable {K : PySem.W.Frag} {mg : Str → Option Value} {G : Ent} {W : WX} {S H : Hp} {σ : St} {ρ : Ev}
theorem bd_some {α β : Type} {m : M α} {k : α → M β} {o : Ex β} (h : bd m k ρ = some o) : (∃ a ρ', m ρ = some (.ok a ρ') ∧ k a ρ' = some o) ∨ ∃ c ρ', m ρ = some (.ex c ρ') ∧ o = .ex c ρ' := by
  unfold bd at h
  cases q : m ρ with
  | none => rw [q] at h; cases h
  | some x =>
    rw [q] at h
    cases x with
    | ok a ρ' => exact .inl ⟨a, ρ', rfl, h⟩
    | ex c ρ' => cases h; exact .inr ⟨c, ρ', rfl, rfl⟩
theorem bd_assoc {α β γ : Type} (m : M α) (k : α → M β) (l : β → M γ) : bd (bd m k) l = bd m fun a => bd (k a) l := by
  funext ρ
  unfold bd
  cases m ρ with
  | none => rfl
  | some x => cases x <;> rfl
theorem asB_some {r : Rv} {o : Ex Bool} (h : asB r ρ = some o) : ∃ b, r = .val (.bool b) ∧ o = .ok b ρ := by
  cases r with
  | val d => cases d <;> first | (cases h; done) | exact ⟨_, rfl, (Option.some.inj h).symm⟩
  | loc i => cases h
/-- first m, then what follows: for readings -/
theorem seqD {β : Type} {m : M Rv} {k : Rv → M β} {o : Ex β} {Q : VK} (R : Rep K G S H σ ρ) (h : bd m k ρ = some o)
    (h1 : ∀ r ρ' v S' H', m ρ = some (.ok r ρ') → k r ρ' = some o → Rep K G S' H' σ ρ' → Same S S' → RvOk K S' σ v r → Q v H')
    (h2 : ∀ c ρ', o = .ex c ρ' → ∀ S' H', Rep K G S' H' σ ρ' → Same S S' → exW mg W c σ H') : tD K mg W m σ H Q := by
  rcases bd_some h with ⟨r, ρ', e, q⟩ | ⟨c, ρ', e, q⟩
  · exact ⟨G, S, ρ, _, R, e, fun v S' H' R' s rv => h1 r ρ' v S' H' e q R' s rv⟩
  · exact ⟨G, S, ρ, _, R, e, fun S' H' R' s => h2 c ρ' q S' H' R' s⟩
theorem seqB {β : Type} {m : M Bool} {k : Bool → M β} {o : Ex β} {Q : Bool → Hp → Prop} (R : Rep K G S H σ ρ) (h : bd m k ρ = some o)
    (h1 : ∀ b ρ' S' H', m ρ = some (.ok b ρ') → k b ρ' = some o → Rep K G S' H' σ ρ' → Same S S' → Q b H')
    (h2 : ∀ c ρ', o = .ex c ρ' → ∀ S' H', Rep K G S' H' σ ρ' → Same S S' → exW mg W c σ H') : tB K mg W m σ H Q := by
  rcases bd_some h with ⟨r, ρ', e, q⟩ | ⟨c, ρ', e, q⟩
  · exact ⟨G, S, ρ, _, R, e, fun S' H' R' s => h1 r ρ' S' H' e q R' s⟩
  · exact ⟨G, S, ρ, _, R, e, fun S' H' R' s => h2 c ρ' q S' H' R' s⟩
theorem seqA {β : Type} {m : M (List Rv)} {k : List Rv → M β} {o : Ex β} {Q : List V → Hp → Prop} (R : Rep K G S H σ ρ) (h : bd m k ρ = some o)
    (h1 : ∀ rs ρ' vs S' H', m ρ = some (.ok rs ρ') → k rs ρ' = some o → Rep K G S' H' σ ρ' → Same S S' → AllRv K S' σ vs rs → Q vs H')
    (h2 : ∀ c ρ', o = .ex c ρ' → ∀ S' H', Rep K G S' H' σ ρ' → Same S S' → exW mg W c σ H') : tA K mg W m σ H Q := by
  rcases bd_some h with ⟨r, ρ', e, q⟩ | ⟨c, ρ', e, q⟩
  · exact ⟨G, S, ρ, _, R, e, fun v S' H' R' s rv => h1 r ρ' v S' H' e q R' s rv⟩
  · exact ⟨G, S, ρ, _, R, e, fun S' H' R' s => h2 c ρ' q S' H' R' s⟩
theorem seqN {β : Type} {m : M (List Dt)} {k : List Dt → M β} {o : Ex β} {Q : VK} (R : Rep K G S H σ ρ) (h : bd m k ρ = some o)
    (h1 : ∀ ds ρ' v S' H', m ρ = some (.ok ds ρ') → k ds ρ' = some o → Rep K G S' H' σ ρ' → Same S S' → Fresh K G S' H' σ ρ' v ds → Q v H')
    (h2 : ∀ c ρ', o = .ex c ρ' → ∀ S' H', Rep K G S' H' σ ρ' → Same S S' → exW mg W c σ H') : tN K mg W m σ H Q := by
  rcases bd_some h with ⟨r, ρ', e, q⟩ | ⟨c, ρ', e, q⟩
  · exact ⟨G, S, ρ, _, R, e, fun v S' H' R' s rv => h1 r ρ' v S' H' e q R' s rv⟩
  · exact ⟨G, S, ρ, _, R, e, fun S' H' R' s => h2 c ρ' q S' H' R' s⟩
theorem res_ok {β : Type} {r : Rv} {k : Dt → M β} {o : Ex β} {v : V} (R : Rep K G S H σ ρ) (rv : RvOk K S σ v r) (h : bd (res r) k ρ = some o) : ∃ d, Tr K S H v d ∧ k d ρ = some o := by
  rcases bd_some h with ⟨d, ρ', e, q⟩ | ⟨c, ρ', e, _⟩
  · obtain ⟨rfl, t⟩ := R.res rv e
    exact ⟨d, t, q⟩
  · exfalso
    cases r with
    | val x => cases e
    | loc i =>
      unfold res at e
      dsimp only at e
      split at e <;> cases e
theorem opt_ok {α β : Type} {a : Option α} {k : α → M β} {o : Ex β} (h : bd (opt a) k ρ = some o) : ∃ x, a = some x ∧ k x ρ = some o := by
  unfold bd opt at h
  cases a with
  | none => cases h
  | some x => exact ⟨x, rfl, h⟩
theorem opt_in {α β : Type} {a : Option α} {o : Ex α} (h : opt a ρ = some o) : ∃ x, a = some x ∧ o = .ok x ρ := by
  unfold opt at h
  cases a with
  | none => cases h
  | some x => cases h; exact ⟨x, rfl, rfl⟩
theorem resL_ok {β : Type} : ∀ {rs : List Rv} {vs : List V} {k : List Dt → M β} {o : Ex β}, Rep K G S H σ ρ → AllRv K S σ vs rs → bd (resL rs) k ρ = some o → ∃ ds, TrAll K S H vs ds ∧ k ds ρ = some o
  | [], [], k, o, _, _, h => ⟨[], trivial, h⟩
  | r :: rs, v :: vs, k, o, R, ⟨h1, h2⟩, h => by
    have h' : bd (res r) (fun d => bd (resL rs) fun ds => k (d :: ds)) ρ = some o := by
      rw [← h]
      show _ = bd (bd (res r) fun d => bd (resL rs) fun ds => pur (d :: ds)) k ρ
      rw [bd_assoc]
      refine congrFun (congrArg (bd (res r)) (funext fun d => ?_)) ρ
      rw [bd_assoc]
      rfl
    obtain ⟨d, t, h3⟩ := res_ok R h1 h'
    obtain ⟨ds, t2, h4⟩ := resL_ok (k := fun ds => k (d :: ds)) R h2 h3
    exact ⟨d :: ds, ⟨t, t2⟩, h4⟩
theorem vals_ok : ∀ {rs : List Rv} {vs : List V} {ds : List Dt}, AllRv K S σ vs rs → vals rs = some ds → DpAll K S vs ds
  | [], [], _, _, h => by cases h; exact .nil
  | .val d :: rs, v :: vs, ds, ⟨h1, h2⟩, h => by
    unfold vals at h
    cases q : vals rs with
    | none => rw [q] at h; cases h
    | some es => rw [q] at h; cases h; exact .cons h1 (vals_ok h2 q)
  | .loc i :: rs, v :: vs, ds, _, h => by cases h
theorem fits_ok {n : Nat} {u : Unit} (h : fits n = some u) : n ≤ sizeLine := by
  unfold fits at h
  split at h
  · assumption
  · cases h
theorem AllRv.mono (s : Same S S') : ∀ {rs : List Rv} {vs : List V}, AllRv K S σ vs rs → AllRv K S' σ vs rs
  | [], [], _ => trivial
  | _ :: _, _ :: _, ⟨h1, h2⟩ => ⟨h1.mono s, AllRv.mono s h2⟩
end

section
variable {X : Cx} {W : WX}
/-! ### names and constants -/
theorem d_var (i : Nat) {x : Str} {pos : Pos} (hN : X.N[i]? = some x := by rfl) (hv : Vis X.env.scope x := by first | exact Or.inl rfl | exact Or.inr (Or.inl rfl) | exact Or.inr (Or.inr rfl)) (hd : (x == ("__debug__" : Str)) = false := by decide)
    (hcd : (x == ("__classdict__" : Str)) = false := by decide) : PE X (.Name x pos) (tD X.K X.mg W (mVar i)) :=
  pe_imp (pe_var hN hv hd hcd) fun σ H Q h => by
    obtain ⟨G, S, ρ, o, R, e, q⟩ := h
    unfold mVar at e
    split at e
    · rename_i d hs
      cases e
      obtain ⟨v, e1, e2⟩ := R.slot i _ hs
      exact ⟨v, e1, q v S H R (Same.refl _) e2⟩
    · rename_i ds hs
      cases e
      obtain ⟨a, xs, e1, e2⟩ := R.slot i _ hs
      exact ⟨_, e1, q _ S H R (Same.refl _) e1⟩
    · cases e
theorem d_c {e : Expr} {v : V} {d : Dt} (h : PE X e (tC v)) (r : ∀ S, Dp X.K S v d) : PE X e (tD X.K X.mg W (mC d)) :=
  pe_imp h fun σ H Q h => by
    obtain ⟨G, S, ρ, o, R, e, q⟩ := h
    cases e
    exact q v S H R (Same.refl _) (r S)
theorem d_int {i j pos} : PE X (.Constant (.int i) j pos) (tD X.K X.mg W (mC (.int i))) := d_c pe_int fun _ => .int i
theorem d_bl {b j pos} : PE X (.Constant (.bool b) j pos) (tD X.K X.mg W (mC (.bool b))) := d_c pe_bl fun _ => .bl b
theorem d_non {j pos} : PE X (.Constant .none j pos) (tD X.K X.mg W (mC .none)) := d_c pe_non fun _ => .non
theorem d_str {x j pos} : PE X (.Constant (.str x) j pos) (tD X.K X.mg W (mC (.str x))) := d_c pe_str fun _ => .str x
theorem d_gint {x : Str} {i : Int} {t : Tok} {pos : Pos} (hm : X.mg x = some (.int i t)) (hg : Gl X x := by rfl) (hd : (x == ("__debug__" : Str)) = false := by decide) : PE X (.Name x pos) (tD X.K X.mg W (mC (.int i))) :=
  d_c (v := .int i) (pe_glob hg hm ⟨t, rfl⟩ hd) fun _ => .int i
theorem d_gstr {x : Str} {i : Str} {t : Tok} {pos : Pos} (hm : X.mg x = some (.str i t)) (hg : Gl X x := by rfl) (hd : (x == ("__debug__" : Str)) = false := by decide) : PE X (.Name x pos) (tD X.K X.mg W (mC (.str i))) :=
  d_c (v := .str i) (pe_glob hg hm ⟨t, rfl⟩ hd) fun _ => .str i

/-! ### operators -/
variable {a b c : Expr} {ma mb mc : M Rv} {pos : Pos}
/-- two operands, then an operator that keeps all -/
theorem rd_op2 {r : R2} {g : Dt → Dt → Option Dt} {K : PySem.W.Frag} {mg : Str → Option Value} (hp : Pur2 K r g) {σ : St} {H : Hp} {Q : VK} (h : tD K mg W (mOp2 g ma mb) σ H Q) : tOp r (tD K mg W ma) (tD K mg W mb) σ H Q := by
  obtain ⟨G, S, ρ, o, R, e, q⟩ := h
  refine seqD R e (fun r1 ρ1 v1 S1 H1 _ e1 R1 s1 rv1 => ?_) fun c ρ' eo S' H' R' s' => by subst eo; exact q S' H' R' s'
  refine seqD R1 e1 (fun r2 ρ2 v2 S2 H2 _ e2 R2 s2 rv2 => ?_) fun c ρ' eo S' H' R' s' => by subst eo; exact q S' H' R' (s1.trans s')
  obtain ⟨x, t1, e3⟩ := res_ok R2 (rv1.mono s2) e2
  obtain ⟨y, t2, e4⟩ := res_ok R2 rv2 e3
  obtain ⟨z, e5, e6⟩ := opt_ok e4
  cases e6
  exact hp S2 H2 v1 v2 x y z Q R2.sub t1 t2 e5 fun v S' H' g d => q v S' H' (R2.grow g) ((s1.trans s2).trans g.s) d
theorem d_op {op : Operator} {r : R2} {g : Dt → Dt → Option Dt} (ho : OpR X (binaryOp op) r) (hp : Pur2 X.K r g) (ha : PE X a (tD X.K X.mg W (ma))) (hb : PE X b (tD X.K X.mg W (mb))) : PE X (.BinOp a op b pos) (tD X.K X.mg W (mOp2 g ma mb)) :=
  pe_imp (pe_op ho ha hb) fun σ H Q h => rd_op2 hp h
theorem d_cmp {op : CmpOp} {r : R2} {g : Dt → Dt → Option Dt} (ho : OpR X (compareOp op) r) (hp : Pur2 X.K r g) (ha : PE X a (tD X.K X.mg W (ma))) (hb : PE X b (tD X.K X.mg W (mb))) (hm : behindInMarks op b = false := by first | exact nomark _ | rfl | with_unfolding_all rfl) :
    PE X (.Compare a [op] [b] pos) (tD X.K X.mg W (mOp2 g ma mb)) := pe_imp (pe_cmpR ho ha hb hm) fun σ H Q h => rd_op2 hp h
theorem rd_tst {K : PySem.W.Frag} {mg : Str → Option Value} {m : M Rv} {σ : St} {H : Hp} {Q : Bool → Hp → Prop} (h : tB K mg W (mTst m) σ H Q) : tD K mg W m σ H fun x H' => ∃ k, x = .bl k ∧ Q k H' := by
  obtain ⟨G, S, ρ, o, R, e, q⟩ := h
  refine seqD R e (fun r ρ1 v S1 H1 _ e1 R1 s1 rv => ?_) fun c ρ' eo S' H' R' s' => by subst eo; exact q S' H' R' s'
  obtain ⟨b, rfl, rfl⟩ := asB_some e1
  have rv' : Dp K S1 v (.bool b) := rv
  cases rv'
  exact ⟨b, rfl, q S1 H1 R1 s1⟩
theorem d_cmpT {op : CmpOp} {r : R2} {g : Dt → Dt → Option Dt} (ho : OpR X (compareOp op) r) (hp : Pur2 X.K r g) (ha : PE X a (tD X.K X.mg W (ma))) (hb : PE X b (tD X.K X.mg W (mb))) (hm : behindInMarks op b = false := by first | exact nomark _ | rfl | with_unfolding_all rfl) :
    PT X (.Compare a [op] [b] pos) (tB X.K X.mg W (mTst (mOp2 g ma mb))) := pt_imp (pt_cmpR ho ha hb hm) fun σ H Q h => by
  have z := rd_tst h
  exact rd_op2 hp z
theorem d_tst {e : Expr} {m : M Rv} (h : PE X e (tD X.K X.mg W (m))) (he : ∀ whole, isTrue e X.env whole = (do let v ← whole; standAt e.pos; holding [v] (truthy v)) := by intro _; rfl) : PT X e (tB X.K X.mg W (mTst m)) :=
  pt_imp (pt_val h he) fun σ H Q h => rd_tst h
theorem rd_chain {r r' : R2} {g g' : Dt → Dt → Option Dt} {K : PySem.W.Frag} {mg : Str → Option Value} (hp : Pur2 K r g) (hp' : Pur2 K r' g') {σ : St} {H : Hp} {Q : VK} (h : tD K mg W (mChain g g' ma mb mc) σ H Q) :
    tChain r r' (tD K mg W ma) (tD K mg W mb) (tD K mg W mc) σ H Q := by
  obtain ⟨G, S, ρ, o, R, e, q⟩ := h
  refine seqD R e (fun r1 ρ1 v1 S1 H1 _ e1 R1 s1 rv1 => ?_) fun c ρ' eo S' H' R' s' => by subst eo; exact q S' H' R' s'
  refine seqD R1 e1 (fun r2 ρ2 v2 S2 H2 _ e2 R2 s2 rv2 => ?_) fun c ρ' eo S' H' R' s' => by subst eo; exact q S' H' R' (s1.trans s')
  obtain ⟨x, t1, e3⟩ := res_ok R2 (rv1.mono s2) e2
  obtain ⟨y, t2, e4⟩ := res_ok R2 rv2 e3
  obtain ⟨z, e5, e6⟩ := opt_ok e4
  refine hp S2 H2 v1 v2 x y z _ R2.sub t1 t2 e5 fun v S3 H3 gr d => ?_
  have R3 := R2.grow gr
  have s3 := (s1.trans s2).trans gr.s
  split at e6
  · cases d
    refine ⟨true, rfl, iteT ?_⟩
    refine seqD R3 e6 (fun r3 ρ4 v4 S4 H4 _ e7 R4 s4 rv4 => ?_) fun c ρ' eo S' H' R' s' => by subst eo; exact q S' H' R' (s3.trans s')
    obtain ⟨w, t4, e8⟩ := res_ok R4 rv4 e7
    obtain ⟨y', t5, e9⟩ := res_ok R4 ((rv2.mono gr.s).mono s4) e8
    obtain ⟨z', e10, e11⟩ := opt_ok e9
    cases e11
    exact hp' S4 H4 v2 v4 y' w z' Q R4.sub t5 t4 e10 fun v S' H' g d => q v S' H' (R4.grow g) ((s3.trans s4).trans g.s) d
  · cases d
    cases e6
    exact ⟨false, rfl, iteF (q _ S3 H3 R3 s3 (.bl false))⟩
  · cases e6
theorem d_chain {op op' : CmpOp} {r r' : R2} {g g' : Dt → Dt → Option Dt} (ho : OpR X (compareOp op) r) (ho' : OpR X (compareOp op') r') (hp : Pur2 X.K r g) (hp' : Pur2 X.K r' g') (ha : PE X a (tD X.K X.mg W (ma))) (hb : PE X b (tD X.K X.mg W (mb))) (hc : PE X c (tD X.K X.mg W (mc)))
    (hm : lastMarks [op, op'] [b, c] = false := by with_unfolding_all rfl) : PE X (.Compare a [op, op'] [b, c] pos) (tD X.K X.mg W (mChain g g' ma mb mc)) :=
  pe_imp (pe_chain ho ho' ha hb hc hm) fun σ H Q h => rd_chain hp hp' h
theorem d_chainT {op op' : CmpOp} {r r' : R2} {g g' : Dt → Dt → Option Dt} (ho : OpR X (compareOp op) r) (ho' : OpR X (compareOp op') r') (hp : Pur2 X.K r g) (hp' : Pur2 X.K r' g') (ha : PE X a (tD X.K X.mg W (ma))) (hb : PE X b (tD X.K X.mg W (mb))) (hc : PE X c (tD X.K X.mg W (mc)))
    (hm : lastMarks [op, op'] [b, c] = false := by with_unfolding_all rfl) : PT X (.Compare a [op, op'] [b, c] pos) (tB X.K X.mg W (mTst (mChain g g' ma mb mc))) :=
  pt_imp (pt_chain ho ho' ha hb hc hm) fun σ H Q h => by
    have z := rd_tst h
    exact rd_chain hp hp' z
theorem d_un {op : UnaryOp} {r : V → Hp → VK → Prop} {g : Dt → Option Dt} (ho : UnR X (unaryOp op) r) (hp : Pur1 X.K r g) (ha : PE X a (tD X.K X.mg W (ma))) : PE X (.UnaryOp op a pos) (tD X.K X.mg W (mOp1 g ma)) :=
  pe_imp (pe_un ho ha) fun σ H Q h => by
    obtain ⟨G, S, ρ, o, R, e, q⟩ := h
    refine seqD R e (fun r1 ρ1 v1 S1 H1 _ e1 R1 s1 rv1 => ?_) fun c ρ' eo S' H' R' s' => by subst eo; exact q S' H' R' s'
    obtain ⟨x, t1, e3⟩ := res_ok R1 rv1 e1
    obtain ⟨z, e5, e6⟩ := opt_ok e3
    cases e6
    exact hp S1 H1 v1 x z Q R1.sub t1 e5 fun v S' H' g d => q v S' H' (R1.grow g) (s1.trans g.s) d
/-! ### and, or, not, if -/
variable {ta tb : M Bool} {rest : List Expr}
theorem d_and1 (ha : PT X a (tB X.K X.mg W (ta))) : PW X (.BoolOp .And [a] pos) (tB X.K X.mg W (ta)) := pw_and1 ha
theorem d_or1 (ha : PT X a (tB X.K X.mg W (ta))) : PW X (.BoolOp .Or [a] pos) (tB X.K X.mg W (ta)) := pw_or1 ha
theorem d_andT (ha : PT X a (tB X.K X.mg W (ta))) (hb : PW X (.BoolOp .And (b :: rest) pos) (tB X.K X.mg W (tb))) : PW X (.BoolOp .And (a :: b :: rest) pos) (tB X.K X.mg W (mAndT ta tb)) :=
  pw_imp (pw_and ha hb) fun σ H Q h => by
    obtain ⟨G, S, ρ, o, R, e, q⟩ := h
    refine seqB R e (fun k ρ1 S1 H1 _ e1 R1 s1 => ?_) fun c ρ' eo S' H' R' s' => by subst eo; exact q S' H' R' s'
    cases k with
    | true =>
      refine iteT ⟨G, S1, ρ1, o, R1, e1, ?_⟩
      cases o with
      | ok b ρ' => exact fun S' H' R' s' => q S' H' R' (s1.trans s')
      | ex c ρ' => exact fun S' H' R' s' => q S' H' R' (s1.trans s')
    | false => cases e1; exact iteF (q S1 H1 R1 s1)
theorem d_orT (ha : PT X a (tB X.K X.mg W (ta))) (hb : PW X (.BoolOp .Or (b :: rest) pos) (tB X.K X.mg W (tb))) : PW X (.BoolOp .Or (a :: b :: rest) pos) (tB X.K X.mg W (mOrT ta tb)) :=
  pw_imp (pw_or ha hb) fun σ H Q h => by
    obtain ⟨G, S, ρ, o, R, e, q⟩ := h
    refine seqB R e (fun k ρ1 S1 H1 _ e1 R1 s1 => ?_) fun c ρ' eo S' H' R' s' => by subst eo; exact q S' H' R' s'
    cases k with
    | false =>
      refine iteF ⟨G, S1, ρ1, o, R1, e1, ?_⟩
      cases o with
      | ok b ρ' => exact fun S' H' R' s' => q S' H' R' (s1.trans s')
      | ex c ρ' => exact fun S' H' R' s' => q S' H' R' (s1.trans s')
    | true => cases e1; exact iteT (q S1 H1 R1 s1)
theorem d_notT (ha : PT X a (tB X.K X.mg W (ta))) : PT X (.UnaryOp .Not a pos) (tB X.K X.mg W (mNotT ta)) :=
  pt_imp (pt_not ha) fun σ H Q h => by
    obtain ⟨G, S, ρ, o, R, e, q⟩ := h
    refine seqB R e (fun k ρ1 S1 H1 _ e1 R1 s1 => ?_) fun c ρ' eo S' H' R' s' => by subst eo; exact q S' H' R' s'
    cases e1
    exact q S1 H1 R1 s1
theorem d_oneV {op} {m : M Rv} (h : PE X a (tD X.K X.mg W (m))) : PE X (.BoolOp op [a] pos) (tD X.K X.mg W (m)) := pe_one h
theorem rd_tstV {K : PySem.W.Frag} {mg : Str → Option Value} {m : M Rv} {k : Bool → M Rv} {σ : St} {H : Hp} {Q : VK} (h : tD K mg W (bd (mTst m) k) σ H Q) {P : Bool → Hp → Prop} (hP : ∀ b H1, tD K mg W (k b) σ H1 Q → P b H1) :
    tD K mg W m σ H fun x H1 => ∃ c, x = .bl c ∧ P c H1 := by
  obtain ⟨G, S, ρ, o, R, e, q⟩ := h
  refine rd_tst (seqB R e (fun b ρ1 S1 H1 _ e1 R1 s1 => hP b H1 ⟨G, S1, ρ1, o, R1, e1, ?_⟩) fun c ρ' eo S' H' R' s' => by subst eo; exact q S' H' R' s')
  cases o with
  | ok r ρ' => exact fun v S' H' R' s' rv => q v S' H' R' (s1.trans s') rv
  | ex c ρ' => exact fun S' H' R' s' => q S' H' R' (s1.trans s')
theorem rd_const {K : PySem.W.Frag} {mg : Str → Option Value} {v : V} {d : Dt} {σ : St} {H : Hp} {Q : VK} (h : tD K mg W (mC d) σ H Q) (r : ∀ S, Dp K S v d) : Q v H := by
  obtain ⟨G, S, ρ, o, R, e, q⟩ := h
  cases e
  exact q v S H R (Same.refl _) (r S)
theorem d_andV (ha : PE X a (tD X.K X.mg W (ma))) (hb : PE X (.BoolOp .And (b :: rest) pos) (tD X.K X.mg W (mb))) : PE X (.BoolOp .And (a :: b :: rest) pos) (tD X.K X.mg W (mAndV ma mb)) :=
  pe_imp (pe_and ha hb) fun σ H Q h => rd_tstV h fun k H1 h1 => by
    cases k with
    | true => exact iteT h1
    | false => exact iteF (rd_const h1 fun _ => .bl false)
theorem d_orV (ha : PE X a (tD X.K X.mg W (ma))) (hb : PE X (.BoolOp .Or (b :: rest) pos) (tD X.K X.mg W (mb))) : PE X (.BoolOp .Or (a :: b :: rest) pos) (tD X.K X.mg W (mOrV ma mb)) :=
  pe_imp (pe_or ha hb) fun σ H Q h => rd_tstV h fun k H1 h1 => by
    cases k with
    | false => exact iteF h1
    | true => exact iteT (rd_const h1 fun _ => .bl true)
theorem d_notV (ha : PE X a (tD X.K X.mg W (ma))) : PE X (.UnaryOp .Not a pos) (tD X.K X.mg W (mNotV ma)) :=
  pe_imp (pe_not ha) fun σ H Q h => rd_tstV h fun k H1 h1 => rd_const h1 fun _ => .bl (!k)
theorem rd_seqT {K : PySem.W.Frag} {mg : Str → Option Value} {m : M Bool} {k : Bool → M Rv} {σ : St} {H : Hp} {Q : VK} (h : tD K mg W (bd m k) σ H Q) {P : Bool → Hp → Prop} (hP : ∀ b H1, tD K mg W (k b) σ H1 Q → P b H1) : tB K mg W m σ H P := by
  obtain ⟨G, S, ρ, o, R, e, q⟩ := h
  refine seqB R e (fun b ρ1 S1 H1 _ e1 R1 s1 => hP b H1 ⟨G, S1, ρ1, o, R1, e1, ?_⟩) fun c ρ' eo S' H' R' s' => by subst eo; exact q S' H' R' s'
  cases o with
  | ok r ρ' => exact fun v S' H' R' s' rv => q v S' H' R' (s1.trans s') rv
  | ex c ρ' => exact fun S' H' R' s' => q S' H' R' (s1.trans s')
theorem d_if {t : Expr} (hc : PT X t (tB X.K X.mg W (ta))) (ha : PE X a (tD X.K X.mg W (ma))) (hb : PE X b (tD X.K X.mg W (mb))) : PE X (.IfExp t a b pos) (tD X.K X.mg W (mIf ta ma mb)) :=
  pe_imp (pe_ifExp hc ha hb) fun σ H Q h => rd_seqT h fun k H1 h1 => by
    cases k with
    | true => exact iteT h1
    | false => exact iteF h1
/-! ### argument lists, calls, displays -/
variable {es : List Expr} {e : Expr} {m : M Rv} {ml : M (List Rv)}
theorem d_nil : PA X [] (tA X.K X.mg W (mNil)) := pa_imp pa_nil fun σ H Q h => by
  obtain ⟨G, S, ρ, o, R, e, q⟩ := h
  cases e
  exact q [] S H R (Same.refl _) trivial
theorem d_cons (ha : PE X e (tD X.K X.mg W (m))) (hr : PA X es (tA X.K X.mg W (ml))) (hs : starEach (e :: es) X.env = (false, eval e X.env) :: starEach es X.env := by rfl) : PA X (e :: es) (tA X.K X.mg W (mCons m ml)) :=
  pa_imp (pa_cons ha hr hs) fun σ H Q h => by
    obtain ⟨G, S, ρ, o, R, e, q⟩ := h
    refine seqD R e (fun r1 ρ1 v1 S1 H1 _ e1 R1 s1 rv1 => ?_) fun c ρ' eo S' H' R' s' => by subst eo; exact q S' H' R' s'
    refine seqA R1 e1 (fun rs ρ2 vs S2 H2 _ e2 R2 s2 rvs => ?_) fun c ρ' eo S' H' R' s' => by subst eo; exact q S' H' R' (s1.trans s')
    cases e2
    exact q (v1 :: vs) S2 H2 R2 (s1.trans s2) ⟨rv1.mono s2, rvs⟩
theorem rd_opN {r : List V → Hp → VK → Prop} {g : List Dt → Option Dt} {K : PySem.W.Frag} {mg : Str → Option Value} (hp : PurN K r g) {σ : St} {H : Hp} {Q : VK} (h : tD K mg W (mOpN g ml) σ H Q) : tCB r (tA K mg W ml) σ H Q := by
  obtain ⟨G, S, ρ, o, R, e, q⟩ := h
  refine seqA R e (fun rs ρ1 vs S1 H1 _ e1 R1 s1 rvs => ?_) fun c ρ' eo S' H' R' s' => by subst eo; exact q S' H' R' s'
  obtain ⟨ds, t, e2⟩ := resL_ok R1 rvs e1
  obtain ⟨z, e3, e4⟩ := opt_ok e2
  cases e4
  exact hp S1 H1 vs ds z Q R1.sub t e3 fun v S' H' g d => q v S' H' (R1.grow g) (s1.trans g.s) d
theorem rd_opF {r : List V → Hp → VK → Prop} {g : List Dt → Option (List Dt)} {K : PySem.W.Frag} {mg : Str → Option Value} (hp : PurF K r g) {σ : St} {H : Hp} {Q : VK} (h : tN K mg W (mOpF g ml) σ H Q) : tCB r (tA K mg W ml) σ H Q := by
  obtain ⟨G, S, ρ, o, R, e, q⟩ := h
  refine seqA R e (fun rs ρ1 vs S1 H1 _ e1 R1 s1 rvs => ?_) fun c ρ' eo S' H' R' s' => by subst eo; exact q S' H' R' s'
  obtain ⟨ds, t, e2⟩ := resL_ok R1 rvs e1
  obtain ⟨z, e3, rfl⟩ := opt_in (β := Unit) e2
  refine hp S1 H1 vs ds z Q R1.sub t e3 fun p xs S' H' g hn d => ?_
  have R2 := R1.grow g
  exact q (.ref p) S' _ (R2.alloc hn _) (s1.trans g.s) (R2.fresh hn d)
variable {x : Str} {p : Pos} {id T : String}
theorem d_callB {r : List V → Hp → VK → Prop} {g : List Dt → Option Dt} (hc : CallR X (.builtin id) r) (hp : PurN X.K r g) (hm : X.mg x = none) (hv : bootBuiltins x = some (.builtin id)) (ha : PA X (e :: es) (tA X.K X.mg W (ml))) (hg : Gl X x := by rfl) (hn : x ≠ "__name__" := by decide) (hdb : (x == ("__debug__" : Str)) = false := by decide)
    (he : starEach (e :: es) X.env = (false, eval e X.env) :: starEach es X.env := by rfl) (hpl : (backTo pos (starEach es X.env)).any (·.1) = false := by rfl) : PE X (.Call (.Name x p) (e :: es) [] pos) (tD X.K X.mg W (mOpN g ml)) :=
  pe_imp (pe_callB hc hg hm hv ha hn hdb he hpl) fun σ H Q h => rd_opN hp h
theorem d_callBF {r : List V → Hp → VK → Prop} {g : List Dt → Option (List Dt)} (hc : CallR X (.builtin id) r) (hp : PurF X.K r g) (hm : X.mg x = none) (hv : bootBuiltins x = some (.builtin id)) (ha : PA X (e :: es) (tA X.K X.mg W (ml))) (hg : Gl X x := by rfl) (hn : x ≠ "__name__" := by decide) (hdb : (x == ("__debug__" : Str)) = false := by decide)
    (he : starEach (e :: es) X.env = (false, eval e X.env) :: starEach es X.env := by rfl) (hpl : (backTo pos (starEach es X.env)).any (·.1) = false := by rfl) : PE X (.Call (.Name x p) (e :: es) [] pos) (tN X.K X.mg W (mOpF g ml)) :=
  pe_imp (pe_callB hc hg hm hv ha hn hdb he hpl) fun σ H Q h => rd_opF hp h
theorem d_callT {r : List V → Hp → VK → Prop} {g : List Dt → Option Dt} (hc : CallR X (.type T) r) (hp : PurN X.K r g) (hm : X.mg x = none) (hv : bootBuiltins x = some (.type T)) (ha : PA X (e :: es) (tA X.K X.mg W (ml))) (hg : Gl X x := by rfl) (hn : x ≠ "__name__" := by decide) (hdb : (x == ("__debug__" : Str)) = false := by decide)
    (he : starEach (e :: es) X.env = (false, eval e X.env) :: starEach es X.env := by rfl) (hpl : (backTo pos (starEach es X.env)).any (·.1) = false := by rfl) : PE X (.Call (.Name x p) (e :: es) [] pos) (tD X.K X.mg W (mOpN g ml)) :=
  pe_imp (pe_callTy hc hg hm hv ha hn hdb he hpl) fun σ H Q h => rd_opN hp h
theorem d_callTF {r : List V → Hp → VK → Prop} {g : List Dt → Option (List Dt)} (hc : CallR X (.type T) r) (hp : PurF X.K r g) (hm : X.mg x = none) (hv : bootBuiltins x = some (.type T)) (ha : PA X (e :: es) (tA X.K X.mg W (ml))) (hg : Gl X x := by rfl) (hn : x ≠ "__name__" := by decide) (hdb : (x == ("__debug__" : Str)) = false := by decide)
    (he : starEach (e :: es) X.env = (false, eval e X.env) :: starEach es X.env := by rfl) (hpl : (backTo pos (starEach es X.env)).any (·.1) = false := by rfl) : PE X (.Call (.Name x p) (e :: es) [] pos) (tN X.K X.mg W (mOpF g ml)) :=
  pe_imp (pe_callTy hc hg hm hv ha hn hdb he hpl) fun σ H Q h => rd_opF hp h
theorem d_tup {k} (h : PA X es (tA X.K X.mg W (ml))) : PE X (.Tuple es k pos) (tD X.K X.mg W (mTup ml)) := pe_imp (pe_tup h) fun σ H Q h => by
  obtain ⟨G, S, ρ, o, R, e, q⟩ := h
  refine seqA R e (fun rs ρ1 vs S1 H1 _ e1 R1 s1 rvs => ?_) fun c ρ' eo S' H' R' s' => by subst eo; exact q S' H' R' s'
  obtain ⟨ds, e2, e3⟩ := opt_ok e1
  obtain ⟨u, e4, e5⟩ := opt_ok e3
  cases e5
  have hd := vals_ok rvs e2
  refine ⟨by rw [dpa_len hd]; exact fits_ok e4, fun p hp => ?_⟩
  have gr : Grow S1 H1 (upd S1 p (.tup vs)) (upd H1 p (.tup vs)) := Grow.one R1.sub hp _
  exact q (.ref p) _ _ (R1.grow gr) (s1.trans gr.s) (.tup (SqT.of upd_same) (dpAll_mono gr.s _ _ hd))
theorem d_lstN (h : PA X es (tA X.K X.mg W (ml))) : PE X (.List es pos) (tN X.K X.mg W (mLst ml)) := pe_imp (pe_lst h) fun σ H Q h => by
  obtain ⟨G, S, ρ, o, R, e, q⟩ := h
  refine seqA R e (fun rs ρ1 vs S1 H1 _ e1 R1 s1 rvs => ?_) fun c ρ' eo S' H' R' s' => by subst eo; exact q S' H' R' s'
  obtain ⟨ds, e2, e3⟩ := opt_ok e1
  obtain ⟨u, e4, e5⟩ := opt_ok e3
  cases e5
  have hd := vals_ok rvs e2
  refine ⟨by rw [dpa_len hd]; exact fits_ok e4, fun p hp => ?_⟩
  exact q (.ref p) S1 _ (R1.alloc hp _) s1 (R1.fresh hp hd)
theorem rd_frz {K : PySem.W.Frag} {mg : Str → Option Value} {mn : M (List Dt)} {σ : St} {H : Hp} {Q : VK} (h : tD K mg W (mFrz mn) σ H Q) : tN K mg W mn σ H Q := by
  obtain ⟨G, S, ρ, o, R, e, q⟩ := h
  refine seqN R e (fun ds ρ1 v S1 H1 _ e1 R1 s1 f => ?_) fun c ρ' eo S' H' R' s' => by subst eo; exact q S' H' R' s'
  cases e1
  obtain ⟨S2, R2, s2, d⟩ := R1.freeze f
  exact q v S2 H1 R2 (s1.trans s2) d
theorem d_frz {mn : M (List Dt)} (h : PE X e (tN X.K X.mg W mn)) : PE X e (tD X.K X.mg W (mFrz mn)) := pe_imp h fun σ H Q h => rd_frz h
/-! ### subscripts -/
theorem d_ix {r : R2} {g : Dt → Dt → Option Dt} (ho : IxR X r) (hp : Pur2 X.K r g) (ha : PE X a (tD X.K X.mg W (ma))) (hb : PE X b (tD X.K X.mg W (mb))) (hs : PlainIx b := by exact fun _ _ => rfl) : PE X (.Subscript a b pos) (tD X.K X.mg W (mOp2 g ma mb)) :=
  pe_imp (pe_ix ho ha hb hs) fun σ H Q h => rd_op2 hp h
def asI : Rv → M (Option Int)
  | .val (.int i) => pur (some i)
  | _ => fun _ => none
theorem asI_some {ρ : Ev} {r : Rv} {o : Ex (Option Int)} (h : asI r ρ = some o) : ∃ i, r = .val (.int i) ∧ o = .ok (some i) ρ := by
  cases r with
  | val d => cases d <;> first | (cases h; done) | exact ⟨_, rfl, (Option.some.inj h).symm⟩
  | loc i => cases h
/-- an end of a slice: nothing, or an int -/
def mEnd : Option (M Rv) → M (Option Int)
  | none => pur none
  | some m => bd m asI
def mSl (g : Dt → Option Int → Option Int → Option Dt) (a : M Rv) (lo hi : M (Option Int)) : M Rv := bd a fun r => bd lo fun l => bd hi fun h => bd (res r) fun x => bd (opt (g x l h)) mC
def tO (K : PySem.W.Frag) (mg : Str → Option Value) (W : WX) (m : M (Option Int)) : TO := fun σ H Q => ∃ G S ρ o, Rep K G S H σ ρ ∧ m ρ = some o ∧ match o with
  | .ok b ρ' => ∀ S' H', Rep K G S' H' σ ρ' → Same S S' → Q b H'
  | .ex c ρ' => ∀ S' H', Rep K G S' H' σ ρ' → Same S S' → exW mg W c σ H'
theorem seqO {β : Type} {K : PySem.W.Frag} {mg : Str → Option Value} {G : Ent} {S H : Hp} {σ : St} {ρ : Ev} {m : M (Option Int)} {k : Option Int → M β} {o : Ex β} {Q : Option Int → Hp → Prop} (R : Rep K G S H σ ρ) (h : bd m k ρ = some o)
    (h1 : ∀ b ρ' S' H', m ρ = some (.ok b ρ') → k b ρ' = some o → Rep K G S' H' σ ρ' → Same S S' → Q b H')
    (h2 : ∀ c ρ', o = .ex c ρ' → ∀ S' H', Rep K G S' H' σ ρ' → Same S S' → exW mg W c σ H') : tO K mg W m σ H Q := by
  rcases bd_some h with ⟨r, ρ', e, q⟩ | ⟨c, ρ', e, q⟩
  · exact ⟨G, S, ρ, _, R, e, fun S' H' R' s => h1 r ρ' S' H' e q R' s⟩
  · exact ⟨G, S, ρ, _, R, e, fun S' H' R' s => h2 c ρ' q S' H' R' s⟩
theorem po_imp {o : Option Expr} {t t' : TO} (h : PO X o t) (i : ∀ σ H Q, t' σ H Q → t σ H Q) : PO X o t' := ⟨fun pins s σ H Q J w => h.run pins s σ H Q J (i _ _ _ w)⟩
theorem d_none : PO X none (tO X.K X.mg W (mEnd none)) := po_imp po_none fun σ H Q h => by
  obtain ⟨G, S, ρ, o, R, e, q⟩ := h
  cases e
  exact q S H R (Same.refl _)
theorem d_some (h : PE X e (tD X.K X.mg W (m))) : PO X (some e) (tO X.K X.mg W (mEnd (some m))) := po_imp (po_some h) fun σ H Q h => by
  obtain ⟨G, S, ρ, o, R, e, q⟩ := h
  refine seqD R e (fun r1 ρ1 v1 S1 H1 _ e1 R1 s1 rv1 => ?_) fun c ρ' eo S' H' R' s' => by subst eo; exact q S' H' R' s'
  obtain ⟨i, rfl, rfl⟩ := asI_some e1
  have rv' : Dp X.K S1 v1 (.int i) := rv1
  cases rv'
  exact ⟨i, rfl, q S1 H1 R1 s1⟩
def PurS (K : PySem.W.Frag) (r : V → Option Int → Option Int → Hp → VK → Prop) (g : Dt → Option Int → Option Int → Option Dt) : Prop := ∀ (S H : Hp) (x : V) (dx dz : Dt) (l h : Option Int) (Q : VK), Same S H → Tr K S H x dx → g dx l h = some dz → (∀ v S' H', Grow S H S' H' → Dp K S' v dz → Q v H') → r x l h H Q
theorem d_slice {r : V → Option Int → Option Int → Hp → VK → Prop} {g : Dt → Option Int → Option Int → Option Dt} {lo hi : Option Expr} {ml mh : M (Option Int)} {p2 : Pos} (hr : SlR X r) (hp : PurS X.K r g) (he : PE X e (tD X.K X.mg W (m))) (hl : PO X lo (tO X.K X.mg W ml)) (hu : PO X hi (tO X.K X.mg W mh)) :
    PE X (.Subscript e (.Slice lo hi none p2) pos) (tD X.K X.mg W (mSl g m ml mh)) := pe_imp (pe_slice hr he hl hu) fun σ H Q h => by
  obtain ⟨G, S, ρ, o, R, e, q⟩ := h
  refine seqD R e (fun r1 ρ1 v1 S1 H1 _ e1 R1 s1 rv1 => ?_) fun c ρ' eo S' H' R' s' => by subst eo; exact q S' H' R' s'
  refine seqO R1 e1 (fun l ρ2 S2 H2 _ e2 R2 s2 => ?_) fun c ρ' eo S' H' R' s' => by subst eo; exact q S' H' R' (s1.trans s')
  refine seqO R2 e2 (fun h ρ3 S3 H3 _ e3 R3 s3 => ?_) fun c ρ' eo S' H' R' s' => by subst eo; exact q S' H' R' ((s1.trans s2).trans s')
  obtain ⟨x, t1, e4⟩ := res_ok R3 ((rv1.mono s2).mono s3) e3
  obtain ⟨z, e5, e6⟩ := opt_ok e4
  cases e6
  exact hp S3 H3 v1 x z l h Q R3.sub t1 e5 fun v S' H' g d => q v S' H' (R3.grow g) (((s1.trans s2).trans s3).trans g.s) d
/-! ### methods of built-in types that keep all -/
variable {o : Expr} {apos cpos : Pos} {name : Str}
def PurM (K : PySem.W.Frag) (T : String) (r : V → List V → Hp → VK → Prop) (g : Dt → List Dt → Option Dt) : Prop := ∀ (S H : Hp) (x : V) (xs : List V) (dx : Dt) (ds : List Dt) (dz : Dt) (Q : VK), Same S H → Tr K S H x dx → TrAll K S H xs ds → g dx ds = some dz →
  (∀ v S' H', Grow S H S' H' → Dp K S' v dz → Q v H') → r x xs H Q
def mBM0 (g : Dt → List Dt → Option Dt) (a : M Rv) : M Rv := bd a fun r => bd (res r) fun x => bd (opt (g x [])) mC
def okv (ok : Dt → Bool) : Rv → Option Dt
  | .val x => if ok x = true then some x else none
  | _ => none
theorem okv_some {ok : Dt → Bool} {r : Rv} {x : Dt} (h : okv ok r = some x) : r = .val x ∧ ok x = true := by
  cases r with
  | val d =>
    unfold okv at h
    dsimp only at h
    split at h
    · rename_i z; cases h; exact ⟨rfl, z⟩
    · cases h
  | loc i => cases h
def mBM (ok : Dt → Bool) (g : Dt → List Dt → Option Dt) (a : M Rv) (l : M (List Rv)) : M Rv := bd a fun r => bd (opt (okv ok r)) fun x => bd l fun rs => bd (resL rs) fun ds => bd (opt (g x ds)) mC
theorem d_bm0 {r : V → List V → Hp → VK → Prop} {g : Dt → List Dt → Option Dt} (hty : ∀ S H x d dz, g d [] = some dz → Tr X.K S H x d → Same S H → tyV X.K T x H) (hp : PurM X.K T r g) (pa : PlainAttrs T) (slot : Slot T name id) (ty : typeOf (.builtin id) = pure (.type "method_descriptor")) (hm : MtR X id r) (ho : PE X o (tD X.K X.mg W (m)))
    (hbase : attributeBase o name X.env (eval o X.env) = eval o X.env := by rfl) (hline : (apos.endLine == cpos.line) = true := by rfl) : PE X (.Call (.Attribute o name apos) [] [] cpos) (tD X.K X.mg W (mBM0 g m)) :=
  pe_imp (pe_bm0 pa slot ty hm ho hbase hline) fun σ H Q h => by
    obtain ⟨G, S, ρ, o, R, e, q⟩ := h
    refine seqD R e (fun r1 ρ1 v1 S1 H1 _ e1 R1 s1 rv1 => ?_) fun c ρ' eo S' H' R' s' => by subst eo; exact q S' H' R' s'
    obtain ⟨x, t1, e3⟩ := res_ok R1 rv1 e1
    obtain ⟨z, e5, e6⟩ := opt_ok e3
    cases e6
    exact ⟨hty S1 H1 v1 x z e5 t1 R1.sub, hp S1 H1 v1 [] x [] z Q R1.sub t1 trivial e5 fun v S' H' g d => q v S' H' (R1.grow g) (s1.trans g.s) d⟩
theorem d_bm {r : V → List V → Hp → VK → Prop} {ok : Dt → Bool} {g : Dt → List Dt → Option Dt} (hty : ∀ S H x d, ok d = true → Dp X.K S x d → Same S H → tyV X.K T x H) (hp : PurM X.K T r g) (pa : PlainAttrs T) (slot : Slot T name id) (ty : typeOf (.builtin id) = pure (.type "method_descriptor")) (hm : MtR X id r)
    (ho : PE X o (tD X.K X.mg W (m))) (ha : PA X (e :: es) (tA X.K X.mg W (ml)))
    (hbase : attributeBase o name X.env (eval o X.env) = eval o X.env := by rfl)
    (hfew : ((backTo cpos (starEach (e :: es) X.env)).all (fun x => !x.1) && (backToKw cpos (keywordEach [] X.env)).all (fun x => x.1.isSome)
      && decide ((e :: es).length + ([] : List Keyword).length + (if ([] : List Keyword).isEmpty then 0 else 1) < 30)) = true := by rfl)
    (hline : (apos.endLine == cpos.line) = true := by rfl) (hs : starEach (e :: es) X.env = (false, eval e X.env) :: starEach es X.env := by rfl) (hplain : (backTo cpos (starEach es X.env)).any (·.1) = false := by rfl) :
    PE X (.Call (.Attribute o name apos) (e :: es) [] cpos) (tD X.K X.mg W (mBM ok g m ml)) :=
  pe_imp (pe_bm pa slot ty hm ho ha hbase hfew hline hs hplain) fun σ H Q h => by
    obtain ⟨G, S, ρ, o, R, e, q⟩ := h
    refine seqD R e (fun r1 ρ1 v1 S1 H1 _ e1 R1 s1 rv1 => ?_) fun c ρ' eo S' H' R' s' => by subst eo; exact q S' H' R' s'
    obtain ⟨x, e0, e1b⟩ := opt_ok e1
    obtain ⟨rfl, hk⟩ := okv_some e0
    refine ⟨hty S1 H1 v1 x hk rv1 R1.sub, ?_⟩
    refine seqA R1 e1b (fun rs ρ2 vs S2 H2 _ e2 R2 s2 rvs => ?_) fun c ρ' eo S' H' R' s' => by subst eo; exact q S' H' R' (s1.trans s')
    obtain ⟨ds, t, e3⟩ := resL_ok R2 rvs e2
    obtain ⟨z, e4, e5⟩ := opt_ok e3
    cases e5
    exact hp S2 H2 v1 vs x ds z Q R2.sub (.inl (dp_mono s2 _ _ rv1)) t e4 fun v S' H' g d => q v S' H' (R2.grow g) ((s1.trans s2).trans g.s) d
end
end PD
/-! PD3: statements, loops, comprehensions over data. -/
namespace PD
open PySem L2

/-- how a block ends -/
inductive Fl where
  | nx (ρ : Ev)
  | rt (d : Dt) (ρ : Ev)
  /-- a fresh list is handed back -/
  | rn (ds : List Dt) (ρ : Ev)
  | bk (ρ : Ev)
  | ct (ρ : Ev)
  | ex (c : Str) (ρ : Ev)
abbrev F := Ev → Option Fl

section
variable (K : PySem.W.Frag) (mg : Str → Option Value) (W : WX) (ios : List Nat)
def Wish (G : Ent) (S : Hp) (D : Ends) : Fl → Prop
  | .nx ρ' => ∀ σ' S' H', Rep K G S' H' σ' ρ' → Same S S' → D.nx σ' H'
  | .rt d ρ' => ∀ v σ' S' H', Rep K G S' H' σ' ρ' → Same S S' → Dp K S' v d → D.rt v H'
  | .rn ds ρ' => ∀ v σ' S' H', Rep K G S' H' σ' ρ' → Same S S' → Fresh K G S' H' σ' ρ' v ds → D.rt v H'
  | .bk ρ' => ∀ σ' S' H', Rep K G S' H' σ' ρ' → Same S S' → D.bk σ' H'
  | .ct ρ' => ∀ σ' S' H', Rep K G S' H' σ' ρ' → Same S S' → D.ct σ' H'
  | .ex c ρ' => ∀ σ' S' H', Rep K G S' H' σ' ρ' → Same S S' → exW mg W c σ' H'
def tS (g : F) : TS := fun D σ H => ∃ G S ρ fl, G.io.map (·.1) = ios ∧ Rep K G S H σ ρ ∧ g ρ = some fl ∧ Wish K mg W G S D fl
end
section
variable {K : PySem.W.Frag} {mg : Str → Option Value} {W : WX} {ios : List Nat} {G : Ent} {S S' H : Hp} {σ : St} {ρ : Ev} {D : Ends}
theorem Wish.mono (s : Same S S') {fl : Fl} (h : Wish K mg W G S D fl) : Wish K mg W G S' D fl := by
  cases fl with
  | nx ρ' => exact fun σ' S2 H' R s' => h σ' S2 H' R (s.trans s')
  | rt d ρ' => exact fun v σ' S2 H' R s' => h v σ' S2 H' R (s.trans s')
  | rn ds ρ' => exact fun v σ' S2 H' R s' => h v σ' S2 H' R (s.trans s')
  | bk ρ' => exact fun σ' S2 H' R s' => h σ' S2 H' R (s.trans s')
  | ct ρ' => exact fun σ' S2 H' R s' => h σ' S2 H' R (s.trans s')
  | ex c ρ' => exact fun σ' S2 H' R s' => h σ' S2 H' R (s.trans s')
theorem free_of (h : G.io.map (·.1) = ios) {i : Nat} (hi : i ∉ ios) : Free G i := fun p hp e => hi (by rw [← h]; exact List.mem_map.mpr ⟨p, hp, e⟩)
/-- by what the slot holds now -/
theorem free_now (R : Rep K G S H σ ρ) {i : Nat} (h : ∀ ds, ρ[i]? ≠ some (.ow ds)) : Free G i := fun p hp e => by
  obtain ⟨j, a⟩ := p
  have e' : j = i := e
  subst e'
  obtain ⟨⟨ds, q⟩, _⟩ := R.io j a hp
  exact h ds q
end

/-! ### targets -/
def gN (i : Nat) : Dt → Ev → Option Ev := fun d ρ => match ρ[i]? with
  | some (.ow _) => none
  | _ => some (ρ.set i (.sh d))
def gNil : List Dt → Ev → Option Ev
  | [], ρ => some ρ
  | _, _ => none
def gCons (t : Dt → Ev → Option Ev) (u : List Dt → Ev → Option Ev) : List Dt → Ev → Option Ev
  | d :: ds, ρ => match t d ρ with
    | some ρ' => u ds ρ'
    | none => none
  | [], _ => none
def gT (n : Nat) (u : List Dt → Ev → Option Ev) : Dt → Ev → Option Ev
  | .tuple ds, ρ => if ds.length = n then u ds ρ else none
  | _, _ => none
/-- σ' is σ but for the slots of is -/
def Off (is : List Nat) (σ σ' : St) : Prop := σ'.length = σ.length ∧ ∀ i, i ∉ is → σ'[i]? = σ[i]?
theorem Off.rfl' (is : List Nat) (σ : St) : Off is σ σ := ⟨rfl, fun _ _ => rfl⟩
theorem Off.trans' {is js : List Nat} {σ σ1 σ2 : St} (a : Off is σ σ1) (b : Off js σ1 σ2) : Off (is ++ js) σ σ2 :=
  ⟨b.1.trans a.1, fun i h => (b.2 i fun z => h (List.mem_append_right _ z)).trans (a.2 i fun z => h (List.mem_append_left _ z))⟩
section
variable (K : PySem.W.Frag)
def tG (is : List Nat) (t : Dt → Ev → Option Ev) : TG := fun v σ H Q => ∃ G S ρ d ρ', Rep K G S H σ ρ ∧ Dp K S v d ∧ t d ρ = some ρ' ∧ ∀ σ', Rep K G S H σ' ρ' → Off is σ σ' → Q σ' H
def tGs (is : List Nat) (t : List Dt → Ev → Option Ev) : TGs := fun vs σ H Q => ∃ G S ρ ds ρ', Rep K G S H σ ρ ∧ DpAll K S vs ds ∧ t ds ρ = some ρ' ∧ ∀ σ', Rep K G S H σ' ρ' → Off is σ σ' → Q σ' H
end
theorem gN_some {i : Nat} {d : Dt} {ρ ρ' : Ev} (h : gN i d ρ = some ρ') : ρ' = ρ.set i (.sh d) ∧ ∀ ds, ρ[i]? ≠ some (.ow ds) := by
  unfold gN at h
  split at h
  · cases h
  · rename_i x hx
    cases h
    exact ⟨rfl, fun ds z => hx ds z⟩
section
variable {X : Cx}
theorem pg_imp {tg : Expr} {t t' : TG} (h : PG X tg t) (i : ∀ v σ H Q, t' v σ H Q → t v σ H Q) : PG X tg t' := ⟨fun pins s σ H v u Q J r w => h.run pins s σ H v u Q J r (i _ _ _ _ w)⟩
theorem pgs_imp {tg : List Expr} {t t' : TGs} (h : PGs X tg t) (i : ∀ v σ H Q, t' v σ H Q → t v σ H Q) : PGs X tg t' := ⟨fun pins s σ H v u Q J r w => h.run pins s σ H v u Q J r (i _ _ _ _ w)⟩
theorem d_gn {i : Nat} {x : Str} {pos : Pos} (h : PG X (.Name x pos) (gName i)) : PG X (.Name x pos) (tG X.K [i] (gN i)) :=
  pg_imp h fun v σ H Q w => by
    obtain ⟨G, S, ρ, d, ρ', R, hd, e, q⟩ := w
    obtain ⟨rfl, hn⟩ := gN_some e
    refine q _ (R.setS (free_now R hn) hd) ⟨List.length_set, fun j hj => get_set_ne fun z => hj (by rw [z]; exact List.mem_singleton.mpr rfl)⟩
theorem d_gnil : PGs X [] (tGs X.K [] gNil) := pgs_imp pgs_nil fun vs σ H Q w => by
  obtain ⟨G, S, ρ, ds, ρ', R, hd, e, q⟩ := w
  cases ds with
  | nil =>
    cases hd
    cases e
    exact ⟨rfl, q σ R (Off.rfl' _ _)⟩
  | cons d ds => cases e
theorem d_gcons {e : Expr} {es : List Expr} {is js : List Nat} {t : Dt → Ev → Option Ev} {u : List Dt → Ev → Option Ev} (h1 : PG X e (tG X.K is t)) (h2 : PGs X es (tGs X.K js u))
    (hs : (assignEach (e :: es) X.env).map (·.2) = assign e X.env :: (assignEach es X.env).map (·.2) := by rfl) : PGs X (e :: es) (tGs X.K (is ++ js) (gCons t u)) :=
  pgs_imp (pgs_cons h1 h2 hs) fun vs σ H Q w => by
    obtain ⟨G, S, ρ, ds, ρ', R, hd, e, q⟩ := w
    cases ds with
    | nil => cases e
    | cons d ds =>
      cases hd with
      | cons h1 h2 =>
        unfold gCons at e
        dsimp only at e
        split at e
        · rename_i ρ1 e1
          exact ⟨_, _, rfl, G, S, ρ, d, ρ1, R, h1, e1, fun σ' R' o => ⟨G, S, ρ1, ds, ρ', R', h2, e, fun σ2 R2 o2 => q σ2 R2 (o.trans' o2)⟩⟩
        · cases e
theorem d_gt {es : List Expr} {k : Nat} {pos : Pos} {n : Nat} {is : List Nat} {u : List Dt → Ev → Option Ev} (hc : X.calm = true) (h : PGs X es (tGs X.K is u))
    (hn : (assignEach es X.env).length = n := by rfl) (hst : (assignEach es X.env).findIdx? (·.1) = none := by rfl) : PG X (.Tuple es k pos) (tG X.K is (gT n u)) :=
  pg_imp (pg_tup hc h hn hst) fun v σ H Q w => by
    obtain ⟨G, S, ρ, d, ρ', R, hd, e, q⟩ := w
    cases d with
    | tuple ds =>
      cases hd with
      | tup hs ha =>
        unfold gT at e
        dsimp only at e
        split at e
        · rename_i hl
          refine ⟨_, _, rfl, sqT_mono R.sub hs, (dpa_len ha).trans hl, G, S, ρ, ds, ρ', R, ha, e, q⟩
        · cases e
    | _ => cases e
end

/-! ### statements -/
def sSeq (g h : F) : F := fun ρ => match g ρ with
  | some (.nx ρ') => h ρ'
  | o => o
def sNil : F := fun ρ => some (.nx ρ)
def fromE {α : Type} (k : α → Ev → Option Fl) : Option (Ex α) → Option Fl
  | none => none
  | some (.ok a ρ') => k a ρ'
  | some (.ex c ρ') => some (.ex c ρ')
/-- x = e, data that never changes -/
def sSet (i : Nat) (m : M Rv) : F := fun ρ => fromE (fun r ρ' => match r with
  | .val d => some (.nx (ρ'.set i (.sh d)))
  | .loc _ => none) (m ρ)
/-- x = a fresh list, to be changed later -/
def sSetO (i : Nat) (m : M (List Dt)) : F := fun ρ => fromE (fun ds ρ' => some (.nx (ρ'.set i (.ow ds)))) (m ρ)
def sAsg (t : Dt → Ev → Option Ev) (m : M Rv) : F := fun ρ => fromE (fun r ρ' => match r with
  | .val d => (t d ρ').map .nx
  | .loc _ => none) (m ρ)
def sRet (m : M Rv) : F := fun ρ => fromE (fun r ρ' => match r with
  | .val d => some (.rt d ρ')
  | .loc _ => none) (m ρ)
def sRetO (m : M (List Dt)) : F := fun ρ => fromE (fun ds ρ' => some (.rn ds ρ')) (m ρ)
/-- the list of a slot's own is handed back: the slot forgets it -/
def sRetL (i : Nat) : F := fun ρ => match ρ[i]? with
  | some (.ow ds) => some (.rn ds (ρ.set i .un))
  | some (.sh d) => some (.rt d ρ)
  | _ => none
def sRetN : F := fun ρ => some (.rt .none ρ)
def sDrop (m : M Rv) : F := fun ρ => fromE (fun _ ρ' => some (.nx ρ')) (m ρ)
def sIf (c : M Bool) (g h : F) : F := fun ρ => fromE (fun b ρ' => match b with
  | true => g ρ'
  | false => h ρ') (c ρ)
section
variable {X : Cx} {W : WX} {ios : List Nat} {st : Stmt} {rest : List Stmt} {g h : F} {pos : Pos} {e : Expr} {m : M Rv} {mn : M (List Dt)}
theorem d_snil : PSs X [] (tS X.K X.mg W ios sNil) := pss_imp pss_nil fun D σ H w => by
  obtain ⟨G, S, ρ, fl, hi, R, e, q⟩ := w
  cases e
  exact q σ S H R (Same.refl _)
theorem d_scons (h1 : PS X st (tS X.K X.mg W ios g)) (h2 : PSs X rest (tS X.K X.mg W ios h)) : PSs X (st :: rest) (tS X.K X.mg W ios (sSeq g h)) := pss_imp (pss_cons h1 h2) fun D σ H w => by
  obtain ⟨G, S, ρ, fl, hi, R, e, q⟩ := w
  unfold sSeq at e
  cases q1 : g ρ with
  | none => rw [q1] at e; cases e
  | some f1 =>
    rw [q1] at e
    refine ⟨G, S, ρ, f1, hi, R, q1, ?_⟩
    cases f1 with
    | nx ρ' => exact fun σ' S' H' R' s' => ⟨G, S', ρ', fl, hi, R', e, q.mono s'⟩
    | rt d ρ' => cases e; exact q
    | rn ds ρ' => cases e; exact q
    | bk ρ' => cases e; exact q
    | ct ρ' => cases e; exact q
    | ex c ρ' => cases e; exact q
theorem d_sone (h1 : PS X st (tS X.K X.mg W ios g)) : PSs X [st] (tS X.K X.mg W ios g) := pss_one h1
/-- from an expression's outcome to a statement's -/
theorem fromE_some {α : Type} {k : α → Ev → Option Fl} {o : Option (Ex α)} {fl : Fl} (h : fromE k o = some fl) : (∃ a ρ', o = some (.ok a ρ') ∧ k a ρ' = some fl) ∨ ∃ c ρ', o = some (.ex c ρ') ∧ fl = .ex c ρ' := by
  cases o with
  | none => cases h
  | some x =>
    cases x with
    | ok a ρ' => exact .inl ⟨a, ρ', rfl, h⟩
    | ex c ρ' => cases h; exact .inr ⟨c, ρ', rfl, rfl⟩
theorem rd_set {i : Nat} (hi : i ∉ ios) {D : Ends} {σ : St} {H : Hp} (w : tS X.K X.mg W ios (sSet i m) D σ H) : tAsg (tD X.K X.mg W m) (gName i) D σ H := by
  obtain ⟨G, S, ρ, fl, hio, R, e, q⟩ := w
  rcases fromE_some e with ⟨r, ρ', e1, e2⟩ | ⟨c, ρ', e1, rfl⟩
  · refine ⟨G, S, ρ, _, R, e1, fun v S' H' R' s' rv => ?_⟩
    cases r with
    | loc _ => cases e2
    | val d =>
      cases e2
      exact q _ S' H' (R'.setS (free_of hio hi) rv) s'
  · exact ⟨G, S, ρ, _, R, e1, fun S' H' R' s' => q σ S' H' R' s'⟩
theorem rd_setO {i : Nat} (hi : i ∉ ios) {D : Ends} {σ : St} {H : Hp} (w : tS X.K X.mg W ios (sSetO i mn) D σ H) : tAsg (tN X.K X.mg W mn) (gName i) D σ H := by
  obtain ⟨G, S, ρ, fl, hio, R, e, q⟩ := w
  rcases fromE_some e with ⟨ds, ρ', e1, e2⟩ | ⟨c, ρ', e1, rfl⟩
  · refine ⟨G, S, ρ, _, R, e1, fun v S' H' R' s' f => ?_⟩
    cases e2
    exact q _ S' H' (R'.setO (free_of hio hi) f) s'
  · exact ⟨G, S, ρ, _, R, e1, fun S' H' R' s' => q σ S' H' R' s'⟩
theorem d_set {i : Nat} {x : Str} {pos' : Pos} (hN : X.N.Nodup) (he : PE X e (tD X.K X.mg W m)) (hi : i ∉ ios := by decide) (hx : X.N[i]? = some x := by rfl) (hl : Loc X.env.scope x := by first | exact Or.inl rfl | exact Or.inr rfl) (hs : swapsWith e (some (.Name x pos')) pos.line X.env = pure false := by rfl)
    (hf : X.fn x = true ∨ X.env.scope.names.lookup x = some .local := by first | exact .inl rfl | exact .inr rfl) : PS X (.Assign [.Name x pos'] e pos) (tS X.K X.mg W ios (sSet i m)) :=
  ps_imp (ps_set hN hx hl he hs hf) fun D σ H w => rd_set hi w
theorem d_setO {i : Nat} {x : Str} {pos' : Pos} (hN : X.N.Nodup) (he : PE X e (tN X.K X.mg W mn)) (hi : i ∉ ios := by decide) (hx : X.N[i]? = some x := by rfl) (hl : Loc X.env.scope x := by first | exact Or.inl rfl | exact Or.inr rfl) (hs : swapsWith e (some (.Name x pos')) pos.line X.env = pure false := by rfl)
    (hf : X.fn x = true ∨ X.env.scope.names.lookup x = some .local := by first | exact .inl rfl | exact .inr rfl) : PS X (.Assign [.Name x pos'] e pos) (tS X.K X.mg W ios (sSetO i mn)) :=
  ps_imp (ps_set hN hx hl he hs hf) fun D σ H w => rd_setO hi w
theorem d_asg {tg : Expr} {is : List Nat} {t : Dt → Ev → Option Ev} (he : PE X e (tD X.K X.mg W m)) (hg : PG X tg (tG X.K is t)) (hs : swapsWithSole [tg] e pos.line X.env = pure false := by rfl) (hw : swappedStores [tg] e X.env = pure none := by rfl)
    (h1 : (assignEach [tg] X.env).map (·.2) = [assign tg X.env] := by rfl) : PS X (.Assign [tg] e pos) (tS X.K X.mg W ios (sAsg t m)) :=
  ps_imp (ps_asg he hg hs hw h1) fun D σ H w => by
    obtain ⟨G, S, ρ, fl, hio, R, e, q⟩ := w
    rcases fromE_some e with ⟨r, ρ', e1, e2⟩ | ⟨c, ρ', e1, rfl⟩
    · refine ⟨G, S, ρ, _, R, e1, fun v S' H' R' s' rv => ?_⟩
      cases r with
      | loc _ => cases e2
      | val d =>
        dsimp only at e2
        cases q2 : t d ρ' with
        | none => rw [q2] at e2; cases e2
        | some ρ2 =>
          rw [q2] at e2
          cases e2
          exact ⟨G, S', ρ', d, ρ2, R', rv, q2, fun σ' R2 _ => q σ' S' H' R2 s'⟩
    · exact ⟨G, S, ρ, _, R, e1, fun S' H' R' s' => q σ S' H' R' s'⟩
theorem d_ret (he : PE X e (tD X.K X.mg W m)) : PS X (.Return (some e) pos) (tS X.K X.mg W ios (sRet m)) := ps_imp (ps_ret he) fun D σ H w => by
  obtain ⟨G, S, ρ, fl, hio, R, e, q⟩ := w
  rcases fromE_some e with ⟨r, ρ', e1, e2⟩ | ⟨c, ρ', e1, rfl⟩
  · refine ⟨G, S, ρ, _, R, e1, fun v S' H' R' s' rv => ?_⟩
    cases r with
    | loc _ => cases e2
    | val d => cases e2; exact q v σ S' H' R' s' rv
  · exact ⟨G, S, ρ, _, R, e1, fun S' H' R' s' => q σ S' H' R' s'⟩
theorem d_retO (he : PE X e (tN X.K X.mg W mn)) : PS X (.Return (some e) pos) (tS X.K X.mg W ios (sRetO mn)) := ps_imp (ps_ret he) fun D σ H w => by
  obtain ⟨G, S, ρ, fl, hio, R, e, q⟩ := w
  rcases fromE_some e with ⟨ds, ρ', e1, e2⟩ | ⟨c, ρ', e1, rfl⟩
  · refine ⟨G, S, ρ, _, R, e1, fun v S' H' R' s' f => ?_⟩
    cases e2
    exact q v σ S' H' R' s' f
  · exact ⟨G, S, ρ, _, R, e1, fun S' H' R' s' => q σ S' H' R' s'⟩
theorem d_retL {i : Nat} {x : Str} {pos' : Pos} (h : PE X (.Name x pos') (tVar i)) (hi : i ∉ ios := by decide) : PS X (.Return (some (.Name x pos')) pos) (tS X.K X.mg W ios (sRetL i)) := ps_imp (ps_ret h) fun D σ H w => by
  obtain ⟨G, S, ρ, fl, hio, R, e, q⟩ := w
  unfold sRetL at e
  split at e
  · rename_i ds hs
    cases e
    have hf := free_of hio hi
    obtain ⟨a, xs, e1, q1, q2, q3, q4⟩ := R.slot i _ hs
    have hgn : G.H a = none := by
      rcases q4 with q4 | q4
      · obtain ⟨⟨j, b⟩, h1, h2⟩ := List.mem_map.mp q4
        have h2 : b = a := h2
        subst h2
        obtain ⟨⟨dj, h3⟩, h4⟩ := R.io j b h1
        exact absurd (R.dist j i b (by rw [h3]; trivial) (by rw [hs]; trivial) h4 e1) (hf _ h1)
      · exact q4
    refine ⟨_, e1, q (.ref a) σ S H (R.forget hf) (Same.refl _) ⟨a, xs, rfl, q1, q2, q3, hgn, fun j dj h1 h2 => ?_⟩⟩
    rcases get_set h1 with ⟨_, z⟩ | ⟨ne, h1⟩
    · cases z
    · exact ne (R.dist i j a (by rw [hs]; trivial) (by rw [h1]; trivial) e1 h2)
  · rename_i d hs
    cases e
    obtain ⟨v, e1, e2⟩ := R.slot i _ hs
    exact ⟨v, e1, q v σ S H R (Same.refl _) e2⟩
  · cases e
theorem d_retN : PS X (.Return none pos) (tS X.K X.mg W ios sRetN) := ps_imp ps_retN fun D σ H w => by
  obtain ⟨G, S, ρ, fl, hio, R, e, q⟩ := w
  cases e
  exact q .non σ S H R (Same.refl _) .non
theorem d_drop (he : PE X e (tD X.K X.mg W m)) (hs : swapsWith e none pos.line X.env = pure false := by rfl) : PS X (.Expr e pos) (tS X.K X.mg W ios (sDrop m)) := ps_imp (ps_expr he hs) fun D σ H w => by
  obtain ⟨G, S, ρ, fl, hio, R, e, q⟩ := w
  rcases fromE_some e with ⟨r, ρ', e1, e2⟩ | ⟨c, ρ', e1, rfl⟩
  · refine ⟨G, S, ρ, _, R, e1, fun v S' H' R' s' rv => ?_⟩
    cases e2
    exact q σ S' H' R' s'
  · exact ⟨G, S, ρ, _, R, e1, fun S' H' R' s' => q σ S' H' R' s'⟩
theorem d_pass : PS X (.Pass pos) (tS X.K X.mg W ios sNil) := ps_imp ps_pass fun D σ H w => by
  obtain ⟨G, S, ρ, fl, hio, R, e, q⟩ := w
  cases e
  exact q σ S H R (Same.refl _)
theorem d_break : PS X (.Break pos) (tS X.K X.mg W ios fun ρ => some (.bk ρ)) := ps_imp ps_break fun D σ H w => by
  obtain ⟨G, S, ρ, fl, hio, R, e, q⟩ := w
  cases e
  exact q σ S H R (Same.refl _)
theorem d_cont : PS X (.Continue pos) (tS X.K X.mg W ios fun ρ => some (.ct ρ)) := ps_imp ps_continue fun D σ H w => by
  obtain ⟨G, S, ρ, fl, hio, R, e, q⟩ := w
  cases e
  exact q σ S H R (Same.refl _)
theorem d_ifS {c : Expr} {a b : List Stmt} {mc : M Bool} (hc : PT X c (tB X.K X.mg W mc)) (ha : PSs X a (tS X.K X.mg W ios g)) (hb : PSs X b (tS X.K X.mg W ios h)) : PS X (.If c a b pos) (tS X.K X.mg W ios (sIf mc g h)) := ps_imp (ps_if hc ha hb) fun D σ H w => by
  obtain ⟨G, S, ρ, fl, hio, R, e, q⟩ := w
  rcases fromE_some e with ⟨k, ρ', e1, e2⟩ | ⟨c, ρ', e1, rfl⟩
  · refine ⟨G, S, ρ, _, R, e1, fun S' H' R' s' => ?_⟩
    cases k with
    | true => exact iteT ⟨G, S', ρ', fl, hio, R', e2, q.mono s'⟩
    | false => exact iteF ⟨G, S', ρ', fl, hio, R', e2, q.mono s'⟩
  · exact ⟨G, S, ρ, _, R, e1, fun S' H' R' s' => q σ S' H' R' s'⟩
end

/-! ### while -/
def kills (l : List Nat) (ρ : Ev) : Ev := l.foldl (fun r i => r.set i .un) ρ
def sWhile (kl : List Nat) (c : M Bool) (b : F) : Nat → F
  | 0 => fun _ => none
  | n + 1 => fun ρ => fromE (fun k ρ1 => match k with
    | false => some (.nx ρ1)
    | true => match b ρ1 with
      | some (.nx ρ2) => sWhile kl c b n (kills kl ρ2)
      | some (.ct ρ2) => sWhile kl c b n (kills kl ρ2)
      | some (.bk ρ2) => some (.nx ρ2)
      | o => o) (c ρ)
theorem Rep.kill {K : PySem.W.Frag} {G : Ent} {S H : Hp} {σ : St} : ∀ (l : List Nat) {ρ : Ev}, Rep K G S H σ ρ → (∀ i ∈ l, Free G i) → Rep K G S H σ (kills l ρ)
  | [], _, R, _ => R
  | i :: l, _, R, h => Rep.kill l (R.forget (h i List.mem_cons_self)) fun j hj => h j (List.mem_cons_of_mem _ hj)
theorem frees {G : Ent} {ios kl : List Nat} (h : G.io.map (·.1) = ios) (hk : ∀ i ∈ kl, i ∉ ios) : ∀ i ∈ kl, Free G i := fun i hi => free_of h (hk i hi)
section
variable {X : Cx} {W : WX} {ios kl : List Nat} {pos : Pos}
theorem d_while {c : Expr} {body : List Stmt} {mc : M Bool} {b : F} {n : Nat} (hp : PassesOwn (model X.prog X.w) X.A X.env X.xe) (hc : PT X c (tB X.K X.mg W mc)) (hb : PSs X body (tS X.K X.mg W ios b)) (hk : ∀ i ∈ kl, i ∉ ios := by decide) :
    PS X (.While c body [] pos) (tS X.K X.mg W ios fun ρ => sWhile kl mc b n (kills kl ρ)) := ps_imp (ps_while hp hc hb) fun D σ H w => by
  obtain ⟨G, S, ρ, fl, hio, R, e, q⟩ := w
  refine ⟨fun m σ1 H1 => ∃ S1 ρ1, Rep X.K G S1 H1 σ1 ρ1 ∧ Same S S1 ∧ sWhile kl mc b m ρ1 = some fl, ⟨n, S, _, R.kill kl (frees hio hk), Same.refl _, e⟩, ?_⟩
  rintro m σ1 H1 ⟨S1, ρ1, R1, s1, e1⟩
  cases m with
  | zero => cases e1
  | succ m =>
    rcases fromE_some e1 with ⟨k, ρ2, e2, e3⟩ | ⟨c, ρ', e2, rfl⟩
    · refine ⟨G, S1, ρ1, _, R1, e2, fun S2 H2 R2 s2 => ?_⟩
      cases k with
      | false =>
        cases e3
        exact iteF (q σ1 S2 H2 R2 (s1.trans s2))
      | true =>
        refine iteT ⟨fun σ' H' => ∃ m', m' < m + 1 ∧ ∃ S1 ρ1, Rep X.K G S1 H' σ' ρ1 ∧ Same S S1 ∧ sWhile kl mc b m' ρ1 = some fl, fun σ' H' z => z, ?_⟩
        dsimp only at e3
        cases q1 : b ρ2 with
        | none => rw [q1] at e3; cases e3
        | some f1 =>
          rw [q1] at e3
          refine ⟨G, S2, ρ2, f1, hio, R2, q1, ?_⟩
          cases f1 with
          | nx ρ3 => exact fun σ' S' H' R' s' => ⟨m, Nat.lt_succ_self _, S', _, R'.kill kl (frees hio hk), (s1.trans s2).trans s', e3⟩
          | ct ρ3 => exact fun σ' S' H' R' s' => ⟨m, Nat.lt_succ_self _, S', _, R'.kill kl (frees hio hk), (s1.trans s2).trans s', e3⟩
          | bk ρ3 => cases e3; exact fun σ' S' H' R' s' => q σ' S' H' R' ((s1.trans s2).trans s')
          | rt d ρ3 => cases e3; exact q.mono (s1.trans s2)
          | rn ds ρ3 => cases e3; exact q.mono (s1.trans s2)
          | ex c ρ3 => cases e3; exact q.mono (s1.trans s2)
    · exact ⟨G, S1, ρ1, _, R1, e2, fun S' H' R' s' => q σ1 S' H' R' (s1.trans s')⟩
end

/-! ### what is walked -/
/-- J goes over ds, whatever else comes to the heap -/
def Walk (K : PySem.W.Frag) (J : It) (S : Hp) (ds : List Dt) : Prop := ∀ (i : Nat) (S1 H : Hp), Same S S1 → Same S1 H →
  (∀ d, ds[i]? = some d → J.go i H ∧ ∀ x H', J.yld i H x H' → ∃ S2, Grow S1 H S2 H' ∧ Dp K S2 x d) ∧ (ds.length ≤ i → J.stop i H)
def tI (K : PySem.W.Frag) (mg : Str → Option Value) (W : WX) (m : M (List Dt)) : TI := fun σ H R => ∃ G S ρ o, Rep K G S H σ ρ ∧ m ρ = some o ∧ match o with
  | .ok ds ρ' => ∀ J S' H', Rep K G S' H' σ ρ' → Same S S' → Walk K J S' ds → R J H'
  | .ex c ρ' => ∀ S' H', Rep K G S' H' σ ρ' → Same S S' → exW mg W c σ H'
def sFor (kl : List Nat) (t : Dt → Ev → Option Ev) (b : F) : List Dt → F
  | [], ρ => some (.nx ρ)
  | d :: ds, ρ => match t d ρ with
    | none => none
    | some ρ1 => match b ρ1 with
      | some (.nx ρ2) => sFor kl t b ds (kills kl ρ2)
      | some (.ct ρ2) => sFor kl t b ds (kills kl ρ2)
      | some (.bk ρ2) => some (.nx ρ2)
      | o => o
def sForE (kl : List Nat) (m : M (List Dt)) (t : Dt → Ev → Option Ev) (b : F) : F := fun ρ => fromE (fun ds ρ1 => sFor kl t b ds (kills kl ρ1)) (m ρ)
section
variable {X : Cx} {W : WX} {ios kl is : List Nat} {pos : Pos}
theorem d_for {tg iter : Expr} {body : List Stmt} {m : M (List Dt)} {t : Dt → Ev → Option Ev} {b : F} (hp : PassesOwn (model X.prog X.w) X.A X.env X.xe) (hc : X.calm = true) (hi : PI X tg iter (tI X.K X.mg W m)) (hg : PG X tg (tG X.K is t)) (hb : PSs X body (tS X.K X.mg W ios b))
    (hk : ∀ i ∈ kl, i ∉ ios := by decide) (hs : ∀ x, foldedSetIterable iter X.env x = pure x := by intro _; rfl) : PS X (.For tg iter body [] pos) (tS X.K X.mg W ios (sForE kl m t b)) :=
  ps_imp (ps_for hp hc hi hg hb hs) fun D σ H w => by
    obtain ⟨G, S, ρ, fl, hio, R, e, q⟩ := w
    rcases fromE_some e with ⟨ds, ρ0, e0, e1⟩ | ⟨c, ρ', e2, rfl⟩
    · refine ⟨G, S, ρ, _, R, e0, fun J S0 H0 R0 s0 wk => ?_⟩
      refine ⟨fun i n σ1 H1 => n = ds.length - i ∧ ∃ S1 ρ1, Rep X.K G S1 H1 σ1 ρ1 ∧ Same S0 S1 ∧ sFor kl t b (ds.drop i) ρ1 = some fl, ⟨ds.length, by simp, S0, _, R0.kill kl (frees hio hk), Same.refl _, e1⟩, ?_⟩
      rintro i n σ1 H1 ⟨rfl, S1, ρ1, R1, s1, e2⟩
      obtain ⟨w1, w2⟩ := wk i S1 H1 s1 R1.sub
      by_cases hlt : i < ds.length
      · have hd : ds.drop i = ds[i] :: ds.drop (i + 1) := List.drop_eq_getElem_cons hlt
        rw [hd] at e2
        obtain ⟨go, yl⟩ := w1 ds[i] (List.getElem?_eq_getElem hlt)
        refine .inr ⟨go, fun σ' H' => ∃ S1 ρ1, Rep X.K G S1 H' σ' ρ1 ∧ Same S0 S1 ∧ sFor kl t b (ds.drop (i + 1)) ρ1 = some fl, fun σ' H' z => ⟨ds.length - (i + 1), by omega, rfl, z⟩, fun x H' y => ?_⟩
        obtain ⟨S2, gr, hx⟩ := yl x H' y
        have R2 := R1.grow gr
        unfold sFor at e2
        try dsimp only at e2
        cases q1 : t ds[i] ρ1 with
        | none => rw [q1] at e2; cases e2
        | some ρ2 =>
          rw [q1] at e2
          refine ⟨G, S2, ρ1, _, ρ2, R2, hx, q1, fun σ2 R3 _ => ?_⟩
          have s2 := s1.trans gr.s
          dsimp only at e2
          cases q2 : b ρ2 with
          | none => rw [q2] at e2; cases e2
          | some f1 =>
            rw [q2] at e2
            refine ⟨G, S2, ρ2, f1, hio, R3, q2, ?_⟩
            cases f1 with
            | nx ρ3 => exact fun σ' S' H' R' s' => ⟨S', _, R'.kill kl (frees hio hk), s2.trans s', e2⟩
            | ct ρ3 => exact fun σ' S' H' R' s' => ⟨S', _, R'.kill kl (frees hio hk), s2.trans s', e2⟩
            | bk ρ3 => cases e2; exact fun σ' S' H' R' s' => q σ' S' H' R' ((s0.trans s2).trans s')
            | rt d ρ3 => cases e2; exact q.mono (s0.trans s2)
            | rn ds ρ3 => cases e2; exact q.mono (s0.trans s2)
            | ex c ρ3 => cases e2; exact q.mono (s0.trans s2)
      · rw [List.drop_eq_nil_of_le (by omega)] at e2
        cases e2
        exact .inl ⟨w2 (by omega), q σ1 S1 H1 R1 (s0.trans s1)⟩
    · exact ⟨G, S, ρ, _, R, e2, fun S' H' R' s' => q σ S' H' R' s'⟩
end
end PD
/-! PD4: what is walked, comprehensions, own lists changed, several targets, calls, defs. -/
namespace PD
open PySem L2

/-! ### a list, a tuple, a text walked -/
def iAny (K : PySem.W.Frag) (te : TE) : TI := fun σ H R => te σ H fun x H1 => (∃ a, x = .ref a ∧ (∃ xs, SqL K H1 a xs) ∧ R (Itl K a) H1) ∨ (∃ a, x = .ref a ∧ (∃ xs, SqT K H1 a xs) ∧ R (Itt K a) H1) ∨ ∃ z, x = .str z ∧ R (Its z) H1
theorem pi_any {X : Cx} {tg l : Expr} {tl : TE} (hl : PE X l tl) : PI X tg l (iAny X.K tl) := by
  refine ⟨fun ps s0 τ H0 R I w => ?_⟩
  refine thn (hl.run ps s0 τ H0 _ I w) fun v s1 hv => ?_
  obtain ⟨x, H1, I1, r1, q1⟩ := hv
  rcases q1 with ⟨a, rfl, ⟨xs, hq⟩, q⟩ | ⟨a, rfl, ⟨xs, hq⟩, q⟩ | ⟨z, rfl, q⟩
  · cases r1
    have ⟨its, rv, p, hz⟩ := I1.list hq
    exact PySem.wpAny_pyIter_list p.isList (pi_one (tk := s1.toks) I1 _ (turn_list a _) ⟨_, Heap.get?_push_size _ rfl, rfl, rfl⟩ q)
  · cases r1
    have ⟨its, rv, p, hz⟩ := I1.tuple hq
    exact PySem.wpAny_pyIter_tuple (show s1.heap.IsTuple a its.toArray from p) (pi_one (tk := s1.toks) I1 _ (turn_tuple a _) ⟨_, Heap.get?_push_size _ rfl, rfl, rfl⟩ q)
  · obtain ⟨t, rfl⟩ := r1
    cases ha : z.cps.all (· < 128)
    · exact PySem.wpAny_pyIter_wide ha (pi_one (tk := s1.toks) I1 _ (turn_str _ z t "str_iterator" (.inr rfl)) ⟨_, Heap.get?_push_size _ rfl, rfl, rfl⟩ q)
    · exact PySem.wpAny_pyIter_ascii ha (pi_one (tk := s1.toks) I1 _ (turn_str _ z t "str_ascii_iterator" (.inl rfl)) ⟨_, Heap.get?_push_size _ rfl, rfl, rfl⟩ q)
/-- the items of what can be walked -/
def items : Dt → Option (List Dt)
  | .list ds => some ds
  | .tuple ds => some ds
  | .str z => some (z.cps.toList.map fun c => .str ⟨#[c]⟩)
  | _ => none
def rngL (lo : Int) (n : Nat) : List Dt := (List.range n).map fun (i : Nat) => .int (lo + (i : Int))
section
variable {K : PySem.W.Frag} {S H : Hp}
theorem walk_list {a : Addr} {xs : List V} {ds : List Dt} (h : SqL K S a xs) (hd : DpAll K S xs ds) : Walk K (Itl K a) S ds := by
  intro i S1 H1 s1 s2
  have hH : SqL K H1 a xs := s2.seq (s1.seq h)
  refine ⟨fun d e => ?_, fun hl => ⟨xs, hH, by rw [dpa_len hd]; exact hl⟩⟩
  obtain ⟨v, e1, e2⟩ := dpa_some hd e
  refine ⟨⟨xs, v, hH, e1⟩, fun x H' y => ?_⟩
  obtain ⟨rfl, y⟩ := y
  have e3 := y xs hH
  rw [e1] at e3
  cases e3
  exact ⟨S1, Grow.rfl' s2, dp_mono s1 _ _ e2⟩
theorem walk_tup {a : Addr} {xs : List V} {ds : List Dt} (h : SqT K S a xs) (hd : DpAll K S xs ds) : Walk K (Itt K a) S ds := by
  intro i S1 H1 s1 s2
  have hH : SqT K H1 a xs := sqT_mono s2 (sqT_mono s1 h)
  refine ⟨fun d e => ?_, fun hl => ⟨xs, hH, by rw [dpa_len hd]; exact hl⟩⟩
  obtain ⟨v, e1, e2⟩ := dpa_some hd e
  refine ⟨⟨xs, v, hH, e1⟩, fun x H' y => ?_⟩
  obtain ⟨rfl, y⟩ := y
  have e3 := y xs hH
  rw [e1] at e3
  cases e3
  exact ⟨S1, Grow.rfl' s2, dp_mono s1 _ _ e2⟩
theorem walk_str {z : Str} : Walk K (Its z) S (z.cps.toList.map fun c => .str ⟨#[c]⟩) := by
  intro i S1 H1 s1 s2
  refine ⟨fun d e => ?_, fun hl => by rw [List.length_map, Array.length_toList] at hl; exact hl⟩
  rw [List.getElem?_map] at e
  have hi : i < z.cps.size := by
    by_cases hi : i < z.cps.size
    · exact hi
    · rw [List.getElem?_eq_none (by rw [Array.length_toList]; omega)] at e; cases e
  have e0 : z.cps.toList[i]? = some z.cps[i] := by
    rw [Array.getElem?_toList, Array.getElem?_eq_getElem hi]
  rw [e0] at e
  cases e
  refine ⟨hi, fun x H' y => ?_⟩
  obtain ⟨rfl, c, e1, rfl⟩ := y
  rw [Array.getElem?_eq_getElem hi] at e1
  cases e1
  exact ⟨S1, Grow.rfl' s2, .str _⟩
theorem walk_range {lo : Int} {n : Nat} : Walk K (Itr lo n) S (rngL lo n) := by
  unfold rngL
  intro i S1 H1 s1 s2
  refine ⟨fun d e => ?_, fun hl => by rw [List.length_map, List.length_range] at hl; exact hl⟩
  have hi : i < n := by
    have := (List.getElem?_eq_some_iff.mp e).1
    rw [List.length_map, List.length_range] at this
    exact this
  rw [List.getElem?_map, List.getElem?_range hi] at e
  cases e
  refine ⟨hi, fun x H' y => ?_⟩
  obtain ⟨rfl, rfl⟩ := y
  exact ⟨S1, Grow.rfl' s2, .int _⟩
end
def mItems (m : M Rv) : M (List Dt) := bd m fun r => match r with
  | .val d => opt (items d)
  | .loc _ => fun _ => none
section
variable {X : Cx} {W : WX} {tg e : Expr} {m : M Rv} {p pos : Pos}
theorem pi_imp {tg iter : Expr} {t t' : TI} (h : PI X tg iter t) (i : ∀ σ H R, t' σ H R → t σ H R) : PI X tg iter t' := ⟨fun pins s σ H R J w => h.run pins s σ H R J (i _ _ _ w)⟩
theorem d_items (h : PE X e (tD X.K X.mg W m)) : PI X tg e (tI X.K X.mg W (mItems m)) := pi_imp (pi_any h) fun σ H R w => by
  obtain ⟨G, S, ρ, o, Rp, e, q⟩ := w
  refine seqD Rp e (fun r ρ1 v S1 H1 _ e1 R1 s1 rv => ?_) fun c ρ' eo S' H' R' s' => by subst eo; exact q S' H' R' s'
  cases r with
  | loc _ => cases e1
  | val d =>
    obtain ⟨ds, e2, rfl⟩ := opt_in (β := Unit) e1
    have rv' : Dp X.K S1 v d := rv
    cases rv' with
    | @lst a xs ds' hs ha =>
      cases e2
      exact .inl ⟨a, rfl, ⟨xs, R1.sub.seq hs⟩, q _ S1 H1 R1 s1 (walk_list hs ha)⟩
    | @tup a xs ds' hs ha =>
      cases e2
      exact .inr (.inl ⟨a, rfl, ⟨xs, sqT_mono R1.sub hs⟩, q _ S1 H1 R1 s1 (walk_tup hs ha)⟩)
    | str z =>
      cases e2
      exact .inr (.inr ⟨z, rfl, q _ S1 H1 R1 s1 walk_str⟩)
    | non => cases e2
    | bl b => cases e2
    | int i => cases e2
end

/-! ### range, zip -/
def inR (j : Int) : Bool := decide (-(2 ^ 62) ≤ j) && decide (j < 2 ^ 62)
def rng1 : List Dt → Option (List Dt)
  | [.int j] => if inR j = true then some (rngL 0 j.toNat) else none
  | _ => none
def rng2 : List Dt → Option (List Dt)
  | [.int i, .int j] => if (inR i && inR j) = true then some (rngL i (j - i).toNat) else none
  | _ => none
def zipD : List Dt → Option (List Dt)
  | [.list xs, .list ys] => some (xs.zipWith (fun x y => .tuple [x, y]) ys)
  | [.tuple xs, .tuple ys] => some (xs.zipWith (fun x y => .tuple [x, y]) ys)
  | _ => none
def mArg (g : List Dt → Option (List Dt)) (l : M (List Rv)) : M (List Dt) := bd l fun rs => bd (opt (vals rs)) fun ds => opt (g ds)
theorem inR_ok {j : Int} (h : inR j = true) : -(2 ^ 62) ≤ j ∧ j < 2 ^ 62 := by
  unfold inR at h
  rw [Bool.and_eq_true, decide_eq_true_eq, decide_eq_true_eq] at h
  exact h
section
variable {X : Cx} {W : WX} {tg e a b : Expr} {m : M Rv} {ml : M (List Rv)} {p pos : Pos}
theorem rd_arg {K : PySem.W.Frag} {mg : Str → Option Value} {g : List Dt → Option (List Dt)} {σ : St} {H : Hp} {R : It → Hp → Prop} (w : tI K mg W (mArg g ml) σ H R) {P : List V → Hp → Prop}
    (h : ∀ G S1 H1 ρ1 vs ds es, Rep K G S1 H1 σ ρ1 → DpAll K S1 vs ds → g ds = some es → (∀ J, Walk K J S1 es → R J H1) → P vs H1) : tA K mg W ml σ H P := by
  obtain ⟨G, S, ρ, o, Rp, e, q⟩ := w
  refine seqA Rp e (fun rs ρ1 vs S1 H1 _ e1 R1 s1 rvs => ?_) fun c ρ' eo S' H' R' s' => by subst eo; exact q S' H' R' s'
  obtain ⟨ds, e2, e3⟩ := opt_ok e1
  obtain ⟨es, e4, rfl⟩ := opt_in (β := Unit) e3
  exact h G S1 H1 ρ1 vs ds es R1 (vals_ok rvs e2) e4 fun J wk => q J S1 H1 R1 s1 wk
theorem d_range1 (hm : X.mg "range" = none) (ha : PA X [a] (tA X.K X.mg W ml)) (hg : Gl X "range" := by rfl) (hs : starEach [a] X.env = [(false, eval a X.env)] := by rfl) : PI X tg (.Call (.Name "range" p) [a] [] pos) (tI X.K X.mg W (mArg rng1 ml)) :=
  pi_imp (pi_range1 hg hm ha hs) fun σ H R w => rd_arg w fun G S1 H1 ρ1 vs ds es R1 hd e k => by
    unfold rng1 at e
    split at e
    · rename_i j
      split at e
      · rename_i hj
        cases e
        cases hd with
        | cons h1 h2 =>
          cases h1
          cases h2
          exact ⟨j, rfl, (inR_ok hj).1, (inR_ok hj).2, k _ walk_range⟩
      · cases e
    · cases e
theorem d_range2 (hm : X.mg "range" = none) (ha : PA X [a, b] (tA X.K X.mg W ml)) (hg : Gl X "range" := by rfl) (hs : starEach [a, b] X.env = [(false, eval a X.env), (false, eval b X.env)] := by rfl) (hs2 : starEach [b] X.env = [(false, eval b X.env)] := by rfl) :
    PI X tg (.Call (.Name "range" p) [a, b] [] pos) (tI X.K X.mg W (mArg rng2 ml)) :=
  pi_imp (pi_range2 hg hm ha hs hs2) fun σ H R w => rd_arg w fun G S1 H1 ρ1 vs ds es R1 hd e k => by
    unfold rng2 at e
    split at e
    · rename_i i j
      split at e
      · rename_i hj
        cases e
        rw [Bool.and_eq_true] at hj
        cases hd with
        | cons h1 h2 =>
          cases h1
          cases h2 with
          | cons h3 h4 =>
            cases h3
            cases h4
            exact ⟨i, j, rfl, ⟨(inR_ok hj.1).1, (inR_ok hj.1).2, (inR_ok hj.2).1, (inR_ok hj.2).2⟩, k _ walk_range⟩
      · cases e
    · cases e
theorem walk_zip {K : PySem.W.Frag} {S : Hp} {c d : Addr} {xs ys : List V} {ds es : List Dt} (h : SqL K S c xs) (h' : SqL K S d ys) (hd : DpAll K S xs ds) (hd' : DpAll K S ys es) : Walk K (Itz K c d) S (ds.zipWith (fun x y => .tuple [x, y]) es) := by
  intro i S1 H1 s1 s2
  have hH : SqL K H1 c xs := s2.seq (s1.seq h)
  have hH' : SqL K H1 d ys := s2.seq (s1.seq h')
  refine ⟨fun z e => ?_, fun hl => ⟨xs, ys, hH, hH', ?_⟩⟩
  · rw [List.getElem?_zipWith] at e
    cases q1 : ds[i]? with
    | none => rw [q1] at e; cases e
    | some x =>
      cases q2 : es[i]? with
      | none => rw [q1, q2] at e; cases e
      | some y =>
        rw [q1, q2] at e
        cases e
        obtain ⟨v, e1, e2⟩ := dpa_some hd q1
        obtain ⟨u, e3, e4⟩ := dpa_some hd' q2
        refine ⟨⟨xs, ys, v, u, hH, hH', e1, e3⟩, fun x' H' yl => ?_⟩
        obtain ⟨T, v', u', rfl, hT, rfl, f1, f2⟩ := yl
        have g1 := f1 xs hH
        have g2 := f2 ys hH'
        rw [e1] at g1
        rw [e3] at g2
        cases g1
        cases g2
        have gr := Grow.one s2 hT (.tup [v, u])
        exact ⟨_, gr, .tup (SqT.of upd_same) (.cons (dp_mono (s1.trans gr.s) _ _ e2) (.cons (dp_mono (s1.trans gr.s) _ _ e4) .nil))⟩
  · rw [List.length_zipWith] at hl
    rw [dpa_len hd, dpa_len hd']
    omega
theorem walk_zipT {K : PySem.W.Frag} {S : Hp} {c d : Addr} {xs ys : List V} {ds es : List Dt} (h : SqT K S c xs) (h' : SqT K S d ys) (hd : DpAll K S xs ds) (hd' : DpAll K S ys es) : Walk K (RZ.ItzT K c d) S (ds.zipWith (fun x y => .tuple [x, y]) es) := by
  intro i S1 H1 s1 s2
  have hH : SqT K H1 c xs := sqT_mono s2 (sqT_mono s1 h)
  have hH' : SqT K H1 d ys := sqT_mono s2 (sqT_mono s1 h')
  refine ⟨fun z e => ?_, fun hl => ⟨xs, ys, hH, hH', ?_⟩⟩
  · rw [List.getElem?_zipWith] at e
    cases q1 : ds[i]? with
    | none => rw [q1] at e; cases e
    | some x =>
      cases q2 : es[i]? with
      | none => rw [q1, q2] at e; cases e
      | some y =>
        rw [q1, q2] at e
        cases e
        obtain ⟨v, e1, e2⟩ := dpa_some hd q1
        obtain ⟨u, e3, e4⟩ := dpa_some hd' q2
        refine ⟨⟨xs, ys, v, u, hH, hH', e1, e3⟩, fun x' H' yl => ?_⟩
        obtain ⟨T, v', u', rfl, hT, rfl, f1, f2⟩ := yl
        have g1 := f1 xs hH
        have g2 := f2 ys hH'
        rw [e1] at g1
        rw [e3] at g2
        cases g1
        cases g2
        have gr := Grow.one s2 hT (.tup [v, u])
        exact ⟨_, gr, .tup (SqT.of upd_same) (.cons (dp_mono (s1.trans gr.s) _ _ e2) (.cons (dp_mono (s1.trans gr.s) _ _ e4) .nil))⟩
  · rw [List.length_zipWith] at hl
    rw [dpa_len hd, dpa_len hd']
    omega
theorem d_zip {elts : List Expr} {kk : Nat} {tpos : Pos} (hm : X.mg "zip" = none) (ha : PA X [a, b] (tA X.K X.mg W ml)) (hg : Gl X "zip" := by rfl)
    (hs : starEach [a, b] X.env = (false, eval a X.env) :: starEach [b] X.env := by rfl) (hpl : (backTo pos (starEach [b] X.env)).any (·.1) = false := by rfl) :
    PI X (.Tuple elts kk tpos) (.Call (.Name "zip" p) [a, b] [] pos) (tI X.K X.mg W (mArg zipD ml)) :=
  pi_imp (RZ.pi_zipA hg hm ha hs hpl) fun σ H R w => rd_arg w fun G S1 H1 ρ1 vs ds es R1 hd e k => by
    unfold zipD at e
    split at e
    · cases e
      cases hd with
      | cons h1 h2 =>
        cases h2 with
        | cons h3 h4 =>
          cases h4
          cases h1 with
          | lst p1 p2 =>
            cases h3 with
            | lst p3 p4 => exact ⟨_, _, _, _, rfl, .inl ⟨R1.sub.seq p1, R1.sub.seq p3, k _ (walk_zip p1 p3 p2 p4)⟩⟩
    · cases e
      cases hd with
      | cons h1 h2 =>
        cases h2 with
        | cons h3 h4 =>
          cases h4
          cases h1 with
          | tup p1 p2 =>
            cases h3 with
            | tup p3 p4 => exact ⟨_, _, _, _, rfl, .inr ⟨sqT_mono R1.sub p1, sqT_mono R1.sub p3, k _ (walk_zipT p1 p3 p2 p4)⟩⟩
    · cases e
end
end PD
/-! PD5: comprehensions over data. -/
namespace PD
open PySem L2

/-! ### slots put away for a block and taken back -/
theorem kills_get : ∀ (l : List Nat) (ρ : Ev) (j : Nat), (kills l ρ)[j]? = if j ∈ l then (ρ[j]?).map (fun _ => Sl.un) else ρ[j]?
  | [], ρ, j => by simp [kills]
  | i :: l, ρ, j => by
    show (kills l (ρ.set i .un))[j]? = _
    rw [kills_get l]
    by_cases h1 : j ∈ l
    · rw [if_pos h1, if_pos (List.mem_cons_of_mem _ h1)]
      by_cases h2 : i = j
      · subst h2
        rw [List.getElem?_set]
        by_cases h3 : i < ρ.length
        · rw [if_pos rfl, if_pos h3, List.getElem?_eq_getElem h3]; rfl
        · rw [if_pos rfl, if_neg h3, List.getElem?_eq_none (by omega)]
      · rw [get_set_ne h2]
    · rw [if_neg h1]
      by_cases h2 : i = j
      · subst h2
        rw [if_pos List.mem_cons_self, List.getElem?_set, if_pos rfl]
        by_cases h3 : i < ρ.length
        · rw [if_pos h3, List.getElem?_eq_getElem h3]; rfl
        · rw [if_neg h3, List.getElem?_eq_none (by omega)]; rfl
      · rw [get_set_ne h2, if_neg (by simp [h1, Ne.symm h2])]
theorem kills_len : ∀ (l : List Nat) (ρ : Ev), (kills l ρ).length = ρ.length
  | [], ρ => rfl
  | i :: l, ρ => by
    show (kills l (ρ.set i .un)).length = _
    rw [kills_len l, List.length_set]
theorem wipe_get : ∀ (l : List Nat) (σ : St) (j : Nat), (wipe σ l)[j]? = if j ∈ l then (σ[j]?).map (fun _ => (none : Option V)) else σ[j]?
  | [], σ, j => by simp [wipe]
  | i :: l, σ, j => by
    show ((wipe σ l).set i none)[j]? = _
    rw [List.getElem?_set]
    by_cases h2 : i = j
    · subst h2
      rw [if_pos rfl, if_pos List.mem_cons_self, wipe_length]
      by_cases h3 : i < σ.length
      · rw [if_pos h3, List.getElem?_eq_getElem h3]; rfl
      · rw [if_neg h3, List.getElem?_eq_none (by omega)]; rfl
    · rw [if_neg h2, wipe_get l]
      by_cases h1 : j ∈ l
      · rw [if_pos h1, if_pos (List.mem_cons_of_mem _ h1)]
      · rw [if_neg h1, if_neg (by simp [h1, Ne.symm h2])]
theorem wipe_off {is vs : List Nat} {σ σ' : St} (o : Off is σ σ') (h : ∀ i ∈ is, i ∈ vs) : wipe σ' vs = wipe σ vs := by
  apply List.ext_getElem?
  intro j
  rw [wipe_get, wipe_get]
  by_cases hj : j ∈ vs
  · rw [if_pos hj, if_pos hj]
    by_cases h3 : j < σ.length
    · rw [List.getElem?_eq_getElem h3, List.getElem?_eq_getElem (by rw [o.1]; exact h3)]; rfl
    · have ol := o.1
      rw [List.getElem?_eq_none (show σ'.length ≤ j by omega), List.getElem?_eq_none (show σ.length ≤ j by omega)]
  · rw [if_neg hj, if_neg hj]
    exact o.2 j fun z => hj (h j z)
def restore (vs : List Nat) (ρ0 ρ : Ev) : Ev := vs.foldl (fun r i => r.set i (ρ0.getD i .un)) ρ
theorem restore_get (ρ0 : Ev) : ∀ (l : List Nat) (ρ : Ev) (j : Nat), (restore l ρ0 ρ)[j]? = if j ∈ l then (ρ[j]?).map (fun _ => ρ0.getD j .un) else ρ[j]?
  | [], ρ, j => by simp [restore]
  | i :: l, ρ, j => by
    show (restore l ρ0 (ρ.set i (ρ0.getD i .un)))[j]? = _
    rw [restore_get ρ0 l]
    by_cases h1 : j ∈ l
    · rw [if_pos h1, if_pos (List.mem_cons_of_mem _ h1)]
      by_cases h2 : i = j
      · subst h2
        rw [List.getElem?_set]
        by_cases h3 : i < ρ.length
        · rw [if_pos rfl, if_pos h3, List.getElem?_eq_getElem h3]; rfl
        · rw [if_pos rfl, if_neg h3, List.getElem?_eq_none (by omega)]
      · rw [get_set_ne h2]
    · rw [if_neg h1]
      by_cases h2 : i = j
      · subst h2
        rw [if_pos List.mem_cons_self, List.getElem?_set, if_pos rfl]
        by_cases h3 : i < ρ.length
        · rw [if_pos h3, List.getElem?_eq_getElem h3]; rfl
        · rw [if_neg h3, List.getElem?_eq_none (by omega)]; rfl
      · rw [get_set_ne h2, if_neg (by simp [h1, Ne.symm h2])]
theorem restore_len (ρ0 : Ev) : ∀ (l : List Nat) (ρ : Ev), (restore l ρ0 ρ).length = ρ.length
  | [], ρ => rfl
  | i :: l, ρ => by
    show (restore l ρ0 (ρ.set i (ρ0.getD i .un))).length = _
    rw [restore_len ρ0 l, List.length_set]
def noOw (vs : List Nat) (ρ : Ev) : Bool := vs.all fun i => match (ρ[i]? : Option Sl) with
  | some (.ow _) => false
  | some (.od _) => false
  | _ => true
theorem noOw_od {vs : List Nat} {ρ : Ev} (h : noOw vs ρ = true) {i : Nat} (hi : i ∈ vs) (ds : List (Dt × Dt)) : ρ[i]? ≠ some (.od ds) := fun z => by
  have q := List.all_eq_true.mp h i hi
  rw [z] at q
  cases q
theorem noOw_ok {vs : List Nat} {ρ : Ev} (h : noOw vs ρ = true) {i : Nat} (hi : i ∈ vs) (ds : List Dt) : ρ[i]? ≠ some (.ow ds) := fun z => by
  have q := List.all_eq_true.mp h i hi
  rw [z] at q
  cases q
section
variable {K : PySem.W.Frag} {G : Ent} {S S' H H' : Hp} {σ σ' : St} {ρ ρ' : Ev} {vs : List Nat}
/-- other slots, each forgotten, as it was, or told anew -/
theorem Rep.slots (R : Rep K G S H σ ρ) (hl : ρ'.length = σ'.length)
    (h : ∀ (j : Nat) (sl : Sl), ρ'[j]? = some sl → sl = .un ∨ (ρ[j]? = some sl ∧ σ'[j]? = σ[j]?) ∨ ∃ d v, sl = .sh d ∧ σ'[j]? = some (some v) ∧ Dp K S v d)
    (hio : ∀ i a, (i, a) ∈ G.io → ρ'[i]? = ρ[i]? ∧ σ'[i]? = σ[i]?) : Rep K G S H σ' ρ' := by
  have ow : ∀ (j : Nat), isO ρ'[j]? → isO ρ[j]? ∧ σ'[j]? = σ[j]? := fun j e => by
    rcases isO_cases e with ⟨ds, e⟩ | ⟨ds, e⟩
    · rcases h j _ e with z | z | ⟨d, v, z, _⟩
      · cases z
      · exact ⟨by rw [z.1]; trivial, z.2⟩
      · cases z
    · rcases h j _ e with z | z | ⟨d, v, z, _⟩
      · cases z
      · exact ⟨by rw [z.1]; trivial, z.2⟩
      · cases z
  refine ⟨R.sub, R.ent, R.frm, R.new, hl, fun j sl e => ?_, fun i j a h1 h2 h3 h4 => ?_, fun i a e => ?_⟩
  · rcases h j sl e with rfl | ⟨e1, e2⟩ | ⟨d, v, rfl, e1, e2⟩
    · trivial
    · rw [e2]; exact R.slot j sl e1
    · exact ⟨v, e1, e2⟩
  · obtain ⟨p1, p2⟩ := ow i h1
    obtain ⟨p3, p4⟩ := ow j h2
    exact R.dist i j a p1 p3 (p2 ▸ h3) (p4 ▸ h4)
  · obtain ⟨e1, e2⟩ := hio i a e
    rw [e1, e2]
    exact R.io i a e
theorem Rep.wiped (R : Rep K G S H σ ρ) (hf : ∀ i ∈ vs, Free G i) : Rep K G S H (wipe σ vs) (kills vs ρ) := by
  refine R.slots (by rw [kills_len, wipe_length]; exact R.len) (fun j sl e => ?_) fun i a e => ?_
  · rw [kills_get] at e
    by_cases hj : j ∈ vs
    · rw [if_pos hj] at e
      cases q : ρ[j]? with
      | none => rw [q] at e; cases e
      | some x => rw [q] at e; cases e; exact .inl rfl
    · rw [if_neg hj] at e
      exact .inr (.inl ⟨e, by rw [wipe_get, if_neg hj]⟩)
  · have hn : i ∉ vs := fun z => hf i z _ e rfl
    rw [kills_get, wipe_get, if_neg hn, if_neg hn]
    exact ⟨rfl, rfl⟩
theorem Rep.restored {ρ0 : Ev} {S0 H0 : Hp} (R0 : Rep K G S0 H0 σ ρ0) (s : Same S0 S) (hn : noOw vs ρ0 = true) (R : Rep K G S H (wipe σ vs) ρ) : Rep K G S H σ (restore vs ρ0 ρ) := by
  have hlen : ρ.length = σ.length := by rw [R.len, wipe_length]
  have hni : ∀ (i : Nat) (a : Addr), (i, a) ∈ G.io → i ∉ vs := fun i a e z => by
    obtain ⟨⟨ds, q⟩, _⟩ := R0.io i a e
    exact noOw_ok hn z ds q
  refine R.slots (by rw [restore_len]; exact hlen) (fun j sl e => ?_) fun i a e => ?_
  · rw [restore_get] at e
    by_cases hj : j ∈ vs
    · rw [if_pos hj] at e
      have hlt : j < ρ.length := by
        by_cases hlt : j < ρ.length
        · exact hlt
        · rw [List.getElem?_eq_none (by omega)] at e; cases e
      rw [List.getElem?_eq_getElem hlt] at e
      cases e
      have hlt0 : j < ρ0.length := by rw [R0.len, ← hlen]; exact hlt
      have e0 : ρ0[j]? = some ρ0[j] := List.getElem?_eq_getElem hlt0
      have e1 : ρ0.getD j .un = ρ0[j] := by rw [List.getD_eq_getElem?_getD, e0]; rfl
      rw [e1]
      have q := R0.slot j _ e0
      cases z : ρ0[j] with
      | un => exact .inl rfl
      | sh d =>
        rw [z] at q
        obtain ⟨v, q1, q2⟩ := q
        exact .inr (.inr ⟨d, v, rfl, q1, dp_mono s _ _ q2⟩)
      | ow ds =>
        rw [z] at e0
        exact absurd e0 (noOw_ok hn hj ds)
      | od ds =>
        rw [z] at e0
        exact absurd e0 (noOw_od hn hj ds)
    · rw [if_neg hj] at e
      exact .inr (.inl ⟨e, by rw [wipe_get, if_neg hj]⟩)
  · rw [restore_get, wipe_get, if_neg (hni i a e), if_neg (hni i a e)]
    exact ⟨rfl, rfl⟩
/-- no slot owns p -/
def Un0 (σ : St) (ρ : Ev) (p : Addr) : Prop := ∀ (i : Nat), isO ρ[i]? → σ[i]? ≠ some (some (.ref p))
/-- an object that no slot owns and that is not still, is laid anew -/
theorem Rep.other (R : Rep K G S H σ ρ) {p : Addr} (h1 : S p = none) (h2 : G.H p = none) (h3 : Un0 σ ρ p) (o : HO) : Rep K G S (upd H p o) σ ρ := by
  refine ⟨fun a u e => ?_, R.ent, fun a u e hn => ?_, R.new, R.len, fun i sl e => ?_, R.dist, R.io⟩
  · have ne : a ≠ p := fun z => by subst z; rw [h1] at e; cases e
    rw [upd_ne ne]; exact R.sub a u e
  · have ne : a ≠ p := fun z => by subst z; rw [h2] at e; cases e
    rw [upd_ne ne]; exact R.frm a u e hn
  · have q := R.slot i sl e
    cases sl with
    | un => trivial
    | sh d => exact q
    | ow ds =>
      obtain ⟨a, xs, e1, q1, q2, q3, q4⟩ := q
      have ne : a ≠ p := fun z => by subst z; exact h3 i (by rw [e]; trivial) e1
      exact ⟨a, xs, e1, by rw [upd_ne ne]; exact q1, q2, q3, q4⟩
    | od ks =>
      obtain ⟨a, xs, e1, q1, q2, q3, q4⟩ := q
      have ne : a ≠ p := fun z => by subst z; exact h3 i (by rw [e]; trivial) e1
      exact ⟨a, xs, e1, by rw [upd_ne ne]; exact q1, q2, q3, q4⟩
theorem un0_new (R : Rep K G S H σ ρ) {p : Addr} (h : H p = none) : Un0 σ ρ p := fun i e z => by
  rcases isO_cases e with ⟨ds, e⟩ | ⟨ds, e⟩
  · obtain ⟨a, xs, e1, q1, _⟩ := R.slot i _ e
    rw [z] at e1; cases e1
    rw [h] at q1; cases q1
  · obtain ⟨a, xs, e1, q1, _⟩ := R.slot i _ e
    rw [z] at e1; cases e1
    rw [h] at q1; cases q1
/-- from a new entry on: what was there and was no slot's own is there still, and no slot's own -/
theorem Rep.held (R' : Rep K (entN S H σ ρ) S' H' σ' ρ') {p : Addr} {o : HO} (hp : H p = some o) (hs : S p = none) (hu : Un0 σ ρ p) : H' p = some o ∧ S' p = none ∧ Un0 σ' ρ' p := by
  have hn : p ∉ (ownedIn σ ρ).map (·.2) := fun z => by
    obtain ⟨⟨i, b⟩, h1, h2⟩ := List.mem_map.mp z
    have h3 : b = p := h2
    subst h3
    obtain ⟨⟨ds, h4⟩, h5⟩ := mem_owned.mp h1
    exact hu i (by rw [h4]; trivial) h5
  have hh : hide σ ρ H p = some o := hide_of hp fun ⟨i, ks, h4, h5⟩ => hu i (by rw [h4]; trivial) h5
  refine ⟨R'.frm p o hh hn, ?_, fun i e z => ?_⟩
  · cases q : S' p with
    | none => rfl
    | some u =>
      rcases R'.new p u q with y | y
      · have y' : S p = some u := y
        rw [hs] at y'; cases y'
      · have y' : hide σ ρ H p = none := y
        rw [hh] at y'; cases y'
  · rcases isO_cases e with ⟨ds, e⟩ | ⟨ds, e⟩
    · obtain ⟨a, xs, e1, _, _, _, q⟩ := R'.slot i _ e
      rw [z] at e1; cases e1
      rcases q with q | q
      · exact hn q
      · have q' : hide σ ρ H p = none := q
        rw [hh] at q'; cases q'
    · obtain ⟨a, xs, e1, _, _, _, q⟩ := R'.slot i _ e
      rw [z] at e1; cases e1
      have q' : hide σ ρ H p = none := q
      rw [hh] at q'; cases q'
theorem Rep.backS (R : Rep K G S H σ ρ) (R' : Rep K (entN S H σ ρ) S' H' σ' ρ') : Rep K G S' H' σ' ρ' := by
  have ow : ∀ a, a ∈ (ownedIn σ ρ).map (·.2) → a ∈ G.io.map (·.2) ∨ G.H a = none := fun a h => by
    obtain ⟨⟨i, b⟩, h1, h2⟩ := List.mem_map.mp h
    have h3 : b = a := h2
    subst h3
    obtain ⟨⟨ds, h4⟩, h5⟩ := mem_owned.mp h1
    obtain ⟨c, xs, e1, _, _, _, q⟩ := R.slot i _ h4
    rw [h5] at e1; cases e1
    exact q
  have hn : ∀ a, hide σ ρ H a = none → G.H a = none := fun a h => by
    rcases hide_none h with z | z
    · exact R.gone z
    · exact (R.ownD z).1
  refine ⟨R'.sub, R.ent.trans R'.ent, fun a o h1 h2 => ?_, fun a o h1 => ?_, R'.len, fun i sl e => ?_, R'.dist, fun i a e => ?_⟩
  · refine R'.frm a o (hide_of (R.frm a o h1 h2) fun z => ?_) fun h3 => ?_
    · rw [(R.ownD z).1] at h1; cases h1
    · rcases ow a h3 with h4 | h4
      · exact h2 h4
      · rw [h4] at h1; cases h1
  · rcases R'.new a o h1 with h2 | h2
    · exact R.new a o h2
    · exact .inr (hn a h2)
  · have q := R'.slot i sl e
    cases sl with
    | un => trivial
    | sh d => exact q
    | ow ds =>
      obtain ⟨a, xs, e1, q1, q2, q3, q4⟩ := q
      refine ⟨a, xs, e1, q1, q2, q3, ?_⟩
      rcases q4 with q4 | q4
      · exact ow a q4
      · exact .inr (hn a q4)
    | od ks =>
      obtain ⟨a, xs, e1, q1, q2, q3, q4⟩ := q
      exact ⟨a, xs, e1, q1, q2, q3, hn a q4⟩
  · obtain ⟨h1, h2⟩ := R.io i a e
    exact R'.io i a (mem_owned.mpr ⟨h1, h2⟩)
theorem un0_wipe {p : Addr} (h : Un0 σ ρ p) : Un0 (wipe σ vs) (kills vs ρ) p := fun i e z => by
  rw [kills_get] at e
  by_cases hi : i ∈ vs
  · rw [if_pos hi] at e
    cases q : ρ[i]? with
    | none => rw [q] at e; exact e.elim
    | some x => rw [q] at e; exact e.elim
  · rw [if_neg hi] at e
    rw [wipe_get, if_neg hi] at z
    exact h i e z
end

/-! ### one for -/
def lcL (vs : List Nat) (t : Dt → Ev → Option Ev) (tt : M Bool) (te : M Rv) : List Dt → M (List Dt)
  | [] => pur []
  | d :: ds => fun ρ => match t d ρ with
    | none => none
    | some ρ1 => match tt ρ1 with
      | some (.ok true ρ2) => match te ρ2 with
        | some (.ok (.val y) ρ3) => match lcL vs t tt te ds (kills vs ρ3) with
          | some (.ok ys ρ4) => some (.ok (y :: ys) ρ4)
          | _ => none
        | _ => none
      | some (.ok false ρ2) => lcL vs t tt te ds (kills vs ρ2)
      | _ => none
def mLc (vs : List Nat) (src : M (List Dt)) (t : Dt → Ev → Option Ev) (tt : M Bool) (te : M Rv) : M (List Dt) := bd src fun ds ρ0 =>
  match noOw vs ρ0 with
  | false => none
  | true => match lcL vs t tt te ds (kills vs ρ0) with
    | some (.ok ys ρ1) => match fits ys.length with
      | some _ => some (.ok ys (restore vs ρ0 ρ1))
      | none => none
    | _ => none
def mYes : M Bool := pur true
def W0 : WX := fun _ _ _ _ => False
section
variable {X : Cx} {W : WX}
theorem pts_imp {ifs : List Expr} {t t' : TT} (h : PTs X ifs t) (i : ∀ σ H Q, t' σ H Q → t σ H Q) : PTs X ifs t' := ⟨fun pins s σ H Q J w => h.run pins s σ H Q J (i _ _ _ w)⟩
theorem d_yes : PTs X [] (tB X.K X.mg W mYes) := pts_imp pts_nil fun σ H Q w => by
  obtain ⟨G, S, ρ, o, R, e, q⟩ := w
  cases e
  exact q S H R (Same.refl _)
theorem d_ift {c : Expr} {m : M Bool} (h : PT X c (tB X.K X.mg W m)) : PTs X [c] (tB X.K X.mg W m) := pts_one h
/-- the list that is made, at a turn -/
structure LcI (K : PySem.W.Frag) (G : Ent) (S0 : Hp) (σ0 : St) (D : Addr) (go : M (List Dt)) (ys : List Dt) (ρf : Ev) (H : Hp) : Prop where
  ex : ∃ (S : Hp) (ρ : Ev) (acc : List Dt) (va : List V) (rest : List Dt), Rep K G S H σ0 ρ ∧ Same S0 S ∧ H D = some (.lst va) ∧ DpAll K S va acc ∧ S D = none ∧ Un0 σ0 ρ D ∧ go ρ = some (.ok rest ρf) ∧ acc ++ rest = ys
theorem rd_lc {K : PySem.W.Frag} {mg : Str → Option Value} {W : WX} {vs is : List Nat} {src : M (List Dt)} {t : Dt → Ev → Option Ev} {tt : M Bool} {te : M Rv} (hsub : ∀ i ∈ is, i ∈ vs) {σ : St} {H : Hp} {Q : VK} (w : tN K mg W (mLc vs src t tt te) σ H Q) :
    tLc (tI K mg W src) (tG K is t) (tB K mg W0 tt) (tD K mg W0 te) vs σ H Q := by
  obtain ⟨G, S, ρ, o, R, e, q⟩ := w
  rcases bd_some e with ⟨ds, ρ1, e1, e2⟩ | ⟨c, ρ', e1, rfl⟩
  · refine ⟨G, S, ρ, _, R, e1, fun J S1 H1 R1 s1 wk D hD => ?_⟩
    cases hno : noOw vs ρ1 with
    | false => rw [hno] at e2; cases e2
    | true =>
      rw [hno] at e2
      try dsimp only at e2
      cases hl : lcL vs t tt te ds (kills vs ρ1) with
      | none => rw [hl] at e2; cases e2
      | some x =>
        cases x with
        | ex c ρ' => rw [hl] at e2; cases e2
        | ok ys ρf =>
          rw [hl] at e2
          dsimp only at e2
          cases hfit : fits ys.length with
          | none => rw [hfit] at e2; cases e2
          | some u =>
            rw [hfit] at e2
            cases e2
            have hfr : ∀ i ∈ vs, Free G i := fun i hi => free_now R1 (noOw_ok hno hi)
            have hgD : G.H D = none := R1.gone hD
            have Rw : Rep K G S1 (upd H1 D (.lst [])) (wipe σ vs) (kills vs ρ1) := (R1.wiped hfr).alloc hD _
            refine ⟨fun i m H => m = ds.length - i ∧ LcI K G S1 (wipe σ vs) D (lcL vs t tt te (ds.drop i)) ys ρf H,
              ⟨ds.length, by simp, S1, _, [], [], ys, Rw, Same.refl _, upd_same, .nil, R1.sub.free hD, un0_wipe (un0_new R1 hD), hl, rfl⟩, ?_⟩
            rintro i m H2 ⟨rfl, S2, ρ2, acc, va, rest, R2, s2, hDl, hacc, hSD, hun, hgo, happ⟩
            obtain ⟨w1, w2⟩ := wk i S2 H2 s2 R2.sub
            by_cases hlt : i < ds.length
            · have hdr : ds.drop i = ds[i] :: ds.drop (i + 1) := List.drop_eq_getElem_cons hlt
              rw [hdr] at hgo
              obtain ⟨go, yl⟩ := w1 ds[i] (List.getElem?_eq_getElem hlt)
              refine .inr ⟨go, LcI K G S1 (wipe σ vs) D (lcL vs t tt te (ds.drop (i + 1))) ys ρf, fun H' z => ⟨ds.length - (i + 1), by omega, rfl, z⟩, fun x H3 y => ?_⟩
              obtain ⟨S3, gr, hx⟩ := yl x H3 y
              have R3 := R2.grow gr
              have hD3 : H3 D = some (.lst va) := gr.h _ _ hDl
              have hS3 : S3 D = none := by
                cases z : S3 D with
                | none => rfl
                | some u =>
                  rcases gr.new D u z with y | y
                  · rw [hSD] at y; cases y
                  · rw [hDl] at y; cases y
              unfold lcL at hgo
              try dsimp only at hgo
              cases q1 : t ds[i] ρ2 with
              | none => rw [q1] at hgo; cases hgo
              | some ρ3 =>
                rw [q1] at hgo
                refine ⟨entN S3 H3 (wipe σ vs) ρ2, S3, ρ2, ds[i], ρ3, R3.again, hx, q1, fun σ' R4 off => ?_⟩
                have hw : wipe σ' vs = wipe (wipe σ vs) vs := wipe_off off hsub
                have hww : wipe (wipe σ vs) vs = wipe σ vs := by
                  apply List.ext_getElem?
                  intro j
                  rw [wipe_get, wipe_get]
                  by_cases hj : j ∈ vs
                  · rw [if_pos hj, if_pos hj]; cases σ[j]? <;> rfl
                  · rw [if_neg hj, if_neg hj]
                refine ⟨hw.trans hww, ?_⟩
                try dsimp only at hgo
                cases q2 : tt ρ3 with
                | none => rw [q2] at hgo; cases hgo
                | some y2 =>
                  cases y2 with
                  | ex c ρ' => rw [q2] at hgo; cases hgo
                  | ok b ρ4 =>
                    refine ⟨_, S3, ρ3, _, R4, q2, fun S5 H5 R5 s5 => ?_⟩
                    rw [q2] at hgo
                    cases b with
                    | false =>
                      refine iteF ?_
                      obtain ⟨k1, k2, k3⟩ := R5.held hD3 hS3 hun
                      have R6 := (R3.backS R5).wiped (vs := vs) hfr
                      rw [hw, hww] at R6
                      refine ⟨S5, _, acc, va, rest, R6, (s2.trans gr.s).trans s5, k1, dpAll_mono (gr.s.trans s5) _ _ hacc, k2, ?_, hgo, happ⟩
                      have := un0_wipe (vs := vs) k3
                      rw [hw, hww] at this
                      exact this
                    | true =>
                      refine iteT ?_
                      try dsimp only at hgo
                      cases q3 : te ρ4 with
                      | none => rw [q3] at hgo; cases hgo
                      | some y3 =>
                        cases y3 with
                        | ex c ρ' => rw [q3] at hgo; cases hgo
                        | ok r ρ5 =>
                          rw [q3] at hgo
                          cases r with
                          | loc _ => cases hgo
                          | val yd =>
                            try dsimp only at hgo
                            cases q4 : lcL vs t tt te (ds.drop (i + 1)) (kills vs ρ5) with
                            | none => rw [q4] at hgo; cases hgo
                            | some y4 =>
                              cases y4 with
                              | ex c ρ' => rw [q4] at hgo; cases hgo
                              | ok rest' ρ6 =>
                                rw [q4] at hgo
                                cases hgo
                                refine ⟨_, S5, ρ4, _, R5, q3, fun v S7 H7 R7 s7 rv => ?_⟩
                                obtain ⟨k1, k2, k3⟩ := R7.held hD3 hS3 hun
                                have hrv : Dp K S7 v yd := rv
                                have hlen : va.length < sizeLine := by
                                  have z1 := dpa_len hacc
                                  have z2 := fits_ok hfit
                                  rw [← happ, List.length_append, List.length_cons] at z2
                                  omega
                                refine ⟨va, k1, hlen, ?_⟩
                                have R8 := ((R3.backS R7).other k2 hgD k3 (.lst (va ++ [v]))).wiped (vs := vs) hfr
                                rw [hw, hww] at R8
                                refine ⟨S7, _, acc ++ [yd], va ++ [v], rest', R8, ((s2.trans gr.s).trans s5).trans s7, upd_same, dpa_snoc (dpAll_mono ((gr.s.trans s5).trans s7) _ _ hacc) hrv, k2, ?_, q4, by rw [← happ, List.append_assoc]; rfl⟩
                                have := un0_wipe (vs := vs) k3
                                rw [hw, hww] at this
                                exact this
            · rw [List.drop_eq_nil_of_le (by omega)] at hgo
              cases hgo
              rw [List.append_nil] at happ
              subst happ
              refine .inl ⟨w2 (by omega), ?_⟩
              refine q (.ref D) S2 H2 (R1.restored s2 hno R2) (s1.trans s2) ⟨D, va, rfl, hDl, hacc, hSD, hgD, fun j dj h1 h2 => ?_⟩
              rw [restore_get] at h1
              by_cases hj : j ∈ vs
              · rw [if_pos hj] at h1
                have hlt0 : j < ρ1.length := by
                  by_cases hlt0 : j < ρ1.length
                  · exact hlt0
                  · exfalso
                    rw [List.getElem?_eq_none (by rw [R2.len, wipe_length, ← R1.len]; omega)] at h1
                    cases h1
                have e0 : ρ1[j]? = some ρ1[j] := List.getElem?_eq_getElem hlt0
                cases z : ρf[j]? with
                | none => rw [z] at h1; cases h1
                | some y =>
                  rw [z] at h1
                  have h1' : some (ρ1.getD j .un) = some (Sl.ow dj) := h1
                  rw [List.getD_eq_getElem?_getD, e0] at h1'
                  have h3 : ρ1[j] = Sl.ow dj := Option.some.inj h1'
                  rw [h3] at e0
                  exact noOw_ok hno hj dj e0
              · rw [if_neg hj] at h1
                refine hun j (by rw [h1]; trivial) ?_
                rw [wipe_get, if_neg hj]
                exact h2
  · exact ⟨G, S, ρ, _, R, e1, fun S' H' R' s' => q S' H' R' s'⟩
theorem d_lc {elt tg iter : Expr} {ifs : List Expr} {scope : Scope} {own : List (Str × Nat)} {pos : Pos} {src : M (List Dt)} {is : List Nat} {t : Dt → Ev → Option Ev} {tt : M Bool} {te : M Rv}
    (hc : X.calm = true) (hN : X.N.Nodup) (hi : PI X tg iter (tI X.K X.mg W src)) (ok : BlkOk X.N X.env.scope scope own)
    (hg : ∀ (s : Shared) (H : Hp) (C : Addr) (cl : List (Str × Addr)) (fp : List Addr), PG (X.blk s H scope (compEnvC scope cl C X.env) fp) tg (tG X.K is t))
    (ht : ∀ (s : Shared) (H : Hp) (C : Addr) (cl : List (Str × Addr)) (fp : List Addr), PTs (X.blk s H scope (compEnvC scope cl C X.env) fp) ifs (tB X.K X.mg W0 tt))
    (he : ∀ (s : Shared) (H : Hp) (C : Addr) (cl : List (Str × Addr)) (fp : List Addr), PE (X.blk s H scope (compEnvC scope cl C X.env) fp) elt (tD X.K X.mg W0 te))
    (hsub : ∀ i ∈ is, i ∈ own.map (·.2) := by decide) (hs : ∀ x, foldedSetIterable iter X.env x = pure x := by intro _; rfl) :
    PE X (.ListComp elt [⟨tg, iter, ifs, 0⟩] scope pos) (tN X.K X.mg W (mLc (own.map (·.2)) src t tt te)) := by
  exact pe_imp (pe_lc hc hN hi ok hg ht he hs) fun σ H Q w => rd_lc hsub w
/-- name = [..] on one line -/
theorem d_setLc {i : Nat} {y : Str} {py : Pos} {elt tg iter : Expr} {ifs : List Expr} {scope : Scope} {own : List (Str × Nat)} {pos spos : Pos} {src : M (List Dt)} {is ios : List Nat} {t : Dt → Ev → Option Ev} {tt : M Bool} {te : M Rv}
    (hc : X.calm = true) (hN : X.N.Nodup) (hi : PI X tg iter (tI X.K X.mg W src)) (ok : BlkOk X.N X.env.scope scope own)
    (hg : ∀ (s : Shared) (H : Hp) (C : Addr) (cl : List (Str × Addr)) (fp : List Addr), PG (X.blk s H scope (compEnvC scope cl C X.env) fp) tg (tG X.K is t))
    (ht : ∀ (s : Shared) (H : Hp) (C : Addr) (cl : List (Str × Addr)) (fp : List Addr), PTs (X.blk s H scope (compEnvC scope cl C X.env) fp) ifs (tB X.K X.mg W0 tt))
    (he : ∀ (s : Shared) (H : Hp) (C : Addr) (cl : List (Str × Addr)) (fp : List Addr), PE (X.blk s H scope (compEnvC scope cl C X.env) fp) elt (tD X.K X.mg W0 te))
    (hio : i ∉ ios := by decide) (hy : X.N[i]? = some y := by rfl) (hyl : X.env.scope.names.lookup y = some .local := by rfl) (hsw : swapsWith (.ListComp elt [⟨tg, iter, ifs, 0⟩] scope pos) (some (.Name y py)) spos.line X.env = pure true := by rfl)
    (hsub : ∀ i ∈ is, i ∈ own.map (·.2) := by decide) (hs : ∀ x, foldedSetIterable iter X.env x = pure x := by intro _; rfl) :
    PS X (.Assign [.Name y py] (.ListComp elt [⟨tg, iter, ifs, 0⟩] scope pos) spos) (tS X.K X.mg W ios (sSetO i (mLc (own.map (·.2)) src t tt te))) :=
  ps_imp (ps_setLc hc hN hy hyl hsw hi ok hg ht he hs) fun D σ H w => by
    have z := rd_setO hio w
    exact rd_lc hsub z
theorem d_setLcF {i : Nat} {y : Str} {py : Pos} {elt tg iter : Expr} {ifs : List Expr} {scope : Scope} {own : List (Str × Nat)} {pos spos : Pos} {src : M (List Dt)} {is ios : List Nat} {t : Dt → Ev → Option Ev} {tt : M Bool} {te : M Rv}
    (hc : X.calm = true) (hN : X.N.Nodup) (hi : PI X tg iter (tI X.K X.mg W src)) (ok : BlkOk X.N X.env.scope scope own)
    (hg : ∀ (s : Shared) (H : Hp) (C : Addr) (cl : List (Str × Addr)) (fp : List Addr), PG (X.blk s H scope (compEnvC scope cl C X.env) fp) tg (tG X.K is t))
    (ht : ∀ (s : Shared) (H : Hp) (C : Addr) (cl : List (Str × Addr)) (fp : List Addr), PTs (X.blk s H scope (compEnvC scope cl C X.env) fp) ifs (tB X.K X.mg W0 tt))
    (he : ∀ (s : Shared) (H : Hp) (C : Addr) (cl : List (Str × Addr)) (fp : List Addr), PE (X.blk s H scope (compEnvC scope cl C X.env) fp) elt (tD X.K X.mg W0 te))
    (hio : i ∉ ios := by decide) (hy : X.N[i]? = some y := by rfl) (hyl : X.env.scope.names.lookup y = some .local := by rfl) (hsw : swapsWith (.ListComp elt [⟨tg, iter, ifs, 0⟩] scope pos) (some (.Name y py)) spos.line X.env = pure true := by rfl)
    (hsub : ∀ i ∈ is, i ∈ own.map (·.2) := by decide) (hs : ∀ x, foldedSetIterable iter X.env x = pure x := by intro _; rfl) :
    PS X (.Assign [.Name y py] (.ListComp elt [⟨tg, iter, ifs, 0⟩] scope pos) spos) (tS X.K X.mg W ios (sSet i (mFrz (mLc (own.map (·.2)) src t tt te)))) :=
  ps_imp (ps_setLc hc hN hy hyl hsw hi ok hg ht he hs) fun D σ H w => by
    have z := rd_frz (rd_set hio w)
    exact rd_lc hsub z
end
end PD
/-! PD6: defs and their calls over data. -/
namespace PD
open PySem L2

/-- what a def hands back: data that never changes, or a fresh list -/
inductive Rt where
  | val (d : Dt)
  | new (ds : List Dt)
abbrev Fn := Ev → Option (Ex Rt)
section
variable (K : PySem.W.Frag) (mg : Str → Option Value)
/-- a def's promise by its map -/
def spD (n : Nat) (f : Fn) : Sp := fun vs H Q E => ∃ S ρ o, vs.length = n ∧ Rep K ⟨S, H, ownedIn (vs.map some) ρ⟩ S H (vs.map some) ρ ∧ f ρ = some o ∧ match o with
  | .ok (.val d) ρ' => ∀ v S' H', Rep K ⟨S, H, ownedIn (vs.map some) ρ⟩ S' H' (vs.map some) ρ' → Same S S' → Dp K S' v d → Q v H'
  | .ok (.new ds) ρ' => ∀ v S' H', Rep K ⟨S, H, ownedIn (vs.map some) ρ⟩ S' H' (vs.map some) ρ' → Same S S' → Fresh K ⟨S, H, ownedIn (vs.map some) ρ⟩ S' H' (vs.map some) ρ' v ds → Q v H'
  | .ex c ρ' => ∀ S' H', Rep K ⟨S, H, ownedIn (vs.map some) ρ⟩ S' H' (vs.map some) ρ' → Same S S' → ∃ C, mg c = some (.ref C) ∧ E (.ref C) none H'
end
def isOw : Sl → Bool
  | .ow _ => true
  | _ => false
/-- the slots that own -/
def iosOf (ρ : Ev) : List Nat := (List.range ρ.length).filter fun i => match (ρ[i]? : Option Sl) with
  | some (.ow _) => true
  | _ => false
/-- the parameters' slots behind the body -/
def backSl : Option Sl → Sl → Sl
  | some (.ow _), u => u
  | some s, _ => s
  | none, _ => .un
def bkS (ρ ρ' : Ev) : Ev := (List.range ρ.length).map fun i => backSl ρ[i]? (ρ'.getD i .un)
/-- a def: n parameters, m slots in all, the parameters ios handed in to be changed -/
def run (n m : Nat) (ios : List Nat) (g : F) : Fn := fun ρ => if ρ.length = n ∧ iosOf ρ = ios then match g (ρ ++ List.replicate (m - n) .un) with
  | some (.nx ρ') => some (.ok (.val .none) (bkS ρ ρ'))
  | some (.rt d ρ') => some (.ok (.val d) (bkS ρ ρ'))
  | some (.rn ds ρ') => some (.ok (.new ds) (bkS ρ ρ'))
  | some (.ex c ρ') => some (.ex c (bkS ρ ρ'))
  | _ => none
  else none
section
variable {K : PySem.W.Frag} {mg : Str → Option Value} {S H S' H' : Hp} {ρ ρ' : Ev} {vs : List V}
theorem bkS_get {j : Nat} {sl : Sl} (h : (bkS ρ ρ')[j]? = some sl) : (∃ ds, ρ[j]? = some (.ow ds) ∧ sl = ρ'.getD j .un) ∨ (ρ[j]? = some sl ∧ ∀ ds, sl ≠ .ow ds) := by
  unfold bkS at h
  rw [List.getElem?_map] at h
  by_cases hj : j < ρ.length
  · rw [List.getElem?_range hj] at h
    have h' : some (backSl (ρ[j]?) (ρ'.getD j .un)) = some sl := h
    have e := List.getElem?_eq_getElem hj
    rw [e] at h' ⊢
    cases q : ρ[j] with
    | ow ds =>
      rw [q] at h'
      cases h'
      exact .inl ⟨ds, rfl, rfl⟩
    | un =>
      rw [q] at h'
      cases h'
      exact .inr ⟨rfl, fun ds z => by cases z⟩
    | sh d =>
      rw [q] at h'
      cases h'
      exact .inr ⟨rfl, fun ds z => by cases z⟩
    | od d =>
      rw [q] at h'
      cases h'
      exact .inr ⟨rfl, fun ds z => by cases z⟩
  · rw [List.getElem?_eq_none (by rw [List.length_range]; omega)] at h
    cases h
theorem bkS_len : (bkS ρ ρ').length = ρ.length := by unfold bkS; rw [List.length_map, List.length_range]
theorem iosOf_owned (R : Rep K ⟨S, H, ownedIn (vs.map some) ρ⟩ S H (vs.map some) ρ) : (ownedIn (vs.map some) ρ).map (·.1) = iosOf ρ := by
  have all : ∀ l : List Nat, (l.filterMap fun (i : Nat) => match (ρ[i]? : Option Sl), ((vs.map some)[i]? : Option (Option V)) with
      | some (.ow _), some (some (.ref a)) => some (i, a)
      | _, _ => none).map (·.1) = l.filter fun i => match (ρ[i]? : Option Sl) with
        | some (.ow _) => true
        | _ => false := by
    intro l
    induction l with
    | nil => rfl
    | cons i l ih =>
      cases q : ρ[i]? with
      | none => simp only [List.filterMap_cons, List.filter_cons, q]; exact ih
      | some s =>
        cases s with
        | un => simp only [List.filterMap_cons, List.filter_cons, q]; exact ih
        | sh d => simp only [List.filterMap_cons, List.filter_cons, q]; exact ih
        | od d => simp only [List.filterMap_cons, List.filter_cons, q]; exact ih
        | ow ds =>
          obtain ⟨a, xs, e1, _⟩ := R.slot i _ q
          simp only [List.filterMap_cons, List.filter_cons, q, e1, List.map_cons, if_pos]
          rw [ih]
  exact all _
theorem start_len {N : List Str} (h : vs.length ≤ N.length) : (L2.start N vs).length = N.length := by
  unfold L2.start
  rw [List.length_append, List.length_map, List.length_replicate]
  omega
theorem start_get {N : List Str} {i : Nat} (h : i < vs.length) : (L2.start N vs)[i]? = (vs.map some)[i]? := by
  unfold L2.start
  rw [List.getElem?_append_left (by rw [List.length_map]; exact h)]
/-- into the body -/
theorem Rep.into {N : List Str} (R : Rep K ⟨S, H, ownedIn (vs.map some) ρ⟩ S H (vs.map some) ρ) (hl : vs.length ≤ N.length) :
    Rep K ⟨S, H, ownedIn (vs.map some) ρ⟩ S H (L2.start N vs) (ρ ++ List.replicate (N.length - vs.length) .un) := by
  have hlen : ρ.length = vs.length := by rw [R.len, List.length_map]
  have low : ∀ (j : Nat) (sl : Sl), (ρ ++ List.replicate (N.length - vs.length) Sl.un)[j]? = some sl → sl = .un ∨ (ρ[j]? = some sl ∧ j < vs.length) := fun j sl e => by
    by_cases hj : j < ρ.length
    · rw [List.getElem?_append_left hj] at e
      exact .inr ⟨e, by omega⟩
    · rw [List.getElem?_append_right (by omega), List.getElem?_replicate] at e
      split at e
      · cases e; exact .inl rfl
      · cases e
  have lowO : ∀ (j : Nat), isO (ρ ++ List.replicate (N.length - vs.length) Sl.un)[j]? → isO ρ[j]? ∧ j < vs.length := fun j e => by
    rcases isO_cases e with ⟨ds, e⟩ | ⟨ds, e⟩
    · rcases low j _ e with z | ⟨p1, p2⟩
      · cases z
      · exact ⟨by rw [p1]; trivial, p2⟩
    · rcases low j _ e with z | ⟨p1, p2⟩
      · cases z
      · exact ⟨by rw [p1]; trivial, p2⟩
  refine ⟨R.sub, R.ent, R.frm, R.new, ?_, fun j sl e => ?_, fun i j a h1 h2 h3 h4 => ?_, fun i a e => ?_⟩
  · rw [List.length_append, List.length_replicate, start_len hl, hlen]
    omega
  · rcases low j sl e with rfl | ⟨e1, e2⟩
    · trivial
    · rw [start_get e2]; exact R.slot j sl e1
  · obtain ⟨p1, p2⟩ := lowO i h1
    obtain ⟨p3, p4⟩ := lowO j h2
    rw [start_get p2] at h3
    rw [start_get p4] at h4
    exact R.dist i j a p1 p3 h3 h4
  · obtain ⟨⟨ds, h1⟩, h2⟩ := R.io i a e
    have hi := (List.getElem?_eq_some_iff.mp h1).1
    refine ⟨⟨ds, by rw [List.getElem?_append_left hi]; exact h1⟩, ?_⟩
    rw [start_get (by omega)]; exact h2
/-- out of the body -/
theorem Rep.outof {σ : St} (R : Rep K ⟨S, H, ownedIn (vs.map some) ρ⟩ S H (vs.map some) ρ) (s : Same S S') (R' : Rep K ⟨S, H, ownedIn (vs.map some) ρ⟩ S' H' σ ρ') :
    Rep K ⟨S, H, ownedIn (vs.map some) ρ⟩ S' H' (vs.map some) (bkS ρ ρ') := by
  have ow : ∀ (j : Nat) (ds : List Dt), (bkS ρ ρ')[j]? = some (.ow ds) → ρ'[j]? = some (.ow ds) ∧ σ[j]? = (vs.map some)[j]? := fun j ds e => by
    rcases bkS_get e with ⟨dz, h1, h2⟩ | ⟨_, h2⟩
    · obtain ⟨a, xs, e1, _⟩ := R.slot j _ h1
      obtain ⟨⟨du, h3⟩, h4⟩ := R'.io j a (mem_owned.mpr ⟨⟨dz, h1⟩, e1⟩)
      rw [List.getD_eq_getElem?_getD, h3] at h2
      have h2' : Sl.ow ds = Sl.ow du := h2
      cases h2'
      exact ⟨h3, h4.trans e1.symm⟩
    · exact absurd rfl (h2 ds)
  have noD : ∀ (j : Nat) (ks : List (Dt × Dt)), (bkS ρ ρ')[j]? ≠ some (.od ks) := fun j ks e => by
    rcases bkS_get e with ⟨dz, h1, h2⟩ | ⟨h1, _⟩
    · obtain ⟨a, xs, e1, _⟩ := R.slot j _ h1
      obtain ⟨⟨du, h3⟩, _⟩ := R'.io j a (mem_owned.mpr ⟨⟨dz, h1⟩, e1⟩)
      rw [List.getD_eq_getElem?_getD, h3] at h2
      cases h2
    · obtain ⟨a, ob, e1, q1, _, _, q4⟩ := R.slot j _ h1
      have q4 : H a = none := q4
      rw [q1] at q4; cases q4
  have owO : ∀ (j : Nat), isO (bkS ρ ρ')[j]? → isO ρ'[j]? ∧ σ[j]? = (vs.map some)[j]? := fun j e => by
    rcases isO_cases e with ⟨ds, e⟩ | ⟨ds, e⟩
    · obtain ⟨p1, p2⟩ := ow j ds e
      exact ⟨by rw [p1]; trivial, p2⟩
    · exact absurd e (noD j ds)
  refine ⟨R'.sub, R'.ent, R'.frm, R'.new, by rw [bkS_len]; exact R.len, fun j sl e => ?_, fun i j a h1 h2 h3 h4 => ?_, fun i a e => ?_⟩
  · cases sl with
    | un => trivial
    | od ks => exact absurd e (noD j ks)
    | sh d =>
      rcases bkS_get e with ⟨dz, h1, h2⟩ | ⟨h1, _⟩
      · exfalso
        obtain ⟨a, xs, e1, _⟩ := R.slot j _ h1
        obtain ⟨⟨du, h3⟩, _⟩ := R'.io j a (mem_owned.mpr ⟨⟨dz, h1⟩, e1⟩)
        rw [List.getD_eq_getElem?_getD, h3] at h2
        cases h2
      · obtain ⟨v, e1, e2⟩ := R.slot j _ h1
        exact ⟨v, e1, dp_mono s _ _ e2⟩
    | ow ds =>
      obtain ⟨e1, e2⟩ := ow j ds e
      rw [← e2]
      exact R'.slot j _ e1
  · obtain ⟨p1, p2⟩ := owO i h1
    obtain ⟨p3, p4⟩ := owO j h2
    exact R'.dist i j a p1 p3 (p2.trans h3) (p4.trans h4)
  · have h0 := mem_owned.mp e
    obtain ⟨⟨ds, h1⟩, h2⟩ := h0
    obtain ⟨⟨du, h3⟩, h4⟩ := R'.io i a e
    refine ⟨⟨du, ?_⟩, h2⟩
    have hi := (List.getElem?_eq_some_iff.mp h1).1
    unfold bkS
    rw [List.getElem?_map, List.getElem?_range hi]
    show some (backSl (ρ[i]?) (ρ'.getD i .un)) = _
    rw [h1]
    show some (ρ'.getD i .un) = _
    rw [List.getD_eq_getElem?_getD, h3]
    rfl
end
/-! ### a def of the text -/
section
variable {P : Program} {w : World} {K : PySem.W.Frag} {mg : Str → Option Value} {base : Heap}
theorem d_def {x qual : Str} {st : Stmt} {f : Addr} {fd : FuncData} {N ps : List Str} {k : Nat} {ios : List Nat} {g : F} (Fu : Fun K x qual st f fd) (Sc : FnScope N ps (defScope st))
    (hbody : ∀ (cdv : Value) (A : Around) (outer : List Env) (s : Shared) (H : Hp) (E : XK), Room k (A.deeper (PyProof.Rows.envOfC qual (defScope st) s.heap.objs.size f cdv)) →
      Takes (cxOf (L2.CX P w) P w K mg base N qual (defScope st) f cdv A outer s H E) (fun cls d _ H => E cls d H) →
      PSs (cxOf (L2.CX P w) P w K mg base N qual (defScope st) f cdv A outer s H E) (defBody st) (tS K mg (fun cls d _ H => E cls d H) ios g)) :
    FnOk P w K mg base (L2.CX P w) (k + 1) f fd ps (spD K mg ps.length (run ps.length N.length ios g)) := by
  refine Fu.okX Sc (fun vs H Q E hsp => ?_) (fun cdv A outer s H vs Q E hr hsp => ?_)
  · obtain ⟨S, ρ, o, hl, _⟩ := hsp
    exact hl
  obtain ⟨S, ρ, o, hl, R, e, q⟩ := hsp
  refine ⟨_, hbody cdv A outer s H E hr (takes_of rfl rfl rfl rfl), ?_⟩
  have hN : ps.length ≤ N.length := by have := congrArg List.length Sc.pre; rw [List.length_take] at this; omega
  unfold run at e
  split at e
  · rename_i hc
    have hio := (iosOf_owned R).trans hc.2
    have R1 := R.into (N := N) (by omega)
    rw [hl] at R1
    cases hg : g (ρ ++ List.replicate (N.length - ps.length) .un) with
    | none => rw [hg] at e; cases e
    | some fl =>
      rw [hg] at e
      refine ⟨_, S, _, fl, hio, R1, hg, ?_⟩
      cases fl with
      | nx ρ' =>
        cases e
        exact fun σ' S' H' R' s' => q .non S' H' (R.outof s' R') s' .non
      | rt d ρ' =>
        cases e
        exact fun v σ' S' H' R' s' hd => q v S' H' (R.outof s' R') s' hd
      | rn ds ρ' =>
        cases e
        refine fun v σ' S' H' R' s' f => q v S' H' (R.outof s' R') s' ?_
        obtain ⟨a, xs, h1, h2, h3, h4, h5, h6⟩ := f.ex
        refine ⟨a, xs, h1, h2, h3, h4, h5, fun i di e1 e2 => ?_⟩
        have R2 := R.outof s' R'
        obtain ⟨b, ys, e3, _, _, _, q4⟩ := R2.slot i (.ow di) e1
        rw [e2] at e3
        cases e3
        rcases q4 with q4 | q4
        · obtain ⟨⟨j, c⟩, z1, z2⟩ := List.mem_map.mp q4
          have z2 : c = a := z2
          subst z2
          obtain ⟨⟨du, z3⟩, z4⟩ := R'.io j c z1
          exact h6 j du z3 z4
        · rcases bkS_get e1 with ⟨dz, y1, _⟩ | ⟨_, y2⟩
          · obtain ⟨c, zs, y3, y4, _⟩ := R.slot i _ y1
            rw [e2] at y3
            cases y3
            have y5 : H _ = none := h5
            rw [y4] at y5
            cases y5
          · exact y2 di rfl
      | bk ρ' => cases e
      | ct ρ' => cases e
      | ex c ρ' =>
        cases e
        refine fun σ' S' H' R' s' => q S' H' (R.outof s' R') s'
  · cases e
end
/-! ### a call -/
/-- the callee's slots; none where a list is handed in twice -/
def argS (ρ : Ev) : List Rv → List Nat → Option Ev
  | [], _ => some []
  | .val d :: rs, seen => (argS ρ rs seen).map (.sh d :: ·)
  | .loc i :: rs, seen => if i ∈ seen then none else match (ρ[i]? : Option Sl) with
    | some (.ow ds) => (argS ρ rs (i :: seen)).map (.ow ds :: ·)
    | _ => none
/-- what was handed in to be changed, back -/
def putB : List Rv → Ev → Ev → Ev
  | .loc i :: rs, s :: ss, ρ => putB rs ss (ρ.set i s)
  | _ :: rs, _ :: ss, ρ => putB rs ss ρ
  | _, _, ρ => ρ
def callR (f : Fn) (rs : List Rv) : M Rt := fun ρ => match argS ρ rs [] with
  | none => none
  | some ρc => match f ρc with
    | none => none
    | some (.ok r ρc') => some (.ok r (putB rs ρc' ρ))
    | some (.ex c ρc') => some (.ex c (putB rs ρc' ρ))
def frz : Rt → Rv
  | .val d => .val d
  | .new ds => .val (.list ds)
def mCall (f : Fn) (l : M (List Rv)) : M Rv := bd l fun rs => bd (callR f rs) fun r => pur (frz r)
/-- the list is to be the caller's own -/
def asN : Rt → M (List Dt)
  | .new ds => pur ds
  | _ => fun _ => none
def mCallO (f : Fn) (l : M (List Rv)) : M (List Dt) := bd l fun rs => bd (callR f rs) asN
section
variable {K : PySem.W.Frag} {mg : Str → Option Value} {G : Ent} {S H S' H' : Hp} {σ : St} {ρ ρ' : Ev} {vs : List V}
theorem argS_get : ∀ {rs : List Rv} {seen : List Nat} {ρc : Ev}, argS ρ rs seen = some ρc → ρc.length = rs.length ∧
    (∀ (k : Nat) (sl : Sl), ρc[k]? = some sl → (∃ d, rs[k]? = some (.val d) ∧ sl = .sh d) ∨ ∃ i ds, rs[k]? = some (.loc i) ∧ ρ[i]? = some (.ow ds) ∧ sl = .ow ds ∧ i ∉ seen) ∧
    ∀ (k l i : Nat), rs[k]? = some (.loc i) → rs[l]? = some (.loc i) → k = l
  | [], seen, ρc, h => by
    cases h
    exact ⟨rfl, fun k sl e => by simp at e, fun k l i e => by simp at e⟩
  | .val d :: rs, seen, ρc, h => by
    unfold argS at h
    cases q : argS ρ rs seen with
    | none => rw [q] at h; cases h
    | some ρ1 =>
      rw [q] at h
      cases h
      obtain ⟨h1, h2, h3⟩ := argS_get q
      refine ⟨by simp [h1], fun k sl e => ?_, fun k l i e1 e2 => ?_⟩
      · cases k with
        | zero => simp at e; exact .inl ⟨d, rfl, e.symm⟩
        | succ k => simp at e; simpa using h2 k sl e
      · cases k with
        | zero => simp at e1
        | succ k =>
          cases l with
          | zero => simp at e2
          | succ l => simp at e1 e2; rw [h3 k l i e1 e2]
  | .loc i0 :: rs, seen, ρc, h => by
    unfold argS at h
    split at h
    · cases h
    · rename_i hs
      split at h
      · rename_i ds hd
        cases q : argS ρ rs (i0 :: seen) with
        | none => rw [q] at h; cases h
        | some ρ1 =>
          rw [q] at h
          cases h
          obtain ⟨h1, h2, h3⟩ := argS_get q
          have hno : ∀ (k : Nat), rs[k]? ≠ some (.loc i0) := fun k e => by
            have hk : k < ρ1.length := by rw [h1]; exact (List.getElem?_eq_some_iff.mp e).1
            rcases h2 k _ (List.getElem?_eq_getElem hk) with ⟨d, z, _⟩ | ⟨i, ds, z, _, _, z2⟩
            · rw [e] at z; cases z
            · rw [e] at z; cases z
              exact z2 List.mem_cons_self
          refine ⟨by simp [h1], fun k sl e => ?_, fun k l i e1 e2 => ?_⟩
          · cases k with
            | zero => simp at e; exact .inr ⟨i0, ds, rfl, hd, e.symm, hs⟩
            | succ k =>
              simp at e
              rcases h2 k sl e with ⟨d, z1, z2⟩ | ⟨i, dz, z1, z2, z3, z4⟩
              · exact .inl ⟨d, by simpa using z1, z2⟩
              · exact .inr ⟨i, dz, by simpa using z1, z2, z3, fun y => z4 (List.mem_cons_of_mem _ y)⟩
          · cases k with
            | zero =>
              cases l with
              | zero => rfl
              | succ l => simp at e1 e2; subst e1; exact absurd e2 (hno l)
            | succ k =>
              cases l with
              | zero => simp at e1 e2; subst e2; exact absurd e1 (hno k)
              | succ l => simp at e1 e2; rw [h3 k l i e1 e2]
      · cases h
theorem putB_len : ∀ (rs : List Rv) (ss ρ : Ev), (putB rs ss ρ).length = ρ.length
  | [], ss, ρ => by unfold putB; rfl
  | .loc i :: rs, [], ρ => by unfold putB; rfl
  | .val d :: rs, [], ρ => by unfold putB; rfl
  | .loc i :: rs, s :: ss, ρ => by unfold putB; rw [putB_len rs ss, List.length_set]
  | .val d :: rs, s :: ss, ρ => by unfold putB; exact putB_len rs ss ρ
theorem putB_get : ∀ {rs : List Rv} {ss ρ : Ev}, (∀ (k l i : Nat), rs[k]? = some (.loc i) → rs[l]? = some (.loc i) → k = l) → ss.length = rs.length → ∀ (j : Nat) (sl : Sl), (putB rs ss ρ)[j]? = some sl →
    (∃ k : Nat, rs[k]? = some (.loc j) ∧ ss[k]? = some sl) ∨ ((∀ k : Nat, rs[k]? ≠ some (.loc j)) ∧ ρ[j]? = some sl)
  | [], ss, ρ, _, _, j, sl, h => by unfold putB at h; exact .inr ⟨fun k => by simp, h⟩
  | r :: rs, [], ρ, _, hl, j, sl, h => by simp at hl
  | .val d :: rs, s :: ss, ρ, hn, hl, j, sl, h => by
    unfold putB at h
    rcases putB_get (fun k l i e1 e2 => Nat.succ.inj (hn (k + 1) (l + 1) i (by simpa using e1) (by simpa using e2))) (by simpa using hl) j sl h with ⟨k, e1, e2⟩ | ⟨e1, e2⟩
    · exact .inl ⟨k + 1, by simpa using e1, by simpa using e2⟩
    · refine .inr ⟨fun k => ?_, e2⟩
      cases k with
      | zero => simp
      | succ k => simpa using e1 k
  | .loc i :: rs, s :: ss, ρ, hn, hl, j, sl, h => by
    unfold putB at h
    rcases putB_get (fun k l i e1 e2 => Nat.succ.inj (hn (k + 1) (l + 1) i (by simpa using e1) (by simpa using e2))) (by simpa using hl) j sl h with ⟨k, e1, e2⟩ | ⟨e1, e2⟩
    · exact .inl ⟨k + 1, by simpa using e1, by simpa using e2⟩
    · rcases get_set e2 with ⟨rfl, rfl⟩ | ⟨ne, e2⟩
      · exact .inl ⟨0, rfl, rfl⟩
      · refine .inr ⟨fun k => ?_, e2⟩
        cases k with
        | zero => simpa using ne
        | succ k => simpa using e1 k
theorem AllRv.get : ∀ {rs : List Rv} {vs : List V} {k : Nat} {r : Rv}, AllRv K S σ vs rs → rs[k]? = some r → ∃ v, vs[k]? = some v ∧ RvOk K S σ v r
  | [], _, _, _, _, e => by simp at e
  | _ :: _, [], _, _, h, _ => h.elim
  | r :: rs, v :: vs, 0, _, ⟨h1, _⟩, e => by simp at e; subst e; exact ⟨v, rfl, h1⟩
  | r :: rs, v :: vs, k + 1, _, ⟨_, h2⟩, e => by
    obtain ⟨u, e1, e2⟩ := AllRv.get (k := k) h2 (by simpa using e)
    exact ⟨u, by simpa using e1, e2⟩
theorem AllRv.len : ∀ {rs : List Rv} {vs : List V}, AllRv K S σ vs rs → vs.length = rs.length
  | [], [], _ => rfl
  | _ :: _, [], h => h.elim
  | [], _ :: _, h => h.elim
  | _ :: rs, _ :: vs, ⟨_, h⟩ => by rw [List.length_cons, List.length_cons, AllRv.len h]
/-- at the call -/
theorem Rep.callIn (R : Rep K G S H σ ρ) {rs : List Rv} {ρc : Ev} (hv : AllRv K S σ vs rs) (ha : argS ρ rs [] = some ρc) : Rep K ⟨S, H, ownedIn (vs.map some) ρc⟩ S H (vs.map some) ρc := by
  obtain ⟨h1, h2, h3⟩ := argS_get ha
  have hgv : ∀ {k : Nat} {v : V}, vs[k]? = some v → (vs.map some)[k]? = some (some v) := fun e => by rw [List.getElem?_map, e]; rfl
  refine ⟨R.sub, Same.refl _, fun a o e _ => e, fun a o e => .inl e, by rw [List.length_map, h1, AllRv.len hv], fun k sl e => ?_, fun i j a f1 f2 e3 e4 => ?_, fun i a e => mem_owned.mp e⟩
  · rcases h2 k sl e with ⟨d, z1, rfl⟩ | ⟨i, ds, z1, z2, rfl, _⟩
    · obtain ⟨v, y1, y2⟩ := AllRv.get hv z1
      exact ⟨v, hgv y1, y2⟩
    · obtain ⟨v, y1, y2⟩ := AllRv.get hv z1
      obtain ⟨a, xs, e1, q1, q2, q3, q4⟩ := R.slot i _ z2
      have y3 : σ[i]? = some (some v) := y2
      rw [y3] at e1
      cases e1
      exact ⟨a, xs, hgv y1, q1, q2, q3, .inl (List.mem_map.mpr ⟨(k, a), mem_owned.mpr ⟨⟨ds, e⟩, hgv y1⟩, rfl⟩)⟩
  · have ow1 : ∀ (m : Nat), isO ρc[m]? → ∃ dm, ρc[m]? = some (.ow dm) := fun m f => by
      rcases isO_cases f with ⟨dm, f⟩ | ⟨dm, f⟩
      · exact ⟨dm, f⟩
      · rcases h2 m _ f with ⟨d, z1, z⟩ | ⟨i', ds, z1, z2, z, _⟩
        · cases z
        · cases z
    obtain ⟨di, e1⟩ := ow1 i f1
    obtain ⟨dj, e2⟩ := ow1 j f2
    rcases h2 i _ e1 with ⟨d, z1, z⟩ | ⟨i', ds, z1, z2, _, _⟩
    · cases z
    · rcases h2 j _ e2 with ⟨d, y1, y⟩ | ⟨j', es, y1, y2, _, _⟩
      · cases y
      · obtain ⟨v, p1, p2⟩ := AllRv.get hv z1
        obtain ⟨u, p3, p4⟩ := AllRv.get hv y1
        rw [hgv p1] at e3
        rw [hgv p3] at e4
        cases e3
        cases e4
        have p2 : σ[i']? = some (some (.ref a)) := p2
        have p4 : σ[j']? = some (some (.ref a)) := p4
        have z3 := R.dist i' j' a (by rw [z2]; trivial) (by rw [y2]; trivial) p2 p4
        subst z3
        exact h3 i j i' z1 y1
/-- behind the call -/
theorem Rep.callOut (R : Rep K G S H σ ρ) {rs : List Rv} {ρc ρc' : Ev} (hv : AllRv K S σ vs rs) (ha : argS ρ rs [] = some ρc) (s : Same S S') (R' : Rep K ⟨S, H, ownedIn (vs.map some) ρc⟩ S' H' (vs.map some) ρc') :
    Rep K G S' H' σ (putB rs ρc' ρ) := by
  obtain ⟨h1, h2, h3⟩ := argS_get ha
  have hgv : ∀ {k : Nat} {v : V}, vs[k]? = some v → (vs.map some)[k]? = some (some v) := fun e => by rw [List.getElem?_map, e]; rfl
  have hl' : ρc'.length = rs.length := by rw [R'.len, List.length_map, AllRv.len hv]
  -- a list that is handed in: which slot of the caller's
  have hin : ∀ a, a ∈ (ownedIn (vs.map some) ρc).map (·.2) → ∃ (i : Nat) (ds : List Dt) (k : Nat), ρ[i]? = some (.ow ds) ∧ σ[i]? = some (some (.ref a)) ∧ rs[k]? = some (.loc i) := fun a h => by
    obtain ⟨⟨k, b⟩, z1, z2⟩ := List.mem_map.mp h
    have z2 : b = a := z2
    subst z2
    obtain ⟨⟨ds, z3⟩, z4⟩ := mem_owned.mp z1
    rcases h2 k _ z3 with ⟨d, _, z⟩ | ⟨i, dz, y1, y2, _, _⟩
    · cases z
    · obtain ⟨v, p1, p2⟩ := AllRv.get hv y1
      rw [hgv p1] at z4
      cases z4
      exact ⟨i, dz, k, y2, p2, y1⟩
  have hcase := putB_get (ρ := ρ) h3 hl'
  -- a slot of the caller's that is handed in is the callee's own list again
  have hown : ∀ {k i : Nat} {sl : Sl}, rs[k]? = some (.loc i) → ρc'[k]? = some sl → ∃ ds a, sl = .ow ds ∧ (vs.map some)[k]? = some (some (.ref a)) ∧ σ[i]? = some (some (.ref a)) ∧ (a ∈ G.io.map (·.2) ∨ G.H a = none) := fun {k i sl} e1 e2 => by
    have hk : k < ρc.length := by rw [h1]; exact (List.getElem?_eq_some_iff.mp e1).1
    rcases h2 k _ (List.getElem?_eq_getElem hk) with ⟨d, z, _⟩ | ⟨i', ds, z1, z2, z3, _⟩
    · rw [e1] at z; cases z
    · rw [e1] at z1; cases z1
      obtain ⟨v, p1, p2⟩ := AllRv.get hv e1
      obtain ⟨a, xs, q0, q1, q2, q3, q4⟩ := R.slot i _ z2
      have p2 : σ[i]? = some (some v) := p2
      rw [p2] at q0
      cases q0
      have e3 : ρc[k]? = some (.ow ds) := by rw [List.getElem?_eq_getElem hk, z3]
      obtain ⟨⟨du, y1⟩, y2⟩ := R'.io k a (mem_owned.mpr ⟨⟨ds, e3⟩, hgv p1⟩)
      rw [e2] at y1
      cases y1
      exact ⟨du, a, rfl, hgv p1, p2, q4⟩
  refine ⟨R'.sub, R.ent.trans s, fun a o e1 e2 => ?_, fun a o e => ?_, by rw [putB_len]; exact R.len, fun j sl e => ?_, fun i j a e1 e2 e3 e4 => ?_, fun i a e => ?_⟩
  · refine R'.frm a o (R.frm a o e1 e2) fun h => ?_
    obtain ⟨i, ds, k, z1, z2, _⟩ := hin a h
    obtain ⟨b, xs, q0, _, _, _, q4⟩ := R.slot i _ z1
    rw [z2] at q0
    cases q0
    rcases q4 with q4 | q4
    · exact e2 q4
    · rw [q4] at e1; cases e1
  · rcases R'.new a o e with y | y
    · exact R.new a o y
    · exact .inr (R.gone y)
  · rcases hcase j sl e with ⟨k, e1, e2⟩ | ⟨e1, e2⟩
    · obtain ⟨ds, a, rfl, y1, y2, y3⟩ := hown e1 e2
      obtain ⟨b, xs, q0, q1, q2, q3, _⟩ := R'.slot k _ e2
      rw [y1] at q0
      cases q0
      exact ⟨_, xs, y2, q1, q2, q3, y3⟩
    · have q := R.slot j sl e2
      cases sl with
      | un => trivial
      | sh d =>
        obtain ⟨v, q1, q2⟩ := q
        exact ⟨v, q1, dp_mono s _ _ q2⟩
      | ow ds =>
        obtain ⟨a, xs, q0, q1, q2, q3, q4⟩ := q
        have hno : a ∉ (ownedIn (vs.map some) ρc).map (·.2) := fun h => by
          obtain ⟨i, dz, k, z1, z2, z3⟩ := hin a h
          have z4 := R.dist i j a (by rw [z1]; trivial) (by rw [e2]; trivial) z2 q0
          subst z4
          exact e1 k z3
        refine ⟨a, xs, q0, R'.frm a _ q1 hno, dpAll_mono s _ _ q2, ?_, q4⟩
        cases z : S' a with
        | none => rfl
        | some u =>
          rcases R'.new a u z with y | y
          · have y : S a = some u := y
            rw [q3] at y; cases y
          · have y : H a = none := y
            rw [q1] at y; cases y
      | od ks =>
        obtain ⟨a, xs, q0, q1, q2, q3, q4⟩ := q
        have hno : a ∉ (ownedIn (vs.map some) ρc).map (·.2) := fun h => by
          obtain ⟨i, dz, k, z1, z2, z3⟩ := hin a h
          obtain ⟨b, ys, w0, w1, _⟩ := R.slot i _ z1
          rw [z2] at w0; cases w0
          rw [w1] at q1; cases q1
          exact dr_lst q2
        refine ⟨a, xs, q0, R'.frm a _ q1 hno, dr_mono s q2, ?_, q4⟩
        cases z : S' a with
        | none => rfl
        | some u =>
          rcases R'.new a u z with y | y
          · have y : S a = some u := y
            rw [q3] at y; cases y
          · have y : H a = none := y
            rw [q1] at y; cases y
  · -- two slots of one list
    have own : ∀ (m : Nat), isO (putB rs ρc' ρ)[m]? → isO ρ[m]? := fun m hm => by
      have key : ∀ sl, (putB rs ρc' ρ)[m]? = some sl → isO (some sl) → isO ρ[m]? := fun sl hm ho => by
        rcases hcase m _ hm with ⟨k, y1, y2⟩ | ⟨_, y2⟩
        · have hk : k < ρc.length := by rw [h1]; exact (List.getElem?_eq_some_iff.mp y1).1
          rcases h2 k _ (List.getElem?_eq_getElem hk) with ⟨d, z, _⟩ | ⟨i', ds, z1, z2, _, _⟩
          · rw [y1] at z; cases z
          · rw [y1] at z1; cases z1
            rw [z2]; trivial
        · rw [y2]; exact ho
      rcases isO_cases hm with ⟨dm, e⟩ | ⟨dm, e⟩
      · exact key _ e trivial
      · exact key _ e trivial
    exact R.dist i j a (own i e1) (own j e2) e3 e4
  · obtain ⟨⟨ds, z1⟩, z2⟩ := R.io i a e
    refine ⟨?_, z2⟩
    have hlt : i < (putB rs ρc' ρ).length := by rw [putB_len]; exact (List.getElem?_eq_some_iff.mp z1).1
    have e0 := List.getElem?_eq_getElem hlt
    rcases hcase i _ e0 with ⟨k, y1, y2⟩ | ⟨_, y2⟩
    · obtain ⟨du, b, y3, _⟩ := hown y1 y2
      exact ⟨du, by rw [e0, y3]⟩
    · rw [z1] at y2
      exact ⟨ds, by rw [e0, ← Option.some.inj y2]⟩
end
section
variable {X : Cx} {W : WX} {e : Expr} {es : List Expr} {ml : M (List Rv)} {x : Str} {p pos : Pos} {k n : Nat} {f : Addr} {fd : FuncData} {ps : List Str} {fn : Fn}
theorem callR_some {ρ : Ev} {rs : List Rv} {o : Ex Rt} (h : callR fn rs ρ = some o) : ∃ ρc oc, argS ρ rs [] = some ρc ∧ fn ρc = some oc ∧ o = (match oc with | .ok r ρ' => .ok r (putB rs ρ' ρ) | .ex c ρ' => .ex c (putB rs ρ' ρ)) := by
  unfold callR at h
  cases q : argS ρ rs [] with
  | none => rw [q] at h; cases h
  | some ρc =>
    rw [q] at h
    dsimp only at h
    cases q2 : fn ρc with
    | none => rw [q2] at h; cases h
    | some oc =>
      rw [q2] at h
      refine ⟨ρc, oc, rfl, q2, ?_⟩
      cases oc <;> cases h <;> rfl
/-- the callee's promise from the caller's reading -/
theorem rd_call {K : PySem.W.Frag} {mg : Str → Option Value} {β : Type} {kk : Rt → M β} {G : Ent} {S H : Hp} {σ : St} {ρ : Ev} {vs : List V} {rs : List Rv} {o : Ex β} {Q : VK} (R : Rep K G S H σ ρ) (hv : AllRv K S σ vs rs) (hl : ∀ ρc, fn ρc ≠ none → ρc.length = n)
    (h : bd (callR fn rs) kk ρ = some o)
    (h1 : ∀ r ρ' v S' H', kk r ρ' = some o → Rep K G S' H' σ ρ' → Same S S' → (match r with | .val d => Dp K S' v d | .new ds => Fresh K G S' H' σ ρ' v ds) → Q v H')
    (h2 : ∀ c ρ', o = .ex c ρ' → ∀ S' H', Rep K G S' H' σ ρ' → Same S S' → exW mg W c σ H') : spD K mg n fn vs H Q (WE W σ) := by
  rcases bd_some h with ⟨r, ρ', e1, e2⟩ | ⟨c, ρ', e1, rfl⟩
  · obtain ⟨ρc, oc, ha, hf, ho⟩ := callR_some e1
    cases oc with
    | ex c ρ1 => cases ho
    | ok r1 ρ1 =>
      cases ho
      refine ⟨S, ρc, _, ?_, R.callIn hv ha, hf, ?_⟩
      · have := hl ρc (by rw [hf]; exact fun z => nomatch z)
        rw [AllRv.len hv, ← (argS_get ha).1]; exact this
      · cases r with
        | val d => exact fun v S' H' R' s' hd => h1 _ _ v S' H' e2 (R.callOut hv ha s' R') s' hd
        | new ds =>
          refine fun v S' H' R' s' f => h1 _ _ v S' H' e2 (R.callOut hv ha s' R') s' ?_
          obtain ⟨a, xs, f1, f2, f3, f4, f5, f6⟩ := f.ex
          have f5 : H a = none := f5
          refine ⟨a, xs, f1, f2, f3, f4, R.gone f5, fun i di z1 z2 => ?_⟩
          obtain ⟨h3, h4, h5⟩ := argS_get ha
          have hl' : ρ1.length = rs.length := by rw [R'.len, List.length_map, AllRv.len hv]
          have R2 := R.callOut hv ha s' R'
          rcases putB_get h5 hl' i _ z1 with ⟨k, y1, y2⟩ | ⟨_, y2⟩
          · obtain ⟨v', y3, y4⟩ := AllRv.get hv y1
            have y4 : σ[i]? = some (some v') := y4
            rw [z2] at y4
            cases y4
            exact f6 k di y2 (by rw [List.getElem?_map, y3]; rfl)
          · obtain ⟨b, ys, y3, y4, _⟩ := R.slot i _ y2
            rw [z2] at y3
            cases y3
            rw [f5] at y4
            cases y4
  · obtain ⟨ρc, oc, ha, hf, ho⟩ := callR_some e1
    cases oc with
    | ok r1 ρ1 => cases ho
    | ex c ρ1 =>
      cases ho
      refine ⟨S, ρc, _, ?_, R.callIn hv ha, hf, ?_⟩
      · have := hl ρc (by rw [hf]; exact fun z => nomatch z)
        rw [AllRv.len hv, ← (argS_get ha).1]; exact this
      · exact fun S' H' R' s' => h2 _ _ rfl S' H' (R.callOut hv ha s' R') s'
/-- how many slots a def's map takes -/
def Takes1 (n : Nat) (fn : Fn) : Prop := ∀ ρc, fn ρc ≠ none → ρc.length = n
theorem takes_run {n m : Nat} {ios : List Nat} {g : F} : Takes1 n (run n m ios g) := fun ρc h => by
  unfold run at h
  split at h
  · rename_i hc; exact hc.1
  · exact absurd rfl h
theorem d_call (Fk : FnOk X.prog X.w X.K X.mg X.base (L2.CX X.prog X.w) k f fd ps (spD X.K X.mg n fn)) (tn : Takes1 n fn) (tk : Takes X W) (hr : Room k X.A) (hm : X.mg x = some (.ref f)) (hk : PySem.W.keepIn X.K (.ref f) = true) (hb : Binds X.K fd ps [])
    (ha : PA X (e :: es) (tA X.K X.mg W ml)) (hg : Gl X x := by rfl) (hdb : (x == ("__debug__" : Str)) = false := by decide) (he : starEach (e :: es) X.env = (false, eval e X.env) :: starEach es X.env := by rfl) (hpl : (backTo pos (starEach es X.env)).any (·.1) = false := by rfl) :
    PE X (.Call (.Name x p) (e :: es) [] pos) (tD X.K X.mg W (mCall fn ml)) :=
  pe_imp (pe_callS Fk hr hg hm hk hb (fun σ => passAt tk σ) ha hdb he hpl) fun σ H Q w => by
    obtain ⟨G, S, ρ, o, R, e, q⟩ := w
    refine seqA R e (fun rs ρ1 vs S1 H1 _ e1 R1 s1 rvs => ?_) fun c ρ' eo S' H' R' s' => by subst eo; exact q S' H' R' s'
    refine rd_call R1 rvs tn e1 (fun r ρ' v S' H' e2 R' s' hv => ?_) fun c ρ' eo S' H' R' s' => by subst eo; exact q S' H' R' (s1.trans s')
    cases e2
    cases r with
    | val d => exact q v S' H' R' (s1.trans s') hv
    | new ds =>
      obtain ⟨S2, R2, s2, hd⟩ := R'.freeze hv
      exact q v S2 H' R2 ((s1.trans s').trans s2) hd
theorem d_callO (Fk : FnOk X.prog X.w X.K X.mg X.base (L2.CX X.prog X.w) k f fd ps (spD X.K X.mg n fn)) (tn : Takes1 n fn) (tk : Takes X W) (hr : Room k X.A) (hm : X.mg x = some (.ref f)) (hk : PySem.W.keepIn X.K (.ref f) = true) (hb : Binds X.K fd ps [])
    (ha : PA X (e :: es) (tA X.K X.mg W ml)) (hg : Gl X x := by rfl) (hdb : (x == ("__debug__" : Str)) = false := by decide) (he : starEach (e :: es) X.env = (false, eval e X.env) :: starEach es X.env := by rfl) (hpl : (backTo pos (starEach es X.env)).any (·.1) = false := by rfl) :
    PE X (.Call (.Name x p) (e :: es) [] pos) (tN X.K X.mg W (mCallO fn ml)) :=
  pe_imp (pe_callS Fk hr hg hm hk hb (fun σ => passAt tk σ) ha hdb he hpl) fun σ H Q w => by
    obtain ⟨G, S, ρ, o, R, e, q⟩ := w
    refine seqA R e (fun rs ρ1 vs S1 H1 _ e1 R1 s1 rvs => ?_) fun c ρ' eo S' H' R' s' => by subst eo; exact q S' H' R' s'
    refine rd_call R1 rvs tn e1 (fun r ρ' v S' H' e2 R' s' hv => ?_) fun c ρ' eo S' H' R' s' => by subst eo; exact q S' H' R' (s1.trans s')
    cases r with
    | val d => cases e2
    | new ds =>
      cases e2
      exact q v S' H' R' (s1.trans s') hv
end
end PD
/-! PD7: own lists changed, op=, several targets, raise and try, two fors. -/
namespace PD
open PySem L2

/-! ### methods that change a slot's own list -/
/-- g: the list and the arguments, what is handed back and the list behind it -/
def OwnM (K : PySem.W.Frag) (r : V → List V → Hp → VK → Prop) (g : List Dt → List Dt → Option (Dt × List Dt)) : Prop := ∀ (S H : Hp) (a : Addr) (va vs : List V) (xs ds ys : List Dt) (d : Dt) (Q : VK), Same S H → H a = some (.lst va) → DpAll K S va xs → DpAll K S vs ds → g xs ds = some (d, ys) →
  (∀ v vb, DpAll K S vb ys → Dp K S v d → Q v (upd H a (.lst vb))) → r (.ref a) vs H Q
def ownNow (i : Nat) : M (List Dt) := fun ρ => match (ρ[i]? : Option Sl) with
  | some (.ow xs) => some (.ok xs ρ)
  | _ => none
def putNow (i : Nat) (ys : List Dt) (d : Dt) : M Rv := fun ρ => some (.ok (.val d) (ρ.set i (.ow ys)))
def mOwn (i : Nat) (g : List Dt → List Dt → Option (Dt × List Dt)) (l : M (List Rv)) : M Rv := bd (ownNow i) fun _ => bd l fun rs => bd (opt (vals rs)) fun ds => bd (ownNow i) fun xs => bd (opt (g xs ds)) fun p => putNow i p.2 p.1
theorem own_ok {β : Type} {i : Nat} {k : List Dt → M β} {ρ : Ev} {o : Ex β} (h : bd (ownNow i) k ρ = some o) : ∃ xs, ρ[i]? = some (.ow xs) ∧ k xs ρ = some o := by
  unfold bd ownNow at h
  split at h
  · cases h
  · rename_i e
    split at e
    · rename_i q
      cases e
      exact ⟨_, q, h⟩
    · cases e
  · rename_i e
    split at e <;> cases e
theorem own_in {i : Nat} {ρ : Ev} {o : Ex (List Dt)} (h : ownNow i ρ = some o) : ∃ xs, ρ[i]? = some (.ow xs) ∧ o = .ok xs ρ := by
  unfold ownNow at h
  split at h
  · rename_i q
    cases h
    exact ⟨_, q, rfl⟩
  · cases h
section
variable {X : Cx} {W : WX} {i : Nat} {x : Str} {po apos cpos : Pos} {name : Str} {id : String} {e : Expr} {es : List Expr} {ml : M (List Rv)}
theorem tyV_own {K : PySem.W.Frag} {H : Hp} {a : Addr} {xs : List V} (h : H a = some (.lst xs)) : tyV K "list" (.ref a) H := .inl ⟨rfl, xs, SqL.of h⟩
theorem d_own {r : V → List V → Hp → VK → Prop} {g : List Dt → List Dt → Option (Dt × List Dt)} (hp : OwnM X.K r g) (slot : Slot "list" name id) (ty : typeOf (.builtin id) = pure (.type "method_descriptor")) (hm : MtR X id r)
    (ho : PE X (.Name x po) (tVar i)) (ha : PA X (e :: es) (tA X.K X.mg W ml))
    (hbase : attributeBase (.Name x po) name X.env (eval (.Name x po) X.env) = eval (.Name x po) X.env := by rfl)
    (hfew : ((backTo cpos (starEach (e :: es) X.env)).all (fun x => !x.1) && (backToKw cpos (keywordEach [] X.env)).all (fun x => x.1.isSome)
      && decide ((e :: es).length + ([] : List Keyword).length + (if ([] : List Keyword).isEmpty then 0 else 1) < 30)) = true := by rfl)
    (hline : (apos.endLine == cpos.line) = true := by rfl) (hs : starEach (e :: es) X.env = (false, eval e X.env) :: starEach es X.env := by rfl) (hplain : (backTo cpos (starEach es X.env)).any (·.1) = false := by rfl) :
    PE X (.Call (.Attribute (.Name x po) name apos) (e :: es) [] cpos) (tD X.K X.mg W (mOwn i g ml)) :=
  pe_imp (pe_bm PySem.F.plainAttrs_list slot ty hm ho ha hbase hfew hline hs hplain) fun σ H Q w => by
    obtain ⟨G, S, ρ, o, R, e, q⟩ := w
    obtain ⟨xs0, h0, e1⟩ := own_ok e
    obtain ⟨a, va0, z1, z2, _⟩ := R.slot i _ h0
    refine ⟨_, z1, tyV_own z2, ?_⟩
    refine seqA R e1 (fun rs ρ1 vs S1 H1 _ e2 R1 s1 rvs => ?_) fun c ρ' eo S' H' R' s' => by subst eo; exact q S' H' R' s'
    obtain ⟨ds, e3, e4⟩ := opt_ok e2
    obtain ⟨xs, h1, e5⟩ := own_ok e4
    obtain ⟨⟨d, ys⟩, e6, e7⟩ := opt_ok e5
    cases e7
    obtain ⟨b, va, y1, y2, y3, _⟩ := R1.slot i _ h1
    rw [z1] at y1
    cases y1
    exact hp S1 H1 a va vs xs ds ys d Q R1.sub y2 y3 (vals_ok rvs e3) e6 fun v vb d1 d2 => q v S1 _ (R1.put h1 z1 d1) s1 d2
theorem d_own0 {r : V → List V → Hp → VK → Prop} {g : List Dt → List Dt → Option (Dt × List Dt)} (hp : OwnM X.K r g) (slot : Slot "list" name id) (ty : typeOf (.builtin id) = pure (.type "method_descriptor")) (hm : MtR X id r)
    (ho : PE X (.Name x po) (tVar i)) (hbase : attributeBase (.Name x po) name X.env (eval (.Name x po) X.env) = eval (.Name x po) X.env := by rfl) (hline : (apos.endLine == cpos.line) = true := by rfl) :
    PE X (.Call (.Attribute (.Name x po) name apos) [] [] cpos) (tD X.K X.mg W (mOwn i g mNil)) :=
  pe_imp (pe_bm0 PySem.F.plainAttrs_list slot ty hm ho hbase hline) fun σ H Q w => by
    obtain ⟨G, S, ρ, o, R, e, q⟩ := w
    obtain ⟨xs0, h0, e1⟩ := own_ok e
    obtain ⟨a, va0, z1, z2, _⟩ := R.slot i _ h0
    refine ⟨_, z1, tyV_own z2, ?_⟩
    have e1' : bd (ownNow i) (fun xs => bd (opt (g xs [])) fun p => putNow i p.2 p.1) ρ = some o := e1
    obtain ⟨xs, h1, e5⟩ := own_ok e1'
    obtain ⟨⟨d, ys⟩, e6, e7⟩ := opt_ok e5
    cases e7
    obtain ⟨b, va, y1, y2, y3, _⟩ := R.slot i _ h1
    rw [z1] at y1
    cases y1
    exact hp S H a va [] xs [] ys d Q R.sub y2 y3 .nil e6 fun v vb d1 d2 => q v S _ (R.put h1 z1 d1) (Same.refl _) d2
end
def fAppend (xs : List Dt) : List Dt → Option (Dt × List Dt)
  | [d] => if xs.length < sizeLine then some (.none, xs ++ [d]) else none
  | _ => none
theorem own_append {K : PySem.W.Frag} : OwnM K rAppend fAppend := by
  intro S H a va vs xs ds ys d Q sb h1 h2 h3 h4 h5
  unfold fAppend at h4
  split at h4
  · rename_i x
    split at h4
    · rename_i hz
      cases h4
      cases h3 with
      | cons r t =>
        cases t
        exact ⟨a, va, _, rfl, rfl, h1, by rw [dpa_len h2]; exact hz, h5 _ _ (dpa_snoc h2 r) .non⟩
    · cases h4
  · cases h4
def fPop (xs : List Dt) : List Dt → Option (Dt × List Dt)
  | [] => match xs.getLast? with
    | some d => some (d, xs.dropLast)
    | none => none
  | _ => none
theorem dpa_dropLast {K : PySem.W.Frag} {H : Hp} : ∀ {vs : List V} {ds : List Dt}, DpAll K H vs ds → DpAll K H vs.dropLast ds.dropLast
  | _, _, .nil => .nil
  | _, _, .cons _ .nil => .nil
  | _, _, .cons r (.cons r2 t) => .cons r (dpa_dropLast (.cons r2 t))
theorem own_pop {K : PySem.W.Frag} : OwnM K rPop fPop := by
  intro S H a va vs xs ds ys d Q sb h1 h2 h3 h4 h5
  unfold fPop at h4
  split at h4
  · cases h3
    split at h4
    · rename_i y hy
      cases h4
      rw [List.getLast?_eq_getElem?] at hy
      obtain ⟨v, e1, e2⟩ := dpa_some h2 hy
      exact ⟨a, va, v, rfl, rfl, h1, by rw [dpa_len h2]; exact e1, h5 _ _ (dpa_dropLast h2) e2⟩
    · cases h4
  · cases h4

/-! ### x[k] = e -/
def sPut (i : Nat) (me mi : M Rv) : F := fun ρ => fromE (fun (p : Dt × Dt × List Dt) ρ' => match p with
  | (d, .int k, xs) => match ixN xs.length k with
    | some j => some (.nx (ρ'.set i (.ow (xs.set j d))))
    | none => none
  | _ => none) ((bd me fun r => bd (opt (vals [r])) fun ds => bd (ownNow i) fun _ => bd mi fun r2 => bd (opt (vals [r2])) fun ks => bd (ownNow i) fun xs => match ds, ks with
    | [d], [k] => pur (d, k, xs)
    | _, _ => fun _ => none) ρ)
theorem vals1 {r : Rv} {ds : List Dt} (h : vals [r] = some ds) : ∃ d, r = .val d ∧ ds = [d] := by
  cases r with
  | val d => cases h; exact ⟨d, rfl, rfl⟩
  | loc i => cases h
section
variable {X : Cx} {W : WX} {ios : List Nat} {i : Nat} {x : Str} {po tpos pos : Pos} {e k : Expr} {me mk : M Rv}
theorem d_put (he : PE X e (tD X.K X.mg W me)) (ho : PE X (.Name x po) (tVar i)) (hk : PE X k (tD X.K X.mg W mk))
    (ha : ∀ v, assign (.Subscript (.Name x po) k tpos) X.env v = (do
      let ov ← holding [v] (eval (.Name x po) X.env)
      let iv ← holding [v, ov] (eval k X.env)
      standAt tpos
      holding [v, ov, iv] (setItem ov iv v)
      release [v, ov, iv] []) := by intro _; rfl)
    (hs : swapsWithSole [.Subscript (.Name x po) k tpos] e pos.line X.env = pure false := by rfl) (hw : swappedStores [.Subscript (.Name x po) k tpos] e X.env = pure none := by rfl)
    (h1 : (assignEach [.Subscript (.Name x po) k tpos] X.env).map (·.2) = [assign (.Subscript (.Name x po) k tpos) X.env] := by rfl) :
    PS X (.Assign [.Subscript (.Name x po) k tpos] e pos) (tS X.K X.mg W ios (sPut i me mk)) :=
  ps_imp (ps_asg he (pg_sub ho hk set_list ha) hs hw h1) fun D σ H w => by
    obtain ⟨G, S, ρ, fl, hio, R, e0, q⟩ := w
    have fin : ∀ {c : Str} {ρ' : Ev}, fl = .ex c ρ' → ∀ S' H', Rep X.K G S' H' σ ρ' → Same S S' → exW X.mg W c σ H' := fun {c ρ'} z S' H' R' s' => by subst z; exact q σ S' H' R' s'
    have step : ∀ {o : Ex (Dt × Dt × List Dt)}, (bd me fun r => bd (opt (vals [r])) fun ds => bd (ownNow i) fun _ => bd mk fun r2 => bd (opt (vals [r2])) fun ks => bd (ownNow i) fun xs => (match ds, ks with
        | [d], [k] => pur (d, k, xs)
        | _, _ => fun _ => none : M (Dt × Dt × List Dt))) ρ = some o → (∀ c ρ', o = .ex c ρ' → fl = .ex c ρ') → (∀ d k xs ρ', o = .ok (d, k, xs) ρ' → ∃ kk j, k = .int kk ∧ ixN xs.length kk = some j ∧ fl = .nx (ρ'.set i (.ow (xs.set j d)))) →
        tAsg (tD X.K X.mg W me) (gSub (tVar i) (tD X.K X.mg W mk) rSetL) D σ H := fun {o} e1 hex hok => by
      refine seqD R e1 (fun r ρ1 v S1 H1 _ e2 R1 s1 rv => ?_) fun c ρ' eo S' H' R' s' => fin (hex c ρ' eo) S' H' R' s'
      obtain ⟨ds, e3, e4⟩ := opt_ok e2
      obtain ⟨d, rfl, rfl⟩ := vals1 e3
      obtain ⟨xs0, g0, e5⟩ := own_ok e4
      obtain ⟨a, va0, z1, z2, _⟩ := R1.slot i _ g0
      refine ⟨_, z1, ?_⟩
      refine seqD R1 e5 (fun r2 ρ2 u S2 H2 _ e6 R2 s2 rv2 => ?_) fun c ρ' eo S' H' R' s' => fin (hex c ρ' eo) S' H' R' (s1.trans s')
      obtain ⟨ks, e7, e8⟩ := opt_ok e6
      obtain ⟨kd, rfl, rfl⟩ := vals1 e7
      obtain ⟨xs, g1, e9⟩ := own_ok e8
      have e9' : some (Ex.ok (d, kd, xs) ρ2) = some o := e9
      cases e9'
      obtain ⟨kk, j, rfl, hj, hfl⟩ := hok _ _ _ _ rfl
      subst hfl
      obtain ⟨b, va, y1, y2, y3, _⟩ := R2.slot i _ g1
      rw [z1] at y1
      cases y1
      have rv2' : Dp X.K S2 u (.int kk) := rv2
      cases rv2'
      have rv' : Dp X.K S2 v d := dp_mono s2 _ _ rv
      refine ⟨a, va, kk, j, rfl, rfl, y2, by rw [dpa_len y3]; exact hj, ?_⟩
      exact q σ S2 _ (R2.put g1 z1 (dpa_st j y3 rv')) (s1.trans s2)
    rcases fromE_some e0 with ⟨⟨d, kd, xs⟩, ρ', e1, e2⟩ | ⟨c, ρ', e1, rfl⟩
    · refine step e1 (fun c ρ'' z => nomatch z) fun d' k' xs' ρ'' z => ?_
      cases z
      try dsimp only at e2
      split at e2
      · rename_i dd kk xx hz
        cases hz
        split at e2
        · rename_i j hj
          cases e2
          exact ⟨kk, j, rfl, hj, rfl⟩
        · cases e2
      · cases e2
    · exact step e1 (fun c' ρ'' z => by cases z; rfl) fun d' k' xs' ρ'' z => nomatch z
end
/-! ### x op= e, x data that never changes -/
def sAug (i : Nat) (g : Dt → Dt → Option Dt) (m : M Rv) : F := fun ρ => match (ρ[i]? : Option Sl) with
  | some (.sh x) => fromE (fun (z : Dt) ρ' => some (.nx (ρ'.set i (.sh z)))) ((bd m fun r => bd (res r) fun y => opt (g x y)) ρ)
  | _ => none
section
variable {X : Cx} {W : WX} {ios : List Nat} {i : Nat} {x : Str} {pos pos' : Pos} {e : Expr} {m : M Rv}
theorem d_aug {op : Operator} {ti : TIp} {g : Dt → Dt → Option Dt} (hN : X.N.Nodup) (ho : PIp X op ti) (hp : Pur2 X.K ti g) (he : PE X e (tD X.K X.mg W m)) (hi : i ∉ ios := by decide) (hx : X.N[i]? = some x := by rfl) (hl : Loc X.env.scope x := by first | exact Or.inl rfl | exact Or.inr rfl)
    (hf : X.fn x = true ∨ X.env.scope.names.lookup x = some .local := by first | exact .inl rfl | exact .inr rfl) : PS X (.AugAssign (.Name x pos') op e pos) (tS X.K X.mg W ios (sAug i g m)) :=
  ps_imp (ps_aug hN hx hl he ho hf) fun D σ H w => by
    obtain ⟨G, S, ρ, fl, hio, R, e0, q⟩ := w
    unfold sAug at e0
    split at e0
    · rename_i xd hx
      obtain ⟨v, z1, z2⟩ := R.slot i _ hx
      refine ⟨v, z1, ?_⟩
      rcases fromE_some e0 with ⟨z, ρ', e1, e2⟩ | ⟨c, ρ', e1, rfl⟩
      · cases e2
        refine seqD R e1 (fun r ρ1 u S1 H1 _ e2 R1 s1 rv => ?_) fun c ρ' eo => nomatch eo
        obtain ⟨y, t, e3⟩ := res_ok R1 rv e2
        obtain ⟨z', e4, e5⟩ := opt_in (β := Unit) e3
        cases e5
        exact hp S1 H1 v u xd y _ _ R1.sub (.inl (dp_mono s1 _ _ z2)) t e4 fun v' S' H' gr d => q _ S' H' ((R1.grow gr).setS (free_of hio hi) d) (s1.trans gr.s)
      · refine seqD R e1 (fun r ρ1 u S1 H1 _ e2 R1 s1 rv => ?_) fun c ρ' eo S' H' R' s' => by cases eo; exact q σ S' H' R' s'
        obtain ⟨y, t, e3⟩ := res_ok R1 rv e2
        obtain ⟨z', e4, e5⟩ := opt_in (β := Unit) e3
        cases e5
    · cases e0
end
end PD
/-! PD8: several targets at once, raise and try. -/
namespace PD
open PySem L2

/-! ### fresh dicts -/
structure FreshD (K : PySem.W.Frag) (G : Ent) (S H : Hp) (σ : St) (ρ : Ev) (v : V) (ks : List (Dt × Dt)) : Prop where
  ex : ∃ a ob, v = .ref a ∧ H a = some ob ∧ DRel K S a ob ks ∧ S a = none ∧ G.H a = none ∧ Un0 σ ρ a
def tK (K : PySem.W.Frag) (mg : Str → Option Value) (W : WX) (m : M (List (Dt × Dt))) : TE := fun σ H Q => ∃ G S ρ o, Rep K G S H σ ρ ∧ m ρ = some o ∧ match o with
  | .ok ds ρ' => ∀ v S' H', Rep K G S' H' σ ρ' → Same S S' → FreshD K G S' H' σ ρ' v ds → Q v H'
  | .ex c ρ' => ∀ S' H', Rep K G S' H' σ ρ' → Same S S' → exW mg W c σ H'
section
variable {K : PySem.W.Frag} {mg : Str → Option Value} {W : WX} {G : Ent} {S H S' H' : Hp} {σ : St} {ρ ρ' : Ev}
theorem Fresh.un0 (R : Rep K G S H σ ρ) {v : V} {ds : List Dt} (f : Fresh K G S H σ ρ v ds) {a : Addr} (hv : v = .ref a) : Un0 σ ρ a := fun i ho z => by
  obtain ⟨b, xs, rfl, f2, f3, f4, f5, f6⟩ := f.ex
  cases hv
  rcases isO_cases ho with ⟨di, h⟩ | ⟨ki, h⟩
  · exact f6 i di h z
  · obtain ⟨c, ob, e1, q1, q2, _⟩ := R.slot i _ h
    rw [z] at e1; cases e1
    rw [f2] at q1; cases q1
    exact dr_lst q2
theorem Un0.notD {a : Addr} (h : Un0 σ ρ a) : ¬ OwnD σ ρ a := fun ⟨i, ks, h1, h2⟩ => h i (by rw [h1]; trivial) h2
/-- x = a fresh dict, to be the slot's own -/
theorem Rep.setD (R : Rep K G S H σ ρ) {i : Nat} (hf : Free G i) {v : V} {ks : List (Dt × Dt)} (f : FreshD K G S H σ ρ v ks) : Rep K G S H (σ.set i (some v)) (ρ.set i (.od ks)) := by
  obtain ⟨a, ob, rfl, q1, q2, q3, q4, un⟩ := f.ex
  refine ⟨R.sub, R.ent, R.frm, R.new, by rw [List.length_set, List.length_set]; exact R.len, fun j sl e => ?_, fun j k b h1 h2 h3 h4 => ?_, fun j b e => ?_⟩
  · have hl : j < σ.length := by
      have := (List.getElem?_eq_some_iff.mp e).1
      rw [List.length_set] at this
      rw [← R.len]; exact this
    rcases get_set e with ⟨rfl, rfl⟩ | ⟨ne, e⟩
    · exact ⟨a, ob, get_set_eq hl, q1, q2, q3, q4⟩
    · rw [get_set_ne ne]; exact R.slot j sl e
  · rcases isO_set h1 with ⟨e1, _⟩ | ⟨n1, h1⟩
    · rcases isO_set h2 with ⟨e2, _⟩ | ⟨n2, h2⟩
      · rw [← e1, ← e2]
      · exfalso
        rw [get_set_ne n2] at h4
        rcases get_set h3 with ⟨_, z⟩ | ⟨z, _⟩
        · cases z; exact un k h2 h4
        · exact z e1
    · rw [get_set_ne n1] at h3
      rcases isO_set h2 with ⟨e2, _⟩ | ⟨n2, h2⟩
      · exfalso
        rcases get_set h4 with ⟨_, z⟩ | ⟨z, _⟩
        · cases z; exact un j h1 h3
        · exact z e2
      · rw [get_set_ne n2] at h4
        exact R.dist j k b h1 h2 h3 h4
  · have ne : i ≠ j := fun z => hf _ e z.symm
    rw [get_set_ne ne, get_set_ne ne]
    exact R.io j b e
end

/-! ### a, b, .. = e, f, ..: data, and fresh lists and dicts to be owned -/
inductive Pv where
  | d (x : Dt)
  | n (ds : List Dt)
  | k (ks : List (Dt × Dt))
def ownP : Option Pv → Prop
  | some (.n _) => True
  | some (.k _) => True
  | _ => False
def PendOk (K : PySem.W.Frag) (G : Ent) (S H : Hp) (σ : St) (ρ : Ev) : List V → List Pv → Prop
  | [], [] => True
  | v :: vs, .d x :: ps => Dp K S v x ∧ PendOk K G S H σ ρ vs ps
  | v :: vs, .n ds :: ps => (Fresh K G S H σ ρ v ds ∧ ∀ (k : Nat), ownP ps[k]? → vs[k]? ≠ some v) ∧ PendOk K G S H σ ρ vs ps
  | v :: vs, .k ks :: ps => (FreshD K G S H σ ρ v ks ∧ ∀ (k : Nat), ownP ps[k]? → vs[k]? ≠ some v) ∧ PendOk K G S H σ ρ vs ps
  | _, _ => False
def tP (K : PySem.W.Frag) (mg : Str → Option Value) (W : WX) (m : M (List Pv)) : TA := fun σ H Q => ∃ G S ρ o, Rep K G S H σ ρ ∧ m ρ = some o ∧ match o with
  | .ok ps ρ' => ∀ vs S' H', Rep K G S' H' σ ρ' → Same S S' → PendOk K G S' H' σ ρ' vs ps → Q vs H'
  | .ex c ρ' => ∀ S' H', Rep K G S' H' σ ρ' → Same S S' → exW mg W c σ H'
def mPn : M (List Pv) := pur []
def asV : Rv → M Dt
  | .val d => pur d
  | .loc _ => fun _ => none
def mPd (a : M Rv) (b : M (List Pv)) : M (List Pv) := bd a fun r => bd (asV r) fun d => bd b fun ps => pur (.d d :: ps)
def mPo (a : M (List Dt)) (b : M (List Pv)) : M (List Pv) := bd a fun ds => bd b fun ps => pur (.n ds :: ps)
def mPk (a : M (List (Dt × Dt))) (b : M (List Pv)) : M (List Pv) := bd a fun ds => bd b fun ps => pur (.k ds :: ps)
theorem asV_ok {β : Type} {r : Rv} {k : Dt → M β} {ρ : Ev} {o : Ex β} (h : bd (asV r) k ρ = some o) : ∃ d, r = .val d ∧ k d ρ = some o := by
  cases r with
  | val d => exact ⟨d, rfl, h⟩
  | loc i => cases h
section
variable {K : PySem.W.Frag} {mg : Str → Option Value} {W : WX} {G : Ent} {S H S' H' : Hp} {σ : St} {ρ ρ' : Ev}
theorem seqP {β : Type} {m : M (List Pv)} {k : List Pv → M β} {o : Ex β} {Q : List V → Hp → Prop} (R : Rep K G S H σ ρ) (h : bd m k ρ = some o)
    (h1 : ∀ ps ρ' vs S' H', m ρ = some (.ok ps ρ') → k ps ρ' = some o → Rep K G S' H' σ ρ' → Same S S' → PendOk K G S' H' σ ρ' vs ps → Q vs H')
    (h2 : ∀ c ρ', o = .ex c ρ' → ∀ S' H', Rep K G S' H' σ ρ' → Same S S' → exW mg W c σ H') : tP K mg W m σ H Q := by
  rcases bd_some h with ⟨r, ρ', e, q⟩ | ⟨c, ρ', e, q⟩
  · exact ⟨G, S, ρ, _, R, e, fun v S' H' R' s rv => h1 r ρ' v S' H' e q R' s rv⟩
  · exact ⟨G, S, ρ, _, R, e, fun S' H' R' s => h2 c ρ' q S' H' R' s⟩
theorem seqK {β : Type} {m : M (List (Dt × Dt))} {k : List (Dt × Dt) → M β} {o : Ex β} {Q : VK} (R : Rep K G S H σ ρ) (h : bd m k ρ = some o)
    (h1 : ∀ ps ρ' v S' H', m ρ = some (.ok ps ρ') → k ps ρ' = some o → Rep K G S' H' σ ρ' → Same S S' → FreshD K G S' H' σ ρ' v ps → Q v H')
    (h2 : ∀ c ρ', o = .ex c ρ' → ∀ S' H', Rep K G S' H' σ ρ' → Same S S' → exW mg W c σ H') : tK K mg W m σ H Q := by
  rcases bd_some h with ⟨r, ρ', e, q⟩ | ⟨c, ρ', e, q⟩
  · exact ⟨G, S, ρ, _, R, e, fun v S' H' R' s rv => h1 r ρ' v S' H' e q R' s rv⟩
  · exact ⟨G, S, ρ, _, R, e, fun S' H' R' s => h2 c ρ' q S' H' R' s⟩
theorem hid (R : Rep K G S H σ ρ) {a : Addr} (h : (entN S H σ ρ).H a = none) : G.H a = none := by
  rcases hide_none h with z | z
  · exact R.gone z
  · exact (R.ownD z).1
theorem pend_back (R : Rep K G S H σ ρ) : ∀ {vs : List V} {ps : List Pv}, PendOk K (entN S H σ ρ) S' H' σ ρ' vs ps → PendOk K G S' H' σ ρ' vs ps
  | [], [], _ => trivial
  | v :: vs, .d x :: ps, ⟨h1, h2⟩ => ⟨h1, pend_back R h2⟩
  | v :: vs, .n ds :: ps, ⟨⟨f, h1⟩, h2⟩ => by
    obtain ⟨a, xs, f1, f2, f3, f4, f5, f6⟩ := f.ex
    exact ⟨⟨⟨a, xs, f1, f2, f3, f4, hid R f5, f6⟩, h1⟩, pend_back R h2⟩
  | v :: vs, .k ds :: ps, ⟨⟨f, h1⟩, h2⟩ => by
    obtain ⟨a, xs, f1, f2, f3, f4, f5, f6⟩ := f.ex
    exact ⟨⟨⟨a, xs, f1, f2, f3, f4, hid R f5, f6⟩, h1⟩, pend_back R h2⟩
theorem hid_not {a : Addr} {o : HO} (ha : H a = some o) (hu : ¬ OwnD σ ρ a) (h : (entN S H σ ρ).H a = none) : False := by
  rcases hide_none h with z | z
  · rw [ha] at z; cases z
  · exact hu z
theorem pend_new {a : Addr} {o : HO} (ha : H a = some o) (hu : ¬ OwnD σ ρ a) : ∀ {vs : List V} {ps : List Pv}, PendOk K (entN S H σ ρ) S' H' σ ρ' vs ps → ∀ (k : Nat), ownP ps[k]? → vs[k]? ≠ some (.ref a)
  | [], [], _, k, e => by simp at e; exact e.elim
  | v :: vs, .d x :: ps, ⟨h1, h2⟩, 0, e => by simp at e; exact e.elim
  | v :: vs, .d x :: ps, ⟨h1, h2⟩, k + 1, e => by simpa using pend_new ha hu h2 k (by simpa using e)
  | v :: vs, .n ds :: ps, ⟨⟨f, h1⟩, h2⟩, 0, e => fun z => by
    obtain ⟨b, xs, f1, f2, f3, f4, f5, f6⟩ := f.ex
    rw [f1] at z
    cases z
    exact hid_not ha hu f5
  | v :: vs, .n ds :: ps, ⟨⟨f, h1⟩, h2⟩, k + 1, e => by simpa using pend_new ha hu h2 k (by simpa using e)
  | v :: vs, .k ds :: ps, ⟨⟨f, h1⟩, h2⟩, 0, e => fun z => by
    obtain ⟨b, xs, f1, f2, f3, f4, f5, f6⟩ := f.ex
    rw [f1] at z
    cases z
    exact hid_not ha hu f5
  | v :: vs, .k ds :: ps, ⟨⟨f, h1⟩, h2⟩, k + 1, e => by simpa using pend_new ha hu h2 k (by simpa using e)
def setV : List Nat → List V → St → St
  | i :: is, v :: vs, σ => setV is vs (σ.set i (some v))
  | _, _, σ => σ
def setP : List Nat → List Pv → Ev → Ev
  | i :: is, .d x :: ps, ρ => setP is ps (ρ.set i (.sh x))
  | i :: is, .n ds :: ps, ρ => setP is ps (ρ.set i (.ow ds))
  | i :: is, .k ds :: ps, ρ => setP is ps (ρ.set i (.od ds))
  | _, _, ρ => ρ
theorem fresh_set {v u : V} {ds : List Dt} {sl : Sl} {i : Nat} (f : Fresh K G S H σ ρ v ds) (h : ¬ isO (some sl) ∨ u ≠ v) : Fresh K G S H (σ.set i (some u)) (ρ.set i sl) v ds := by
  obtain ⟨a, xs, rfl, f2, f3, f4, f5, f6⟩ := f.ex
  refine ⟨a, xs, rfl, f2, f3, f4, f5, fun j dj e1 e2 => ?_⟩
  rcases get_set e1 with ⟨rfl, z⟩ | ⟨ne, e1⟩
  · rcases get_set e2 with ⟨_, y⟩ | ⟨y, _⟩
    · rcases h with h | h
      · rw [← z] at h; exact h trivial
      · exact h (Option.some.inj y).symm
    · exact y rfl
  · rw [get_set_ne ne] at e2
    exact f6 j dj e1 e2
theorem freshD_set {v u : V} {ds : List (Dt × Dt)} {sl : Sl} {i : Nat} (f : FreshD K G S H σ ρ v ds) (h : ¬ isO (some sl) ∨ u ≠ v) : FreshD K G S H (σ.set i (some u)) (ρ.set i sl) v ds := by
  obtain ⟨a, xs, rfl, f2, f3, f4, f5, f6⟩ := f.ex
  refine ⟨a, xs, rfl, f2, f3, f4, f5, fun j e1 e2 => ?_⟩
  rcases isO_set e1 with ⟨rfl, z⟩ | ⟨ne, e1⟩
  · rcases get_set e2 with ⟨_, y⟩ | ⟨y, _⟩
    · rcases h with h | h
      · exact h z
      · exact h (Option.some.inj y).symm
    · exact y rfl
  · rw [get_set_ne ne] at e2
    exact f6 j e1 e2
theorem pend_set {u : V} {sl : Sl} {i : Nat} : ∀ {vs : List V} {ps : List Pv}, PendOk K G S H σ ρ vs ps → (¬ isO (some sl) ∨ ∀ (k : Nat), ownP ps[k]? → vs[k]? ≠ some u) → PendOk K G S H (σ.set i (some u)) (ρ.set i sl) vs ps
  | [], [], _, _ => trivial
  | v :: vs, .d x :: ps, ⟨h1, h2⟩, h => ⟨h1, pend_set h2 (h.imp id fun z k e => by simpa using z (k + 1) (by simpa using e))⟩
  | v :: vs, .n ds :: ps, ⟨⟨f, h1⟩, h2⟩, h => ⟨⟨fresh_set f (h.imp id fun z y => z 0 (by simp [ownP]) (by rw [y]; rfl)), h1⟩, pend_set h2 (h.imp id fun z k e => by simpa using z (k + 1) (by simpa using e))⟩
  | v :: vs, .k ds :: ps, ⟨⟨f, h1⟩, h2⟩, h => ⟨⟨freshD_set f (h.imp id fun z y => z 0 (by simp [ownP]) (by rw [y]; rfl)), h1⟩, pend_set h2 (h.imp id fun z k e => by simpa using z (k + 1) (by simpa using e))⟩
theorem Rep.setPs : ∀ {is : List Nat} {vs : List V} {ps : List Pv} {σ : St} {ρ : Ev}, Rep K G S H σ ρ → PendOk K G S H σ ρ vs ps → (∀ i ∈ is, Free G i) → Rep K G S H (setV is vs σ) (setP is ps ρ)
  | [], vs, ps, _, _, R, _, _ => by unfold setV setP; exact R
  | i :: is, [], [], _, _, R, _, _ => by unfold setV setP; exact R
  | i :: is, v :: vs, .d x :: ps, _, _, R, ⟨h1, h2⟩, hf => by
    unfold setV setP
    exact Rep.setPs (R.setS (hf i List.mem_cons_self) h1) (pend_set h2 (.inl fun z => z)) fun j hj => hf j (List.mem_cons_of_mem _ hj)
  | i :: is, v :: vs, .n ds :: ps, _, _, R, ⟨⟨f, h1⟩, h2⟩, hf => by
    unfold setV setP
    exact Rep.setPs (R.setO (hf i List.mem_cons_self) f) (pend_set h2 (.inr h1)) fun j hj => hf j (List.mem_cons_of_mem _ hj)
  | i :: is, v :: vs, .k ds :: ps, _, _, R, ⟨⟨f, h1⟩, h2⟩, hf => by
    unfold setV setP
    exact Rep.setPs (R.setD (hf i List.mem_cons_self) f) (pend_set h2 (.inr h1)) fun j hj => hf j (List.mem_cons_of_mem _ hj)
theorem pend_len : ∀ {vs : List V} {ps : List Pv}, PendOk K G S H σ ρ vs ps → vs.length = ps.length
  | [], [], _ => rfl
  | v :: vs, .d x :: ps, ⟨_, h⟩ => by rw [List.length_cons, List.length_cons, pend_len h]
  | v :: vs, .n ds :: ps, ⟨_, h⟩ => by rw [List.length_cons, List.length_cons, pend_len h]
  | v :: vs, .k ds :: ps, ⟨_, h⟩ => by rw [List.length_cons, List.length_cons, pend_len h]
theorem pend_alloc {p : Addr} (hp : H p = none) (o : HO) : ∀ {vs : List V} {ps : List Pv}, PendOk K G S H σ ρ vs ps → PendOk K G S (upd H p o) σ ρ vs ps
  | [], [], _ => trivial
  | v :: vs, .d x :: ps, ⟨h1, h2⟩ => ⟨h1, pend_alloc hp o h2⟩
  | v :: vs, .n ds :: ps, ⟨⟨f, h1⟩, h2⟩ => by
    obtain ⟨a, xs, f1, f2, f3, f4, f5, f6⟩ := f.ex
    exact ⟨⟨⟨a, xs, f1, upd_same' hp _ _ f2, f3, f4, f5, f6⟩, h1⟩, pend_alloc hp o h2⟩
  | v :: vs, .k ds :: ps, ⟨⟨f, h1⟩, h2⟩ => by
    obtain ⟨a, xs, f1, f2, f3, f4, f5, f6⟩ := f.ex
    exact ⟨⟨⟨a, xs, f1, upd_same' hp _ _ f2, f3, f4, f5, f6⟩, h1⟩, pend_alloc hp o h2⟩
end
def sPar (is : List Nat) (m : M (List Pv)) : F := fun ρ => fromE (fun ps ρ' => if ps.length = is.length then some (.nx (setP is ps ρ')) else none) (m ρ)
section
variable {X : Cx} {W : WX} {ios : List Nat} {e : Expr} {es : List Expr} {m : M Rv} {mn : M (List Dt)} {mk : M (List (Dt × Dt))} {mp : M (List Pv)}
theorem d_pn : PA X [] (tP X.K X.mg W mPn) := pa_imp pa_nil fun σ H Q w => by
  obtain ⟨G, S, ρ, o, R, e, q⟩ := w
  cases e
  exact q [] S H R (Same.refl _) trivial
theorem d_pd (ha : PE X e (tD X.K X.mg W m)) (hr : PA X es (tP X.K X.mg W mp)) (hs : starEach (e :: es) X.env = (false, eval e X.env) :: starEach es X.env := by rfl) : PA X (e :: es) (tP X.K X.mg W (mPd m mp)) :=
  pa_imp (pa_cons ha hr hs) fun σ H Q w => by
    obtain ⟨G, S, ρ, o, R, e, q⟩ := w
    refine seqD R e (fun r1 ρ1 v1 S1 H1 _ e1 R1 s1 rv1 => ?_) fun c ρ' eo S' H' R' s' => by subst eo; exact q S' H' R' s'
    obtain ⟨d, rfl, e2⟩ := asV_ok e1
    refine seqP R1 e2 (fun ps ρ2 vs S2 H2 _ e3 R2 s2 hp => ?_) fun c ρ' eo S' H' R' s' => by subst eo; exact q S' H' R' (s1.trans s')
    cases e3
    exact q (v1 :: vs) S2 H2 R2 (s1.trans s2) ⟨dp_mono s2 _ _ rv1, hp⟩
theorem d_po (ha : PE X e (tN X.K X.mg W mn)) (hr : PA X es (tP X.K X.mg W mp)) (hs : starEach (e :: es) X.env = (false, eval e X.env) :: starEach es X.env := by rfl) : PA X (e :: es) (tP X.K X.mg W (mPo mn mp)) :=
  pa_imp (pa_cons ha hr hs) fun σ H Q w => by
    obtain ⟨G, S, ρ, o, R, e, q⟩ := w
    refine seqN R e (fun ds ρ1 v1 S1 H1 _ e1 R1 s1 f => ?_) fun c ρ' eo S' H' R' s' => by subst eo; exact q S' H' R' s'
    refine seqP R1.again e1 (fun ps ρ2 vs S2 H2 _ e3 R2 s2 hp => ?_) fun c ρ' eo S' H' R' s' => by subst eo; exact q S' H' (R1.back R') (s1.trans s')
    cases e3
    obtain ⟨a, xs, rfl, f2, f3, f4, f5, f6⟩ := f.ex
    have un := f.un0 R1 rfl
    obtain ⟨k1, k2, k3⟩ := R2.held f2 f4 un
    exact q (.ref a :: vs) S2 H2 (R1.back R2) (s1.trans s2) ⟨⟨⟨a, xs, rfl, k1, dpAll_mono s2 _ _ f3, k2, f5, fun i di e => k3 i (by rw [e]; trivial)⟩, pend_new f2 un.notD hp⟩, pend_back R1 hp⟩
theorem d_pk (ha : PE X e (tK X.K X.mg W mk)) (hr : PA X es (tP X.K X.mg W mp)) (hs : starEach (e :: es) X.env = (false, eval e X.env) :: starEach es X.env := by rfl) : PA X (e :: es) (tP X.K X.mg W (mPk mk mp)) :=
  pa_imp (pa_cons ha hr hs) fun σ H Q w => by
    obtain ⟨G, S, ρ, o, R, e, q⟩ := w
    refine seqK R e (fun ds ρ1 v1 S1 H1 _ e1 R1 s1 f => ?_) fun c ρ' eo S' H' R' s' => by subst eo; exact q S' H' R' s'
    refine seqP R1.again e1 (fun ps ρ2 vs S2 H2 _ e3 R2 s2 hp => ?_) fun c ρ' eo S' H' R' s' => by subst eo; exact q S' H' (R1.back R') (s1.trans s')
    cases e3
    obtain ⟨a, xs, rfl, f2, f3, f4, f5, f6⟩ := f.ex
    obtain ⟨k1, k2, k3⟩ := R2.held f2 f4 f6
    exact q (.ref a :: vs) S2 H2 (R1.back R2) (s1.trans s2) ⟨⟨⟨a, xs, rfl, k1, dr_mono s2 f3, k2, f5, k3⟩, pend_new f2 f6.notD hp⟩, pend_back R1 hp⟩
theorem rd_par {is : List Nat} (hi : ∀ i ∈ is, i ∉ ios) {D : Ends} {σ : St} {H : Hp} (w : tS X.K X.mg W ios (sPar is mp) D σ H) {P : List V → Hp → Prop} (hP : ∀ G S1 H1 ρ1 vs ps, G.io.map (·.1) = ios → Rep X.K G S1 H1 σ ρ1 → PendOk X.K G S1 H1 σ ρ1 vs ps → vs.length = is.length →
      (∀ S' H', Rep X.K G S' H' (setV is vs σ) (setP is ps ρ1) → Same S1 S' → D.nx (setV is vs σ) H') → P vs H1) : tP X.K X.mg W mp σ H P := by
  obtain ⟨G, S, ρ, fl, hio, R, e, q⟩ := w
  rcases fromE_some e with ⟨ps, ρ', e1, e2⟩ | ⟨c, ρ', e1, rfl⟩
  · refine ⟨G, S, ρ, _, R, e1, fun vs S' H' R' s' hp => ?_⟩
    split at e2
    · rename_i hl
      cases e2
      exact hP G S' H' ρ' vs ps hio R' hp ((pend_len hp).trans hl) fun S2 H2 R2 s2 => q _ S2 H2 R2 (s'.trans s2)
    · cases e2
  · exact ⟨G, S, ρ, _, R, e1, fun S' H' R' s' => q σ S' H' R' s'⟩
theorem d_par2 {i j : Nat} {x y : Str} {a b : Expr} {px py pt pos : Pos} {kt k2 pt2} (hc : X.calm = true) (hN : X.N.Nodup) (ha : PA X [a, b] (tP X.K X.mg W mp)) (hij : i ≠ j := by decide) (hk : ∀ l ∈ [i, j], l ∉ ios := by decide) (hi : X.N[i]? = some x := by rfl) (hj : X.N[j]? = some y := by rfl)
    (hx : X.env.scope.names.lookup x = some .local := by rfl) (hy : X.env.scope.names.lookup y = some .local := by rfl)
    (hw : swappedStores [.Tuple [.Name x px, .Name y py] kt pt] (.Tuple [a, b] k2 pt2) X.env = pure (some [x, y]) := by rfl)
    (hs : swapsWithSole [.Tuple [.Name x px, .Name y py] kt pt] (.Tuple [a, b] k2 pt2) pos.line X.env = pure false := by rfl) :
    PS X (.Assign [.Tuple [.Name x px, .Name y py] kt pt] (.Tuple [a, b] k2 pt2) pos) (tS X.K X.mg W ios (sPar [i, j] mp)) :=
  ps_imp (ps_par hc hN hi hj hij hx hy ha hw hs) fun D σ H w => rd_par hk w fun G S1 H1 ρ1 vs ps hio R1 hp hl q => by
    match vs, hl, hp, q with
    | [v, u], _, hp, q => exact ⟨v, u, rfl, q S1 H1 (R1.setPs hp (frees hio hk)) (Same.refl _)⟩
theorem d_par3 {i j l : Nat} {x y z : Str} {a b c : Expr} {px py pz pt pos : Pos} {kt k2 pt2} (hc : X.calm = true) (hN : X.N.Nodup) (ha : PA X [a, b, c] (tP X.K X.mg W mp)) (hij : i ≠ j := by decide) (hil : i ≠ l := by decide) (hjl : j ≠ l := by decide) (hk : ∀ m ∈ [i, j, l], m ∉ ios := by decide)
    (hi : X.N[i]? = some x := by rfl) (hj : X.N[j]? = some y := by rfl) (hl : X.N[l]? = some z := by rfl)
    (hx : X.env.scope.names.lookup x = some .local := by rfl) (hy : X.env.scope.names.lookup y = some .local := by rfl) (hz : X.env.scope.names.lookup z = some .local := by rfl)
    (hw : swappedStores [.Tuple [.Name x px, .Name y py, .Name z pz] kt pt] (.Tuple [a, b, c] k2 pt2) X.env = pure (some [x, y, z]) := by rfl)
    (hs : swapsWithSole [.Tuple [.Name x px, .Name y py, .Name z pz] kt pt] (.Tuple [a, b, c] k2 pt2) pos.line X.env = pure false := by rfl) :
    PS X (.Assign [.Tuple [.Name x px, .Name y py, .Name z pz] kt pt] (.Tuple [a, b, c] k2 pt2) pos) (tS X.K X.mg W ios (sPar [i, j, l] mp)) :=
  ps_imp (ps_par3 hc hN hi hj hl hij hil hjl hx hy hz ha hw hs) fun D σ H w => rd_par hk w fun G S1 H1 ρ1 vs ps hio R1 hp hl q => by
    match vs, hl, hp, q with
    | [v, u, t], _, hp, q => exact ⟨v, u, t, rfl, q S1 H1 (R1.setPs hp (frees hio hk)) (Same.refl _)⟩
def gNames : List Nat → TGs
  | [] => L2.gNil
  | i :: is => L2.gCons (gName i) (gNames is)
theorem gNames_ok {Q : St → Hp → Prop} : ∀ {is : List Nat} {vs : List V} {σ : St} {H : Hp}, vs.length = is.length → Q (setV is vs σ) H → gNames is vs σ H Q
  | [], [], σ, H, _, h => ⟨rfl, h⟩
  | i :: is, v :: vs, σ, H, hl, h => ⟨v, vs, rfl, gNames_ok (by simpa using hl) h⟩
/-- by way of the tuple -/
theorem d_parT {is : List Nat} {tgs : List Expr} {kt k2 : Nat} {pt pt2 pos : Pos} (hc : X.calm = true) (ha : PA X es (tP X.K X.mg W mp)) (hg : PGs X tgs (gNames is)) (hk : ∀ m ∈ is, m ∉ ios := by decide) (hn : is.length ≤ sizeLine := by decide)
    (hl : (assignEach tgs X.env).length = is.length := by rfl) (hst : (assignEach tgs X.env).findIdx? (·.1) = none := by rfl)
    (hs : swapsWithSole [.Tuple tgs kt pt] (.Tuple es k2 pt2) pos.line X.env = pure false := by rfl) (hw : swappedStores [.Tuple tgs kt pt] (.Tuple es k2 pt2) X.env = pure none := by rfl)
    (h1 : (assignEach [.Tuple tgs kt pt] X.env).map (·.2) = [assign (.Tuple tgs kt pt) X.env] := by rfl) :
    PS X (.Assign [.Tuple tgs kt pt] (.Tuple es k2 pt2) pos) (tS X.K X.mg W ios (sPar is mp)) :=
  ps_imp (ps_asg (pe_tup ha) (pg_tup hc hg hl hst) hs hw h1) fun D σ H w => rd_par hk w fun G S1 H1 ρ1 vs ps hio R1 hp hlv q => by
    refine ⟨by rw [hlv]; exact hn, fun p hpn => ?_⟩
    refine ⟨p, vs, rfl, SqT.of upd_same, hlv, gNames_ok hlv (q S1 _ ?_ (Same.refl _))⟩
    exact (R1.alloc hpn _).setPs (pend_alloc hpn _ hp) (frees hio hk)
end

/-! ### raise, try -/
def sRaise (c : Str) : F := fun ρ => some (.ex c ρ)
section
variable {X : Cx} {W : WX} {ios : List Nat}
theorem d_raise {C : Addr} {x m : Str} {j : Nat} {p p2 pos pos2 : Pos} (hc : X.calm = true) (tk : Takes X W) (q : PySem.W.excIn X.K C [.type "ValueError", .type "Exception", .type "BaseException", .type "object"] "ValueError.__new__" = true) (gC : X.mg x = some (.ref C)) (kC : PySem.W.keepIn X.K (.ref C) = true)
    (bC : PySem.W.subIn X.K (.ref C) (.type "BaseException") = some true) (tC : PySem.W.typeIn X.K (.ref C) = some (.type "type")) (hg : Gl X x := by rfl) (hdb : (x == ("__debug__" : Str)) = false := by decide) :
    PS X (.Raise (some (.Call (.Name x p) [.Constant (.str m) j p2] [] pos)) none pos2) (tS X.K X.mg W ios (sRaise x)) :=
  ps_imp (ps_raise hc tk (pmk_own PySem.F.excBase_ValueError q gC kC (raises_own bC tC) hg hdb)) fun D σ H w => by
    obtain ⟨G, S, ρ, fl, hio, R, e, q⟩ := w
    cases e
    obtain ⟨C', h1, h2⟩ := q σ S H R (Same.refl _)
    rw [gC] at h1
    cases h1
    exact h2
/-- a suite that lets nothing out -/
def noEx : Option Fl → Option Fl
  | some (.ex _ _) => none
  | o => o
def pick : List ((Str → Option Bool) × F) → Str → F
  | [], c, ρ => some (.ex c ρ)
  | (hit, h) :: r, c, ρ => match hit c with
    | some true => noEx (h ρ)
    | some false => pick r c ρ
    | none => none
def sTry (hs : List ((Str → Option Bool) × F)) (g : F) : F := fun ρ => match g ρ with
  | some (.ex c ρ') => pick hs c ρ'
  | o => o
theorem noEx_some {o : Option Fl} {fl : Fl} (h : noEx o = some fl) : o = some fl ∧ ∀ c ρ, fl ≠ .ex c ρ := by
  cases o with
  | none => cases h
  | some f => cases f <;> first | (cases h; done) | (cases h; exact ⟨rfl, fun c ρ z => nomatch z⟩)
theorem Wish.anyW {K : PySem.W.Frag} {mg : Str → Option Value} {W W' : WX} {G : Ent} {S : Hp} {D : Ends} {fl : Fl} (h : Wish K mg W G S D fl) (hn : ∀ c ρ, fl ≠ .ex c ρ) : Wish K mg W' G S D fl := by
  cases fl with
  | ex c ρ => exact absurd rfl (hn c ρ)
  | _ => exact h
/-- the clauses: whether a class is caught, told by name -/
inductive Cl (X : Cx) (ios : List Nat) : List ((Str → Option Bool) × F) → List (Value × (Addr → Value → Option Addr → TS)) → Prop
  | nil : Cl X ios [] []
  | cons {hit : Str → Option Bool} {h : F} {c : Value} {l : List ((Str → Option Bool) × F)} {r : List (Value × (Addr → Value → Option Addr → TS))}
      (hh : ∀ n b, hit n = some b → ∃ C, X.mg n = some (.ref C) ∧ PySem.W.exmOne X.K (.ref C) c = some b) (t : Cl X ios l r) : Cl X ios ((hit, h) :: l) ((c, fun _ _ _ => tS X.K X.mg W0 ios h) :: r)
theorem pick_ok {G : Ent} {S' H' : Hp} {σ' : St} {ρ' : Ev} {D : Ends} {c : Str} {fl : Fl} (hio : G.io.map (·.1) = ios) (R' : Rep X.K G S' H' σ' ρ') : ∀ {l : List ((Str → Option Bool) × F)} {r : List (Value × (Addr → Value → Option Addr → TS))} {C : Addr}, Cl X ios l r → X.mg c = some (.ref C) → pick l c ρ' = some fl → Wish X.K X.mg W G S' D fl →
    wMany X.K W D r (.ref C) none σ' H'
  | [], _, C, .nil, hC, e, q => by
    cases e
    obtain ⟨C', h1, h2⟩ := q σ' S' H' R' (Same.refl _)
    rw [hC] at h1
    cases h1
    exact h2
  | (hit, h) :: l, _, C, .cons hh t, hC, e, q => by
    unfold pick at e
    cases hb : hit c with
    | none => rw [hb] at e; cases e
    | some b =>
      rw [hb] at e
      obtain ⟨C', h1, h2⟩ := hh c b hb
      rw [hC] at h1
      cases h1
      refine ⟨b, h2, fun hb1 a ha => ?_, fun hb1 => ?_⟩
      · subst hb1
        obtain ⟨e1, e2⟩ := noEx_some e
        exact ⟨G, S', ρ', fl, hio, R', e1, q.anyW e2⟩
      · subst hb1
        exact pick_ok hio R' t hC e q
theorem pick_mg {ρ' : Ev} {c : Str} {fl : Fl} : ∀ {l : List ((Str → Option Bool) × F)} {r : List (Value × (Addr → Value → Option Addr → TS))}, l ≠ [] → Cl X ios l r → pick l c ρ' = some fl → ∃ C, X.mg c = some (.ref C)
  | [], _, h, _, _ => absurd rfl h
  | (hit, h) :: l, _, _, .cons hh t, e => by
    unfold pick at e
    cases hb : hit c with
    | none => rw [hb] at e; cases e
    | some b =>
      obtain ⟨C', h1, _⟩ := hh c b hb
      exact ⟨C', h1⟩
theorem d_try {body : List Stmt} {h₀ : ExceptHandler} {hds : List ExceptHandler} {l : List ((Str → Option Bool) × F)} {r : List (Value × (Addr → Value → Option Addr → TS))} {pos : Pos} {g : F} (hs : X.stack = X.env :: X.outer) (hf : X.env.frame = some X.env.locals) (tk : Takes X W)
    (hb : ∀ (W' : WX) (pn : List (Addr × Obj)) (xe : Value → Shared → Prop), Takes (X.tr pn xe) W' → PassesOwn (model X.prog X.w) X.A X.env xe → PSs (X.tr pn xe) body (tS X.K X.mg W' ios g))
    (hh : HdsOk X (h₀ :: hds) r) (hcl : Cl X ios l r) (hne : l ≠ [] := by exact List.cons_ne_nil _ _) : PS X (.Try body (h₀ :: hds) [] [] pos) (tS X.K X.mg W ios (sTry l g)) :=
  ps_imp (ps_try_many hs hf tk hb hh) fun D σ H w => by
    obtain ⟨G, S, ρ, fl, hio, R, e, q⟩ := w
    unfold sTry at e
    cases q1 : g ρ with
    | none => rw [q1] at e; cases e
    | some f1 =>
      rw [q1] at e
      refine ⟨G, S, ρ, f1, hio, R, q1, ?_⟩
      cases f1 with
      | nx ρ' => cases e; exact q
      | rt d ρ' => cases e; exact q
      | rn d ρ' => cases e; exact q
      | bk ρ' => cases e; exact q
      | ct ρ' => cases e; exact q
      | ex c ρ' =>
        refine fun σ' S' H' R' s' => ?_
        obtain ⟨C, hC⟩ := pick_mg hne hcl e
        exact ⟨C, hC, pick_ok hio R' hcl hC e (q.mono s')⟩
end
end PD
/-! PD9: operators over data. -/
namespace PD
open PySem L2

section
variable {X : Cx}
theorem opr_or {f : Value → Value → Sem Value} {r r' : R2} (h : OpR X f r) (h' : OpR X f r') : OpR X f (fun x y H Q => r x y H Q ∨ r' x y H Q) := by
  intro ps s σ H x y v u Q I rx ry w
  rcases w with w | w
  · exact h ps s σ H x y v u Q I rx ry w
  · exact h' ps s σ H x y v u Q I rx ry w
theorem callr_or {f : Value} {r r' : List V → Hp → VK → Prop} (h : CallR X f r) (h' : CallR X f r') : CallR X f (fun xs H Q => r xs H Q ∨ r' xs H Q) := by
  intro ps s σ H xs us Q I rx w
  rcases w with w | w
  · exact h ps s σ H xs us Q I rx w
  · exact h' ps s σ H xs us Q I rx w
/-- list + list, whatever they are -/
def rCatL (K : PySem.W.Frag) : R2 := fun x y H Q => ∃ a b xs ys, x = .ref a ∧ y = .ref b ∧ SqL K H a xs ∧ SqL K H b ys ∧ xs.length + ys.length ≤ sizeLine ∧ ∀ p, H p = none → Q (.ref p) (upd H p (.lst (xs ++ ys)))
theorem op_catL : OpR X (binaryOp .Add) (rCatL X.K) := by
  intro ps s0 τ H0 x y v u Q J rx ry w
  obtain ⟨a, b, xs, ys, rfl, rfl, ha, hb, hz, q⟩ := w
  cases rx
  cases ry
  obtain ⟨i1, r1, ⟨⟨c1, d1, t1, l1⟩, n1, g1, k1, e1, z1⟩, _⟩ := J.list ha
  obtain ⟨i2, r2, ⟨⟨c2, d2, t2, l2⟩, n2, g2, k2, e2, z2⟩, _⟩ := J.list hb
  simp only at k1 e1 z1 k2 e2 z2
  subst k1 e1 z1 k2 e2 z2
  have hl1 := r1.length
  have hl2 := r2.length
  refine PySem.concat_meets ⟨_, g1, rfl⟩ ⟨_, g2, rfl⟩ PySem.noFill_list_add PySem.seq_list_add PySem.F.slot_list_add PySem.F.entry_list_add (PySem.F.args_list_add_2 _ _)
    (PyProof.Rows.list_addW a b i1.toArray i2.toArray n1 n2 none none l1 l2 (by simp only [List.size_toArray]; omega)) ⟨g1, g2, ?_⟩
  have ea : i1.toArray ++ i2.toArray = (i1 ++ i2).toArray := by simp
  rw [ea]
  exact ⟨.ref _, _, J.lnew (t' := s0.toks) (r1.append r2) (by rw [List.length_append]; omega), rfl, q _ J.fresh⟩
end

/-! ### data in, data out -/
section
variable {K : PySem.W.Frag} {S H : Hp} {v : V}
theorem tr_int {i : Int} (h : Tr K S H v (.int i)) : v = .int i := by
  rcases h with h | ⟨a, xs, ds, _, z, _⟩
  · cases h; rfl
  · cases z
theorem tr_str {i : Str} (h : Tr K S H v (.str i)) : v = .str i := by
  rcases h with h | ⟨a, xs, ds, _, z, _⟩
  · cases h; rfl
  · cases z
theorem tr_bool {i : Bool} (h : Tr K S H v (.bool i)) : v = .bl i := by
  rcases h with h | ⟨a, xs, ds, _, z, _⟩
  · cases h; rfl
  · cases z
theorem tr_none (h : Tr K S H v .none) : v = .non := by
  rcases h with h | ⟨a, xs, ds, _, z, _⟩
  · cases h; rfl
  · cases z
theorem tr_tup {ds : List Dt} (h : Tr K S H v (.tuple ds)) : ∃ a xs, v = .ref a ∧ SqT K S a xs ∧ DpAll K S xs ds := by
  rcases h with h | ⟨a, xs, ds, _, z, _⟩
  · cases h with
    | tup h1 h2 => exact ⟨_, _, rfl, h1, h2⟩
  · cases z
theorem tr_list {ds : List Dt} (s : Same S H) (h : Tr K S H v (.list ds)) : ∃ a xs, v = .ref a ∧ SqL K H a xs ∧ DpAll K S xs ds := by
  rcases h with h | ⟨a, xs, es, rfl, z, e, q⟩
  · cases h with
    | lst h1 h2 => exact ⟨_, _, rfl, s.seq h1, h2⟩
  · cases z
    exact ⟨a, xs, rfl, SqL.of e, q⟩
end
section
variable {K : PySem.W.Frag}
/-! ### + - * // % ** -/
def gAdd : Dt → Dt → Option Dt
  | .int i, .int j => some (.int (i + j))
  | .str a, .str b => if a.length + b.length ≤ sizeLine then some (.str (a ++ b)) else none
  | .list xs, .list ys => if xs.length + ys.length ≤ sizeLine then some (.list (xs ++ ys)) else none
  | .tuple xs, .tuple ys => if xs.length + ys.length ≤ sizeLine then some (.tuple (xs ++ ys)) else none
  | _, _ => none
def rAddA (K : PySem.W.Frag) : R2 := fun x y H Q => ((rI0 fun i j => .int (i + j)) x y H Q ∨ (∃ i j, x = .str i ∧ y = .str j ∧ i.length + j.length ≤ sizeLine ∧ Q (.str (i ++ j)) H)) ∨ rCatL K x y H Q ∨ rCatA K x y H Q
theorem op_addA {X : Cx} : OpR X (binaryOp .Add) (rAddA X.K) := opr_or (opr_or op_add op_add_str) (opr_or op_catL op_catA)
theorem pur_add : Pur2 K (rAddA K) gAdd := by
  intro S H x y dx dy dz Q sb tx ty e q
  unfold gAdd at e
  split at e
  · cases e
    exact .inl (.inl ⟨_, _, tr_int tx, tr_int ty, q _ S H (Grow.rfl' sb) (.int _)⟩)
  · split at e
    · rename_i hz
      cases e
      exact .inl (.inr ⟨_, _, tr_str tx, tr_str ty, hz, q _ S H (Grow.rfl' sb) (.str _)⟩)
    · cases e
  · split at e
    · rename_i hz
      cases e
      obtain ⟨a, xs, rfl, h1, h2⟩ := tr_list sb tx
      obtain ⟨b, ys, rfl, h3, h4⟩ := tr_list sb ty
      refine .inr (.inl ⟨a, b, xs, ys, rfl, rfl, h1, h3, by rw [dpa_len h2, dpa_len h4]; exact hz, fun p hp => ?_⟩)
      have gr := Grow.one sb hp (.lst (xs ++ ys))
      exact q _ _ _ gr (.lst (SqL.of upd_same) (dpa_app (dpAll_mono gr.s _ _ h2) (dpAll_mono gr.s _ _ h4)))
    · cases e
  · split at e
    · rename_i hz
      cases e
      obtain ⟨a, xs, rfl, h1, h2⟩ := tr_tup tx
      obtain ⟨b, ys, rfl, h3, h4⟩ := tr_tup ty
      refine .inr (.inr ⟨a, b, xs, ys, rfl, rfl, sqT_mono sb h1, sqT_mono sb h3, by rw [dpa_len h2, dpa_len h4]; exact hz, fun h0 => ?_, fun _ h0 => ?_, fun _ _ p hp => ?_⟩)
      · subst h0
        cases h2
        exact q _ S H (Grow.rfl' sb) (.tup h3 h4)
      · subst h0
        cases h4
        rw [List.append_nil] at q
        exact q _ S H (Grow.rfl' sb) (.tup h1 h2)
      · have gr := Grow.one sb hp (.tup (xs ++ ys))
        exact q _ _ _ gr (.tup (SqT.of upd_same) (dpa_app (dpAll_mono gr.s _ _ h2) (dpAll_mono gr.s _ _ h4)))
    · cases e
  · cases e
/-- two ints, under a condition -/
def gI (c : Int → Int → Bool) (f : Int → Int → Dt) : Dt → Dt → Option Dt
  | .int i, .int j => if c i j = true then some (f i j) else none
  | _, _ => none
theorem gI_some {c : Int → Int → Bool} {f : Int → Int → Dt} {x y z : Dt} (h : gI c f x y = some z) : ∃ i j, x = .int i ∧ y = .int j ∧ c i j = true ∧ z = f i j := by
  unfold gI at h
  split at h
  · split at h
    · rename_i hc
      cases h
      exact ⟨_, _, rfl, rfl, hc, rfl⟩
    · cases h
  · cases h
def yes2 : Int → Int → Bool := fun _ _ => true
def gSub := gI yes2 fun i j => .int (i - j)
theorem pur_sub : Pur2 K (rI0 fun i j => .int (i - j)) gSub := by
  intro S H x y dx dy dz Q sb tx ty e q
  obtain ⟨i, j, rfl, rfl, _, rfl⟩ := gI_some e
  exact ⟨i, j, tr_int tx, tr_int ty, q _ S H (Grow.rfl' sb) (.int _)⟩
def small64 (i : Int) : Bool := decide (-(2 ^ 64) < i) && decide (i < 2 ^ 64)
theorem small64_ok {i : Int} (h : small64 i = true) : -(2 ^ 64) < i ∧ i < 2 ^ 64 := by
  unfold small64 at h
  rw [Bool.and_eq_true, decide_eq_true_eq, decide_eq_true_eq] at h
  exact h
def gMulI := gI (fun i j => small64 i || small64 j) fun i j => .int (i * j)
theorem pur_mulI : Pur2 K (rI CMul fun i j => .int (i * j)) gMulI := by
  intro S H x y dx dy dz Q sb tx ty e q
  obtain ⟨i, j, rfl, rfl, c, rfl⟩ := gI_some e
  rw [Bool.or_eq_true] at c
  exact ⟨i, j, tr_int tx, tr_int ty, c.imp small64_ok small64_ok, q _ S H (Grow.rfl' sb) (.int _)⟩
def gDiv := gI (fun _ j => decide (0 < j) && decide (j < 1073741824)) fun i j => .int (i / j)
theorem pur_div : Pur2 K (rI CDiv fun i j => .int (i / j)) gDiv := by
  intro S H x y dx dy dz Q sb tx ty e q
  obtain ⟨i, j, rfl, rfl, c, rfl⟩ := gI_some e
  rw [Bool.and_eq_true, decide_eq_true_eq, decide_eq_true_eq] at c
  exact ⟨i, j, tr_int tx, tr_int ty, c, q _ S H (Grow.rfl' sb) (.int _)⟩
def gMod := gI (fun _ j => decide (0 < j)) fun i j => .int (i % j)
theorem pur_mod : Pur2 K (rI (fun _ j => 0 < j) fun i j => .int (i % j)) gMod := by
  intro S H x y dx dy dz Q sb tx ty e q
  obtain ⟨i, j, rfl, rfl, c, rfl⟩ := gI_some e
  rw [decide_eq_true_eq] at c
  exact ⟨i, j, tr_int tx, tr_int ty, c, q _ S H (Grow.rfl' sb) (.int _)⟩
def gPow := gI (fun i j => decide (0 ≤ j) && (decide (j ≤ 1000000) && decide (i.natAbs < 2 ^ 64))) fun i j => .int (i ^ j.toNat)
theorem pur_pow : Pur2 K (rI CPow fun i j => .int (i ^ j.toNat)) gPow := by
  intro S H x y dx dy dz Q sb tx ty e q
  obtain ⟨i, j, rfl, rfl, c, rfl⟩ := gI_some e
  rw [Bool.and_eq_true, Bool.and_eq_true, decide_eq_true_eq, decide_eq_true_eq, decide_eq_true_eq] at c
  exact ⟨i, j, tr_int tx, tr_int ty, c, q _ S H (Grow.rfl' sb) (.int _)⟩
def gNeg : Dt → Option Dt
  | .int i => some (.int (-i))
  | _ => none
theorem pur_neg : Pur1 K (rU fun i => .int (-i)) gNeg := by
  intro S H x dx dz Q sb tx e q
  unfold gNeg at e
  split at e
  · cases e
    exact ⟨_, tr_int tx, q _ S H (Grow.rfl' sb) (.int _)⟩
  · cases e
/-- tuple * int -/
def gMulT : Dt → Dt → Option Dt
  | .tuple ds, .int k => if ds ≠ [] ∧ 2 ≤ k ∧ k ≤ 1000 ∧ ds.length ≤ 1000 then some (.tuple (List.replicate k.toNat ds).flatten) else none
  | _, _ => none
theorem dpa_flat {H : Hp} {vs : List V} {ds : List Dt} (h : DpAll K H vs ds) : ∀ n : Nat, DpAll K H (List.replicate n vs).flatten (List.replicate n ds).flatten
  | 0 => .nil
  | n + 1 => by
    rw [List.replicate_succ, List.replicate_succ, List.flatten_cons, List.flatten_cons]
    exact dpa_app h (dpa_flat h n)
theorem pur_mulT : Pur2 K (rRepT K) gMulT := by
  intro S H x y dx dy dz Q sb tx ty e q
  unfold gMulT at e
  split at e
  · rename_i ds k
    split at e
    · rename_i hz
      cases e
      obtain ⟨a, xs, rfl, h1, h2⟩ := tr_tup tx
      have hy := tr_int ty
      subst hy
      refine ⟨a, _, xs, rfl, rfl, sqT_mono sb h1, fun z => hz.1 ?_, hz.2.1, hz.2.2.1, by rw [dpa_len h2]; exact hz.2.2.2, fun p hp => ?_⟩
      · subst z; cases h2; rfl
      · have gr := Grow.one sb hp (.tup (List.replicate k.toNat xs).flatten)
        exact q _ _ _ gr (.tup (SqT.of upd_same) (dpa_flat (dpAll_mono gr.s _ _ h2) _))
    · cases e
  · cases e

/-! ### comparisons -/
def gLt := gI yes2 fun i j => .bool (decide (i < j))
def gLe := gI yes2 fun i j => .bool (decide (i ≤ j))
def gGt := gI yes2 fun i j => .bool (decide (j < i))
def gGe := gI yes2 fun i j => .bool (decide (j ≤ i))
theorem pur_lt : Pur2 K (rI0 fun i j => .bl (decide (i < j))) gLt := by
  intro S H x y dx dy dz Q sb tx ty e q
  obtain ⟨i, j, rfl, rfl, _, rfl⟩ := gI_some e
  exact ⟨i, j, tr_int tx, tr_int ty, q _ S H (Grow.rfl' sb) (.bl _)⟩
theorem pur_le : Pur2 K (rI0 fun i j => .bl (decide (i ≤ j))) gLe := by
  intro S H x y dx dy dz Q sb tx ty e q
  obtain ⟨i, j, rfl, rfl, _, rfl⟩ := gI_some e
  exact ⟨i, j, tr_int tx, tr_int ty, q _ S H (Grow.rfl' sb) (.bl _)⟩
theorem pur_gt : Pur2 K (rI0 fun i j => .bl (decide (j < i))) gGt := by
  intro S H x y dx dy dz Q sb tx ty e q
  obtain ⟨i, j, rfl, rfl, _, rfl⟩ := gI_some e
  exact ⟨i, j, tr_int tx, tr_int ty, q _ S H (Grow.rfl' sb) (.bl _)⟩
theorem pur_ge : Pur2 K (rI0 fun i j => .bl (decide (j ≤ i))) gGe := by
  intro S H x y dx dy dz Q sb tx ty e q
  obtain ⟨i, j, rfl, rfl, _, rfl⟩ := gI_some e
  exact ⟨i, j, tr_int tx, tr_int ty, q _ S H (Grow.rfl' sb) (.bl _)⟩
/-- == of data -/
def gEqB : Dt → Dt → Option Bool
  | .int i, .int j => some (decide (i = j))
  | .str a, .str b => some (decide (a = b))
  | .bool a, .bool b => some (decide (a = b))
  | x, y => if (SeqAt.shaped x && SeqAt.shaped y) = true then some (PyData.eqv x y) else none
def gEq (x y : Dt) : Option Dt := (gEqB x y).map .bool
def gNe (x y : Dt) : Option Dt := (gEqB x y).map fun b => .bool (!b)
def rEqA (K : PySem.W.Frag) : R2 := fun x y H Q => rEq x y H Q ∨ rEqD K x y H Q
def rNeA (K : PySem.W.Frag) : R2 := fun x y H Q => rNe x y H Q ∨ rNeD K x y H Q
theorem op_eqA {X : Cx} (hu : X.A.units + 64 < cLine) : OpR X (compareOp .Eq) (rEqA X.K) := opr_or op_eq (op_eqD hu)
theorem op_neA {X : Cx} (hu : X.A.units + 64 < cLine) : OpR X (compareOp .NotEq) (rNeA X.K) := opr_or op_ne (op_neD hu)
theorem gEqB_cases {S H : Hp} {x y : V} {dx dy : Dt} {b : Bool} (sb : Same S H) (tx : Tr K S H x dx) (ty : Tr K S H y dy) (e : gEqB dx dy = some b) :
    (scal x y = true ∧ decide (x = y) = b) ∨ (SeqAt.shaped dx = true ∧ SeqAt.shaped dy = true ∧ PyData.eqv dx dy = b) := by
  unfold gEqB at e
  split at e
  · cases e
    have h1 := tr_int tx
    have h2 := tr_int ty
    subst h1
    subst h2
    exact .inl ⟨rfl, by simp⟩
  · cases e
    have h1 := tr_str tx
    have h2 := tr_str ty
    subst h1
    subst h2
    exact .inl ⟨rfl, by simp⟩
  · cases e
    have h1 := tr_bool tx
    have h2 := tr_bool ty
    subst h1
    subst h2
    exact .inl ⟨rfl, by simp⟩
  · split at e
    · rename_i c
      cases e
      rw [Bool.and_eq_true] at c
      exact .inr ⟨c.1, c.2, rfl⟩
    · cases e
theorem pur_eq : Pur2 K (rEqA K) gEq := by
  intro S H x y dx dy dz Q sb tx ty e q
  unfold gEq at e
  cases z : gEqB dx dy with
  | none => rw [z] at e; cases e
  | some b =>
    rw [z] at e
    cases e
    have q' := q (.bl b) S H (Grow.rfl' sb) (.bl b)
    rcases gEqB_cases sb tx ty z with ⟨h1, rfl⟩ | ⟨h1, h2, rfl⟩
    · exact .inl ⟨h1, q'⟩
    · exact .inr ⟨dx, dy, tx.full sb, ty.full sb, h1, h2, q'⟩
theorem pur_ne : Pur2 K (rNeA K) gNe := by
  intro S H x y dx dy dz Q sb tx ty e q
  unfold gNe at e
  cases z : gEqB dx dy with
  | none => rw [z] at e; cases e
  | some b =>
    rw [z] at e
    cases e
    have q' := q (.bl !b) S H (Grow.rfl' sb) (.bl _)
    rcases gEqB_cases sb tx ty z with ⟨h1, rfl⟩ | ⟨h1, h2, rfl⟩
    · exact .inl ⟨h1, q'⟩
    · exact .inr ⟨dx, dy, tx.full sb, ty.full sb, h1, h2, q'⟩
/-- is None -/
def gIsN : Dt → Dt → Option Dt
  | .none, .none => some (.bool true)
  | _, .none => some (.bool false)
  | _, _ => none
def gNotN : Dt → Dt → Option Dt
  | .none, .none => some (.bool false)
  | _, .none => some (.bool true)
  | _, _ => none
theorem tr_nn {S H : Hp} {x : V} {d : Dt} (h : Tr K S H x d) (hd : d ≠ .none) : decide (x = .non) = false := by
  refine decide_eq_false fun z => ?_
  subst z
  rcases h with h | ⟨a, xs, ds, z, _⟩
  · cases h; exact hd rfl
  · cases z
theorem pur_isN : Pur2 K (fun x y H Q => y = .non ∧ Q (.bl (decide (x = .non))) H) gIsN := by
  intro S H x y dx dy dz Q sb tx ty e q
  unfold gIsN at e
  split at e
  · cases e
    have h1 := tr_none tx
    subst h1
    exact ⟨tr_none ty, q _ S H (Grow.rfl' sb) (.bl true)⟩
  · rename_i hd
    cases e
    refine ⟨tr_none ty, ?_⟩
    rw [tr_nn tx hd]
    exact q _ S H (Grow.rfl' sb) (.bl false)
  · cases e
theorem pur_notN : Pur2 K (fun x y H Q => y = .non ∧ Q (.bl (!decide (x = .non))) H) gNotN := by
  intro S H x y dx dy dz Q sb tx ty e q
  unfold gNotN at e
  split at e
  · cases e
    have h1 := tr_none tx
    subst h1
    exact ⟨tr_none ty, q _ S H (Grow.rfl' sb) (.bl false)⟩
  · rename_i hd
    cases e
    refine ⟨tr_none ty, ?_⟩
    rw [tr_nn tx hd]
    exact q _ S H (Grow.rfl' sb) (.bl true)
  · cases e
/-- is True, is False: of truth values -/
def gIsB : Dt → Dt → Option Dt
  | .bool a, .bool b => some (.bool (decide (a = b)))
  | _, _ => none
def gNotB : Dt → Dt → Option Dt
  | .bool a, .bool b => some (.bool (!decide (a = b)))
  | _, _ => none
theorem pur_isB : Pur2 K (fun x y H Q => ∃ a b, x = .bl a ∧ y = .bl b ∧ Q (.bl (decide (a = b))) H) gIsB := by
  intro S H x y dx dy dz Q sb tx ty e q
  unfold gIsB at e
  split at e
  · cases e
    exact ⟨_, _, tr_bool tx, tr_bool ty, q _ S H (Grow.rfl' sb) (.bl _)⟩
  · cases e
theorem pur_notB : Pur2 K (fun x y H Q => ∃ a b, x = .bl a ∧ y = .bl b ∧ Q (.bl (!decide (a = b))) H) gNotB := by
  intro S H x y dx dy dz Q sb tx ty e q
  unfold gNotB at e
  split at e
  · cases e
    exact ⟨_, _, tr_bool tx, tr_bool ty, q _ S H (Grow.rfl' sb) (.bl _)⟩
  · cases e

/-! ### in, not in -/
def flatD : Dt → Bool
  | .none => true
  | .bool _ => true
  | .int _ => true
  | .str _ => true
  | _ => false
def gInB : Dt → Dt → Option Bool
  | .str c, .str z => match c.cps.toList with
    | [k] => some (decide (k ∈ z.cps.toList))
    | _ => none
  | d, .list ds => if (flatD d && ds.all flatD) = true then some (ds.any fun z => PyData.eqv z d) else if (SeqAt.shaped d && SeqAt.shaped (.list ds)) = true then some (ds.any fun z => PyData.eqv z d) else none
  | d, .tuple ds => if (flatD d && ds.all flatD) = true then some (ds.any fun z => PyData.eqv z d) else none
  | _, _ => none
def gIn (x y : Dt) : Option Dt := (gInB x y).map .bool
def gNotIn (x y : Dt) : Option Dt := (gInB x y).map fun b => .bool (!b)
theorem dp_flat {S : Hp} {v : V} {d : Dt} (h : Dp K S v d) (f : flatD d = true) : flatV v = true := by
  cases h <;> first | rfl | cases f
theorem eqV_eqv {S : Hp} {v u : V} {d e : Dt} (h : Dp K S v d) (f : flatD d = true) (h' : Dp K S u e) (f' : flatD e = true) : eqV v u = PyData.eqv d e := by
  cases h <;> cases h' <;> first | (cases f; done) | (cases f'; done) | simp [eqV, PyData.eqv]
theorem inV_eqv {S : Hp} {u : V} {e : Dt} (h' : Dp K S u e) (f' : flatD e = true) : ∀ {vs : List V} {ds : List Dt}, DpAll K S vs ds → ds.all flatD = true → vs.all flatV = true ∧ inV u vs = ds.any fun z => PyData.eqv z e
  | _, _, .nil, _ => ⟨rfl, rfl⟩
  | _, _, .cons (v := v) (d := d) r t, f => by
    rw [List.all_cons, Bool.and_eq_true] at f
    obtain ⟨h1, h2⟩ := inV_eqv h' f' t f.2
    refine ⟨by rw [List.all_cons, dp_flat r f.1, h1]; rfl, ?_⟩
    unfold inV at h2 ⊢
    rw [List.any_cons, List.any_cons, eqV_eqv r f.1 h' f', h2]
def rInA (K : PySem.W.Frag) (neg : Bool) : R2 := fun x y H Q => ((∃ (c : Nat) (z : Str), x = .str ⟨#[c]⟩ ∧ y = .str z ∧ Q (.bl (if neg then !decide (c ∈ z.cps.toList) else decide (c ∈ z.cps.toList))) H) ∨ rIn K neg x y H Q) ∨
  (∃ d ds, Dp K H x d ∧ Dp K H y (.list ds) ∧ SeqAt.shaped d = true ∧ SeqAt.shaped (.list ds) = true ∧ Q (.bl (if neg then !ds.any fun z => PyData.eqv z d else ds.any fun z => PyData.eqv z d)) H)
theorem op_inA {X : Cx} (hu : X.A.units + 65 < cLine) : OpR X (compareOp .In) (rInA X.K false) := opr_or (opr_or op_in_sign op_in_seq) (op_inD hu)
theorem op_notInA {X : Cx} (hu : X.A.units + 65 < cLine) : OpR X (compareOp .NotIn) (rInA X.K true) := opr_or (opr_or op_notIn_sign op_notIn_seq) (op_notInD hu)
theorem rd_in {neg : Bool} {S H : Hp} {x y : V} {dx dy : Dt} {b : Bool} {Q : VK} (sb : Same S H) (tx : Tr K S H x dx) (ty : Tr K S H y dy) (e : gInB dx dy = some b) (q : Q (.bl (if neg then !b else b)) H) : rInA K neg x y H Q := by
  unfold gInB at e
  split at e
  · rename_i c z
    split at e
    · rename_i k hk
      cases e
      refine .inl (.inl ⟨k, z, ?_, tr_str ty, q⟩)
      have h1 := tr_str tx
      rw [h1]
      have h2 : c = ⟨#[k]⟩ := by
        cases c with
        | mk a =>
          have h3 : a.toList = [k] := hk
          have h4 : a = #[k] := by rw [← Array.toArray_toList (xs := a), h3]
          rw [h4]
      rw [h2]
    · cases e
  · split at e
    · rename_i c
      cases e
      rw [Bool.and_eq_true] at c
      obtain ⟨a, xs, rfl, h1, h2⟩ := tr_list sb ty
      have hx : Dp K S x dx := by
        rcases tx with h | ⟨_, _, _, _, z, _⟩
        · exact h
        · subst z; cases c.1
      obtain ⟨h3, h4⟩ := inV_eqv hx c.1 h2 c.2
      exact .inl (.inr ⟨a, xs, rfl, .inl h1, dp_flat hx c.1, h3, by rw [h4]; exact q⟩)
    · split at e
      · rename_i c
        cases e
        rw [Bool.and_eq_true] at c
        exact .inr ⟨_, _, tx.full sb, ty.full sb, c.1, c.2, q⟩
      · cases e
  · split at e
    · rename_i c
      cases e
      rw [Bool.and_eq_true] at c
      obtain ⟨a, xs, rfl, h1, h2⟩ := tr_tup ty
      have hx : Dp K S x dx := by
        rcases tx with h | ⟨_, _, _, _, z, _⟩
        · exact h
        · subst z; cases c.1
      obtain ⟨h3, h4⟩ := inV_eqv hx c.1 h2 c.2
      exact .inl (.inr ⟨a, xs, rfl, .inr (sqT_mono sb h1), dp_flat hx c.1, h3, by rw [h4]; exact q⟩)
    · cases e
  · cases e
theorem pur_in : Pur2 K (rInA K false) gIn := by
  intro S H x y dx dy dz Q sb tx ty e q
  unfold gIn at e
  cases z : gInB dx dy with
  | none => rw [z] at e; cases e
  | some b =>
    rw [z] at e
    cases e
    exact rd_in sb tx ty z (q _ S H (Grow.rfl' sb) (.bl b))
theorem pur_notIn : Pur2 K (rInA K true) gNotIn := by
  intro S H x y dx dy dz Q sb tx ty e q
  unfold gNotIn at e
  cases z : gInB dx dy with
  | none => rw [z] at e; cases e
  | some b =>
    rw [z] at e
    cases e
    exact rd_in sb tx ty z (q _ S H (Grow.rfl' sb) (.bl (!b)))

/-! ### subscripts -/
def gIx : Dt → Dt → Option Dt
  | .list ds, .int i => atI ds i
  | .tuple ds, .int i => atI ds i
  | .str z, .int i => if z.length ≤ sizeLine then (atI z.cps.toList i).map fun c => .str ⟨#[c]⟩ else none
  | _, _ => none
theorem dpa_at {S : Hp} {xs : List V} {ds : List Dt} {i : Int} {d : Dt} (h : DpAll K S xs ds) (e : atI ds i = some d) : ∃ v, atI xs i = some v ∧ Dp K S v d := by
  unfold atI at e ⊢
  rw [dpa_len h]
  cases q : ixN ds.length i with
  | none => rw [q] at e; cases e
  | some j =>
    rw [q] at e
    exact dpa_some h e
theorem pur_ix : Pur2 K (rIx K) gIx := by
  intro S H x y dx dy dz Q sb tx ty e q
  unfold gIx at e
  split at e
  · obtain ⟨a, xs, rfl, h1, h2⟩ := tr_list sb tx
    obtain ⟨v, h3, h4⟩ := dpa_at h2 e
    exact .inl ⟨a, xs, _, v, rfl, tr_int ty, h1, h3, q v S H (Grow.rfl' sb) h4⟩
  · obtain ⟨a, xs, rfl, h1, h2⟩ := tr_tup tx
    obtain ⟨v, h3, h4⟩ := dpa_at h2 e
    exact .inr (.inl ⟨a, xs, _, v, rfl, tr_int ty, sqT_mono sb h1, h3, q v S H (Grow.rfl' sb) h4⟩)
  · split at e
    · rename_i z i hz
      cases q1 : atI z.cps.toList i with
      | none => rw [q1] at e; cases e
      | some c =>
        rw [q1] at e
        cases e
        exact .inr (.inr ⟨z, i, c, tr_str tx, tr_int ty, hz, q1, q _ S H (Grow.rfl' sb) (.str _)⟩)
    · cases e
  · cases e
/-! ### slices -/
def cutD (xs : List Dt) (lo hi : Option Int) : List Dt := (xs.drop (HT.sIx xs.length 0 lo)).take (HT.sIx xs.length xs.length hi - HT.sIx xs.length 0 lo)
def gSlice : Dt → Option Int → Option Int → Option Dt
  | .list ds, lo, hi => some (.list (cutD ds lo hi))
  | .tuple ds, lo, hi => some (.tuple (cutD ds lo hi))
  | .str z, lo, hi => if z.length ≤ sizeLine then some (.str (cutS z lo hi)) else none
  | _, _, _ => none
def rSlA3 (K : PySem.W.Frag) : V → Option Int → Option Int → Hp → VK → Prop := fun x lo hi H Q => (fun x lo hi H Q => rSlL K x lo hi H Q ∨ rSlA K x lo hi H Q) x lo hi H Q ∨ rSlS x lo hi H Q
theorem sl_any {X : Cx} : SlR X (rSlA3 X.K) := SlR.or (SlR.or sl_list sl_tupA) sl_str
theorem dpa_cut {S : Hp} {xs : List V} {ds : List Dt} (h : DpAll K S xs ds) (lo hi : Option Int) : DpAll K S (cutV xs lo hi) (cutD ds lo hi) := by
  unfold cutV cutD
  rw [dpa_len h]
  exact dpa_tk _ (dpa_dr _ h)
theorem cutD_all {ds : List Dt} {lo hi : Option Int} (h1 : HT.sIx ds.length 0 lo = 0) (h2 : HT.sIx ds.length ds.length hi = ds.length) : cutD ds lo hi = ds := by
  unfold cutD
  rw [h1, h2, List.drop_zero, Nat.sub_zero, List.take_length]
theorem purS_slice : PurS K (rSlA3 K) gSlice := by
  intro S H x dx dz lo hi Q sb tx e q
  unfold gSlice at e
  split at e
  · cases e
    obtain ⟨a, xs, rfl, h1, h2⟩ := tr_list sb tx
    refine .inl (.inl ⟨a, xs, rfl, h1, fun p hp => ?_⟩)
    have gr := Grow.one sb hp (.lst (cutV xs lo hi))
    exact q _ _ _ gr (.lst (SqL.of upd_same) (dpAll_mono gr.s _ _ (dpa_cut h2 lo hi)))
  · cases e
    obtain ⟨a, xs, rfl, h1, h2⟩ := tr_tup tx
    refine .inl (.inr ⟨a, xs, rfl, sqT_mono sb h1, fun hw => ?_, fun _ p hp => ?_⟩)
    · rw [dpa_len h2] at hw
      rw [cutD_all hw.1 hw.2] at q
      exact q _ S H (Grow.rfl' sb) (.tup h1 h2)
    · have gr := Grow.one sb hp (.tup (cutV xs lo hi))
      exact q _ _ _ gr (.tup (SqT.of upd_same) (dpAll_mono gr.s _ _ (dpa_cut h2 lo hi)))
  · split at e
    · rename_i hz
      cases e
      exact .inr ⟨_, tr_str tx, hz, q _ S H (Grow.rfl' sb) (.str _)⟩
    · cases e
  · cases e
end
end PD
/-! PD10: built-in functions over data: isinstance, len, all, any, list, tuple, abs, int, join. -/
namespace PD
open PySem L2

/-! ### isinstance(e, T), T a built-in class -/
def tyNm : Dt → String
  | .none => "NoneType"
  | .bool _ => "bool"
  | .int _ => "int"
  | .str _ => "str"
  | .list _ => "list"
  | .tuple _ => "tuple"
  | .dict _ => "dict"
def gIsi (T : String) (d : Dt) : Option Dt := (kitB (tyNm d) T).map .bool
section
variable {K : PySem.W.Frag} {S H : Hp} {x : V} {d : Dt}
theorem sqL_ty {a : Addr} {xs : List V} (h : SqL K H a xs) : TyX K H (.ref a) (.type "list") := by
  rcases h with (h | ⟨o, h⟩) | ⟨o, its, n, h, c, _⟩
  · exact .base (.lst h)
  · exact .base (.frz h)
  · exact .kList h c
theorem sqT_ty {a : Addr} {xs : List V} (h : SqT K H a xs) : TyX K H (.ref a) (.type "tuple") := by
  rcases h with (h | ⟨o, h⟩) | ⟨o, its, n, h, c, _⟩
  · exact .base (.tup h)
  · exact .fTuple h
  · exact .kTuple h c
theorem tr_ty (sb : Same S H) (t : Tr K S H x d) : TyX K H x (.type (tyNm d)) := by
  have h := t.full sb
  cases h with
  | non => exact .base .non
  | bl b => exact .base (.bl b)
  | int i => exact .base (.int i)
  | str z => exact .base (.str z)
  | lst h _ => exact sqL_ty h
  | tup h _ => exact sqT_ty h
end
section
variable {X : Cx} {W : WX} {e : Expr} {m : M Rv} {c : Str} {T : String} {p q pos : Pos}
theorem d_isi (hm : X.mg "isinstance" = none) (hmT : X.mg c = none) (hv : bootBuiltins c = some (.type T)) (he : PE X e (tD X.K X.mg W m)) (hg : Gl X "isinstance" := by rfl) (hgT : Gl X c := by rfl) (hn : c ≠ "__name__" := by decide) (hd : (c == ("__debug__" : Str)) = false := by decide)
    (h1 : starEach [e, .Name c q] X.env = (false, eval e X.env) :: starEach [.Name c q] X.env := by rfl) (h2 : starEach [.Name c q] X.env = (false, eval (.Name c q) X.env) :: starEach [] X.env := by rfl)
    (hpl : (backTo pos (starEach [.Name c q] X.env)).any (·.1) = false := by rfl) :
    PE X (.Call (.Name "isinstance" p) [e, .Name c q] [] pos) (tD X.K X.mg W (mOp1 (gIsi T) m)) :=
  pe_imp (pe_callB call_isi hg hm PyProof.Rows.boot_isinstance (pa_cons he (pa_cons (pe_bltn (v := .ty T) hgT hmT hv rfl hn hd) pa_nil h2) h1) (by decide) (by decide) h1 hpl) fun σ H Q h => by
    obtain ⟨G, S, ρ, o, R, e, q⟩ := h
    refine seqD R e (fun r1 ρ1 v1 S1 H1 _ e1 R1 s1 rv1 => ?_) fun c ρ' eo S' H' R' s' => by subst eo; exact q S' H' R' s'
    obtain ⟨x, t1, e3⟩ := res_ok R1 rv1 e1
    obtain ⟨z, e5, e6⟩ := opt_ok e3
    cases e6
    unfold gIsi at e5
    cases hk : kitB (tyNm x) T with
    | none => rw [hk] at e5; cases e5
    | some b =>
      rw [hk] at e5
      cases e5
      exact ⟨v1, .ty T, .type (tyNm x), .type T, b, rfl, .ty T, tr_ty R1.sub t1, kit_ty hk, q _ S1 H1 R1 s1 (.bl b)⟩
end
/-! ### len -/
def gLen : List Dt → Option Dt
  | [.str y] => if y.length ≤ sizeLine then some (.int y.length) else none
  | [.list ds] => some (.int ds.length)
  | [.tuple ds] => some (.int ds.length)
  | _ => none
section
variable {K : PySem.W.Frag}
theorem trAll1 {S H : Hp} {vs : List V} {d : Dt} (h : TrAll K S H vs [d]) : ∃ v, vs = [v] ∧ Tr K S H v d := by
  match vs, h with
  | [v], ⟨h1, _⟩ => exact ⟨v, rfl, h1⟩
theorem pur_len : PurN K (fun xs H Q => ∃ x n, xs = [x] ∧ LenV K x H n ∧ Q (.int n) H) gLen := by
  intro S H xs ds dz Q sb tx e q
  unfold gLen at e
  split at e
  · split at e
    · rename_i y hy
      cases e
      obtain ⟨v, rfl, t⟩ := trAll1 tx
      have h1 := tr_str t
      subst h1
      exact ⟨_, y.length, rfl, ⟨hy, rfl⟩, q _ S H (Grow.rfl' sb) (.int _)⟩
    · cases e
  · cases e
    obtain ⟨v, rfl, t⟩ := trAll1 tx
    obtain ⟨a, xs, rfl, h1, h2⟩ := tr_list sb t
    refine ⟨_, _, rfl, .inl ⟨xs, h1, (dpa_len h2).symm⟩, q _ S H (Grow.rfl' sb) (.int _)⟩
  · cases e
    obtain ⟨v, rfl, t⟩ := trAll1 tx
    obtain ⟨a, xs, rfl, h1, h2⟩ := tr_tup t
    refine ⟨_, _, rfl, .inr ⟨xs, sqT_mono sb h1, (dpa_len h2).symm⟩, q _ S H (Grow.rfl' sb) (.int _)⟩
  · cases e
/-! ### all, any -/
def boolsD : List Dt → Option (List Bool)
  | [] => some []
  | .bool b :: ds => (boolsD ds).map (b :: ·)
  | _ :: _ => none
theorem dpa_bools {S : Hp} : ∀ {vs : List V} {ds : List Dt} {bs : List Bool}, DpAll K S vs ds → boolsD ds = some bs → vs = bs.map V.bl
  | _, _, bs, .nil, e => by cases e; rfl
  | _, _, bs, .cons (d := d) (ds := ds) r t, e => by
    cases d with
    | bool b =>
      unfold boolsD at e
      cases q : boolsD ds with
      | none => rw [q] at e; cases e
      | some cs =>
        rw [q] at e
        cases e
        cases r
        rw [dpa_bools t q]
        rfl
    | _ => cases e
def gAll : List Dt → Option Dt
  | [.list ds] => (boolsD ds).map fun bs => .bool (bs.all id)
  | _ => none
def gAny : List Dt → Option Dt
  | [.list ds] => (boolsD ds).map fun bs => .bool (bs.any id)
  | _ => none
theorem pur_all : PurN K (rAll K) gAll := by
  intro S H xs ds dz Q sb tx e q
  unfold gAll at e
  split at e
  · rename_i ds
    obtain ⟨v, rfl, t⟩ := trAll1 tx
    obtain ⟨a, xs, rfl, h1, h2⟩ := tr_list sb t
    cases hb : boolsD ds with
    | none => rw [hb] at e; cases e
    | some bs =>
      rw [hb] at e
      cases e
      have h3 := dpa_bools h2 hb
      subst h3
      exact ⟨a, bs, rfl, h1, q _ S H (Grow.rfl' sb) (.bl _)⟩
  · cases e
theorem pur_any : PurN K (rAny K) gAny := by
  intro S H xs ds dz Q sb tx e q
  unfold gAny at e
  split at e
  · rename_i ds
    obtain ⟨v, rfl, t⟩ := trAll1 tx
    obtain ⟨a, xs, rfl, h1, h2⟩ := tr_list sb t
    cases hb : boolsD ds with
    | none => rw [hb] at e; cases e
    | some bs =>
      rw [hb] at e
      cases e
      have h3 := dpa_bools h2 hb
      subst h3
      exact ⟨a, bs, rfl, h1, q _ S H (Grow.rfl' sb) (.bl _)⟩
  · cases e
/-! ### list(x), tuple(x) -/
def fList : List Dt → Option (List Dt)
  | [.list ds] => some ds
  | [.tuple ds] => some ds
  | _ => none
def gTup : List Dt → Option Dt
  | [.list ds] => some (.tuple ds)
  | [.tuple ds] => some (.tuple ds)
  | _ => none
def rListOf (K : PySem.W.Frag) : List V → Hp → VK → Prop := fun xs H Q => ∃ p ys, xs = [.ref p] ∧ (SqL K H p ys ∨ SqT K H p ys) ∧ ∀ l, H l = none → Q (.ref l) (upd H l (.lst ys))
def rTupOf (K : PySem.W.Frag) : List V → Hp → VK → Prop := fun xs H Q => ∃ p ys, xs = [.ref p] ∧ ((SqL K H p ys ∧ ∀ l, H l = none → Q (.ref l) (upd H l (.tup ys))) ∨ (SqT K H p ys ∧ Q (.ref p) H))
theorem pur_listOf : PurF K (rListOf K) fList := by
  intro S H xs ds dz Q sb tx e q
  unfold fList at e
  split at e
  · cases e
    obtain ⟨v, rfl, t⟩ := trAll1 tx
    obtain ⟨a, xs, rfl, h1, h2⟩ := tr_list sb t
    exact ⟨a, xs, rfl, .inl h1, fun l hl => q l xs S H (Grow.rfl' sb) hl h2⟩
  · cases e
    obtain ⟨v, rfl, t⟩ := trAll1 tx
    obtain ⟨a, xs, rfl, h1, h2⟩ := tr_tup t
    exact ⟨a, xs, rfl, .inr (sqT_mono sb h1), fun l hl => q l xs S H (Grow.rfl' sb) hl h2⟩
  · cases e
theorem pur_tupOf : PurN K (rTupOf K) gTup := by
  intro S H xs ds dz Q sb tx e q
  unfold gTup at e
  split at e
  · cases e
    obtain ⟨v, rfl, t⟩ := trAll1 tx
    obtain ⟨a, xs, rfl, h1, h2⟩ := tr_list sb t
    refine ⟨a, xs, rfl, .inl ⟨h1, fun l hl => ?_⟩⟩
    have gr := Grow.one sb hl (.tup xs)
    exact q _ _ _ gr (.tup (SqT.of upd_same) (dpAll_mono gr.s _ _ h2))
  · cases e
    obtain ⟨v, rfl, t⟩ := trAll1 tx
    obtain ⟨a, xs, rfl, h1, h2⟩ := tr_tup t
    exact ⟨a, xs, rfl, .inr ⟨sqT_mono sb h1, q _ S H (Grow.rfl' sb) (.tup h1 h2)⟩⟩
  · cases e
/-! ### abs, int -/
def gAbs : List Dt → Option Dt
  | [.int i] => some (.int (if i < 0 then -i else i))
  | _ => none
def gInt : List Dt → Option Dt
  | [.int i] => some (.int i)
  | [.bool k] => some (.int (if k then 1 else 0))
  | _ => none
theorem pur_abs : PurN K (fun xs H Q => ∃ i, xs = [.int i] ∧ Q (.int (if i < 0 then -i else i)) H) gAbs := by
  intro S H xs ds dz Q sb tx e q
  unfold gAbs at e
  split at e
  · cases e
    obtain ⟨v, rfl, t⟩ := trAll1 tx
    have h1 := tr_int t
    subst h1
    exact ⟨_, rfl, q _ S H (Grow.rfl' sb) (.int _)⟩
  · cases e
theorem pur_int : PurN K (fun xs H Q => (∃ i, xs = [.int i] ∧ Q (.int i) H) ∨ ∃ k, xs = [.bl k] ∧ Q (.int (if k then 1 else 0)) H) gInt := by
  intro S H xs ds dz Q sb tx e q
  unfold gInt at e
  split at e
  · cases e
    obtain ⟨v, rfl, t⟩ := trAll1 tx
    have h1 := tr_int t
    subst h1
    exact .inl ⟨_, rfl, q _ S H (Grow.rfl' sb) (.int _)⟩
  · cases e
    obtain ⟨v, rfl, t⟩ := trAll1 tx
    have h1 := tr_bool t
    subst h1
    exact .inr ⟨_, rfl, q _ S H (Grow.rfl' sb) (.int _)⟩
  · cases e
/-! ### sep.join(..) -/
def strsD : List Dt → Option (List Str)
  | [] => some []
  | .str b :: ds => (strsD ds).map (b :: ·)
  | _ :: _ => none
theorem dpa_strs {S : Hp} : ∀ {vs : List V} {ds : List Dt} {bs : List Str}, DpAll K S vs ds → strsD ds = some bs → vs = bs.map V.str
  | _, _, bs, .nil, e => by cases e; rfl
  | _, _, bs, .cons (d := d) (ds := ds) r t, e => by
    cases d with
    | str b =>
      unfold strsD at e
      cases q : strsD ds with
      | none => rw [q] at e; cases e
      | some cs =>
        rw [q] at e
        cases e
        cases r
        rw [dpa_strs t q]
        rfl
    | _ => cases e
def isStr : Dt → Bool
  | .str _ => true
  | _ => false
def joinD (a : Str) (ds : List Dt) : Option Dt := match strsD ds with
  | some ys => if (ys.map (·.length)).sum + ys.length * a.length ≤ 16777216 then some (.str (Txt.join a ys)) else none
  | none => none
def gJoin : Dt → List Dt → Option Dt
  | .str a, [.list ds] => joinD a ds
  | .str a, [.tuple ds] => joinD a ds
  | _, _ => none
def rJoinA (K : PySem.W.Frag) : V → List V → Hp → VK → Prop := fun x xs H Q => ∃ a p, ∃ ys : List Str, x = .str a ∧ xs = [.ref p] ∧ (SqL K H p (ys.map V.str) ∨ SqT K H p (ys.map V.str)) ∧
    (ys.map (·.length)).sum + ys.length * a.length ≤ 16777216 ∧ Q (.str (Txt.join a ys)) H
theorem purM_join : PurM K "str" (rJoinA K) gJoin := by
  intro S H x xs dx ds dz Q sb tx txs e q
  unfold gJoin at e
  split at e
  · rename_i a ds
    have h0 := tr_str tx
    subst h0
    obtain ⟨v, rfl, t⟩ := trAll1 txs
    obtain ⟨b, xs, rfl, h1, h2⟩ := tr_list sb t
    unfold joinD at e
    split at e
    · rename_i ys hy
      split at e
      · rename_i hz
        cases e
        have h3 := dpa_strs h2 hy
        subst h3
        exact ⟨a, b, ys, rfl, rfl, .inl h1, hz, q _ S H (Grow.rfl' sb) (.str _)⟩
      · cases e
    · cases e
  · rename_i a ds
    have h0 := tr_str tx
    subst h0
    obtain ⟨v, rfl, t⟩ := trAll1 txs
    obtain ⟨b, xs, rfl, h1, h2⟩ := tr_tup t
    unfold joinD at e
    split at e
    · rename_i ys hy
      split at e
      · rename_i hz
        cases e
        have h3 := dpa_strs h2 hy
        subst h3
        exact ⟨a, b, ys, rfl, rfl, .inr (sqT_mono sb h1), hz, q _ S H (Grow.rfl' sb) (.str _)⟩
      · cases e
    · cases e
  · cases e
theorem ty_str {S H : Hp} {x : V} {d : Dt} (h : isStr d = true) (hd : Dp K S x d) (_ : Same S H) : tyV K "str" x H := by
  cases hd <;> first | rfl | cases h
end
end PD
/-! PD11: sorted, < of alike data, len(set(ints)), enumerate. -/
namespace PD
open PySem L2

/-! ### sorted(list), sorted(tuple) -/
section
variable {prog : Program} {w : World} {A : Around} {E : Value → Shared → Prop} {s : Shared}
theorem gather_tup {l : Addr} {vs : List Value} {Q : List Value → Shared → Prop} (hl : s.heap.IsTuple l vs.toArray)
    (h : Q vs { s with heap := (s.heap.push (PyProof.Rows.seqObj "list" #[] 0)).update s.heap.objs.size (Obj.mapSeq (· ++ vs.toArray)) }) (hsz : vs.length ≤ sizeLine) :
    wpAny (model prog w) A (collect (.ref l)) Q E s := by
  obtain ⟨o, ho, hc, n, hd⟩ := id hl
  unfold collect
  refine wpAny_bind (wpAny_runValue (codeAny_builtin PyProof.Rows.entry_proto_collect' ?_))
  show wpAny _ _ (do again (.builtin "list.__iadd__" ⟨[← newList [], .ref l], []⟩)) _ _ s
  refine wpAny_bind (wpAny_newList (wpAny_pure ⟨Code.quiet_builtin _ (by decide +kernel), codeAny_builtin PyProof.Rows.entry_list_iadd' ?_⟩))
  show wpAny _ _ (Builtin.List.listExtendWith (.ref s.heap.objs.size) (.ref l) (.ref s.heap.objs.size)) _ _ { s with heap := s.heap.push (PyProof.Rows.seqObj "list" #[] 0) }
  unfold Builtin.List.listExtendWith
  have ho' : (s.heap.push (PyProof.Rows.seqObj "list" #[] 0)).get? l = some o := Heap.get?_push_of_some _ ho
  refine wpAny_bind (wpAny_typeOf (T := "tuple") ⟨o, ho', hc⟩ ?_)
  have ht : (Value.type "tuple" == Value.type "tuple") = true := by rfl
  rw [if_pos (by rw [ht]; simp)]
  refine wpAny_bind (PyProof.Rows.listItems_at ho' hd ?_)
  refine wpAny_bind (PyProof.Rows.listItems_at (xs := #[]) (n := 0) (Heap.get?_push_size _ rfl) rfl ?_)
  rw [if_neg (by simp)]
  refine wpAny_bind (PyProof.Rows.listUpdate_at (xs := #[]) (n := 0) (Heap.get?_push_size _ rfl) rfl ?_ (Nat.zero_le _) (by show (#[] ++ vs.toArray).size ≤ sizeLine + 1; simp only [Array.size_append, List.size_toArray, List.length_nil]; omega))
  refine wpAny_pure ?_
  show wpAny (model prog w) A (do
      let o ← load s.heap.objs.size
      match o.data with
      | .seq xs _ => pure xs.toList
      | _ => unsupported "internal:collect") Q E { s with heap := (s.heap.push (PyProof.Rows.seqObj "list" #[] 0)).update s.heap.objs.size (Obj.mapSeq (· ++ vs.toArray)) }
  refine wpAny_bind (wpAny_load (PyProof.Rows.get?_update_seq (Heap.get?_push_size _ rfl) _) ?_)
  show wpAny _ _ (pure ((#[] : Array Value) ++ vs.toArray).toList) Q E _
  rw [show ((#[] : Array Value) ++ vs.toArray).toList = vs by simp]
  exact wpAny_pure h

open PyProof.Rows in
/-- sorted(t), t a tuple: list.sort() of a new list of its items -/
theorem sorted_tup {l : Addr} {vs : List Value} {κ : KeyKind} {Q : Value → Shared → Prop} (hl : s.heap.IsTuple l vs.toArray) (S : PySem.W.SortsAt prog w A.in1.in1 { s with heap := PySem.W.sortingHeap (PySem.W.copyHeap s.heap vs) (s.heap.objs.size + 1) vs } κ vs) (hL : vs.length ≤ sizeLine)
    (h : Q (.ref (s.heap.objs.size + 1)) { s with heap := sortedAll s.heap vs (PySem.W.sortVals κ false vs vs).toArray }) : wpAny (model prog w) A (call (.builtin "sorted") [.ref l]) Q E s := by
  refine PySem.Calls.call_function_entry kind_sorted plain_sorted entry_sorted (args_sorted1 _) ?_
  unfold Builtin.«sorted»
  refine wpAny_bind (m := checkCount "sorted" 1 1 _) (wpAny_pure ?_)
  refine wpAny_bind (gather_tup hl ?_ hL)
  refine wpAny_bind (wpAny_newList ?_ hL)
  have hsz : ((s.heap.push (seqObj "list" #[] 0)).update s.heap.objs.size (Obj.mapSeq (· ++ vs.toArray))).objs.size = s.heap.objs.size + 1 := by
    rw [Heap.size_update, size_push']
  show wpAny _ _ _ _ _ { s with heap := PySem.W.copyHeap s.heap vs }
  rw [hsz]
  refine wpAny_bind (wpAny_holding (wpAny_call_entry_kw slot_list_sort ⟨_, PySem.W.copyHeap_at s.heap vs, rfl⟩ entry_list_sort ?body (args_list_sort _)))
  case body =>
    show wpAny (model prog w) A.in1.in1 (Builtin.«list.sort» ⟨[.ref (s.heap.objs.size + 1)], []⟩) _ _ _
    refine wpAny_mono (PySem.W.list_sort_vals (P := fun f s' => f = .done (.ret .none) ∧ Q (.ref (s.heap.objs.size + 1)) s') (s := { s with heap := PySem.W.copyHeap s.heap vs }) (PySem.W.copyHeap_at s.heap vs) S hL ⟨rfl, h⟩) (fun f s' hf => ?_) fun _ _ e => e
    obtain ⟨rfl, hq⟩ := hf
    exact ⟨_, rfl, wpAny_pure ⟨_, rfl, hq⟩⟩
end
/-! the rule over data -/
def srt (ds : List Dt) : List Dt := ds.mergeSort (PySem.W.dataLe false id)
def rSortD (K : PySem.W.Frag) (A : Around) : List V → Hp → VK → Prop := fun vs H Q => ∃ a xs ds, vs = [.ref a] ∧ (SqL K H a xs ∨ SqT K H a xs) ∧ DpAll K H xs ds ∧ PySem.W.AllAlike ds ∧ PySem.W.Sortable ds ∧ (∀ d ∈ ds, A.units + 2 + d.depth < cLine) ∧ xs.length ≤ sizeLine ∧
  ∀ ys p, (∀ S : Hp, DpAll K S xs ds → DpAll K S ys (srt ds)) → H p = none → Q (.ref p) (upd H p (.lst ys))
section
variable {X : Cx}
theorem each_of {pins : List (Addr × Obj)} {σ : St} {H : Hp} {s : Shared} (I : Inv X pins σ H s) : ∀ {xs : List V} {its : List Value} {ds : List Dt}, Vals xs its → DpAll X.K H xs ds →
    PySem.W.EachIs (fun v (b : V × Dt) => RelV b.1 v) its (xs.zip ds) ∧ PySem.W.EachIs (fun v (b : V × Dt) => ∃ as, Reads s.heap v b.2 as) its (xs.zip ds) ∧ (xs.zip ds).map (·.1) = xs ∧ (xs.zip ds).map (·.2) = ds
  | _, _, _, .nil, .nil => ⟨.nil, .nil, rfl, rfl⟩
  | _, _, _, .cons r t, .cons h k => by
    obtain ⟨h1, h2, h3, h4⟩ := each_of I t k
    exact ⟨.cons r h1, .cons (Dp.reads I _ _ _ h r) h2, by rw [List.zip_cons_cons, List.map_cons, h3], by rw [List.zip_cons_cons, List.map_cons, h4]⟩
theorem each_vals : ∀ {out : List Value} {bs : List (V × Dt)}, PySem.W.EachIs (fun v (b : V × Dt) => RelV b.1 v) out bs → Vals (bs.map (·.1)) out
  | _, _, .nil => .nil
  | _, _, .cons h t => .cons h (each_vals t)
theorem dpa_zip {K : PySem.W.Frag} {H : Hp} : ∀ {xs : List V} {ds : List Dt}, DpAll K H xs ds → ∀ b ∈ xs.zip ds, Dp K H b.1 b.2
  | _, _, .nil, b, hb => by cases hb
  | _, _, .cons h t, b, hb => by
    rw [List.zip_cons_cons] at hb
    rcases List.mem_cons.mp hb with rfl | hb
    · exact h
    · exact dpa_zip t b hb
theorem dpa_of {K : PySem.W.Frag} {H : Hp} : ∀ {bs : List (V × Dt)}, (∀ b ∈ bs, Dp K H b.1 b.2) → DpAll K H (bs.map (·.1)) (bs.map (·.2))
  | [], _ => .nil
  | b :: bs, h => .cons (h b List.mem_cons_self) (dpa_of fun c hc => h c (List.mem_cons_of_mem _ hc))
theorem cr_sortD : CallR X (.builtin "sorted") (rSortD X.K X.A) := by
  intro pins s σ H vs us Q I r h
  obtain ⟨a, xs, ds, rfl, hs, hd, hal, hso, hu, hz, q⟩ := h
  have key : ∀ its : List Value, Vals xs its → ∀ (out : List Value), PySem.W.EachIs (fun v (b : V × Dt) => RelV b.1 v) out ((xs.zip ds).mergeSort (PySem.W.dataLe false (·.2))) → EP X pins σ Q (.ref (s.heap.objs.size + 1)) { s with heap := PyProof.Rows.sortedAll s.heap its out.toArray } := fun its rv out eo => by
    obtain ⟨ep, he'⟩ := PyProof.Rows.sortedAll_at s.heap its out.toArray
    have hv := each_vals eo
    have hm : ((xs.zip ds).mergeSort (PySem.W.dataLe false (·.2))).map (·.2) = srt ds := by
      unfold srt
      rw [List.map_mergeSort (r := PySem.W.dataLe false fun x : V × Dt => x.2) (s := PySem.W.dataLe false id) (f := fun x : V × Dt => x.2) (fun x _ y _ => rfl), (each_of I rv hd).2.2.2]
    have hdp : ∀ S : Hp, DpAll X.K S xs ds → DpAll X.K S (((xs.zip ds).mergeSort (PySem.W.dataLe false (·.2))).map (·.1)) (srt ds) := fun S hS => by
      rw [← hm]
      exact dpa_of fun b hb => dpa_zip hS b (List.mem_mergeSort.mp hb)
    have hlen : (((xs.zip ds).mergeSort (PySem.W.dataLe false (·.2))).map (·.1)).length ≤ sizeLine := by
      rw [List.length_map, List.length_mergeSort, List.length_zip]
      omega
    exact ⟨.ref _, upd H (s.heap.objs.size + 1) (.lst (((xs.zip ds).mergeSort (PySem.W.dataLe false (·.2))).map (·.1))), I.laid (t' := s.toks) (fun _ _ => PyProof.Rows.sortedAll_old) (Nat.le_succ _) ⟨hlen, out, ep, hv, he'⟩, rfl, q _ _ hdp (I.hok.fresh (Nat.le_succ _))⟩
  rw [Vals.ref1 r]
  rcases hs with hs | hs
  · obtain ⟨its, rv, hl, _⟩ := I.list hs
    obtain ⟨e1, e2, e3, e4⟩ := each_of I rv hd
    refine PySem.W.sorted_data (enc := (·.2)) hl.isList e1 e2 (by rw [e4]; exact hal) (by rw [e4]; exact hso) (by rw [List.length_zip]; omega) (fun b hb => hu _ (by rw [← e4]; exact List.mem_map.mpr ⟨b, hb, rfl⟩)) fun out _ eo => key its rv out eo
  · obtain ⟨its, rv, hl, _⟩ := I.tuple hs
    obtain ⟨e1, e2, e3, e4⟩ := each_of I rv hd
    have er' : PySem.W.EachIs (fun v (b : V × Dt) => ∃ as, Reads (PySem.W.sortingHeap (PySem.W.copyHeap s.heap its) (s.heap.objs.size + 1) its) v b.2 as) its (xs.zip ds) := e2.mono fun _ _ ⟨as, r⟩ => ⟨as, PyProof.Rows.Reads.keeps (fun _ _ => PySem.W.sorting_copy_old) r⟩
    refine sorted_tup hl (PySem.W.SortsAt.data (s := { s with heap := PySem.W.sortingHeap (PySem.W.copyHeap s.heap its) (s.heap.objs.size + 1) its }) (PySem.W.each_map (R := fun v d => ∃ as, Reads (PySem.W.sortingHeap (PySem.W.copyHeap s.heap its) (s.heap.objs.size + 1) its) v d as) (fun x : V × Dt => x.2) er') (by rw [e4]; exact hal) (by rw [e4]; exact hso)
      (PySem.W.bound_map (enc := fun x : V × Dt => x.2) fun b hb => by show X.A.units + 2 + b.2.depth < cLine; exact hu _ (by rw [← e4]; exact List.mem_map.mpr ⟨b, hb, rfl⟩))) (by rw [← rv.length]; exact hz) ?_
    exact key its rv _ (PySem.W.sortVals_data false e1 er' (by rw [e4]; exact hal))
end
end PD
/-! PD12: sorted as a map, < of alike data, len(set(ints)), enumerate. -/
namespace PD
open PySem L2

section
variable {K : PySem.W.Frag} {A : Around}
/-! ### sorted: the map -/
def tupOne : Dt → Bool
  | .tuple (_ :: _) => true
  | _ => false
def noTup : Dt → Bool
  | .tuple _ => false
  | .none => false
  | _ => true
def sortOk (ds : List Dt) : Bool := (ds.all fun d => ds.all fun e => PySem.W.alike d e) && (ds.all tupOne || ds.all noTup) &&
  (ds.all fun d => decide (d.depth ≤ 50)) && decide (ds.length ≤ sizeLine)
def fSort : List Dt → Option (List Dt)
  | [.list ds] => if sortOk ds = true then some (srt ds) else none
  | [.tuple ds] => if sortOk ds = true then some (srt ds) else none
  | _ => none
theorem sortOk_of {ds : List Dt} (h : sortOk ds = true) : PySem.W.AllAlike ds ∧ PySem.W.Sortable ds ∧ (∀ d ∈ ds, d.depth ≤ 50) ∧ ds.length ≤ sizeLine := by
  unfold sortOk at h
  rw [Bool.and_eq_true, Bool.and_eq_true, Bool.and_eq_true, Bool.or_eq_true, List.all_eq_true, List.all_eq_true, List.all_eq_true, List.all_eq_true, decide_eq_true_eq] at h
  obtain ⟨⟨⟨h1, h2⟩, h3⟩, h4⟩ := h
  refine ⟨fun d hd e he => List.all_eq_true.mp (h1 d hd) e he, ?_, fun d hd => of_decide_eq_true (h3 d hd), h4⟩
  rcases h2 with h2 | h2
  · refine .inl fun d hd => ?_
    have q := h2 d hd
    unfold tupOne at q
    split at q
    · exact ⟨_, _, rfl⟩
    · cases q
  · refine .inr fun d hd => ?_
    have q := h2 d hd
    refine ⟨fun z => ?_, fun xs z => ?_⟩
    · subst z; cases q
    · subst z; cases q
theorem pur_sort (hu : A.units + 65 < cLine) : PurF K (rSortD K A) fSort := by
  intro S H vs ds dz Q sb tx e q
  unfold fSort at e
  split at e
  · split at e
    · rename_i hk
      cases e
      obtain ⟨h1, h2, h3, h4⟩ := sortOk_of hk
      obtain ⟨v, rfl, t⟩ := trAll1 tx
      obtain ⟨a, xs, rfl, k1, k2⟩ := tr_list sb t
      refine ⟨a, xs, _, rfl, .inl k1, dpAll_mono sb _ _ k2, h1, h2, fun d hd => ?_, by rw [dpa_len k2]; exact h4, fun ys p hy hp => q p ys S H (Grow.rfl' sb) hp (hy S k2)⟩
      have := h3 d hd; omega
    · cases e
  · split at e
    · rename_i hk
      cases e
      obtain ⟨h1, h2, h3, h4⟩ := sortOk_of hk
      obtain ⟨v, rfl, t⟩ := trAll1 tx
      obtain ⟨a, xs, rfl, k1, k2⟩ := tr_tup t
      refine ⟨a, xs, _, rfl, .inr (sqT_mono sb k1), dpAll_mono sb _ _ k2, h1, h2, fun d hd => ?_, by rw [dpa_len k2]; exact h4, fun ys p hy hp => q p ys S H (Grow.rfl' sb) hp (hy S k2)⟩
      have := h3 d hd; omega
    · cases e
  · cases e
end

/-! ### < of ints, and of alike data -/
def rLtA (K : PySem.W.Frag) : R2 := fun x y H Q => (rI0 fun i j => .bl (decide (i < j))) x y H Q ∨ ∃ d e, Dp K H x d ∧ Dp K H y e ∧ PySem.W.alike d e = true ∧ d ≠ .none ∧ d.depth ≤ 60 ∧ Q (.bl (PySem.W.dataLt d e)) H
def gLtA : Dt → Dt → Option Dt
  | .int i, .int j => some (.bool (decide (i < j)))
  | .none, _ => none
  | d, e => if (PySem.W.alike d e && decide (d.depth ≤ 60)) = true then some (.bool (PySem.W.dataLt d e)) else none
theorem op_ltA {X : Cx} (hu : X.A.units + 65 < cLine) : OpR X (compareOp .Lt) (rLtA X.K) := by
  refine opr_or op_lt ?_
  intro pins s σ H x y v u Q I rx ry h
  obtain ⟨d, e, hd, he, ha, hn, hz, q⟩ := h
  obtain ⟨as, r1⟩ := Dp.reads I d x v hd rx
  obtain ⟨bs, r2⟩ := Dp.reads I e y u he ry
  exact PySem.W.rcLt_alike d e X.A s v u as bs r1 r2 ha hn (by omega) _ _ _ _ ⟨.bl _, H, I, rfl, q⟩
theorem pur_ltA {K : PySem.W.Frag} : Pur2 K (rLtA K) gLtA := by
  intro S H x y dx dy dz Q sb tx ty e q
  unfold gLtA at e
  split at e
  · cases e
    exact .inl ⟨_, _, tr_int tx, tr_int ty, q _ S H (Grow.rfl' sb) (.bl _)⟩
  · cases e
  · rename_i h0 h1
    split at e
    · rename_i c
      cases e
      rw [Bool.and_eq_true, decide_eq_true_eq] at c
      exact .inr ⟨_, _, tx.full sb, ty.full sb, c.1, h0, c.2, q _ S H (Grow.rfl' sb) (.bl _)⟩
    · cases e

/-! ### len(set(xs)), xs a list of ints -/
def intsD : List Dt → Option (List Int)
  | [] => some []
  | .int b :: ds => (intsD ds).map (b :: ·)
  | _ :: _ => none
theorem dpa_ints {K : PySem.W.Frag} {S : Hp} : ∀ {vs : List V} {ds : List Dt} {bs : List Int}, DpAll K S vs ds → intsD ds = some bs → vs = bs.map V.int
  | _, _, bs, .nil, e => by cases e; rfl
  | _, _, bs, .cons (d := d) (ds := ds) r t, e => by
    cases d with
    | int b =>
      unfold intsD at e
      cases q : intsD ds with
      | none => rw [q] at e; cases e
      | some cs =>
        rw [q] at e
        cases e
        cases r
        rw [dpa_ints t q]
        rfl
    | _ => cases e
/-- each number once, as first met -/
def onceI (ns : List Int) : List Int := ns.foldl PyProof.Rows.step_dedup []
def gLenSet : Dt → Option Dt
  | .list ds => match intsD ds with
    | some ns => if ns.length + 1 < scanBound then some (.int (onceI ns).length) else none
    | none => none
  | _ => none
theorem map_getD (ns : List Int) : (List.range ns.length).map (fun i => ns.getD i 0) = ns := by
  apply List.ext_getElem
  · rw [List.length_map, List.length_range]
  · intro i h1 h2
    rw [List.getElem_map, List.getElem_range, List.getD_eq_getElem?_getD, List.getElem?_eq_getElem h2]
    rfl
theorem once_met (ns : List Int) : PyProof.Rows.firstMet (fun i => ns.getD i 0) ns.length = onceI ns := by
  unfold PyProof.Rows.firstMet onceI
  rw [map_getD]
def tLenSetD (K : PySem.W.Frag) (ta : TE) : TE := fun σ H Q => ta σ H fun x H1 => ∃ (l : Addr) (ns : List Int), x = .ref l ∧ SqL K H1 l (ns.map V.int) ∧ ns.length + 1 < scanBound ∧ Q (.int ((onceI ns).length : Nat)) H1
section
variable {X : Cx} {W : WX} {a : Expr} {m : M Rv} {p p2 q pos : Pos}
theorem pe_lenSetD {ta : TE} (hg : Gl X "len") (hm : X.mg "len" = none) (hg2 : Gl X "set") (hm2 : X.mg "set" = none) (ha : PE X a ta) (hc : X.calm = true)
    (na : starEach [a] X.env = (false, eval a X.env) :: starEach [] X.env := by rfl) : PE X (.Call (.Name "len" p) [.Call (.Name "set" p2) [a] [] q] [] pos) (tLenSetD X.K ta) := by
  refine ⟨fun pins s σ H Q I h => ?_⟩
  refine PyProof.Rows.Call_ (ld_blt I hg hm PySem.boot_len ?_)
  refine PyProof.Rows.callWith_builtin1 (PyProof.Rows.args_cons ?_ rfl) rfl rfl
  refine PyProof.Rows.Call_ (ld_blt I hg2 hm2 PyProof.Rows.boot_set ?_)
  refine PyProof.Rows.callWith_type1 (PyProof.Rows.args_cons (thn (ha.run pins s σ H _ I h) fun v s1 ⟨x, H1, I1, r1, q1⟩ => PyProof.Rows.args_nil ?_) na) na rfl
  obtain ⟨l, ns, rfl, hq, hl, q1⟩ := q1
  cases r1
  obtain ⟨its, r, pl, hz⟩ := I1.list hq
  have hlen : its.toArray.size = ns.length := by rw [List.size_toArray, ← r.length, List.length_map]
  refine PySem.call_set_list (I1.ok.hd hc) pl.isList (by simpa using RZ.intsAre_vals r) (by rw [hlen]; exact hl) fun h' tk hS hk => ?_
  refine PyProof.Rows.args_nil ?_
  rw [hlen, once_met] at hS
  obtain ⟨o, es, ep, t, ho, hex, hd, _, _, _, hf, hn⟩ := hS
  have I2 : Inv X pins σ H1 { s1 with heap := h', toks := tk } := I1.kept fun b o e => hk b o (Heap.lt_size e) e
  have hle : (onceI ns).length ≤ ns.length := by rw [← once_met]; exact PyProof.Rows.firstMet_length_le _ _
  have hb : scanBound = 4096 := rfl
  exact call_len_set ho hex hd hf (by rw [hn]; omega) ⟨.int (onceI ns).length, H1, I2.tok _, ⟨_, by rw [hn]⟩, q1⟩
theorem d_lenSet (hm : X.mg "len" = none) (hm2 : X.mg "set" = none) (ha : PE X a (tD X.K X.mg W m)) (hc : X.calm = true) (hg : Gl X "len" := by rfl) (hg2 : Gl X "set" := by rfl)
    (na : starEach [a] X.env = (false, eval a X.env) :: starEach [] X.env := by rfl) : PE X (.Call (.Name "len" p) [.Call (.Name "set" p2) [a] [] q] [] pos) (tD X.K X.mg W (mOp1 gLenSet m)) :=
  pe_imp (pe_lenSetD hg hm hg2 hm2 ha hc na) fun σ H Q h => by
    obtain ⟨G, S, ρ, o, R, e, q⟩ := h
    refine seqD R e (fun r1 ρ1 v1 S1 H1 _ e1 R1 s1 rv1 => ?_) fun c ρ' eo S' H' R' s' => by subst eo; exact q S' H' R' s'
    obtain ⟨x, t1, e3⟩ := res_ok R1 rv1 e1
    obtain ⟨z, e5, e6⟩ := opt_ok e3
    cases e6
    unfold gLenSet at e5
    split at e5
    · split at e5
      · rename_i ns hns
        split at e5
        · rename_i hl
          cases e5
          obtain ⟨b, xs, rfl, h1, h2⟩ := tr_list R1.sub t1
          have h3 := dpa_ints h2 hns
          subst h3
          exact ⟨b, ns, rfl, h1, hl, q _ S1 H1 R1 s1 (.int _)⟩
        · cases e5
      · cases e5
    · cases e5
end

/-! ### enumerate -/
theorem drawn_end {P : Program} {w : World} {A : Around} {it : Addr} {fp : List Addr} {i : Nat} {St : Heap → Prop} (live : ∀ h, St h → ∃ o, h.get? it = some o) (frame : ∀ h h', St h → (∀ b ∈ fp, ∀ o, h.get? b = some o → h'.get? b = some o) → St h')
    (done : ∀ (s : Shared) (Q : Value → Shared → Prop) (E : Value → Shared → Prop), St s.heap → (∀ h' e, Heap.ExtBut it s.heap h' → (∃ o, h'.get? e = some o ∧ o.cls = .type "StopIteration") → E (.ref e) { s with heap := h' }) → wpAny (model P w) A (Builtin.SmallTypes.nextOf (.ref it)) Q E s) :
    Draws P w A it fp i (fun _ _ => False) (fun j h => j = i ∧ St h) where
  live := fun _ h st => live h st.2
  frame := fun _ h h' st hk => ⟨st.1, frame h h' st.2 hk⟩
  item := fun j s Q E hj st _ => absurd st.1 (Nat.ne_of_lt hj)
  done := fun s Q E st hE => done s Q E st.2 hE
theorem text_end {P : Program} {w : World} {A : Around} {it : Addr} {x : Str} {t : Tok} {i : Nat} {s : Shared} {Q : Value → Shared → Prop} {E : Value → Shared → Prop} (hh : A.handled = none) (hit : s.heap.IsStrIter it (strIterType x) x t i) (hx : x.cps[i]? = none)
    (hE : ∀ h' e, Heap.ExtBut it s.heap h' → (∃ o, h'.get? e = some o ∧ o.cls = .type "StopIteration") → E (.ref e) { s with heap := h' }) : wpAny (model P w) A (Builtin.SmallTypes.nextOf (.ref it)) Q E s := by
  cases ha : x.cps.all (· < 128)
  · simp only [strIterType, ha, Bool.false_eq_true, if_false] at hit
    exact wpAny_nextOf_wide_end hh hit hx hE
  · simp only [strIterType, ha, if_true] at hit
    exact wpAny_nextOf_ascii_end hh hit hx hE
def ItE (x : Str) : It := ⟨fun i _ => i < x.cps.size, fun i H v H' => ∃ T c, v = .ref T ∧ H T = none ∧ H' = upd H T (.tup [.int (i : Nat), .str ⟨#[c]⟩]) ∧ x.cps[i]? = some c, fun i _ => x.cps.size ≤ i⟩
theorem turn_enumS {P : Program} {w : World} {K : PySem.W.Frag} {elts : List Expr} {kk : Nat} {tpos : Pos} (x : Str) (tx : Tok) (e it : Addr) :
    Turn P w K (.Tuple elts kk tpos) (ItE x) [e, it] e (fun i h => (∃ old, IsEnum h e it ((i : Nat) : Int) old) ∧ h.IsStrIter it (strIterType x) x tx i ∧ e ≠ it) where
  mem := by simp
  obj := fun i h st b hb => by
    obtain ⟨⟨old, he⟩, ⟨o, ho, hc, hd⟩, _⟩ := st
    have e' : b = e ∨ b = it := by simpa using hb
    rcases e' with z | z
    · rw [z]; exact ⟨_, he, fun v q => nomatch q⟩
    · rw [z]; exact ⟨o, ho, fun v q => by rw [hd] at q; cases q⟩
  keep := fun i h h' st k => let ⟨⟨old, he⟩, ⟨o, ho, r⟩, hne⟩ := st; ⟨⟨old, k e (by simp) _ he⟩, ⟨o, k it (by simp) o ho, r⟩, hne⟩
  item := by
    intro X hP hw hK hc i pins s σ H E I hf st hg
    subst hP hw hK
    obtain ⟨⟨old, he⟩, hit, hne⟩ := st
    have hel : e < s.heap.objs.size := Heap.lt_size he
    have hil : it < s.heap.objs.size := by obtain ⟨_, q, _⟩ := hit; exact Heap.lt_size q
    refine wpAny_pyNext_enum_itemC (Draws.text (A := X.A.in1) (I.ok.hd hc) it x tx) he hit hg hne (by simpa using hne) fun u h' tk hu ho hit' hT hsz hk => ?_
    obtain ⟨c, tu, hcx, rfl⟩ := hu
    refine ⟨_, rfl, wpAny_letOwnedTupleGo_enum (s := { s with heap := h', toks := tk + 1 }) ho fun h'' he' sb => ?_⟩
    have hT2 : h''.get? s.heap.objs.size = some { cls := .type "tuple", data := .seq #[.int i tk, .str ⟨#[c]⟩ tu] } := (sb.2 _ (Nat.ne_of_gt hel)).trans hT
    have new : ObjOk X.prog X.w (upd H s.heap.objs.size (.tup [.int (i : Nat), .str ⟨#[c]⟩])) h'' s.heap.objs.size (.tup [.int (i : Nat), .str ⟨#[c]⟩]) :=
      ⟨by show 2 ≤ sizeLine; decide, [.int i tk, .str ⟨#[c]⟩ tu], .cons ⟨_, rfl⟩ (.cons ⟨_, rfl⟩ .nil), ⟨_, hT2, rfl, _, rfl⟩⟩
    have I1 : Inv X pins σ (upd H s.heap.objs.size (.tup [.int (i : Nat), .str ⟨#[c]⟩])) { s with heap := h'', toks := tk + 1 } :=
      I.turnedNew (ch := [e, it]) (fun b ob hb q => (sb.2 b (fun z => hb (by simp [z]))).trans (hk b ob (fun z => hb (by simp [z])) (fun z => hb (by simp [z])) q)) hf (Nat.le_refl _) new
    refine ⟨.ref s.heap.objs.size, _, I1, rfl, ⟨_, c, rfl, I.hok.fresh (Nat.le_refl _), rfl, hcx⟩, ⟨⟨.str ⟨#[c]⟩ tu, ?_⟩, ?_, hne⟩, fun b hb => ?_⟩
    · have e1 : ((i + 1 : Nat) : Int) = (i : Int) + 1 := by omega
      rw [e1]; exact he'
    · obtain ⟨o, ho', r⟩ := hit'
      exact ⟨o, (sb.2 it (Ne.symm hne)).trans ho', r⟩
    · have hb' : b < s.heap.objs.size := by
        have e' : b = e ∨ b = it := by simpa using hb
        rcases e' with z | z
        · rw [z]; exact hel
        · rw [z]; exact hil
      rw [upd_ne (Nat.ne_of_lt hb')]
      exact (hf b hb).1
  done := by
    intro X hP hw hK hc i pins s σ H E I hf st hg
    subst hP hw hK
    obtain ⟨⟨old, he⟩, hit, hne⟩ := st
    obtain ⟨f0, f1, f2, f3, f4, f5⟩ := hf it (by simp)
    have hx : x.cps[i]? = none := Array.getElem?_eq_none hg
    refine wpAny_pyNext_enum_endD (drawn_end (A := X.A.in1) (fp := [it]) (i := i) (St := fun h => h.IsStrIter it (strIterType x) x tx i) (fun h st => let ⟨o, ho, _⟩ := st; ⟨o, ho⟩) (fun h h' st hk => let ⟨o, ho, r⟩ := st; ⟨o, hk it (by simp) o ho, r⟩) fun s Q E st hE => text_end (I.ok.hd hc) st hx hE) he ⟨rfl, hit⟩ fun h' eb => ⟨rfl, I.turned (t' := s.toks) (fun b o hb q => eb b o hb q) f0 f1 f3 f4 f5⟩
  self := fun A i s Q E st h => let ⟨⟨_, he⟩, _⟩ := st; wpAny_pyIter_enum he h

/-! ### enumerate(tuple) -/
def ItET (K : PySem.W.Frag) (a : Addr) : It :=
  ⟨fun i H => ∃ (xs : List V) (x : V), SqT K H a xs ∧ xs[i]? = some x, fun i H v H' => ∃ T x, v = .ref T ∧ H T = none ∧ H' = upd H T (.tup [.int (i : Nat), x]) ∧ ∀ xs, SqT K H a xs → xs[i]? = some x, fun i H => ∃ xs : List V, SqT K H a xs ∧ xs.length ≤ i⟩
theorem apart_tup {h : Heap} {it a : Addr} {i : Nat} {items : Array Value} (hit : h.IsTupleIter it a i) (p : h.IsTuple a items) : a ≠ it := fun z => by
  subst z
  obtain ⟨o, ho, hc, _⟩ := hit
  obtain ⟨o', ho', hc', _⟩ := p
  rw [ho] at ho'
  cases ho'
  rw [hc] at hc'
  injection hc' with z
  exact absurd z (by decide)
theorem apart_enum {h : Heap} {e it a : Addr} {i : Int} {old : Value} {items : Array Value} (he : IsEnum h e it i old) (p : h.IsTuple a items) : a ≠ e := fun z => by
  subst z
  obtain ⟨o', ho', hc', _⟩ := p
  have he' : h.get? a = some _ := he
  rw [he'] at ho'
  cases ho'
  injection hc' with z
  exact absurd z (by decide)
theorem turn_enumT {P : Program} {w : World} {K : PySem.W.Frag} {elts : List Expr} {kk : Nat} {tpos : Pos} (a e it : Addr) :
    Turn P w K (.Tuple elts kk tpos) (ItET K a) [e, it] e (fun i h => (∃ old, IsEnum h e it ((i : Nat) : Int) old) ∧ h.IsTupleIter it a i ∧ e ≠ it) where
  mem := by simp
  obj := fun i h st b hb => by
    obtain ⟨⟨old, he⟩, ⟨o, ho, hc, hd⟩, _⟩ := st
    have e' : b = e ∨ b = it := by simpa using hb
    rcases e' with z | z
    · rw [z]; exact ⟨_, he, fun v q => nomatch q⟩
    · rw [z]; exact ⟨o, ho, fun v q => by rw [hd] at q; cases q⟩
  keep := fun i h h' st k => let ⟨⟨old, he⟩, hi, hne⟩ := st; ⟨⟨old, k e (by simp) _ he⟩, hi.at fun o q => k it (by simp) o q, hne⟩
  item := by
    intro X hP hw hK hc i pins s σ H E I hf st hg
    subst hP hw hK
    obtain ⟨⟨old, he⟩, hit, hne⟩ := st
    obtain ⟨xs, x, hq, hx⟩ := hg
    obtain ⟨its, rv, p, hz⟩ := I.tuple hq
    obtain ⟨u, hu, ru⟩ := rv.get hx
    have hel : e < s.heap.objs.size := Heap.lt_size he
    have hil : it < s.heap.objs.size := by obtain ⟨_, q, _⟩ := hit; exact Heap.lt_size q
    have hai := apart_tup hit p
    have hae := apart_enum he p
    have hlt : i < its.toArray.size := by
      rw [List.size_toArray]
      exact (List.getElem?_eq_some_iff.mp hu).1
    refine wpAny_pyNext_enum_itemC (Draws.tuple (A := X.A.in1) (I.ok.hd hc) it a hai its.toArray) he ⟨hit, p⟩ hlt hne (by simp [hne, Ne.symm hae]) fun y h' tk hy ho hit' hT hsz hk => ?_
    have hy' : y = u := by
      have hy2 : its.toArray[i]? = some y := hy
      rw [List.getElem?_toArray, hu] at hy2
      exact (Option.some.inj hy2).symm
    subst hy'
    refine ⟨_, rfl, wpAny_letOwnedTupleGo_enum (s := { s with heap := h', toks := tk + 1 }) ho fun h'' he' sb => ?_⟩
    have hT2 : h''.get? s.heap.objs.size = some { cls := .type "tuple", data := .seq #[.int i tk, y] } := (sb.2 _ (Nat.ne_of_gt hel)).trans hT
    have new : ObjOk X.prog X.w (upd H s.heap.objs.size (.tup [.int (i : Nat), x])) h'' s.heap.objs.size (.tup [.int (i : Nat), x]) :=
      ⟨by show 2 ≤ sizeLine; decide, [.int i tk, y], .cons ⟨_, rfl⟩ (.cons ru .nil), ⟨_, hT2, rfl, _, rfl⟩⟩
    have I1 : Inv X pins σ (upd H s.heap.objs.size (.tup [.int (i : Nat), x])) { s with heap := h'', toks := tk + 1 } :=
      I.turnedNew (ch := [e, it]) (fun b ob hb q => (sb.2 b (fun z => hb (by simp [z]))).trans (hk b ob (fun z => hb (by simp [z])) (fun z => hb (by simp [z])) q)) hf (Nat.le_refl _) new
    refine ⟨.ref s.heap.objs.size, _, I1, rfl, ⟨_, x, rfl, I.hok.fresh (Nat.le_refl _), rfl, fun ys hy => ?_⟩, ⟨⟨y, ?_⟩, hit'.1.at fun o q => (sb.2 it (Ne.symm hne)).trans q, hne⟩, fun b hb => ?_⟩
    · rw [I.tuple_inj hy hq]; exact hx
    · have e1 : ((i + 1 : Nat) : Int) = (i : Int) + 1 := by omega
      rw [e1]; exact he'
    · have hb' : b < s.heap.objs.size := by
        have e' : b = e ∨ b = it := by simpa using hb
        rcases e' with z | z
        · rw [z]; exact hel
        · rw [z]; exact hil
      rw [upd_ne (Nat.ne_of_lt hb')]
      exact (hf b hb).1
  done := by
    intro X hP hw hK hc i pins s σ H E I hf st hg
    subst hP hw hK
    obtain ⟨⟨old, he⟩, hit, hne⟩ := st
    obtain ⟨xs, hq, hx⟩ := hg
    obtain ⟨its, rv, p, hz⟩ := I.tuple hq
    obtain ⟨f0, f1, f2, f3, f4, f5⟩ := hf it (by simp)
    have hl := rv.length
    refine wpAny_pyNext_enum_endD (drawn_end (A := X.A.in1) (fp := [it, a]) (i := i) (St := fun h => h.IsTupleIter it a i ∧ h.IsTuple a its.toArray) (fun h st => let ⟨o, ho, _⟩ := st.1; ⟨o, ho⟩) (fun h h' st hk => ⟨st.1.at fun o e => hk it (by simp) o e, st.2.at fun o e => hk a (by simp) o e⟩)
      fun s Q E st hE => wpAny_nextOf_tuple_end (I.ok.hd hc) st.1 st.2 (by simp; omega) hE) he ⟨rfl, hit, p⟩ fun h' eb => ⟨rfl, I.turned (t' := s.toks) (fun b o hb q => eb b o hb q) f0 f1 f3 f4 f5⟩
  self := fun A i s Q E st h => let ⟨⟨_, he⟩, _⟩ := st; wpAny_pyIter_enum he h

theorem meets_enumT (t : Addr) (items : Array Value) :
    Meets (Builtin.«enumerate.__new__» ⟨[.type "enumerate", .ref t], []⟩) (fun _ R s => s.heap.IsTuple t items ∧
      R (.ok (.ret (.ref (s.heap.push { cls := .type "tuple_iterator", data := .fields #[.ref t, .int 0 0] }).objs.size)))
        { s with heap := (s.heap.push { cls := .type "tuple_iterator", data := .fields #[.ref t, .int 0 0] }).push { cls := .type "enumerate", data := .fields #[.none, .bool false, .ref s.heap.objs.size, rawInt 0, .none, .none] } }) :=
  .of_wp fun prog w A R s h => by
    obtain ⟨hp, g, d, tk, os⟩ := s
    obtain ⟨h1, h⟩ := h
    have hsub := sub_enumerate
    have q1 : ∀ {A' : Around} {E : Value → Shared → Prop} {Q : Value → Shared → Prop}, Q (.ref hp.objs.size) ⟨hp.push { cls := .type "tuple_iterator", data := .fields #[.ref t, .int 0 0] }, g, d, tk, os⟩ → wpAny (model prog w) A' (pyIter (.ref t)) Q E ⟨hp, g, d, tk, os⟩ :=
      fun q => (begins_tuple t items).iter prog w _ _ ⟨hp, g, d, tk, os⟩ _ h1 q
    wp_walk using q1
    refine wpAny_stack_any fun st => wpAny_pure ?_
    split
    · rename_i c _ _ _ _ _
      cases (c == Value.type "enumerate")
      · wp_walk using q1
        exact ⟨_, rfl, h⟩
      · wp_walk using q1
        exact ⟨_, rfl, h⟩
    · wp_walk using q1
      exact ⟨_, rfl, h⟩
theorem call_enumT {prog : Program} {w : World} {A : Around} {E : Value → Shared → Prop} {s : Shared} {t : Addr} {items : Array Value} {Q : Value → Shared → Prop} (h1 : s.heap.IsTuple t items)
    (h : ∀ h', IsEnum h' (s.heap.objs.size + 1) s.heap.objs.size 0 .none → h'.IsTupleIter s.heap.objs.size t 0 → h'.objs.size = s.heap.objs.size + 2 →
      (∀ b o, s.heap.get? b = some o → h'.get? b = some o) → Q (.ref (s.heap.objs.size + 1)) { s with heap := h' }) :
    wpAny (model prog w) A (call (.type "enumerate") [.ref t]) Q E s := by
  refine callType_new F.called_enumerate (by decide) (F.typeCall_enumerate_1 _) (F.newCall_enumerate_1 _) (fun obj => F.args_object_init_2 obj _) F.entry_enumerate_new
    (meets_enumT t items) ⟨h1, ?_⟩
  generalize ho : ({ cls := .type "tuple_iterator", data := .fields #[.ref t, .int 0 0] } : Obj) = o
  have hfr : o.isFreed = false := by rw [← ho]; rfl
  have hz : (s.heap.push o).objs.size = s.heap.objs.size + 1 := Heap.size_push ..
  show _ ∧ _
  rw [hz]
  have he : IsEnum ((s.heap.push o).push { cls := .type "enumerate", data := .fields #[.none, .bool false, .ref s.heap.objs.size, rawInt 0, .none, .none] }) (s.heap.objs.size + 1) s.heap.objs.size 0 .none := by
    have := Heap.get?_push_size (s.heap.push o) (o := { cls := .type "enumerate", data := .fields #[.none, .bool false, .ref s.heap.objs.size, rawInt 0, .none, .none] }) rfl
    rw [hz] at this; exact this
  refine ⟨⟨_, he, rfl⟩, h _ he ⟨_, Heap.get?_push_of_some _ (Heap.get?_push_size _ hfr), by rw [← ho], by rw [← ho]; rfl⟩ (by rw [Heap.size_push, hz]) fun b o x => Heap.get?_push_of_some _ (Heap.get?_push_of_some _ x)⟩
/-- enumerate of a list, a tuple, a text -/
def iEnumA (K : PySem.W.Frag) (ta : TA) : TI := fun σ H R => ta σ H fun vs H1 => (∃ a, vs = [.ref a] ∧ (∃ xs, SqL K H1 a xs) ∧ R (Ite K a) H1) ∨ (∃ a, vs = [.ref a] ∧ (∃ xs, SqT K H1 a xs) ∧ R (ItET K a) H1) ∨ ∃ z, vs = [.str z] ∧ R (ItE z) H1
theorem pi_enumA {X : Cx} {e : Expr} {ta : TA} {p pos tpos : Pos} {elts : List Expr} {kk : Nat} (hg : Gl X "enumerate") (hm : X.mg "enumerate" = none) (ha : PA X [e] ta) (hs : starEach [e] X.env = [(false, eval e X.env)] := by rfl) :
    PI X (.Tuple elts kk tpos) (.Call (.Name "enumerate" p) [e] [] pos) (iEnumA X.K ta) := by
  refine ⟨fun pins s σ H R I h => ?_⟩
  refine PyProof.Rows.Call_ (ld_blt I hg hm PyProof.Rows.boot_enumerate (PyProof.Rows.callWith_type1 (thn (ha.run pos pins s σ H _ I h) fun us s1 ⟨vs, H1, I1, r1, q1⟩ => ?_) hs rfl))
  have away : ∀ b ∈ [s1.heap.objs.size + 1, s1.heap.objs.size], s1.heap.objs.size ≤ b := fun b hb => by
    have e' : b = s1.heap.objs.size + 1 ∨ b = s1.heap.objs.size := by simpa using hb
    rcases e' with z | z
    · rw [z]; exact Nat.le_add_right _ _
    · rw [z]; exact Nat.le_refl _
  rcases q1 with ⟨a, rfl, ⟨xs, hq⟩, q⟩ | ⟨a, rfl, ⟨xs, hq⟩, q⟩ | ⟨z, rfl, q⟩
  · cases r1 with
    | cons r rr =>
      cases rr
      cases r
      obtain ⟨its, rv, p', hz⟩ := I1.list hq
      refine call_enumerate_list p'.isList fun h' he hit hsz hk => wpAny_pyIter_enum he ?_
      have I2 : Inv X pins σ H1 { s1 with heap := h' } := I1.kept (t' := s1.toks) hk
      exact ⟨s1.heap.objs.size + 1, [s1.heap.objs.size + 1, s1.heap.objs.size], _, _, H1, rfl, I2, turn_enum a (s1.heap.objs.size + 1) s1.heap.objs.size, ⟨⟨.none, he⟩, hit, Nat.succ_ne_self _⟩, fun b hb => I1.fpOk (away b hb) (I1.hok.fresh (away b hb)), q⟩
  · cases r1 with
    | cons r rr =>
      cases rr
      cases r
      obtain ⟨its, rv, p', hz⟩ := I1.tuple hq
      refine call_enumT p' fun h' he hit hsz hk => wpAny_pyIter_enum he ?_
      have I2 : Inv X pins σ H1 { s1 with heap := h' } := I1.kept (t' := s1.toks) hk
      exact ⟨s1.heap.objs.size + 1, [s1.heap.objs.size + 1, s1.heap.objs.size], _, _, H1, rfl, I2, turn_enumT a (s1.heap.objs.size + 1) s1.heap.objs.size, ⟨⟨.none, he⟩, hit, Nat.succ_ne_self _⟩, fun b hb => I1.fpOk (away b hb) (I1.hok.fresh (away b hb)), q⟩
  · cases r1 with
    | cons r rr =>
      cases rr
      obtain ⟨t, rfl⟩ := r
      refine call_enumerate_str fun h' he hit hsz hk => wpAny_pyIter_enum he ?_
      have I2 : Inv X pins σ H1 { s1 with heap := h' } := I1.kept (t' := s1.toks) hk
      exact ⟨s1.heap.objs.size + 1, [s1.heap.objs.size + 1, s1.heap.objs.size], _, _, H1, rfl, I2, turn_enumS z t (s1.heap.objs.size + 1) s1.heap.objs.size, ⟨⟨.none, he⟩, hit, Nat.succ_ne_self _⟩, fun b hb => I1.fpOk (away b hb) (I1.hok.fresh (away b hb)), q⟩
/-! ### the map -/
def enumL : Nat → List Dt → List Dt
  | _, [] => []
  | k, d :: ds => .tuple [.int (k : Nat), d] :: enumL (k + 1) ds
theorem enumL_get : ∀ (ds : List Dt) (k i : Nat), (enumL k ds)[i]? = (ds[i]?).map fun d => .tuple [.int ((k + i : Nat) : Int), d]
  | [], k, i => by unfold enumL; simp
  | d :: ds, k, 0 => by unfold enumL; simp
  | d :: ds, k, i + 1 => by
    unfold enumL
    rw [List.getElem?_cons_succ, List.getElem?_cons_succ, enumL_get ds (k + 1) i, show k + 1 + i = k + (i + 1) by omega]
theorem enumL_len : ∀ (ds : List Dt) (k : Nat), (enumL k ds).length = ds.length
  | [], _ => rfl
  | d :: ds, k => by
    unfold enumL
    rw [List.length_cons, List.length_cons, enumL_len ds]
def enumD : List Dt → Option (List Dt)
  | [d] => (items d).map (enumL 0)
  | _ => none
section
variable {K : PySem.W.Frag} {S : Hp}
theorem enum_get {ds : List Dt} {i : Nat} {z : Dt} (e : (enumL 0 ds)[i]? = some z) : ∃ d, ds[i]? = some d ∧ z = .tuple [.int (i : Nat), d] := by
  rw [enumL_get] at e
  cases q : ds[i]? with
  | none => rw [q] at e; cases e
  | some d =>
    rw [q] at e
    cases e
    refine ⟨d, rfl, ?_⟩
    rw [Nat.zero_add]
theorem walk_enumL {a : Addr} {xs : List V} {ds : List Dt} (h : SqL K S a xs) (hd : DpAll K S xs ds) : Walk K (Ite K a) S (enumL 0 ds) := by
  intro i S1 H1 s1 s2
  have hH : SqL K H1 a xs := s2.seq (s1.seq h)
  refine ⟨fun z e => ?_, fun hl => ⟨xs, hH, by rw [dpa_len hd, ← enumL_len ds 0]; exact hl⟩⟩
  obtain ⟨d, e1, rfl⟩ := enum_get e
  obtain ⟨v, e2, e3⟩ := dpa_some hd e1
  refine ⟨⟨xs, v, hH, e2⟩, fun x H' y => ?_⟩
  obtain ⟨T, u, rfl, hT, rfl, f⟩ := y
  have g := f xs hH
  rw [e2] at g
  cases g
  have gr := Grow.one s2 hT (.tup [.int (i : Nat), v])
  exact ⟨_, gr, .tup (SqT.of upd_same) (.cons (.int _) (.cons (dp_mono (s1.trans gr.s) _ _ e3) .nil))⟩
theorem walk_enumT {a : Addr} {xs : List V} {ds : List Dt} (h : SqT K S a xs) (hd : DpAll K S xs ds) : Walk K (ItET K a) S (enumL 0 ds) := by
  intro i S1 H1 s1 s2
  have hH : SqT K H1 a xs := sqT_mono s2 (sqT_mono s1 h)
  refine ⟨fun z e => ?_, fun hl => ⟨xs, hH, by rw [dpa_len hd, ← enumL_len ds 0]; exact hl⟩⟩
  obtain ⟨d, e1, rfl⟩ := enum_get e
  obtain ⟨v, e2, e3⟩ := dpa_some hd e1
  refine ⟨⟨xs, v, hH, e2⟩, fun x H' y => ?_⟩
  obtain ⟨T, u, rfl, hT, rfl, f⟩ := y
  have g := f xs hH
  rw [e2] at g
  cases g
  have gr := Grow.one s2 hT (.tup [.int (i : Nat), v])
  exact ⟨_, gr, .tup (SqT.of upd_same) (.cons (.int _) (.cons (dp_mono (s1.trans gr.s) _ _ e3) .nil))⟩
theorem walk_enumS {z : Str} : Walk K (ItE z) S (enumL 0 (z.cps.toList.map fun c => .str ⟨#[c]⟩)) := by
  intro i S1 H1 s1 s2
  refine ⟨fun y e => ?_, fun hl => by rw [enumL_len, List.length_map, Array.length_toList] at hl; exact hl⟩
  obtain ⟨d, e1, rfl⟩ := enum_get e
  rw [List.getElem?_map] at e1
  have hi : i < z.cps.size := by
    by_cases hi : i < z.cps.size
    · exact hi
    · rw [List.getElem?_eq_none (by rw [Array.length_toList]; omega)] at e1; cases e1
  have e0 : z.cps.toList[i]? = some z.cps[i] := by
    rw [Array.getElem?_toList, Array.getElem?_eq_getElem hi]
  rw [e0] at e1
  cases e1
  refine ⟨hi, fun x H' y => ?_⟩
  obtain ⟨T, c, rfl, hT, rfl, f⟩ := y
  rw [Array.getElem?_eq_getElem hi] at f
  cases f
  have gr := Grow.one s2 hT (.tup [.int (i : Nat), .str ⟨#[z.cps[i]]⟩])
  exact ⟨_, gr, .tup (SqT.of upd_same) (.cons (.int _) (.cons (.str _) .nil))⟩
end
section
variable {X : Cx} {W : WX} {a : Expr} {ml : M (List Rv)} {p pos : Pos}
theorem d_enum {elts : List Expr} {kk : Nat} {tpos : Pos} (hm : X.mg "enumerate" = none) (ha : PA X [a] (tA X.K X.mg W ml)) (hg : Gl X "enumerate" := by rfl) (hs : starEach [a] X.env = [(false, eval a X.env)] := by rfl) :
    PI X (.Tuple elts kk tpos) (.Call (.Name "enumerate" p) [a] [] pos) (tI X.K X.mg W (mArg enumD ml)) :=
  pi_imp (pi_enumA hg hm ha hs) fun σ H R w => rd_arg w fun G S1 H1 ρ1 vs ds es R1 hd e k => by
    unfold enumD at e
    split at e
    · rename_i d
      cases hd with
      | cons h1 h2 =>
        cases h2
        cases h1 with
        | @lst a xs ds' hs ha =>
          cases e
          exact .inl ⟨a, rfl, ⟨xs, R1.sub.seq hs⟩, k _ (walk_enumL hs ha)⟩
        | @tup a xs ds' hs ha =>
          cases e
          exact .inr (.inl ⟨a, rfl, ⟨xs, sqT_mono R1.sub hs⟩, k _ (walk_enumT hs ha)⟩)
        | str z =>
          cases e
          exact .inr (.inr ⟨z, rfl, k _ walk_enumS⟩)
        | non => cases e
        | bl b => cases e
        | int i => cases e
    · cases e
end
end PD
/-! PD13: what a printed text leans on. -/
namespace PD
open PySem L2

theorem u65 {k : Nat} {A : Around} (r : Room k A) : A.units + 65 < cLine := by have := r.un; omega
theorem u64 {k : Nat} {A : Around} (r : Room k A) : A.units + 64 < cLine := by have := r.un; omega
theorem tk0 {X : Cx} : Takes X W0 := fun u s' ⟨a, B, sI, pins, σ, H, cls, d, e, I, nb, up, sky, na, os, ag, w⟩ => w.elim
/-- a block's scope, looked at -/
def isLc : Option NameKind → Bool
  | some .local => true
  | some .cell => true
  | _ => false
def isCf : Option NameKind → Bool
  | some .free => true
  | some .cell => true
  | _ => false
def blkB (N : List Str) (sc scope : Scope) (own : List (Str × Nat)) : Bool :=
  (match scope.kind with | .function => true | _ => false) && (scope.names.all fun y => decide (scope.names.lookup y.1 = some y.2)) && (own.all fun p => decide (N[p.2]? = some p.1)) &&
  (scope.names.all fun y => !(isCf (some y.2) && !isLc (some y.2)) || isCf (sc.names.lookup y.1)) && (scope.names.all fun y => !isLc (some y.2) || (decide (y.1 ∈ own.map (·.1)) || !decide (y.1 ∈ N)))
theorem blk_of {N : List Str} {sc scope : Scope} {own : List (Str × Nat)} (h : blkB N sc scope own = true) : BlkOk N sc scope own := by
  unfold blkB at h
  rw [Bool.and_eq_true, Bool.and_eq_true, Bool.and_eq_true, Bool.and_eq_true, List.all_eq_true, List.all_eq_true, List.all_eq_true, List.all_eq_true] at h
  obtain ⟨⟨⟨⟨h1, h2⟩, h3⟩, h4⟩, h5⟩ := h
  refine ⟨?_, fun y hy => of_decide_eq_true (h2 y hy), fun p hp => of_decide_eq_true (h3 p hp), fun y hy e => ?_, fun y hy e => ?_⟩
  · split at h1
    · assumption
    · cases h1
  · have q := h4 y hy
    rw [e] at q
    have q' : isCf (sc.names.lookup y.1) = true := q
    unfold isCf at q'
    split at q'
    · rename_i z; exact .inr z
    · rename_i z; exact .inl z
    · cases q'
  · have q := h5 y hy
    have q1 : isLc (some y.2) = true := by
      rcases e with e | e <;> rw [e] <;> rfl
    rw [q1, Bool.not_true, Bool.false_or, Bool.or_eq_true, decide_eq_true_eq] at q
    rcases q with q | q
    · exact .inl q
    · exact .inr (by simpa using q)
section
variable {X : Cx} {W : WX}
theorem d_negC {i : Int} {j p pos} : PE X (.UnaryOp .USub (.Constant (.int i) j p) pos) (tD X.K X.mg W (mC (.int (-i)))) := by
  have h : PE X (.UnaryOp .USub (.Constant (.int i) j p) pos) (tD X.K X.mg W (mOp1 gNeg (mC (.int i)))) := d_un un_neg pur_neg d_int
  exact h
theorem d_gintE {x : Str} {i : Int} {pos : Pos} (hm : ∃ t, X.mg x = some (.int i t)) (hg : Gl X x := by rfl) (hd : (x == ("__debug__" : Str)) = false := by decide) : PE X (.Name x pos) (tD X.K X.mg W (mC (.int i))) := by
  obtain ⟨t, h⟩ := hm
  exact d_gint h hg hd
theorem d_gstrE {x : Str} {i : Str} {pos : Pos} (hm : ∃ t, X.mg x = some (.str i t)) (hg : Gl X x := by rfl) (hd : (x == ("__debug__" : Str)) = false := by decide) : PE X (.Name x pos) (tD X.K X.mg W (mC (.str i))) := by
  obtain ⟨t, h⟩ := hm
  exact d_gstr h hg hd
end
/-! ### text * int -/
theorem op_mulStr {X : Cx} : OpR X (binaryOp .Mult) (fun x y H Q => ∃ z n, x = .str z ∧ y = .int n ∧ MulOk z n ∧ Q (.str (Txt.mul z n)) H) := by
  intro pins s σ H x y v u Q I rx ry h
  obtain ⟨z, n, rfl, rfl, hz, q⟩ := h
  obtain ⟨t, rfl⟩ := rx
  obtain ⟨t', rfl⟩ := ry
  exact SB.mul hz fun t' tk => ⟨.str (Txt.mul z n), H, I.tok _, ⟨_, rfl⟩, q⟩
theorem mulOk_small {z : Str} {n : Int} (h0 : 0 ≤ n) (h1 : n ≤ 65536) (h2 : z.length ≤ 64) : MulOk z n := by
  refine ⟨?_, fun _ _ h => ?_, fun _ _ => ?_⟩
  · rw [Bool.or_eq_false_iff, decide_eq_false_iff_not, decide_eq_false_iff_not]
    omega
  · have h3 : (64 : Int) ≤ (2 ^ 63 - 1) / n := by
      by_cases hn : n = 0
      · omega
      · exact (Int.le_ediv_iff_mul_le (by omega)).mpr (by omega)
    omega
  · show decide (z.length * n.toNat > sizeLine) = false
    rw [decide_eq_false_iff_not, sizeLine_eq]
    have h3 : z.length * n.toNat ≤ 64 * 65536 := Nat.mul_le_mul h2 (by omega)
    omega
/-! ### int * int, tuple * int -/
def gMulA : Dt → Dt → Option Dt
  | .tuple ds, y => gMulT (.tuple ds) y
  | .str z, .int n => if 0 ≤ n ∧ n ≤ 65536 ∧ z.length ≤ 64 then some (.str (Txt.mul z n)) else none
  | x, y => gMulI x y
def rMulA (K : PySem.W.Frag) : R2 := fun x y H Q => (rI CMul (fun i j => .int (i * j)) x y H Q ∨ rRepT K x y H Q) ∨ ∃ z n, x = .str z ∧ y = .int n ∧ MulOk z n ∧ Q (.str (Txt.mul z n)) H
theorem op_mulA {X : Cx} : OpR X (binaryOp .Mult) (rMulA X.K) := opr_or (opr_or op_mul op_repT) op_mulStr
theorem pur_mulA {K : PySem.W.Frag} : Pur2 K (rMulA K) gMulA := by
  intro S H x y dx dy dz Q sb tx ty e q
  unfold gMulA at e
  split at e
  · exact .inl (.inr (pur_mulT S H x y _ _ _ Q sb tx ty e q))
  · split at e
    · rename_i h
      cases e
      exact .inr ⟨_, _, tr_str tx, tr_int ty, mulOk_small h.1 h.2.1 h.2.2, q _ S H (Grow.rfl' sb) (.str _)⟩
    · cases e
  · exact .inl (.inl (pur_mulI S H x y _ _ _ Q sb tx ty e q))
/-! ### a def of the text, a def that is known -/
def DefTxt (K : PySem.W.Frag) (mg : Str → Option Value) (x : Str) (st : Stmt) (ps : List Str) : Prop := ∃ f fd, Fun K x x st f fd ∧ mg x = some (.ref f) ∧ Binds K fd ps []
def DefOk (P : Program) (w : World) (K : PySem.W.Frag) (mg : Str → Option Value) (base : Heap) (k : Nat) (x : Str) (n : Nat) (fn : Fn) : Prop :=
  ∃ f fd ps, FnOk P w K mg base (L2.CX P w) k f fd ps (spD K mg n fn) ∧ Takes1 n fn ∧ mg x = some (.ref f) ∧ PySem.W.keepIn K (.ref f) = true ∧ Binds K fd ps []
theorem DefOk.mono {P : Program} {w : World} {K : PySem.W.Frag} {mg : Str → Option Value} {base : Heap} {j k : Nat} {x : Str} {n : Nat} {fn : Fn} (h : DefOk P w K mg base j x n fn) (l : j ≤ k) : DefOk P w K mg base k x n fn := by
  obtain ⟨f, fd, ps, h1, h2⟩ := h
  exact ⟨f, fd, ps, h1.mono l, h2⟩
section
variable {P : Program} {w : World} {K : PySem.W.Frag} {mg : Str → Option Value} {base : Heap}
theorem def_mk {x : Str} {st : Stmt} {N ps : List Str} {k : Nat} {ios : List Nat} {g : F} (T : DefTxt K mg x st ps) (Sc : FnScope N ps (defScope st))
    (hbody : ∀ (f : Addr) (cdv : Value) (A : Around) (outer : List Env) (s : Shared) (H : Hp) (E : XK), Room k (A.deeper (PyProof.Rows.envOfC x (defScope st) s.heap.objs.size f cdv)) →
      Takes (cxOf (L2.CX P w) P w K mg base N x (defScope st) f cdv A outer s H E) (fun cls d _ H => E cls d H) →
      PSs (cxOf (L2.CX P w) P w K mg base N x (defScope st) f cdv A outer s H E) (defBody st) (tS K mg (fun cls d _ H => E cls d H) ios g)) :
    DefOk P w K mg base (k + 1) x ps.length (run ps.length N.length ios g) := by
  obtain ⟨f, fd, Fu, hm, hb⟩ := T
  exact ⟨f, fd, ps, d_def Fu Sc (hbody f), takes_run, hm, Fu.kp, hb⟩
/-- a def that is never let in -/
theorem def_none {x : Str} {st : Stmt} {N ps : List Str} {k : Nat} (T : DefTxt K mg x st ps) (Sc : FnScope N ps (defScope st)) : DefOk P w K mg base (k + 1) x ps.length (fun _ => none) := by
  obtain ⟨f, fd, Fu, hm, hb⟩ := T
  refine ⟨f, fd, ps, ?_, fun ρ h => absurd rfl h, hm, Fu.kp, hb⟩
  refine Fu.okX Sc (fun vs H Q E hsp => ?_) (fun cdv A outer s H vs Q E hr hsp => ?_)
  · obtain ⟨S, ρ, o, hl, _⟩ := hsp
    exact hl
  · obtain ⟨S, ρ, o, hl, R, e, q⟩ := hsp
    cases e
end
section
variable {X : Cx} {W : WX} {e : Expr} {es : List Expr} {ml : M (List Rv)} {x : Str} {p pos : Pos} {k n : Nat} {fn : Fn}
theorem c_call (h : DefOk X.prog X.w X.K X.mg X.base k x n fn) (tk : Takes X W) (hr : Room k X.A)
    (ha : PA X (e :: es) (tA X.K X.mg W ml)) (hg : Gl X x := by rfl) (hdb : (x == ("__debug__" : Str)) = false := by decide) (he : starEach (e :: es) X.env = (false, eval e X.env) :: starEach es X.env := by rfl) (hpl : (backTo pos (starEach es X.env)).any (·.1) = false := by rfl) :
    PE X (.Call (.Name x p) (e :: es) [] pos) (tD X.K X.mg W (mCall fn ml)) := by
  obtain ⟨f, fd, ps, h1, h2, h3, h4, h5⟩ := h
  exact d_call h1 h2 tk hr h3 h4 h5 ha hg hdb he hpl
theorem c_callO (h : DefOk X.prog X.w X.K X.mg X.base k x n fn) (tk : Takes X W) (hr : Room k X.A)
    (ha : PA X (e :: es) (tA X.K X.mg W ml)) (hg : Gl X x := by rfl) (hdb : (x == ("__debug__" : Str)) = false := by decide) (he : starEach (e :: es) X.env = (false, eval e X.env) :: starEach es X.env := by rfl) (hpl : (backTo pos (starEach es X.env)).any (·.1) = false := by rfl) :
    PE X (.Call (.Name x p) (e :: es) [] pos) (tN X.K X.mg W (mCallO fn ml)) := by
  obtain ⟨f, fd, ps, h1, h2, h3, h4, h5⟩ := h
  exact d_callO h1 h2 tk hr h3 h4 h5 ha hg hdb he hpl
end

/-! ### a call without arguments -/
section
variable {X : Cx} {W : WX} {x : Str} {p pos : Pos} {k n : Nat} {fn : Fn}
theorem pe_bare {f : Addr} {fd : FuncData} {ps : List Str} {sp : Sp} {E : St → XK} (F : FnOk X.prog X.w X.K X.mg X.base (L2.CX X.prog X.w) k f fd ps sp) (hr : Room k X.A) (hg : Gl X x) (hm : X.mg x = some (.ref f)) (hk : PySem.W.keepIn X.K (.ref f) = true) (hb : Binds X.K fd ps [])
    (hx : ∀ σ, PassesAt (L2.CX X.prog X.w) X σ (E σ)) (hdb : (x == ("__debug__" : Str)) = false := by decide) : PE X (.Call (.Name x p) [] [] pos) (tCallS sp E tNil) := by
  refine ⟨fun pins s σ H Q I h => ?_⟩
  refine wpAny_Call_Name_kw (ld_glob I hg hm ?_ hdb)
  exact PySem.W.callWith_K0 I.kIn hk (run_fnS (us := []) F hr hb (hx σ) I .nil h)
theorem c_call0 (h : DefOk X.prog X.w X.K X.mg X.base k x n fn) (tk : Takes X W) (hr : Room k X.A) (hg : Gl X x := by rfl) (hdb : (x == ("__debug__" : Str)) = false := by decide) :
    PE X (.Call (.Name x p) [] [] pos) (tD X.K X.mg W (mCall fn mNil)) := by
  obtain ⟨f, fd, ps, Fk, tn, hm, hk, hb⟩ := h
  refine pe_imp (pe_bare Fk hr hg hm hk hb (fun σ => passAt tk σ) hdb) fun σ H Q w => ?_
  obtain ⟨G, S, ρ, o, R, e, q⟩ := w
  have e' : bd (callR fn []) (fun r => pur (frz r)) ρ = some o := e
  refine rd_call (rs := []) (vs := []) R trivial tn e' (fun r ρ' v S' H' e2 R' s' hv => ?_) fun c ρ' eo S' H' R' s' => by subst eo; exact q S' H' R' s'
  cases e2
  cases r with
  | val d => exact q v S' H' R' s' hv
  | new ds =>
    obtain ⟨S2, R2, s2, hd⟩ := R'.freeze hv
    exact q v S2 H' R2 (s'.trans s2) hd
end
end PD
/-! PD14: the maps worked out. -/
namespace PD
open PySem L2

/-! ### sequencing, in a form for simp -/
def bx {α β : Type} : Option (Ex α) → (α → Ev → Option (Ex β)) → Option (Ex β)
  | none, _ => none
  | some (.ok a ρ), k => k a ρ
  | some (.ex c ρ), _ => some (.ex c ρ)
@[simp] theorem bx_ok {α β : Type} (a : α) (ρ : Ev) (k : α → Ev → Option (Ex β)) : bx (some (.ok a ρ)) k = k a ρ := rfl
@[simp] theorem bx_ex {α β : Type} (c : Str) (ρ : Ev) (k : α → Ev → Option (Ex β)) : bx (some (.ex c ρ) : Option (Ex α)) k = some (.ex c ρ) := rfl
@[simp] theorem ev_bd {α β : Type} (m : M α) (k : α → M β) (ρ : Ev) : bd m k ρ = bx (m ρ) k := by
  unfold bd
  cases m ρ with
  | none => rfl
  | some x => cases x <;> rfl
theorem bd_f {α β : Type} (m : M α) (k : α → M β) : bd m k = fun ρ => bx (m ρ) k := funext (ev_bd m k)
@[simp] theorem ev_pur {α : Type} (a : α) (ρ : Ev) : pur a ρ = some (.ok a ρ) := rfl
@[simp] theorem ev_opt {α : Type} (a : α) (ρ : Ev) : opt (some a) ρ = some (.ok a ρ) := rfl
@[simp] theorem ev_optn {α : Type} (ρ : Ev) : opt (none : Option α) ρ = none := rfl
@[simp] theorem ev_mC (d : Dt) (ρ : Ev) : mC d ρ = some (.ok (.val d) ρ) := rfl
@[simp] theorem ev_resv (d : Dt) (ρ : Ev) : res (.val d) ρ = some (.ok d ρ) := rfl
def rx : Option Sl → Ev → Option (Ex Dt)
  | some (.ow ds), ρ => some (.ok (.list ds) ρ)
  | _, _ => none
@[simp] theorem rx_ow (ds : List Dt) (ρ : Ev) : rx (some (.ow ds)) ρ = some (.ok (.list ds) ρ) := rfl
@[simp] theorem ev_resl (i : Nat) (ρ : Ev) : res (.loc i) ρ = rx ρ[i]? ρ := by
  show (match (ρ[i]? : Option Sl) with | some (.ow ds) => some (Ex.ok (PyData.list ds) ρ) | _ => none) = _
  cases h : ρ[i]? with
  | none => rfl
  | some s => cases s <;> rfl
def vx : Option Sl → Nat → Ev → Option (Ex Rv)
  | some (.sh d), _, ρ => some (.ok (.val d) ρ)
  | some (.ow _), i, ρ => some (.ok (.loc i) ρ)
  | _, _, _ => none
@[simp] theorem vx_sh (d : Dt) (i : Nat) (ρ : Ev) : vx (some (.sh d)) i ρ = some (.ok (.val d) ρ) := rfl
@[simp] theorem vx_ow (ds : List Dt) (i : Nat) (ρ : Ev) : vx (some (.ow ds)) i ρ = some (.ok (.loc i) ρ) := rfl
@[simp] theorem ev_mVar (i : Nat) (ρ : Ev) : mVar i ρ = vx ρ[i]? i ρ := by
  unfold mVar
  cases h : ρ[i]? with
  | none => rfl
  | some s => cases s <;> rfl
@[simp] theorem ev_op1 (g : Dt → Option Dt) (a : M Rv) (ρ : Ev) : mOp1 g a ρ = bx (a ρ) fun r ρ => bx (res r ρ) fun x ρ => bx (opt (g x) ρ) mC := by
  unfold mOp1
  simp only [bd_f]
@[simp] theorem ev_op2 (g : Dt → Dt → Option Dt) (a b : M Rv) (ρ : Ev) : mOp2 g a b ρ = bx (a ρ) fun r ρ => bx (b ρ) fun q ρ => bx (res r ρ) fun x ρ => bx (res q ρ) fun y ρ => bx (opt (g x y) ρ) mC := by
  unfold mOp2
  simp only [bd_f]
def tb : Rv → Ev → Option (Ex Bool)
  | .val (.bool b), ρ => some (.ok b ρ)
  | _, _ => none
@[simp] theorem tb_b (b : Bool) (ρ : Ev) : tb (.val (.bool b)) ρ = some (.ok b ρ) := rfl
theorem asB_tb (r : Rv) (ρ : Ev) : asB r ρ = tb r ρ := by
  cases r with
  | loc i => rfl
  | val d => cases d <;> rfl
@[simp] theorem ev_tst (a : M Rv) (ρ : Ev) : mTst a ρ = bx (a ρ) tb := by
  unfold mTst
  rw [ev_bd]
  congr 1
  funext r ρ
  exact asB_tb r ρ
def two {α : Type} (c : Bool) (x y : α) : α := match c with | true => x | false => y
@[simp] theorem two_t {α : Type} (x y : α) : two true x y = x := rfl
@[simp] theorem two_f {α : Type} (x y : α) : two false x y = y := rfl
theorem two_if {α : Type} (c : Bool) (x y : α) : two c x y = if c = true then x else y := by cases c <;> rfl
@[simp] theorem ev_andT (a b : M Bool) (ρ : Ev) : mAndT a b ρ = bx (a ρ) fun c ρ => two c (b ρ) (some (.ok false ρ)) := by
  unfold mAndT; rw [ev_bd]; congr 1; funext c ρ; cases c <;> rfl
@[simp] theorem ev_orT (a b : M Bool) (ρ : Ev) : mOrT a b ρ = bx (a ρ) fun c ρ => two c (some (.ok true ρ)) (b ρ) := by
  unfold mOrT; rw [ev_bd]; congr 1; funext c ρ; cases c <;> rfl
@[simp] theorem ev_notT (a : M Bool) (ρ : Ev) : mNotT a ρ = bx (a ρ) fun c ρ => some (.ok (!c) ρ) := by
  unfold mNotT; rw [ev_bd]; rfl
@[simp] theorem ev_andV (a b : M Rv) (ρ : Ev) : mAndV a b ρ = bx (mTst a ρ) fun c ρ => two c (b ρ) (some (.ok (.val (.bool false)) ρ)) := by
  unfold mAndV; rw [ev_bd]; congr 1; funext c ρ; cases c <;> rfl
@[simp] theorem ev_orV (a b : M Rv) (ρ : Ev) : mOrV a b ρ = bx (mTst a ρ) fun c ρ => two c (some (.ok (.val (.bool true)) ρ)) (b ρ) := by
  unfold mOrV; rw [ev_bd]; congr 1; funext c ρ; cases c <;> rfl
@[simp] theorem ev_notV (a : M Rv) (ρ : Ev) : mNotV a ρ = bx (mTst a ρ) fun c ρ => some (.ok (.val (.bool !c)) ρ) := by
  unfold mNotV; rw [ev_bd]; rfl
@[simp] theorem ev_if (t : M Bool) (a b : M Rv) (ρ : Ev) : mIf t a b ρ = bx (t ρ) fun c ρ => two c (a ρ) (b ρ) := by
  unfold mIf; rw [ev_bd]; congr 1; funext c ρ; cases c <;> rfl
@[simp] theorem ev_nil (ρ : Ev) : mNil ρ = some (.ok [] ρ) := rfl
@[simp] theorem ev_cons (a : M Rv) (b : M (List Rv)) (ρ : Ev) : mCons a b ρ = bx (a ρ) fun r ρ => bx (b ρ) fun rs ρ => some (.ok (r :: rs) ρ) := by
  unfold mCons
  rw [ev_bd]; congr 1; funext r ρ; rw [ev_bd]; rfl
@[simp] theorem ev_resLn (ρ : Ev) : resL [] ρ = some (.ok [] ρ) := rfl
@[simp] theorem ev_resLc (r : Rv) (rs : List Rv) (ρ : Ev) : resL (r :: rs) ρ = bx (res r ρ) fun d ρ => bx (resL rs ρ) fun ds ρ => some (.ok (d :: ds) ρ) := by
  show bd (res r) (fun d => bd (resL rs) fun ds => pur (d :: ds)) ρ = _
  rw [ev_bd]; congr 1; funext d ρ; rw [ev_bd]; rfl
@[simp] theorem vals_n : vals [] = some [] := rfl
@[simp] theorem vals_v (d : Dt) (rs : List Rv) : vals (.val d :: rs) = (vals rs).map (d :: ·) := rfl
@[simp] theorem ev_opN (g : List Dt → Option Dt) (a : M (List Rv)) (ρ : Ev) : mOpN g a ρ = bx (a ρ) fun rs ρ => bx (resL rs ρ) fun ds ρ => bx (opt (g ds) ρ) mC := by
  unfold mOpN
  simp only [bd_f]
@[simp] theorem ev_opF (g : List Dt → Option (List Dt)) (a : M (List Rv)) (ρ : Ev) : mOpF g a ρ = bx (a ρ) fun rs ρ => bx (resL rs ρ) fun ds ρ => opt (g ds) ρ := by
  unfold mOpF
  simp only [bd_f]
theorem fits_le {n : Nat} (h : n ≤ sizeLine) : fits n = some () := if_pos h
@[simp] theorem fits_0 : fits 0 = some () := fits_le (Nat.zero_le _)
theorem fits_small {n : Nat} (h : n ≤ 16777216) : fits n = some () := fits_le (by rw [sizeLine_eq]; exact h)
@[simp] theorem ev_tup (a : M (List Rv)) (ρ : Ev) : mTup a ρ = bx (a ρ) fun rs ρ => bx (opt (vals rs) ρ) fun ds ρ => bx (opt (fits ds.length) ρ) fun _ => mC (.tuple ds) := by
  unfold mTup
  simp only [bd_f]
@[simp] theorem ev_lst (a : M (List Rv)) (ρ : Ev) : mLst a ρ = bx (a ρ) fun rs ρ => bx (opt (vals rs) ρ) fun ds ρ => bx (opt (fits ds.length) ρ) fun _ => pur ds := by
  unfold mLst
  simp only [bd_f]
@[simp] theorem ev_frz (a : M (List Dt)) (ρ : Ev) : mFrz a ρ = bx (a ρ) fun ds => mC (.list ds) := by
  unfold mFrz
  simp only [bd_f]
def ch2 (g' : Dt → Dt → Option Dt) (c : M Rv) (q : Rv) : Dt → Ev → Option (Ex Rv)
  | .bool true, ρ => bx (c ρ) fun p ρ => bx (res p ρ) fun w ρ => bx (res q ρ) fun y ρ => bx (opt (g' y w) ρ) mC
  | .bool false, ρ => some (.ok (.val (.bool false)) ρ)
  | _, _ => none
@[simp] theorem ch2_f (g' : Dt → Dt → Option Dt) (c : M Rv) (q : Rv) (ρ : Ev) : ch2 g' c q (.bool false) ρ = some (.ok (.val (.bool false)) ρ) := rfl
@[simp] theorem ch2_t (g' : Dt → Dt → Option Dt) (c : M Rv) (q : Rv) (ρ : Ev) : ch2 g' c q (.bool true) ρ = bx (c ρ) fun p ρ => bx (res p ρ) fun w ρ => bx (res q ρ) fun y ρ => bx (opt (g' y w) ρ) mC := rfl
@[simp] theorem ev_chain (g g' : Dt → Dt → Option Dt) (a b c : M Rv) (ρ : Ev) : mChain g g' a b c ρ = bx (a ρ) fun r ρ => bx (b ρ) fun q ρ => bx (res r ρ) fun x ρ => bx (res q ρ) fun y ρ => bx (opt (g x y) ρ) fun z ρ => ch2 g' c q z ρ := by
  unfold mChain
  simp only [bd_f]
  congr 1; funext r ρ; congr 1; funext q ρ; congr 1; funext x ρ; congr 1; funext y ρ; congr 1; funext z ρ
  cases z with
  | bool b => cases b <;> rfl
  | _ => rfl
def ti : Rv → Ev → Option (Ex (Option Int))
  | .val (.int i), ρ => some (.ok (some i) ρ)
  | _, _ => none
@[simp] theorem ti_i (i : Int) (ρ : Ev) : ti (.val (.int i)) ρ = some (.ok (some i) ρ) := rfl
@[simp] theorem ev_endn (ρ : Ev) : mEnd none ρ = some (.ok none ρ) := rfl
@[simp] theorem ev_ends (m : M Rv) (ρ : Ev) : mEnd (some m) ρ = bx (m ρ) ti := by
  show bd m asI ρ = _
  rw [ev_bd]; congr 1; funext r ρ
  cases r with
  | loc i => rfl
  | val d => cases d <;> rfl
@[simp] theorem ev_sl (g : Dt → Option Int → Option Int → Option Dt) (a : M Rv) (lo hi : M (Option Int)) (ρ : Ev) : mSl g a lo hi ρ = bx (a ρ) fun r ρ => bx (lo ρ) fun l ρ => bx (hi ρ) fun h ρ => bx (res r ρ) fun x ρ => bx (opt (g x l h) ρ) mC := by
  unfold mSl
  simp only [bd_f]
@[simp] theorem okv_v (ok : Dt → Bool) (x : Dt) : okv ok (.val x) = if ok x = true then some x else none := rfl
@[simp] theorem ev_bm (ok : Dt → Bool) (g : Dt → List Dt → Option Dt) (a : M Rv) (l : M (List Rv)) (ρ : Ev) : mBM ok g a l ρ = bx (a ρ) fun r ρ => bx (opt (okv ok r) ρ) fun x ρ => bx (l ρ) fun rs ρ => bx (resL rs ρ) fun ds ρ => bx (opt (g x ds) ρ) mC := by
  unfold mBM
  simp only [bd_f]
@[simp] theorem isStr_s (z : Str) : isStr (.str z) = true := rfl
@[simp] theorem ev_items (m : M Rv) (ρ : Ev) : mItems m ρ = bx (m ρ) fun r ρ => bx (opt (vals [r]) ρ) fun ds ρ => opt (ds.head?.bind items) ρ := by
  unfold mItems
  rw [ev_bd]; congr 1; funext r ρ
  cases r <;> rfl
@[simp] theorem ev_arg (g : List Dt → Option (List Dt)) (l : M (List Rv)) (ρ : Ev) : mArg g l ρ = bx (l ρ) fun rs ρ => bx (opt (vals rs) ρ) fun ds ρ => opt (g ds) ρ := by
  unfold mArg
  simp only [bd_f]
/-! ### own lists -/
def ox : Option Sl → Ev → Option (Ex (List Dt))
  | some (.ow ds), ρ => some (.ok ds ρ)
  | _, _ => none
@[simp] theorem ox_ow (ds : List Dt) (ρ : Ev) : ox (some (.ow ds)) ρ = some (.ok ds ρ) := rfl
@[simp] theorem ev_own (i : Nat) (ρ : Ev) : ownNow i ρ = ox ρ[i]? ρ := by
  unfold ownNow
  cases h : (ρ[i]? : Option Sl) with
  | none => rfl
  | some s => cases s <;> rfl
@[simp] theorem ev_mOwn (i : Nat) (g : List Dt → List Dt → Option (Dt × List Dt)) (l : M (List Rv)) (ρ : Ev) : mOwn i g l ρ = bx (ownNow i ρ) fun _ ρ => bx (l ρ) fun rs ρ => bx (opt (vals rs) ρ) fun ds ρ => bx (ownNow i ρ) fun xs ρ => bx (opt (g xs ds) ρ) fun p ρ => some (.ok (.val p.1) (ρ.set i (.ow p.2))) := by
  unfold mOwn
  simp only [bd_f]
  rfl
/-! ### calls -/
def cx (rs : List Rv) (ρ : Ev) : Option (Ex Rt) → Option (Ex Rt)
  | none => none
  | some (.ok r ρc) => some (.ok r (putB rs ρc ρ))
  | some (.ex c ρc) => some (.ex c (putB rs ρc ρ))
@[simp] theorem cx_ok (rs : List Rv) (ρ ρc : Ev) (r : Rt) : cx rs ρ (some (.ok r ρc)) = some (.ok r (putB rs ρc ρ)) := rfl
@[simp] theorem cx_ex (rs : List Rv) (ρ ρc : Ev) (c : Str) : cx rs ρ (some (.ex c ρc)) = some (.ex c (putB rs ρc ρ)) := rfl
def cb (f : Fn) (rs : List Rv) (ρ : Ev) : Option Ev → Option (Ex Rt)
  | none => none
  | some ρc => cx rs ρ (f ρc)
@[simp] theorem cb_s (f : Fn) (rs : List Rv) (ρ ρc : Ev) : cb f rs ρ (some ρc) = cx rs ρ (f ρc) := rfl
@[simp] theorem ev_callR (f : Fn) (rs : List Rv) (ρ : Ev) : callR f rs ρ = cb f rs ρ (argS ρ rs []) := by
  unfold callR
  cases argS ρ rs [] with
  | none => rfl
  | some ρc =>
    show (match f ρc with | none => none | some (.ok r ρc') => some (Ex.ok r (putB rs ρc' ρ)) | some (.ex c ρc') => some (.ex c (putB rs ρc' ρ))) = cx rs ρ (f ρc)
    cases f ρc with
    | none => rfl
    | some x => cases x <;> rfl
@[simp] theorem argS_n (ρ : Ev) (s : List Nat) : argS ρ [] s = some [] := rfl
@[simp] theorem argS_v (ρ : Ev) (d : Dt) (rs : List Rv) (s : List Nat) : argS ρ (.val d :: rs) s = (argS ρ rs s).map (.sh d :: ·) := rfl
def ax (k : List Nat → Option Ev) (i : Nat) (s : List Nat) : Option Sl → Option Ev
  | some (.ow ds) => if i ∈ s then none else (k (i :: s)).map (.ow ds :: ·)
  | _ => none
@[simp] theorem ax_ow (k : List Nat → Option Ev) (i : Nat) (s : List Nat) (ds : List Dt) : ax k i s (some (.ow ds)) = if i ∈ s then none else (k (i :: s)).map (.ow ds :: ·) := rfl
@[simp] theorem argS_l (ρ : Ev) (i : Nat) (rs : List Rv) (s : List Nat) : argS ρ (.loc i :: rs) s = ax (fun s => argS ρ rs s) i s ρ[i]? := by
  show (if i ∈ s then none else match (ρ[i]? : Option Sl) with | some (.ow ds) => (argS ρ rs (i :: s)).map (.ow ds :: ·) | _ => none) = _
  cases h : (ρ[i]? : Option Sl) with
  | none => split <;> rfl
  | some x => cases x <;> (try rfl) <;> split <;> rfl
@[simp] theorem putB_n (ss ρ : Ev) : putB [] ss ρ = ρ := by unfold putB; rfl
@[simp] theorem putB_v (d : Dt) (rs : List Rv) (s : Sl) (ss ρ : Ev) : putB (.val d :: rs) (s :: ss) ρ = putB rs ss ρ := by
  rw [putB]
  intro i h
  cases h
@[simp] theorem putB_l (i : Nat) (rs : List Rv) (s : Sl) (ss ρ : Ev) : putB (.loc i :: rs) (s :: ss) ρ = putB rs ss (ρ.set i s) := by rw [putB]
@[simp] theorem frz_v (d : Dt) : frz (.val d) = .val d := rfl
@[simp] theorem frz_n (ds : List Dt) : frz (.new ds) = .val (.list ds) := rfl
@[simp] theorem ev_call (f : Fn) (l : M (List Rv)) (ρ : Ev) : mCall f l ρ = bx (l ρ) fun rs ρ => bx (callR f rs ρ) fun r ρ => some (.ok (frz r) ρ) := by
  unfold mCall
  simp only [bd_f]
  rfl
def an : Rt → Ev → Option (Ex (List Dt))
  | .new ds, ρ => some (.ok ds ρ)
  | _, _ => none
@[simp] theorem an_n (ds : List Dt) (ρ : Ev) : an (.new ds) ρ = some (.ok ds ρ) := rfl
@[simp] theorem ev_callO (f : Fn) (l : M (List Rv)) (ρ : Ev) : mCallO f l ρ = bx (l ρ) fun rs ρ => bx (callR f rs ρ) an := by
  unfold mCallO
  simp only [bd_f]
  congr 1; funext rs ρ; congr 1; funext r ρ; cases r <;> rfl
/-! ### statements -/
def sx : Option Fl → F → Option Fl
  | some (.nx ρ), h => h ρ
  | o, _ => o
@[simp] theorem sx_nx (ρ : Ev) (h : F) : sx (some (.nx ρ)) h = h ρ := rfl
@[simp] theorem sx_rt (d : Dt) (ρ : Ev) (h : F) : sx (some (.rt d ρ)) h = some (.rt d ρ) := rfl
@[simp] theorem sx_rn (d : List Dt) (ρ : Ev) (h : F) : sx (some (.rn d ρ)) h = some (.rn d ρ) := rfl
@[simp] theorem sx_bk (ρ : Ev) (h : F) : sx (some (.bk ρ)) h = some (.bk ρ) := rfl
@[simp] theorem sx_ct (ρ : Ev) (h : F) : sx (some (.ct ρ)) h = some (.ct ρ) := rfl
@[simp] theorem sx_ex (c : Str) (ρ : Ev) (h : F) : sx (some (.ex c ρ)) h = some (.ex c ρ) := rfl
@[simp] theorem ev_seq (g h : F) (ρ : Ev) : sSeq g h ρ = sx (g ρ) h := by
  unfold sSeq
  cases g ρ with
  | none => rfl
  | some f => cases f <;> rfl
@[simp] theorem fromE_ok {α : Type} (k : α → Ev → Option Fl) (a : α) (ρ : Ev) : fromE k (some (.ok a ρ)) = k a ρ := rfl
@[simp] theorem fromE_ex {α : Type} (k : α → Ev → Option Fl) (c : Str) (ρ : Ev) : fromE k (some (.ex c ρ)) = some (.ex c ρ) := rfl
@[simp] theorem ev_snil (ρ : Ev) : sNil ρ = some (.nx ρ) := rfl
def stx (i : Nat) : Rv → Ev → Option Fl
  | .val d, ρ => some (.nx (ρ.set i (.sh d)))
  | .loc _, _ => none
@[simp] theorem stx_v (i : Nat) (d : Dt) (ρ : Ev) : stx i (.val d) ρ = some (.nx (ρ.set i (.sh d))) := rfl
@[simp] theorem ev_set (i : Nat) (m : M Rv) (ρ : Ev) : sSet i m ρ = fromE (stx i) (m ρ) := by
  unfold sSet; congr 1; funext r ρ; cases r <;> rfl
@[simp] theorem ev_setO (i : Nat) (m : M (List Dt)) (ρ : Ev) : sSetO i m ρ = fromE (fun ds ρ => some (.nx (ρ.set i (.ow ds)))) (m ρ) := rfl
def agx (t : Dt → Ev → Option Ev) : Rv → Ev → Option Fl
  | .val d, ρ => (t d ρ).map .nx
  | .loc _, _ => none
@[simp] theorem agx_v (t : Dt → Ev → Option Ev) (d : Dt) (ρ : Ev) : agx t (.val d) ρ = (t d ρ).map .nx := rfl
@[simp] theorem ev_asg (t : Dt → Ev → Option Ev) (m : M Rv) (ρ : Ev) : sAsg t m ρ = fromE (agx t) (m ρ) := by
  unfold sAsg; congr 1; funext r ρ; cases r <;> rfl
def rtx : Rv → Ev → Option Fl
  | .val d, ρ => some (.rt d ρ)
  | .loc _, _ => none
@[simp] theorem rtx_v (d : Dt) (ρ : Ev) : rtx (.val d) ρ = some (.rt d ρ) := rfl
@[simp] theorem ev_ret (m : M Rv) (ρ : Ev) : sRet m ρ = fromE rtx (m ρ) := by
  unfold sRet; congr 1; funext r ρ; cases r <;> rfl
@[simp] theorem ev_retO (m : M (List Dt)) (ρ : Ev) : sRetO m ρ = fromE (fun ds ρ => some (.rn ds ρ)) (m ρ) := rfl
@[simp] theorem ev_retN (ρ : Ev) : sRetN ρ = some (.rt .none ρ) := rfl
def rlx (i : Nat) : Option Sl → Ev → Option Fl
  | some (.ow ds), ρ => some (.rn ds (ρ.set i .un))
  | some (.sh d), ρ => some (.rt d ρ)
  | _, _ => none
@[simp] theorem rlx_ow (i : Nat) (ds : List Dt) (ρ : Ev) : rlx i (some (.ow ds)) ρ = some (.rn ds (ρ.set i .un)) := rfl
@[simp] theorem ev_retL (i : Nat) (ρ : Ev) : sRetL i ρ = rlx i ρ[i]? ρ := by
  unfold sRetL
  cases h : (ρ[i]? : Option Sl) with
  | none => rfl
  | some s => cases s <;> rfl
@[simp] theorem ev_drop (m : M Rv) (ρ : Ev) : sDrop m ρ = fromE (fun _ ρ => some (.nx ρ)) (m ρ) := rfl
@[simp] theorem ev_sif (c : M Bool) (g h : F) (ρ : Ev) : sIf c g h ρ = fromE (fun b ρ => two b (g ρ) (h ρ)) (c ρ) := by
  unfold sIf; congr 1
def pkx (i : Nat) (d : Dt) (xs : List Dt) : Dt → Ev → Option Fl
  | .int k, ρ => (ixN xs.length k).map fun j => .nx (ρ.set i (.ow (xs.set j d)))
  | _, _ => none
@[simp] theorem pkx_i (i : Nat) (d : Dt) (xs : List Dt) (k : Int) (ρ : Ev) : pkx i d xs (.int k) ρ = (ixN xs.length k).map fun j => .nx (ρ.set i (.ow (xs.set j d))) := rfl
def pk2 : List Dt → List Dt → List Dt → Option (Dt × Dt × List Dt)
  | [d], [k], xs => some (d, k, xs)
  | _, _, _ => none
@[simp] theorem pk2_1 (d k : Dt) (xs : List Dt) : pk2 [d] [k] xs = some (d, k, xs) := rfl
@[simp] theorem ev_sput (i : Nat) (me mi : M Rv) (ρ : Ev) : sPut i me mi ρ = fromE (fun p ρ => pkx i p.1 p.2.2 p.2.1 ρ) (bx (me ρ) fun r ρ => bx (opt (vals [r]) ρ) fun ds ρ => bx (ownNow i ρ) fun _ ρ => bx (mi ρ) fun r2 ρ => bx (opt (vals [r2]) ρ) fun ks ρ => bx (ownNow i ρ) fun xs ρ => opt (pk2 ds ks xs) ρ) := by
  unfold sPut
  simp only [bd_f]
  congr 1
  · funext p ρ
    obtain ⟨d, k, xs⟩ := p
    cases k with
    | int k =>
      show (match ixN xs.length k with | some j => _ | none => _) = (ixN xs.length k).map _
      cases ixN xs.length k <;> rfl
    | _ => rfl
  · congr 1; funext r ρ; congr 1; funext ds ρ; congr 1; funext _ ρ; congr 1; funext r2 ρ; congr 1; funext ks ρ; congr 1; funext xs ρ
    unfold pk2
    split <;> first | rfl | (split <;> first | rfl | simp_all)
theorem bx_none {α β : Type} (k : α → Ev → Option (Ex β)) : bx (none : Option (Ex α)) k = none := rfl
/-- x[k] = e -/
theorem ev_putX {i : Nat} {me mi : M Rv} {ρ ρ1 ρ2 : Ev} {d : Dt} {k : Int} {xs ys : List Dt} {j : Nat} (h1 : me ρ = some (.ok (.val d) ρ1)) (h0 : ρ1[i]? = some (.ow ys)) (h2 : mi ρ1 = some (.ok (.val (.int k)) ρ2)) (h3 : ρ2[i]? = some (.ow xs)) (h4 : ixN xs.length k = some j) :
    sPut i me mi ρ = some (.nx (ρ2.set i (.ow (xs.set j d)))) := by
  simp [h1, h0, h2, h3, h4]
@[simp] theorem ev_par {is : List Nat} {m : M (List Pv)} {ρ : Ev} : sPar is m ρ = fromE (fun ps ρ' => if ps.length = is.length then some (.nx (setP is ps ρ')) else none) (m ρ) := rfl
@[simp] theorem ev_pn (ρ : Ev) : mPn ρ = some (.ok [] ρ) := rfl
@[simp] theorem ev_pd (a : M Rv) (b : M (List Pv)) (ρ : Ev) : mPd a b ρ = bx (a ρ) fun r ρ => bx (opt (vals [r]) ρ) fun ds ρ => bx (b ρ) fun ps ρ => opt (ds.head?.map fun d => .d d :: ps) ρ := by
  unfold mPd
  rw [ev_bd]; congr 1; funext r ρ
  cases r with
  | val d =>
    show bd (asV (.val d)) _ ρ = _
    rw [ev_bd]
    show bx (some (.ok d ρ)) _ = _
    rw [bx_ok, ev_bd]
    rfl
  | loc i => rfl
@[simp] theorem ev_po (a : M (List Dt)) (b : M (List Pv)) (ρ : Ev) : mPo a b ρ = bx (a ρ) fun ds ρ => bx (b ρ) fun ps ρ => some (.ok (.n ds :: ps) ρ) := by
  unfold mPo
  rw [ev_bd]; congr 1; funext ds ρ
  rw [ev_bd]
  rfl
@[simp] theorem setP_n (ps : List Pv) (ρ : Ev) : setP [] ps ρ = ρ := by unfold setP; rfl
@[simp] theorem setP_d (i : Nat) (is : List Nat) (x : Dt) (ps : List Pv) (ρ : Ev) : setP (i :: is) (.d x :: ps) ρ = setP is ps (ρ.set i (.sh x)) := by rw [setP]
@[simp] theorem setP_o (i : Nat) (is : List Nat) (x : List Dt) (ps : List Pv) (ρ : Ev) : setP (i :: is) (.n x :: ps) ρ = setP is ps (ρ.set i (.ow x)) := by rw [setP]
/-! ### a def -/
def fx (ρ : Ev) : Option Fl → Option (Ex Rt)
  | some (.nx ρ') => some (.ok (.val .none) (bkS ρ ρ'))
  | some (.rt d ρ') => some (.ok (.val d) (bkS ρ ρ'))
  | some (.rn ds ρ') => some (.ok (.new ds) (bkS ρ ρ'))
  | some (.ex c ρ') => some (.ex c (bkS ρ ρ'))
  | _ => none
@[simp] theorem fx_nx (ρ ρ' : Ev) : fx ρ (some (.nx ρ')) = some (.ok (.val .none) (bkS ρ ρ')) := rfl
@[simp] theorem fx_rt (ρ ρ' : Ev) (d : Dt) : fx ρ (some (.rt d ρ')) = some (.ok (.val d) (bkS ρ ρ')) := rfl
@[simp] theorem fx_rn (ρ ρ' : Ev) (d : List Dt) : fx ρ (some (.rn d ρ')) = some (.ok (.new d) (bkS ρ ρ')) := rfl
@[simp] theorem fx_ex (ρ ρ' : Ev) (c : Str) : fx ρ (some (.ex c ρ')) = some (.ex c (bkS ρ ρ')) := rfl
theorem ev_run {n m : Nat} {ios : List Nat} {g : F} {ρ : Ev} (h : ρ.length = n ∧ iosOf ρ = ios) : run n m ios g ρ = fx ρ (g (ρ ++ List.replicate (m - n) .un)) := by
  unfold run
  rw [if_pos h]
  cases g (ρ ++ List.replicate (m - n) .un) with
  | none => rfl
  | some f => cases f <;> rfl

def iosF : Nat → Ev → List Nat
  | _, [] => []
  | k, .ow _ :: ρ => k :: iosF (k + 1) ρ
  | k, .sh _ :: ρ => iosF (k + 1) ρ
  | k, .un :: ρ => iosF (k + 1) ρ
  | k, .od _ :: ρ => iosF (k + 1) ρ
def owO : Option Sl → Bool
  | some (.ow _) => true
  | _ => false
theorem iosF_of : ∀ (ρ : Ev) (k : Nat) (τ : Ev), τ.length = k → iosF k ρ = (List.range' k ρ.length).filter (fun i => owO (τ ++ ρ)[i]?)
  | [], k, τ, _ => by simp [iosF]
  | s :: ρ, k, τ, h => by
    have ih := iosF_of ρ (k + 1) (τ ++ [s]) (by rw [List.length_append, h]; rfl)
    rw [List.append_assoc] at ih
    have e : (τ ++ s :: ρ)[k]? = some s := by
      rw [List.getElem?_append_right (by omega), h, Nat.sub_self]
      rfl
    rw [List.length_cons, List.range'_succ, List.filter_cons, e]
    cases s with
    | ow ds => show k :: iosF (k + 1) ρ = _; rw [ih]; rfl
    | sh d => show iosF (k + 1) ρ = _; rw [ih]; rfl
    | un => show iosF (k + 1) ρ = _; rw [ih]; rfl
    | od d => show iosF (k + 1) ρ = _; rw [ih]; rfl
@[simp] theorem iosOf_F (ρ : Ev) : iosOf ρ = iosF 0 ρ := by
  rw [iosF_of ρ 0 [] rfl]
  unfold iosOf
  rw [List.range_eq_range']
  rfl
@[simp] theorem iosF_n (k : Nat) : iosF k [] = [] := rfl
@[simp] theorem iosF_o (k : Nat) (ds : List Dt) (ρ : Ev) : iosF k (.ow ds :: ρ) = k :: iosF (k + 1) ρ := rfl
@[simp] theorem iosF_s (k : Nat) (d : Dt) (ρ : Ev) : iosF k (.sh d :: ρ) = iosF (k + 1) ρ := rfl
@[simp] theorem run_if (n m : Nat) (ios : List Nat) (g : F) (ρ : Ev) : run n m ios g ρ = if ρ.length = n ∧ iosOf ρ = ios then fx ρ (g (ρ ++ List.replicate (m - n) .un)) else none := by
  by_cases h : ρ.length = n ∧ iosOf ρ = ios
  · rw [if_pos h, ev_run h]
  · rw [if_neg h]
    unfold run
    rw [if_neg h]
def bk : Ev → Ev → Ev
  | [], _ => []
  | .ow _ :: ρ, s :: τ => s :: bk ρ τ
  | .ow _ :: ρ, [] => .un :: bk ρ []
  | .sh d :: ρ, τ => .sh d :: bk ρ (τ.drop 1)
  | .un :: ρ, τ => .un :: bk ρ (τ.drop 1)
  | .od d :: ρ, τ => .od d :: bk ρ (τ.drop 1)
theorem bk_get : ∀ (ρ τ : Ev) (i : Nat), (bk ρ τ)[i]? = if i < ρ.length then some (backSl ρ[i]? (τ.getD i .un)) else none
  | [], τ, i => by simp [bk]
  | s :: ρ, τ, 0 => by
    cases s <;> cases τ <;> simp [bk, backSl]
  | s :: ρ, τ, i + 1 => by
    have key : ∀ (h : Sl) (τ' : Ev), (∀ j, τ'.getD j .un = τ.getD (j + 1) .un) → bk (s :: ρ) τ = h :: bk ρ τ' → (bk (s :: ρ) τ)[i + 1]? = if i + 1 < (s :: ρ).length then some (backSl (s :: ρ)[i + 1]? (τ.getD (i + 1) .un)) else none := fun h τ' e1 e2 => by
      rw [e2, List.getElem?_cons_succ, bk_get ρ τ' i, e1 i, List.length_cons, List.getElem?_cons_succ]
      by_cases hi : i < ρ.length
      · rw [if_pos hi, if_pos (by omega)]
      · rw [if_neg hi, if_neg (by omega)]
    have drp : ∀ j, (τ.drop 1).getD j Sl.un = τ.getD (j + 1) .un := fun j => by
      rw [List.getD_eq_getElem?_getD, List.getD_eq_getElem?_getD, List.getElem?_drop, Nat.add_comm]
    cases s with
    | un => exact key .un (τ.drop 1) drp rfl
    | od d => exact key (.od d) (τ.drop 1) drp rfl
    | sh d => exact key (.sh d) (τ.drop 1) drp rfl
    | ow ds =>
      cases τ with
      | nil => exact key .un [] (fun j => by simp) rfl
      | cons x τ => exact key x τ (fun j => by simp) rfl
@[simp] theorem bkS_bk (ρ τ : Ev) : bkS ρ τ = bk ρ τ := by
  apply List.ext_getElem?
  intro i
  rw [bk_get]
  unfold bkS
  rw [List.getElem?_map]
  by_cases hi : i < ρ.length
  · rw [List.getElem?_range hi, if_pos hi]
    rfl
  · rw [if_neg hi, List.getElem?_eq_none (by rw [List.length_range]; omega)]
    rfl
@[simp] theorem bk_n (τ : Ev) : bk [] τ = [] := rfl
@[simp] theorem bk_o (ds : List Dt) (ρ τ : Ev) (s : Sl) : bk (.ow ds :: ρ) (s :: τ) = s :: bk ρ τ := rfl
@[simp] theorem bk_s (d : Dt) (ρ τ : Ev) : bk (.sh d :: ρ) τ = .sh d :: bk ρ (τ.drop 1) := by cases τ <;> rfl
/-! ### operators -/
section
variable (i j : Int) (a b : Str) (p q : Bool) (xs ys : List Dt)
@[simp] theorem gAdd_i : gAdd (.int i) (.int j) = some (.int (i + j)) := rfl
theorem gAdd_s (h : a.length + b.length ≤ sizeLine) : gAdd (.str a) (.str b) = some (.str (a ++ b)) := if_pos h
theorem gAdd_l (h : xs.length + ys.length ≤ sizeLine) : gAdd (.list xs) (.list ys) = some (.list (xs ++ ys)) := if_pos h
theorem gAdd_t (h : xs.length + ys.length ≤ sizeLine) : gAdd (.tuple xs) (.tuple ys) = some (.tuple (xs ++ ys)) := if_pos h
@[simp] theorem gSub_i : gSub (.int i) (.int j) = some (.int (i - j)) := rfl
theorem gMul_i (h : (small64 i || small64 j) = true) : gMulA (.int i) (.int j) = some (.int (i * j)) := if_pos h
theorem gDiv_i (h : 0 < j ∧ j < 1073741824) : gDiv (.int i) (.int j) = some (.int (i / j)) := if_pos (by show (decide (0 < j) && decide (j < 1073741824)) = true; rw [decide_eq_true h.1, decide_eq_true h.2]; rfl)
@[simp] theorem gPow_18 : gPow (.int 10) (.int 18) = some (.int 1000000000000000000) := by
  show (if (decide ((0 : Int) ≤ 18) && (decide ((18 : Int) ≤ 1000000) && decide ((10 : Int).natAbs < 2 ^ 64))) = true then some (PyData.int (10 ^ (18 : Int).toNat)) else none) = _
  rw [if_pos (by decide +kernel)]
  exact congrArg (fun z => some (PyData.int z)) (by decide +kernel)
theorem gMod_i (h : 0 < j) : gMod (.int i) (.int j) = some (.int (i % j)) := if_pos (decide_eq_true h)
@[simp] theorem gLt_i : gLtA (.int i) (.int j) = some (.bool (decide (i < j))) := rfl
@[simp] theorem gLe_i : gLe (.int i) (.int j) = some (.bool (decide (i ≤ j))) := rfl
@[simp] theorem gGt_i : gGt (.int i) (.int j) = some (.bool (decide (j < i))) := rfl
@[simp] theorem gGe_i : gGe (.int i) (.int j) = some (.bool (decide (j ≤ i))) := rfl
@[simp] theorem gEq_i : gEq (.int i) (.int j) = some (.bool (decide (i = j))) := rfl
@[simp] theorem gEq_s : gEq (.str a) (.str b) = some (.bool (decide (a = b))) := rfl
@[simp] theorem gEq_b : gEq (.bool p) (.bool q) = some (.bool (decide (p = q))) := rfl
@[simp] theorem gNe_i : gNe (.int i) (.int j) = some (.bool (!decide (i = j))) := rfl
@[simp] theorem gNe_s : gNe (.str a) (.str b) = some (.bool (!decide (a = b))) := rfl
@[simp] theorem gNe_b : gNe (.bool p) (.bool q) = some (.bool (!decide (p = q))) := rfl
@[simp] theorem gIsB_b : gIsB (.bool p) (.bool q) = some (.bool (decide (p = q))) := rfl
@[simp] theorem gNotB_b : gNotB (.bool p) (.bool q) = some (.bool (!decide (p = q))) := rfl
@[simp] theorem gIx_l : gIx (.list xs) (.int i) = atI xs i := rfl
@[simp] theorem gIx_t : gIx (.tuple xs) (.int i) = atI xs i := rfl
@[simp] theorem gLen_l : gLen [.list xs] = some (.int xs.length) := rfl
@[simp] theorem gLen_t : gLen [.tuple xs] = some (.int xs.length) := rfl
theorem gLen_s (h : a.length ≤ sizeLine) : gLen [.str a] = some (.int a.length) := if_pos h
@[simp] theorem gAbs_i : gAbs [.int i] = some (.int (if i < 0 then -i else i)) := rfl
@[simp] theorem gInt_i : gInt [.int i] = some (.int i) := rfl
@[simp] theorem fList_l : fList [.list xs] = some xs := rfl
@[simp] theorem fList_t : fList [.tuple xs] = some xs := rfl
@[simp] theorem gTup_l : gTup [.list xs] = some (.tuple xs) := rfl
@[simp] theorem gTup_t : gTup [.tuple xs] = some (.tuple xs) := rfl
@[simp] theorem items_l : items (.list xs) = some xs := rfl
@[simp] theorem items_t : items (.tuple xs) = some xs := rfl
theorem items_s : items (.str a) = some (a.cps.toList.map fun c => .str ⟨#[c]⟩) := rfl
end
@[simp] theorem atI_0 (x : Dt) (xs : List Dt) : atI (x :: xs) 0 = some x := by
  unfold atI ixN
  rw [if_pos (by decide), if_pos (by rw [List.length_cons]; omega)]
  rfl
@[simp] theorem atI_1 (x y : Dt) (xs : List Dt) : atI (x :: y :: xs) 1 = some y := by
  unfold atI ixN
  rw [if_pos (by decide), if_pos (by rw [List.length_cons, List.length_cons]; omega)]
  rfl
@[simp] theorem ixN_0 (n : Nat) : ixN (n + 1) 0 = some 0 := by
  unfold ixN
  rw [if_pos (by decide), if_pos (by omega)]
  rfl
@[simp] theorem ixN_1 (n : Nat) : ixN (n + 2) 1 = some 1 := by
  unfold ixN
  rw [if_pos (by decide), if_pos (by omega)]
  rfl
theorem atI_lt {xs : List Dt} {i : Int} (h0 : 0 ≤ i) (h1 : i < xs.length) : ∃ d, atI xs i = some d ∧ d ∈ xs := by
  unfold atI ixN
  rw [if_pos h0, if_pos h1]
  have h2 : i.toNat < xs.length := by omega
  exact ⟨xs[i.toNat], List.getElem?_eq_getElem h2, List.getElem_mem h2⟩
section
variable (T : String)
theorem isi_of (T : String) (d : Dt) : gIsi T d = (kitB (tyNm d) T).map .bool := rfl
end
theorem k_ii : kitB "int" "int" = some true := by decide +kernel
theorem k_bi : kitB "bool" "int" = some true := by decide +kernel
theorem k_si : kitB "str" "int" = some false := by decide +kernel
theorem k_ni : kitB "NoneType" "int" = some false := by decide +kernel
theorem k_li : kitB "list" "int" = some false := by decide +kernel
theorem k_ti : kitB "tuple" "int" = some false := by decide +kernel
theorem k_ib : kitB "int" "bool" = some false := by decide +kernel
theorem k_bb : kitB "bool" "bool" = some true := by decide +kernel
theorem k_sb : kitB "str" "bool" = some false := by decide +kernel
theorem k_nb : kitB "NoneType" "bool" = some false := by decide +kernel
theorem k_lb : kitB "list" "bool" = some false := by decide +kernel
theorem k_tb : kitB "tuple" "bool" = some false := by decide +kernel
theorem k_is' : kitB "int" "str" = some false := by decide +kernel
theorem k_bs : kitB "bool" "str" = some false := by decide +kernel
theorem k_ss : kitB "str" "str" = some true := by decide +kernel
theorem k_ns : kitB "NoneType" "str" = some false := by decide +kernel
theorem k_ls : kitB "list" "str" = some false := by decide +kernel
theorem k_ts : kitB "tuple" "str" = some false := by decide +kernel
theorem k_it : kitB "int" "tuple" = some false := by decide +kernel
theorem k_bt : kitB "bool" "tuple" = some false := by decide +kernel
theorem k_st : kitB "str" "tuple" = some false := by decide +kernel
theorem k_nt : kitB "NoneType" "tuple" = some false := by decide +kernel
theorem k_lt : kitB "list" "tuple" = some false := by decide +kernel
theorem k_tt : kitB "tuple" "tuple" = some true := by decide +kernel
theorem k_il : kitB "int" "list" = some false := by decide +kernel
theorem k_bl : kitB "bool" "list" = some false := by decide +kernel
theorem k_sl : kitB "str" "list" = some false := by decide +kernel
theorem k_nl : kitB "NoneType" "list" = some false := by decide +kernel
theorem k_ll : kitB "list" "list" = some true := by decide +kernel
theorem k_tl : kitB "tuple" "list" = some false := by decide +kernel
/-- data that are no dict -/
def noDc : Dt → Bool
  | .dict _ => false
  | _ => true
def isInt : Dt → Bool
  | .int _ => true
  | .bool _ => true
  | _ => false
def isBool : Dt → Bool
  | .bool _ => true
  | _ => false
def isTup : Dt → Bool
  | .tuple _ => true
  | _ => false
def isLst : Dt → Bool
  | .list _ => true
  | _ => false
theorem isi_int {d : Dt} (h : noDc d = true) : gIsi "int" d = some (.bool (isInt d)) := by
  cases d with
  | none => show (kitB "NoneType" "int").map _ = _; rw [k_ni]; rfl
  | bool b => show (kitB "bool" "int").map _ = _; rw [k_bi]; rfl
  | int b => show (kitB "int" "int").map _ = _; rw [k_ii]; rfl
  | str b => show (kitB "str" "int").map _ = _; rw [k_si]; rfl
  | list b => show (kitB "list" "int").map _ = _; rw [k_li]; rfl
  | tuple b => show (kitB "tuple" "int").map _ = _; rw [k_ti]; rfl
  | dict b => cases h
theorem isi_bool {d : Dt} (h : noDc d = true) : gIsi "bool" d = some (.bool (isBool d)) := by
  cases d with
  | none => show (kitB "NoneType" "bool").map _ = _; rw [k_nb]; rfl
  | bool b => show (kitB "bool" "bool").map _ = _; rw [k_bb]; rfl
  | int b => show (kitB "int" "bool").map _ = _; rw [k_ib]; rfl
  | str b => show (kitB "str" "bool").map _ = _; rw [k_sb]; rfl
  | list b => show (kitB "list" "bool").map _ = _; rw [k_lb]; rfl
  | tuple b => show (kitB "tuple" "bool").map _ = _; rw [k_tb]; rfl
  | dict b => cases h
theorem isi_str {d : Dt} (h : noDc d = true) : gIsi "str" d = some (.bool (isStr d)) := by
  cases d with
  | none => show (kitB "NoneType" "str").map _ = _; rw [k_ns]; rfl
  | bool b => show (kitB "bool" "str").map _ = _; rw [k_bs]; rfl
  | int b => show (kitB "int" "str").map _ = _; rw [k_is']; rfl
  | str b => show (kitB "str" "str").map _ = _; rw [k_ss]; rfl
  | list b => show (kitB "list" "str").map _ = _; rw [k_ls]; rfl
  | tuple b => show (kitB "tuple" "str").map _ = _; rw [k_ts]; rfl
  | dict b => cases h
theorem isi_tup {d : Dt} (h : noDc d = true) : gIsi "tuple" d = some (.bool (isTup d)) := by
  cases d with
  | none => show (kitB "NoneType" "tuple").map _ = _; rw [k_nt]; rfl
  | bool b => show (kitB "bool" "tuple").map _ = _; rw [k_bt]; rfl
  | int b => show (kitB "int" "tuple").map _ = _; rw [k_it]; rfl
  | str b => show (kitB "str" "tuple").map _ = _; rw [k_st]; rfl
  | list b => show (kitB "list" "tuple").map _ = _; rw [k_lt]; rfl
  | tuple b => show (kitB "tuple" "tuple").map _ = _; rw [k_tt]; rfl
  | dict b => cases h
theorem isi_lst {d : Dt} (h : noDc d = true) : gIsi "list" d = some (.bool (isLst d)) := by
  cases d with
  | none => show (kitB "NoneType" "list").map _ = _; rw [k_nl]; rfl
  | bool b => show (kitB "bool" "list").map _ = _; rw [k_bl]; rfl
  | int b => show (kitB "int" "list").map _ = _; rw [k_il]; rfl
  | str b => show (kitB "str" "list").map _ = _; rw [k_sl]; rfl
  | list b => show (kitB "list" "list").map _ = _; rw [k_ll]; rfl
  | tuple b => show (kitB "tuple" "list").map _ = _; rw [k_tl]; rfl
  | dict b => cases h
/-! ### comprehensions -/
/-- each turn is pure: a function of what is walked -/
theorem lcL_pure {vs : List Nat} {t : Dt → Ev → Option Ev} {tt : M Bool} {te : M Rv} {ρ : Ev} {b : Dt → Bool} {y : Dt → Dt} : ∀ (ds : List Dt), (∀ d ∈ ds, ∃ ρd, t d ρ = some ρd ∧ tt ρd = some (.ok (b d) ρd) ∧ (b d = true → te ρd = some (.ok (.val (y d)) ρd)) ∧ kills vs ρd = ρ) →
    lcL vs t tt te ds ρ = some (.ok ((ds.filter b).map y) ρ)
  | [], _ => rfl
  | d :: ds, h => by
    obtain ⟨ρd, h1, h2, h3, h4⟩ := h d List.mem_cons_self
    have ih := lcL_pure ds fun e he => h e (List.mem_cons_of_mem _ he)
    unfold lcL
    rw [h1]
    show (match tt ρd with | some (.ok true ρ2) => _ | some (.ok false ρ2) => _ | _ => _) = _
    rw [h2]
    cases hb : b d with
    | false =>
      show lcL vs t tt te ds (kills vs ρd) = _
      rw [h4, ih, List.filter_cons, hb]
      rfl
    | true =>
      show (match te ρd with | some (.ok (.val y) ρ3) => _ | _ => _) = _
      rw [h3 hb]
      show (match lcL vs t tt te ds (kills vs ρd) with | some (.ok ys ρ4) => _ | _ => _) = _
      rw [h4, ih, List.filter_cons, hb]
      rfl
/-- each turn keeps I, what is made is in Y -/
theorem lcL_inv {vs : List Nat} {t : Dt → Ev → Option Ev} {te : M Rv} {I : Ev → Prop} {Y : Dt → Prop} : ∀ (ds : List Dt), (∀ d ∈ ds, ∀ ρ, I ρ → ∃ ρ1 y ρ2, t d ρ = some ρ1 ∧ te ρ1 = some (.ok (.val y) ρ2) ∧ Y y ∧ I (kills vs ρ2)) → ∀ ρ, I ρ →
    ∃ ys ρ', lcL vs t mYes te ds ρ = some (.ok ys ρ') ∧ ys.length = ds.length ∧ (∀ y ∈ ys, Y y) ∧ I ρ'
  | [], _, ρ, hI => ⟨[], ρ, rfl, rfl, fun y h => (nomatch h), hI⟩
  | d :: ds, h, ρ, hI => by
    obtain ⟨ρ1, y, ρ2, h1, h2, h3, h4⟩ := h d List.mem_cons_self ρ hI
    obtain ⟨ys, ρ', e, hl, hY, hI'⟩ := lcL_inv ds (fun e he => h e (List.mem_cons_of_mem _ he)) _ h4
    refine ⟨y :: ys, ρ', ?_, by rw [List.length_cons, List.length_cons, hl], fun z hz => ?_, hI'⟩
    · unfold lcL
      rw [h1]
      show (match te ρ1 with | some (.ok (.val y) ρ3) => _ | _ => _) = _
      rw [h2]
      show (match lcL vs t mYes te ds (kills vs ρ2) with | some (.ok ys ρ4) => _ | _ => _) = _
      rw [e]
    · rcases List.mem_cons.mp hz with rfl | hz
      · exact h3
      · exact hY z hz
/-- a comprehension, by its list -/
theorem ev_lc {vs : List Nat} {src : M (List Dt)} {t : Dt → Ev → Option Ev} {tt : M Bool} {te : M Rv} {ρ ρ0 ρ1 : Ev} {ds ys : List Dt} (h1 : src ρ = some (.ok ds ρ0)) (h2 : noOw vs ρ0 = true) (h3 : lcL vs t tt te ds (kills vs ρ0) = some (.ok ys ρ1)) (h4 : ys.length ≤ sizeLine) :
    mLc vs src t tt te ρ = some (.ok ys (restore vs ρ0 ρ1)) := by
  unfold mLc
  rw [ev_bd, h1, bx_ok]
  show (match noOw vs ρ0 with | false => none | true => _) = _
  rw [h2]
  show (match lcL vs t tt te ds (kills vs ρ0) with | some (.ok ys ρ1) => _ | _ => _) = _
  rw [h3]
  show (match fits ys.length with | some _ => _ | none => _) = _
  rw [fits_le h4]

theorem mLc_inv {vs : List Nat} {src : M (List Dt)} {t : Dt → Ev → Option Ev} {te : M Rv} {I : Ev → Prop} {Y : Dt → Prop} {ρ ρ0 : Ev} {ds : List Dt} (h1 : src ρ = some (.ok ds ρ0)) (h2 : noOw vs ρ0 = true) (h0 : I (kills vs ρ0))
    (hs : ∀ d ∈ ds, ∀ ρ, I ρ → ∃ ρ1 y ρ2, t d ρ = some ρ1 ∧ te ρ1 = some (.ok (.val y) ρ2) ∧ Y y ∧ I (kills vs ρ2)) (hl : ds.length ≤ sizeLine) :
    ∃ ys ρ1, mLc vs src t mYes te ρ = some (.ok ys (restore vs ρ0 ρ1)) ∧ ys.length = ds.length ∧ (∀ y ∈ ys, Y y) ∧ I ρ1 := by
  obtain ⟨ys, ρ1, e, h3, h4, h5⟩ := lcL_inv ds hs _ h0
  exact ⟨ys, ρ1, ev_lc h1 h2 e (by rw [h3]; exact hl), h3, h4, h5⟩
theorem mLc_pure {vs : List Nat} {src : M (List Dt)} {t : Dt → Ev → Option Ev} {tt : M Bool} {te : M Rv} {ρ ρ0 : Ev} {ds : List Dt} {b : Dt → Bool} {y : Dt → Dt} (h1 : src ρ = some (.ok ds ρ0)) (h2 : noOw vs ρ0 = true)
    (hs : ∀ d ∈ ds, ∃ ρd, t d (kills vs ρ0) = some ρd ∧ tt ρd = some (.ok (b d) ρd) ∧ (b d = true → te ρd = some (.ok (.val (y d)) ρd)) ∧ kills vs ρd = kills vs ρ0) (hl : ds.length ≤ sizeLine) :
    mLc vs src t tt te ρ = some (.ok ((ds.filter b).map y) (restore vs ρ0 (kills vs ρ0))) := by
  refine ev_lc h1 h2 (lcL_pure ds hs) ?_
  rw [List.length_map]
  exact Nat.le_trans (List.length_filter_le _ _) hl
theorem rng1_i {j : Int} (h0 : 0 ≤ j) (h1 : j ≤ 1000000) : rng1 [.int j] = some (rngL 0 j.toNat) := by
  have h : inR j = true := by
    unfold inR
    rw [Bool.and_eq_true, decide_eq_true_eq, decide_eq_true_eq]
    omega
  show (if inR j = true then _ else _) = _
  rw [if_pos h]
@[simp] theorem rngL_len (lo : Int) (n : Nat) : (rngL lo n).length = n := by
  unfold rngL
  rw [List.length_map, List.length_range]
theorem rngL_mem {n : Nat} {d : Dt} (h : d ∈ rngL 0 n) : ∃ i : Nat, i < n ∧ d = .int (i : Int) := by
  unfold rngL at h
  obtain ⟨i, hi, rfl⟩ := List.mem_map.mp h
  exact ⟨i, List.mem_range.mp hi, by rw [Int.zero_add]⟩
def gx (i : Nat) (d : Dt) (ρ : Ev) : Option Sl → Option Ev
  | some (.ow _) => none
  | _ => some (ρ.set i (.sh d))
@[simp] theorem gx_u (i : Nat) (d : Dt) (ρ : Ev) : gx i d ρ (some .un) = some (ρ.set i (.sh d)) := rfl
@[simp] theorem gx_s (i : Nat) (d e : Dt) (ρ : Ev) : gx i d ρ (some (.sh e)) = some (ρ.set i (.sh d)) := rfl
@[simp] theorem ev_gN (i : Nat) (d : Dt) (ρ : Ev) : gN i d ρ = gx i d ρ ρ[i]? := by
  unfold gN
  cases h : (ρ[i]? : Option Sl) with
  | none => rfl
  | some s => cases s <;> rfl
@[simp] theorem ev_gNil (ρ : Ev) : gNil [] ρ = some ρ := rfl
@[simp] theorem ev_gCons (t : Dt → Ev → Option Ev) (u : List Dt → Ev → Option Ev) (d : Dt) (ds : List Dt) (ρ : Ev) : gCons t u (d :: ds) ρ = (t d ρ).bind (u ds) := by
  show (match t d ρ with | some ρ' => u ds ρ' | none => none) = _
  cases t d ρ <;> rfl
@[simp] theorem ev_gT (n : Nat) (u : List Dt → Ev → Option Ev) (ds : List Dt) (ρ : Ev) : gT n u (.tuple ds) ρ = if ds.length = n then u ds ρ else none := rfl
@[simp] theorem kills_n (ρ : Ev) : kills [] ρ = ρ := rfl
@[simp] theorem kills_c (i : Nat) (l : List Nat) (ρ : Ev) : kills (i :: l) ρ = kills l (ρ.set i .un) := rfl
@[simp] theorem restore_n (ρ0 ρ : Ev) : restore [] ρ0 ρ = ρ := rfl
@[simp] theorem restore_c (i : Nat) (l : List Nat) (ρ0 ρ : Ev) : restore (i :: l) ρ0 ρ = restore l ρ0 (ρ.set i (ρ0.getD i .un)) := rfl
@[simp] theorem ev_for (kl : List Nat) (m : M (List Dt)) (t : Dt → Ev → Option Ev) (b : F) (ρ : Ev) : sForE kl m t b ρ = fromE (fun ds ρ => sFor kl t b ds (kills kl ρ)) (m ρ) := rfl
@[simp] theorem ev_yes (ρ : Ev) : mYes ρ = some (.ok true ρ) := rfl
/-- signs within a text -/
theorem gIn_sign (c : Nat) (z : Str) : gIn (.str ⟨#[c]⟩) (.str z) = some (.bool (decide (c ∈ z.cps.toList))) := rfl
end PD
/-! PD15: texts as lists of signs. -/
namespace PD
open PySem L2

/-- a text of signs -/
def tx (cs : List Nat) : Str := ⟨cs.toArray⟩
/-- a sign -/
def sgD (c : Nat) : Dt := .str ⟨#[c]⟩
@[simp] theorem tx_cps (cs : List Nat) : (tx cs).cps.toList = cs := by unfold tx; rfl
theorem tx_of (z : Str) : tx z.cps.toList = z := by
  cases z
  unfold tx
  simp
theorem tx_len (cs : List Nat) : (tx cs).length = cs.length := rfl
theorem tx_inj {a b : List Nat} (h : tx a = tx b) : a = b := by
  have := congrArg (fun z => z.cps.toList) h
  simpa using this
theorem tx_eq {a b : List Nat} : decide (tx a = tx b) = decide (a = b) := by
  by_cases h : a = b
  · subst h; simp
  · rw [decide_eq_false h, decide_eq_false fun z => h (tx_inj z)]
theorem joinL_nil : ∀ ps : List (List Nat), TL.joinL [] ps = ps.flatten
  | [] => rfl
  | [p] => by simp [TL.joinL]
  | p :: q :: r => by
    have ih := joinL_nil (q :: r)
    unfold TL.joinL
    rw [ih]
    simp
theorem join_tx (ys : List Str) : Txt.join "" ys = tx (ys.map fun y => y.cps.toList).flatten := by
  have h1 : (Txt.join "" ys).cps.toList = (ys.map fun y => y.cps.toList).flatten := by
    rw [TL.join_eq]
    have h2 := TL.tl_join "" ys
    have h3 : TL.tl "" = [] := by decide +kernel
    rw [h3, joinL_nil] at h2
    exact h2
  rw [← tx_of (Txt.join "" ys), h1]
theorem strsD_map (ys : List Str) : strsD (ys.map .str) = some ys := by
  induction ys with
  | nil => rfl
  | cons y ys ih =>
    show (strsD (ys.map .str)).map (y :: ·) = _
    rw [ih]
    rfl
theorem gJoin_strs (ys : List Str) (h : (ys.map (·.length)).sum ≤ 16777216) : gJoin (.str "") [.list (ys.map .str)] = some (.str (tx (ys.map fun y => y.cps.toList).flatten)) := by
  show joinD "" (ys.map .str) = _
  unfold joinD
  rw [strsD_map]
  show (if (ys.map (·.length)).sum + ys.length * ("" : Str).length ≤ 16777216 then some (PyData.str (Txt.join "" ys)) else none) = _
  have h0 : ("" : Str).length = 0 := by decide +kernel
  rw [h0, Nat.mul_zero, Nat.add_zero, if_pos h, join_tx]
theorem one_sum : ∀ cs : List Nat, ((cs.map fun c => (⟨#[c]⟩ : Str)).map (·.length)).sum = cs.length
  | [] => rfl
  | c :: cs => by
    rw [List.map_cons, List.map_cons, List.sum_cons, one_sum cs, List.length_cons]
    show 1 + cs.length = cs.length + 1
    omega
theorem one_flat : ∀ cs : List Nat, ((cs.map fun c => (⟨#[c]⟩ : Str)).map fun y => y.cps.toList).flatten = cs
  | [] => rfl
  | c :: cs => by
    rw [List.map_cons, List.map_cons, List.flatten_cons, one_flat cs]
    rfl
theorem gJoin_signs (cs : List Nat) (h : cs.length ≤ 16777216) : gJoin (.str "") [.list (cs.map sgD)] = some (.str (tx cs)) := by
  have e : cs.map sgD = (cs.map fun c => (⟨#[c]⟩ : Str)).map .str := by rw [List.map_map]; rfl
  rw [e, gJoin_strs _ (by rw [one_sum]; exact h), one_flat]
@[simp] theorem items_tx (cs : List Nat) : items (.str (tx cs)) = some (cs.map sgD) := by
  rw [items_s, tx_cps]
  rfl
@[simp] theorem gIn_tx (c : Nat) (z : List Nat) : gIn (sgD c) (.str (tx z)) = some (.bool (decide (c ∈ z))) := by
  unfold sgD
  rw [gIn_sign, tx_cps]

/-! ### comprehensions over what is made of a list -/
theorem lcL_map {α : Type} {vs : List Nat} {t : Dt → Ev → Option Ev} {tt : M Bool} {te : M Rv} {ρ : Ev} {f : α → Dt} {b : α → Bool} {y : α → Dt} : ∀ (as : List α), (∀ a ∈ as, ∃ ρd, t (f a) ρ = some ρd ∧ tt ρd = some (.ok (b a) ρd) ∧ (b a = true → te ρd = some (.ok (.val (y a)) ρd)) ∧ kills vs ρd = ρ) →
    lcL vs t tt te (as.map f) ρ = some (.ok ((as.filter b).map y) ρ)
  | [], _ => rfl
  | d :: ds, h => by
    obtain ⟨ρd, h1, h2, h3, h4⟩ := h d List.mem_cons_self
    have ih := lcL_map ds fun e he => h e (List.mem_cons_of_mem _ he)
    rw [List.map_cons]
    unfold lcL
    rw [h1]
    show (match tt ρd with | some (.ok true ρ2) => _ | some (.ok false ρ2) => _ | _ => _) = _
    rw [h2]
    cases hb : b d with
    | false =>
      show lcL vs t tt te (ds.map f) (kills vs ρd) = _
      rw [h4, ih, List.filter_cons, hb]
      rfl
    | true =>
      show (match te ρd with | some (.ok (.val y) ρ3) => _ | _ => _) = _
      rw [h3 hb]
      show (match lcL vs t tt te (ds.map f) (kills vs ρd) with | some (.ok ys ρ4) => _ | _ => _) = _
      rw [h4, ih, List.filter_cons, hb]
      rfl
theorem mLc_map {α : Type} {vs : List Nat} {src : M (List Dt)} {t : Dt → Ev → Option Ev} {tt : M Bool} {te : M Rv} {ρ ρ0 : Ev} (as : List α) (f : α → Dt) (b : α → Bool) (y : α → Dt) (h1 : src ρ = some (.ok (as.map f) ρ0)) (h2 : noOw vs ρ0 = true)
    (hs : ∀ a ∈ as, ∃ ρd, t (f a) (kills vs ρ0) = some ρd ∧ tt ρd = some (.ok (b a) ρd) ∧ (b a = true → te ρd = some (.ok (.val (y a)) ρd)) ∧ kills vs ρd = kills vs ρ0) (hl : as.length ≤ sizeLine) :
    mLc vs src t tt te ρ = some (.ok ((as.filter b).map y) (restore vs ρ0 (kills vs ρ0))) := by
  refine ev_lc h1 h2 (lcL_map as hs) ?_
  rw [List.length_map]
  exact Nat.le_trans (List.length_filter_le _ _) hl
theorem filter_true {α : Type} (l : List α) : l.filter (fun _ => true) = l := by simp
/-- one for each, no test -/
theorem mLc_all {α : Type} {vs : List Nat} {src : M (List Dt)} {t : Dt → Ev → Option Ev} {te : M Rv} {ρ ρ0 : Ev} (as : List α) (f : α → Dt) (y : α → Dt) (h1 : src ρ = some (.ok (as.map f) ρ0)) (h2 : noOw vs ρ0 = true)
    (hs : ∀ a ∈ as, ∃ ρd, t (f a) (kills vs ρ0) = some ρd ∧ te ρd = some (.ok (.val (y a)) ρd) ∧ kills vs ρd = kills vs ρ0) (hl : as.length ≤ sizeLine) :
    mLc vs src t mYes te ρ = some (.ok (as.map y) (restore vs ρ0 (kills vs ρ0))) := by
  have := mLc_map (tt := mYes) as f (fun _ => true) y h1 h2 (fun a ha => by
    obtain ⟨ρd, e1, e2, e3⟩ := hs a ha
    exact ⟨ρd, e1, rfl, fun _ => e2, e3⟩) hl
  rw [filter_true] at this
  exact this
theorem boolsD_map {α : Type} (as : List α) (p : α → Bool) : boolsD (as.map fun a => .bool (p a)) = some (as.map p) := by
  induction as with
  | nil => rfl
  | cons a as ih =>
    show (boolsD (as.map fun a => .bool (p a))).map (p a :: ·) = _
    rw [ih]
    rfl
theorem gAll_map {α : Type} (as : List α) (p : α → Bool) : gAll [.list (as.map fun a => .bool (p a))] = some (.bool (as.all p)) := by
  show (boolsD (as.map fun a => .bool (p a))).map (fun bs => PyData.bool (bs.all id)) = _
  rw [boolsD_map, Option.map_some, List.all_map]
  rfl
theorem le_line {n : Nat} (h : n ≤ 16777216) : n ≤ sizeLine := by rw [sizeLine_eq]; exact h

/-! ### data of small measure -/
mutual
def tame : Dt → Bool
  | .none => true
  | .bool _ => true
  | .int _ => true
  | .str z => PyData.strOk z && decide (z.length ≤ 1000)
  | .list xs => decide (xs.length ≤ 1000) && tameL xs
  | .tuple xs => decide (xs.length ≤ 1000) && tameL xs
  | .dict _ => false
def tameL : List Dt → Bool
  | [] => true
  | x :: xs => tame x && tameL xs
end
theorem tameL_mem : ∀ {xs : List Dt}, tameL xs = true → ∀ x ∈ xs, tame x = true
  | [], _, x, h => nomatch h
  | y :: ys, h, x, hx => by
    unfold tameL at h
    rw [Bool.and_eq_true] at h
    rcases List.mem_cons.mp hx with rfl | hx
    · exact h.1
    · exact tameL_mem h.2 x hx
theorem tameL_of : ∀ {xs : List Dt}, (∀ x ∈ xs, tame x = true) → tameL xs = true
  | [], _ => by unfold tameL; rfl
  | y :: ys, h => by
    unfold tameL
    rw [h y List.mem_cons_self, tameL_of fun x hx => h x (List.mem_cons_of_mem _ hx)]
    rfl
theorem tame_tup {xs : List Dt} (h : tame (.tuple xs) = true) : xs.length ≤ 1000 ∧ ∀ x ∈ xs, tame x = true := by
  unfold tame at h
  rw [Bool.and_eq_true, decide_eq_true_eq] at h
  exact ⟨h.1, tameL_mem h.2⟩
theorem tame_lst {xs : List Dt} (h : tame (.list xs) = true) : xs.length ≤ 1000 ∧ ∀ x ∈ xs, tame x = true := by
  unfold tame at h
  rw [Bool.and_eq_true, decide_eq_true_eq] at h
  exact ⟨h.1, tameL_mem h.2⟩
theorem tame_tupI {xs : List Dt} (h1 : xs.length ≤ 1000) (h2 : ∀ x ∈ xs, tame x = true) : tame (.tuple xs) = true := by
  unfold tame
  rw [decide_eq_true h1, tameL_of h2]
  rfl
theorem tame_str {z : Str} (h : tame (.str z) = true) : PyData.strOk z = true ∧ z.length ≤ 1000 := by
  unfold tame at h
  rw [Bool.and_eq_true, decide_eq_true_eq] at h
  exact h
theorem tame_dc {d : Dt} (h : tame d = true) : noDc d = true := by
  cases d <;> first | rfl | (unfold tame at h; cases h)
mutual
theorem tame_lay : ∀ (d : Dt), tame d = true → d.canLay0 = true
  | .none, _ => by unfold PyData.canLay0; rfl
  | .bool _, _ => by unfold PyData.canLay0; rfl
  | .int _, _ => by unfold PyData.canLay0; rfl
  | .str z, h => by unfold PyData.canLay0; exact (tame_str h).1
  | .list xs, h => by
    unfold tame at h
    rw [Bool.and_eq_true] at h
    unfold PyData.canLay0
    exact tameL_lay xs h.2
  | .tuple xs, h => by
    unfold tame at h
    rw [Bool.and_eq_true] at h
    unfold PyData.canLay0
    exact tameL_lay xs h.2
  | .dict _, h => by unfold tame at h; cases h
theorem tameL_lay : ∀ (xs : List Dt), tameL xs = true → PyData.canLayAll0 xs = true
  | [], _ => by unfold PyData.canLayAll0; rfl
  | x :: xs, h => by
    unfold tameL at h
    rw [Bool.and_eq_true] at h
    unfold PyData.canLayAll0
    rw [tame_lay x h.1, tameL_lay xs h.2]
    rfl
end
theorem tame_shaped {d : Dt} (h : tame d = true) (hd : d.depth ≤ 64) : SeqAt.shaped d = true := by
  unfold SeqAt.shaped
  rw [tame_lay d h, decide_eq_true hd]
  rfl
theorem gIn_strs (w : Str) (ws : List Str) : gIn (.str w) (.tuple (ws.map .str)) = some (.bool (ws.any fun z => decide (z = w))) := by
  have h1 : (ws.map PyData.str).all flatD = true := by
    rw [List.all_map]
    exact List.all_eq_true.mpr fun _ _ => rfl
  show (if (flatD (.str w) && (ws.map PyData.str).all flatD) = true then some ((ws.map PyData.str).any fun z => PyData.eqv z (.str w)) else none).map PyData.bool = _
  rw [if_pos (by rw [h1]; rfl), List.any_map]
  refine congrArg (fun b => some (PyData.bool b)) ?_
  refine congrArg (fun f => ws.any f) (funext fun z => ?_)
  show PyData.eqv (.str z) (.str w) = _
  unfold PyData.eqv
  by_cases h : z = w
  · subst h; simp
  · simp [h]
theorem gNotIn_strs (w : Str) (ws : List Str) : gNotIn (.str w) (.tuple (ws.map .str)) = some (.bool (!ws.any fun z => decide (z = w))) := by
  have h := gIn_strs w ws
  unfold gIn at h
  unfold gNotIn
  cases q : gInB (.str w) (.tuple (ws.map .str)) with
  | none => rw [q] at h; cases h
  | some b =>
    rw [q] at h
    cases h
    rfl

theorem gIn_signs (c : Nat) (ks : List Nat) : gIn (sgD c) (.list (ks.map sgD)) = some (.bool (decide (c ∈ ks))) := by
  have h1 : (ks.map sgD).all flatD = true := by
    rw [List.all_map]
    exact List.all_eq_true.mpr fun _ _ => rfl
  show (if (flatD (sgD c) && (ks.map sgD).all flatD) = true then some ((ks.map sgD).any fun z => PyData.eqv z (sgD c)) else _).map PyData.bool = _
  rw [if_pos (by rw [h1]; rfl), List.any_map]
  refine congrArg (fun b => some (PyData.bool b)) ?_
  have h2 : ∀ k : Nat, PyData.eqv (sgD k) (sgD c) = decide (c = k) := fun k => by
    unfold sgD PyData.eqv
    by_cases h : c = k
    · subst h; simp
    · simp [h, Ne.symm h]
  rw [Bool.eq_iff_iff, List.any_eq_true, decide_eq_true_eq]
  constructor
  · rintro ⟨k, hk, e⟩
    have e' : PyData.eqv (sgD k) (sgD c) = true := e
    rw [h2, decide_eq_true_eq] at e'
    rw [e']; exact hk
  · intro h
    refine ⟨c, h, ?_⟩
    show PyData.eqv (sgD c) (sgD c) = true
    rw [h2]
    simp
theorem nodup_le : ∀ {as bs : List Nat}, as.Nodup → (∀ a ∈ as, a ∈ bs) → as.length ≤ bs.length
  | [], bs, _, _ => Nat.zero_le _
  | a :: as, bs, hn, h => by
    rw [List.nodup_cons] at hn
    have ha := h a List.mem_cons_self
    have ih := nodup_le (bs := bs.erase a) hn.2 fun x hx => (List.mem_erase_of_ne fun z => hn.1 (by rw [← z]; exact hx)).mpr (h x (List.mem_cons_of_mem _ hx))
    rw [List.length_erase_of_mem ha] at ih
    have : 0 < bs.length := List.length_pos_of_mem ha
    rw [List.length_cons]
    omega
theorem signs_of {A : List Nat} : ∀ {ys : List Dt}, (∀ y ∈ ys, ∃ k ∈ A, y = sgD k) → ∃ ks : List Nat, ys = ks.map sgD ∧ ∀ k ∈ ks, k ∈ A
  | [], _ => ⟨[], rfl, fun k h => nomatch h⟩
  | y :: ys, h => by
    obtain ⟨k, hk, e⟩ := h y List.mem_cons_self
    obtain ⟨ks, e2, h2⟩ := signs_of fun z hz => h z (List.mem_cons_of_mem _ hz)
    refine ⟨k :: ks, by rw [List.map_cons, e, e2], fun z hz => ?_⟩
    rcases List.mem_cons.mp hz with rfl | hz
    · exact hk
    · exact h2 z hz

/-! ### loops -/
theorem sFor_step {kl : List Nat} {t : Dt → Ev → Option Ev} {b : F} {d : Dt} {ds : List Dt} {ρ ρ1 ρ2 : Ev} (e1 : t d ρ = some ρ1) (e2 : b ρ1 = some (.nx ρ2)) : sFor kl t b (d :: ds) ρ = sFor kl t b ds (kills kl ρ2) := by
  conv => lhs; unfold sFor
  rw [e1]
  dsimp only
  rw [e2]
theorem sFor_out {kl : List Nat} {t : Dt → Ev → Option Ev} {b : F} {d x : Dt} {ds : List Dt} {ρ ρ1 ρ2 : Ev} (e1 : t d ρ = some ρ1) (e2 : b ρ1 = some (.rt x ρ2)) : sFor kl t b (d :: ds) ρ = some (.rt x ρ2) := by
  conv => lhs; unfold sFor
  rw [e1]
  dsimp only
  rw [e2]
/-- a loop that keeps I -/
theorem sFor_inv {kl : List Nat} {t : Dt → Ev → Option Ev} {b : F} : ∀ (ds : List Dt) (I : Nat → Ev → Prop) (ρ : Ev), (∀ (i : Nat) (d : Dt) (ρ : Ev), ds[i]? = some d → I i ρ → ∃ ρ1 ρ2, t d ρ = some ρ1 ∧ b ρ1 = some (.nx ρ2) ∧ I (i + 1) (kills kl ρ2)) → I 0 ρ →
    ∃ ρ', sFor kl t b ds ρ = some (.nx ρ') ∧ I ds.length ρ'
  | [], I, ρ, _, h0 => ⟨ρ, rfl, h0⟩
  | d :: ds, I, ρ, h, h0 => by
    obtain ⟨ρ1, ρ2, e1, e2, h1⟩ := h 0 d ρ rfl h0
    obtain ⟨ρ', e3, h3⟩ := sFor_inv ds (fun i => I (i + 1)) (kills kl ρ2) (fun i e ρ he hI => h (i + 1) e ρ (by simpa using he) hI) h1
    refine ⟨ρ', ?_, h3⟩
    rw [sFor_step e1 e2]
    exact e3
/-- a loop that looks for the first that does not fit -/
theorem sFor_find {kl : List Nat} {t : Dt → Ev → Option Ev} {b : F} {x : Dt} {p : Dt → Bool} {ρ : Ev} : ∀ (ds : List Dt), (∀ d ∈ ds, ∃ ρ1, t d ρ = some ρ1 ∧ (p d = true → ∃ ρ2, b ρ1 = some (.nx ρ2) ∧ kills kl ρ2 = ρ) ∧ (p d = false → ∃ ρ2, b ρ1 = some (.rt x ρ2))) →
    (ds.all p = true → sFor kl t b ds ρ = some (.nx ρ)) ∧ (ds.all p = false → ∃ ρ', sFor kl t b ds ρ = some (.rt x ρ'))
  | [], _ => ⟨fun _ => rfl, fun h => nomatch h⟩
  | d :: ds, h => by
    obtain ⟨ρ1, e1, h1, h2⟩ := h d List.mem_cons_self
    obtain ⟨i1, i2⟩ := sFor_find ds fun e he => h e (List.mem_cons_of_mem _ he)
    cases hp : p d with
    | true =>
      obtain ⟨ρ2, e2, e3⟩ := h1 hp
      have step : sFor kl t b (d :: ds) ρ = sFor kl t b ds ρ := by
        rw [sFor_step e1 e2, e3]
      rw [step, List.all_cons, hp, Bool.true_and]
      exact ⟨i1, i2⟩
    | false =>
      obtain ⟨ρ2, e2⟩ := h2 hp
      refine ⟨fun z => ?_, fun _ => ⟨ρ2, ?_⟩⟩
      · rw [List.all_cons, hp] at z
        cases z
      · exact sFor_out e1 e2
end PD
/-! PD16: the law's start. -/
namespace PD
open PySem L2
/-- law(script): True, whatever the ints -/
def spLaw (K : PySem.W.Frag) : Sp := fun vs H Q _ => ∃ (a : Addr) (ns : List Int), vs = [.ref a] ∧ SqL K H a (ns.map V.int) ∧ ns.length ≤ 63 ∧ ∀ H', Q (.bl true) H'
theorem dpa_ns {K : PySem.W.Frag} {H : Hp} : ∀ ns : List Int, DpAll K H (ns.map V.int) (ns.map .int)
  | [] => .nil
  | n :: ns => .cons (.int n) (dpa_ns ns)
theorem law_start {K : PySem.W.Frag} {mg : Str → Option Value} {vs : List V} {H : Hp} {Q : VK} {E : XK} {f : Fn} (h : spLaw K vs H Q E) (hf : ∀ ns : List Int, ns.length ≤ 63 → ∃ ρ', f [.sh (.list (ns.map .int))] = some (.ok (.val (.bool true)) ρ')) : spD K mg 1 f vs H Q E := by
  obtain ⟨a, ns, rfl, hS, hn, q⟩ := h
  obtain ⟨ρ', e⟩ := hf ns hn
  have how : ownedIn ([V.ref a].map some) [.sh (.list (ns.map .int))] = [] := rfl
  have R : Rep K ⟨H, H, ownedIn ([V.ref a].map some) [.sh (.list (ns.map .int))]⟩ H H ([V.ref a].map some) [.sh (.list (ns.map .int))] := by
    refine ⟨Same.refl _, Same.refl _, fun a o e _ => e, fun a o e => .inl e, rfl, fun i sl e => ?_, fun i j b h1 h2 h3 h4 => ?_, fun i b e => by rw [how] at e; cases e⟩
    · cases i with
      | zero =>
        have e' : some (Sl.sh (.list (ns.map .int))) = some sl := e
        cases e'
        exact ⟨.ref a, rfl, .lst hS (dpa_ns ns)⟩
      | succ i => simp at e
    · cases i with
      | zero => exact (show False from h1).elim
      | succ i => exact (show False by simpa [isO] using h1).elim
  exact ⟨H, _, _, rfl, R, e, fun v S' H' _ _ hd => by cases hd; exact q H'⟩
end PD
/-! PD17: an own list is let be ahead of a statement. -/
namespace PD
open PySem L2
def fz (i : Nat) (ρ : Ev) : Ev := match (ρ[i]? : Option Sl) with
  | some (.ow ds) => ρ.set i (.sh (.list ds))
  | _ => ρ
section
variable {K : PySem.W.Frag} {mg : Str → Option Value} {W : WX} {G : Ent} {S H : Hp} {σ : St} {ρ : Ev}
theorem Rep.own_out (R : Rep K G S H σ ρ) {i : Nat} (hf : Free G i) {ds : List Dt} (hs : ρ[i]? = some (.ow ds)) : ∃ a : Addr, σ[i]? = some (some (.ref a)) ∧ Fresh K G S H σ (ρ.set i .un) (.ref a) ds := by
  obtain ⟨a, xs, e1, q1, q2, q3, q4⟩ := R.slot i _ hs
  have hgn : G.H a = none := by
    rcases q4 with q4 | q4
    · obtain ⟨⟨j, b⟩, h1, h2⟩ := List.mem_map.mp q4
      have h2 : b = a := h2
      subst h2
      obtain ⟨⟨dj, h3⟩, h4⟩ := R.io j b h1
      exact absurd (R.dist j i b (by rw [h3]; trivial) (by rw [hs]; trivial) h4 e1) (hf _ h1)
    · exact q4
  refine ⟨a, e1, ⟨a, xs, rfl, q1, q2, q3, hgn, fun j dj h1 h2 => ?_⟩⟩
  rcases get_set h1 with ⟨_, z⟩ | ⟨ne, h1⟩
  · cases z
  · exact ne (R.dist i j a (by rw [hs]; trivial) (by rw [h1]; trivial) e1 h2)
theorem Rep.fz (R : Rep K G S H σ ρ) {i : Nat} (hf : Free G i) : ∃ S', Rep K G S' H σ (PD.fz i ρ) ∧ Same S S' := by
  unfold PD.fz
  split
  · rename_i ds hs
    obtain ⟨a, e1, f⟩ := R.own_out hf hs
    obtain ⟨S', R', s, hd⟩ := (R.forget hf).freeze f
    have hi : i < ρ.length := (List.getElem?_eq_some_iff.mp hs).1
    refine ⟨S', R'.slots (by rw [List.length_set]; exact R.len) (fun j sl e => ?_) (fun j b e => ?_), s⟩
    · rcases get_set e with ⟨rfl, rfl⟩ | ⟨ne, e⟩
      · exact .inr (.inr ⟨_, _, rfl, e1, hd⟩)
      · exact .inr (.inl ⟨by rw [get_set_ne ne]; exact e, rfl⟩)
    · have ne : i ≠ j := fun z => hf _ e z.symm
      rw [get_set_ne ne, get_set_ne ne]
      exact ⟨rfl, rfl⟩
  · exact ⟨S, R, Same.refl _⟩
end
section
variable {X : Cx} {W : WX} {ios : List Nat} {st : Stmt} {g : F}
/-- ahead of a statement the list of slot i is let be -/
theorem d_fz (i : Nat) (h : PS X st (tS X.K X.mg W ios g)) (hi : i ∉ ios := by decide) : PS X st (tS X.K X.mg W ios fun ρ => g (fz i ρ)) := ps_imp h fun D σ H w => by
  obtain ⟨G, S, ρ, fl, hio, R, e, q⟩ := w
  obtain ⟨S', R', s⟩ := R.fz (free_of hio hi)
  exact ⟨G, S', _, fl, hio, R', e, q.mono s⟩
end
@[simp] theorem fz_o (i : Nat) (ρ : Ev) (ds : List Dt) (h : ρ[i]? = some (.ow ds)) : fz i ρ = ρ.set i (.sh (.list ds)) := by
  unfold fz
  rw [h]
end PD
/-! PD18: comprehensions with two fors. -/
namespace PD
open PySem L2
def lc2L (vs vs1 : List Nat) (t : Dt → Ev → Option Ev) (tt : M Bool) (src1 : M (List Dt)) (t1 : Dt → Ev → Option Ev) (tt1 : M Bool) (te : M Rv) : List Dt → M (List Dt)
  | [] => pur []
  | d :: ds => fun ρ => match t d ρ with
    | none => none
    | some ρ1 => match tt ρ1 with
      | some (.ok true ρ2) => match src1 ρ2 with
        | some (.ok es ρ3) => match lcL vs1 t1 tt1 te es (kills vs1 ρ3) with
          | some (.ok xs ρ4) => match lc2L vs vs1 t tt src1 t1 tt1 te ds (kills vs ρ4) with
            | some (.ok ys ρ5) => some (.ok (xs ++ ys) ρ5)
            | _ => none
          | _ => none
        | _ => none
      | some (.ok false ρ2) => lc2L vs vs1 t tt src1 t1 tt1 te ds (kills vs ρ2)
      | _ => none
def mLc2 (vs vs1 : List Nat) (src : M (List Dt)) (t : Dt → Ev → Option Ev) (tt : M Bool) (src1 : M (List Dt)) (t1 : Dt → Ev → Option Ev) (tt1 : M Bool) (te : M Rv) : M (List Dt) := bd src fun ds ρ0 =>
  match noOw vs ρ0 with
  | false => none
  | true => match lc2L vs vs1 t tt src1 t1 tt1 te ds (kills vs ρ0) with
    | some (.ok ys ρ1) => match fits ys.length with
      | some _ => some (.ok ys (restore vs ρ0 ρ1))
      | none => none
    | _ => none
theorem wipe_wipe (σ : St) (vs ws : List Nat) (h : ∀ i ∈ ws, i ∈ vs) : wipe (wipe σ ws) vs = wipe σ vs := by
  apply List.ext_getElem?
  intro j
  rw [wipe_get, wipe_get, wipe_get]
  by_cases hj : j ∈ vs
  · rw [if_pos hj, if_pos hj]
    by_cases hw : j ∈ ws
    · rw [if_pos hw]; cases σ[j]? <;> rfl
    · rw [if_neg hw]
  · rw [if_neg hj, if_neg hj, if_neg fun z => hj (h j z)]
/-- the list that is made, within an inner walk -/
structure LcJ (K : PySem.W.Frag) (G : Ent) (S0 : Hp) (σ0 : St) (D : Addr) (go : M (List Dt)) (k : Ev → List Dt → Prop) (H : Hp) : Prop where
  ex : ∃ (S : Hp) (ρ ρf : Ev) (acc : List Dt) (va : List V) (rest : List Dt), Rep K G S H σ0 ρ ∧ Same S0 S ∧ H D = some (.lst va) ∧ DpAll K S va acc ∧ S D = none ∧ Un0 σ0 ρ D ∧ go ρ = some (.ok rest ρf) ∧ (acc ++ rest).length ≤ sizeLine ∧ k ρf (acc ++ rest)
section
variable {K : PySem.W.Frag} {mg : Str → Option Value} {G : Ent}
/-- one step of a walk that makes a list: what stands before, what stands behind -/
theorem lc_step {S1 S2 H2 : Hp} {σ0 : St} {ρ2 : Ev} {vs is : List Nat} {D : Addr} {va : List V} {acc : List Dt} {t : Dt → Ev → Option Ev} {tt : M Bool} {te : M Rv} {d : Dt} {k : Ev → List Dt → Prop} {ds : List Dt} {Nx : Hp → Prop} {rest : List Dt} {ρf : Ev}
    (hfr : ∀ i ∈ vs, Free G i) (hgD : G.H D = none) (hsub : ∀ i ∈ is, i ∈ vs) (hw0 : wipe σ0 vs = σ0) (R2 : Rep K G S2 H2 σ0 ρ2) (s2 : Same S1 S2) (hDl : H2 D = some (.lst va)) (hacc : DpAll K S2 va acc) (hSD : S2 D = none) (hun : Un0 σ0 ρ2 D)
    (hgo : lcL vs t tt te (d :: ds) ρ2 = some (.ok rest ρf)) (hlenT : (acc ++ rest).length ≤ sizeLine) (hk : k ρf (acc ++ rest))
    (hnx : ∀ H', LcJ K G S1 σ0 D (lcL vs t tt te ds) k H' → Nx H') {x : V} {H3 : Hp} {S3 : Hp} (gr : Grow S2 H2 S3 H3) (hx : Dp K S3 x d) :
    tG K is t x σ0 H3 fun σ' H4 => wipe σ' vs = σ0 ∧ tB K mg W0 tt σ' H4 fun b H5 => if b = true then tD K mg W0 te σ' H5 fun y H7 => ∃ acc, H7 D = some (.lst acc) ∧ acc.length < sizeLine ∧ Nx (upd H7 D (.lst (acc ++ [y]))) else Nx H5 := by
  have R3 := R2.grow gr
  have hD3 : H3 D = some (.lst va) := gr.h _ _ hDl
  have hS3 : S3 D = none := by
    cases z : S3 D with
    | none => rfl
    | some u =>
      rcases gr.new D u z with y | y
      · rw [hSD] at y; cases y
      · rw [hDl] at y; cases y
  unfold lcL at hgo
  try dsimp only at hgo
  cases q1 : t d ρ2 with
  | none => rw [q1] at hgo; cases hgo
  | some ρ3 =>
    rw [q1] at hgo
    refine ⟨entN S3 H3 σ0 ρ2, S3, ρ2, d, ρ3, R3.again, hx, q1, fun σ' R4 off => ?_⟩
    have hw : wipe σ' vs = σ0 := (wipe_off off hsub).trans hw0
    refine ⟨hw, ?_⟩
    try dsimp only at hgo
    cases q2 : tt ρ3 with
    | none => rw [q2] at hgo; cases hgo
    | some y2 =>
      cases y2 with
      | ex c ρ' => rw [q2] at hgo; cases hgo
      | ok b ρ4 =>
        refine ⟨_, S3, ρ3, _, R4, q2, fun S5 H5 R5 s5 => ?_⟩
        rw [q2] at hgo
        cases b with
        | false =>
          refine iteF (hnx _ ?_)
          obtain ⟨k1, k2, k3⟩ := R5.held hD3 hS3 hun
          have R6 := (R3.backS R5).wiped (vs := vs) hfr
          rw [hw] at R6
          refine ⟨S5, _, ρf, acc, va, rest, R6, (s2.trans gr.s).trans s5, k1, dpAll_mono (gr.s.trans s5) _ _ hacc, k2, ?_, hgo, hlenT, hk⟩
          have := un0_wipe (vs := vs) k3
          rw [hw] at this
          exact this
        | true =>
          refine iteT ?_
          try dsimp only at hgo
          cases q3 : te ρ4 with
          | none => rw [q3] at hgo; cases hgo
          | some y3 =>
            cases y3 with
            | ex c ρ' => rw [q3] at hgo; cases hgo
            | ok r ρ5 =>
              rw [q3] at hgo
              cases r with
              | loc _ => cases hgo
              | val yd =>
                try dsimp only at hgo
                cases q4 : lcL vs t tt te ds (kills vs ρ5) with
                | none => rw [q4] at hgo; cases hgo
                | some y4 =>
                  cases y4 with
                  | ex c ρ' => rw [q4] at hgo; cases hgo
                  | ok rest' ρ6 =>
                    rw [q4] at hgo
                    cases hgo
                    refine ⟨_, S5, ρ4, _, R5, q3, fun v S7 H7 R7 s7 rv => ?_⟩
                    obtain ⟨k1, k2, k3⟩ := R7.held hD3 hS3 hun
                    have hrv : Dp K S7 v yd := rv
                    have hlen : va.length < sizeLine := by
                      have z1 := dpa_len hacc
                      rw [List.length_append, List.length_cons] at hlenT
                      omega
                    refine ⟨va, k1, hlen, hnx _ ?_⟩
                    have R8 := ((R3.backS R7).other k2 hgD k3 (.lst (va ++ [v]))).wiped (vs := vs) hfr
                    rw [hw] at R8
                    have ha : (acc ++ [yd]) ++ rest' = acc ++ yd :: rest' := by rw [List.append_assoc]; rfl
                    refine ⟨S7, _, _, acc ++ [yd], va ++ [v], rest', R8, ((s2.trans gr.s).trans s5).trans s7, upd_same, dpa_snoc (dpAll_mono ((gr.s.trans s5).trans s7) _ _ hacc) hrv, k2, ?_, q4, by rw [ha]; exact hlenT, by rw [ha]; exact hk⟩
                    have := un0_wipe (vs := vs) k3
                    rw [hw] at this
                    exact this

theorem wipe_two (σ : St) (vs : List Nat) : wipe (wipe σ vs) vs = wipe σ vs := wipe_wipe σ vs vs fun i h => h
theorem rd_lc2 {W : WX} {vs vs1 is is1 : List Nat} {src src1 : M (List Dt)} {t t1 : Dt → Ev → Option Ev} {tt tt1 : M Bool} {te : M Rv} (hsub : ∀ i ∈ is, i ∈ vs) (hsub1 : ∀ i ∈ is1, i ∈ vs1) (hvs : ∀ i ∈ vs1, i ∈ vs) {σ : St} {H : Hp} {Q : VK} (w : tN K mg W (mLc2 vs vs1 src t tt src1 t1 tt1 te) σ H Q) :
    tLc2 (tI K mg W src) (tG K is t) (tB K mg W0 tt) (tI K mg W0 src1) (tG K is1 t1) (tB K mg W0 tt1) (tD K mg W0 te) vs vs1 σ H Q := by
  obtain ⟨G, S, ρ, o, R, e, q⟩ := w
  rcases bd_some e with ⟨ds, ρ1, e1, e2⟩ | ⟨c, ρ', e1, rfl⟩
  · refine ⟨G, S, ρ, _, R, e1, fun J S1 H1 R1 s1 wk D hD => ?_⟩
    cases hno : noOw vs ρ1 with
    | false => rw [hno] at e2; cases e2
    | true =>
      rw [hno] at e2
      try dsimp only at e2
      cases hl : lc2L vs vs1 t tt src1 t1 tt1 te ds (kills vs ρ1) with
      | none => rw [hl] at e2; cases e2
      | some x =>
        cases x with
        | ex c ρ' => rw [hl] at e2; cases e2
        | ok ys ρf =>
          rw [hl] at e2
          dsimp only at e2
          cases hfit : fits ys.length with
          | none => rw [hfit] at e2; cases e2
          | some u =>
            rw [hfit] at e2
            cases e2
            have hfits := fits_ok hfit
            have hfr : ∀ i ∈ vs, Free G i := fun i hi => free_now R1 (noOw_ok hno hi)
            have hfr1 : ∀ i ∈ vs1, Free G i := fun i hi => hfr i (hvs i hi)
            have hgD : G.H D = none := R1.gone hD
            have Rw : Rep K G S1 (upd H1 D (.lst [])) (wipe σ vs) (kills vs ρ1) := (R1.wiped hfr).alloc hD _
            refine ⟨fun i m H => m = ds.length - i ∧ LcJ K G S1 (wipe σ vs) D (lc2L vs vs1 t tt src1 t1 tt1 te (ds.drop i)) (fun r l => r = ρf ∧ l = ys) H,
              ⟨ds.length, by simp, S1, _, _, [], [], ys, Rw, Same.refl _, upd_same, .nil, R1.sub.free hD, un0_wipe (un0_new R1 hD), hl, hfits, rfl, rfl⟩, ?_⟩
            rintro i m H2 ⟨rfl, S2, ρ2, ρf2, acc, va, rest, R2, s2, hDl, hacc, hSD, hun, hgo, hlenT, rfl, happ⟩
            obtain ⟨w1, w2⟩ := wk i S2 H2 s2 R2.sub
            by_cases hlt : i < ds.length
            · have hdr : ds.drop i = ds[i] :: ds.drop (i + 1) := List.drop_eq_getElem_cons hlt
              rw [hdr] at hgo
              obtain ⟨go, yl⟩ := w1 ds[i] (List.getElem?_eq_getElem hlt)
              refine .inr ⟨go, LcJ K G S1 (wipe σ vs) D (lc2L vs vs1 t tt src1 t1 tt1 te (ds.drop (i + 1))) (fun r l => r = ρf2 ∧ l = ys), fun H' z => ⟨ds.length - (i + 1), by omega, rfl, z⟩, fun x H3 y => ?_⟩
              obtain ⟨S3, gr, hx⟩ := yl x H3 y
              have R3 := R2.grow gr
              have hD3 : H3 D = some (.lst va) := gr.h _ _ hDl
              have hS3 : S3 D = none := by
                cases z : S3 D with
                | none => rfl
                | some u =>
                  rcases gr.new D u z with y | y
                  · rw [hSD] at y; cases y
                  · rw [hDl] at y; cases y
              unfold lc2L at hgo
              try dsimp only at hgo
              cases q1 : t ds[i] ρ2 with
              | none => rw [q1] at hgo; cases hgo
              | some ρ3 =>
                rw [q1] at hgo
                refine ⟨entN S3 H3 (wipe σ vs) ρ2, S3, ρ2, ds[i], ρ3, R3.again, hx, q1, fun σ' R4 off => ?_⟩
                have hw : wipe σ' vs = wipe σ vs := (wipe_off off hsub).trans (wipe_two σ vs)
                refine ⟨hw, ?_⟩
                try dsimp only at hgo
                cases q2 : tt ρ3 with
                | none => rw [q2] at hgo; cases hgo
                | some y2 =>
                  cases y2 with
                  | ex c ρ' => rw [q2] at hgo; cases hgo
                  | ok b ρ4 =>
                    refine ⟨_, S3, ρ3, _, R4, q2, fun S5 H5 R5 s5 => ?_⟩
                    rw [q2] at hgo
                    cases b with
                    | false =>
                      refine iteF ?_
                      obtain ⟨k1, k2, k3⟩ := R5.held hD3 hS3 hun
                      have R6 := (R3.backS R5).wiped (vs := vs) hfr
                      rw [hw] at R6
                      refine ⟨S5, _, _, acc, va, rest, R6, (s2.trans gr.s).trans s5, k1, dpAll_mono (gr.s.trans s5) _ _ hacc, k2, ?_, hgo, hlenT, rfl, happ⟩
                      have := un0_wipe (vs := vs) k3
                      rw [hw] at this
                      exact this
                    | true =>
                      refine iteT ?_
                      try dsimp only at hgo
                      cases q3 : src1 ρ4 with
                      | none => rw [q3] at hgo; cases hgo
                      | some y3 =>
                        cases y3 with
                        | ex c ρ' => rw [q3] at hgo; cases hgo
                        | ok es ρ5 =>
                          rw [q3] at hgo
                          try dsimp only at hgo
                          cases q4 : lcL vs1 t1 tt1 te es (kills vs1 ρ5) with
                          | none => rw [q4] at hgo; cases hgo
                          | some y4 =>
                            cases y4 with
                            | ex c ρ' => rw [q4] at hgo; cases hgo
                            | ok xs ρ6 =>
                              rw [q4] at hgo
                              try dsimp only at hgo
                              cases q5 : lc2L vs vs1 t tt src1 t1 tt1 te (ds.drop (i + 1)) (kills vs ρ6) with
                              | none => rw [q5] at hgo; cases hgo
                              | some y5 =>
                                cases y5 with
                                | ex c ρ' => rw [q5] at hgo; cases hgo
                                | ok ys' ρ7 =>
                                  rw [q5] at hgo
                                  cases hgo
                                  refine ⟨_, S5, ρ4, _, R5, q3, fun J1 S7 H7 R7 s7 wk1 => ?_⟩
                                  obtain ⟨k1, k2, k3⟩ := R7.held hD3 hS3 hun
                                  have Rb := R3.backS R7
                                  have Ri := Rb.wiped (vs := vs1) hfr1
                                  have ha0 : acc ++ (xs ++ ys') = (acc ++ xs) ++ ys' := (List.append_assoc ..).symm
                                  have hlen0 : (acc ++ xs).length ≤ sizeLine := by rw [ha0, List.length_append] at hlenT; omega
                                  refine ⟨fun j m H => m = es.length - j ∧ LcJ K G S7 (wipe σ' vs1) D (lcL vs1 t1 tt1 te (es.drop j)) (fun r l => r = ρ6 ∧ l = acc ++ xs) H,
                                    ⟨es.length, by simp, S7, _, _, acc, va, xs, Ri, Same.refl _, k1, dpAll_mono ((gr.s.trans s5).trans s7) _ _ hacc, k2, un0_wipe k3, q4, hlen0, rfl, rfl⟩, ?_⟩
                                  rintro j m H8 ⟨rfl, S8, ρ8, ρf8, acc8, va8, rest8, R8, s8, hD8, hacc8, hSD8, hun8, hgo8, hlen8, rfl, happ8⟩
                                  obtain ⟨v1, v2⟩ := wk1 j S8 H8 s8 R8.sub
                                  by_cases hlt1 : j < es.length
                                  · have hdr1 : es.drop j = es[j] :: es.drop (j + 1) := List.drop_eq_getElem_cons hlt1
                                    rw [hdr1] at hgo8
                                    obtain ⟨go1, yl1⟩ := v1 es[j] (List.getElem?_eq_getElem hlt1)
                                    refine .inr ⟨go1, LcJ K G S7 (wipe σ' vs1) D (lcL vs1 t1 tt1 te (es.drop (j + 1))) (fun r l => r = ρf8 ∧ l = acc ++ xs), fun H' z => ⟨es.length - (j + 1), by omega, rfl, z⟩, fun x1 H9 y1 => ?_⟩
                                    obtain ⟨S9, gr9, hx9⟩ := yl1 x1 H9 y1
                                    exact lc_step hfr1 hgD hsub1 (wipe_two σ' vs1) R8 s8 hD8 hacc8 hSD8 hun8 hgo8 hlen8 ⟨rfl, happ8⟩ (fun H' z => z) gr9 hx9
                                  · rw [List.drop_eq_nil_of_le (by omega)] at hgo8
                                    cases hgo8
                                    rw [List.append_nil] at happ8 hlen8
                                    have Ro := R8.wiped (vs := vs) hfr
                                    rw [wipe_wipe σ' vs vs1 hvs, hw] at Ro
                                    have hu := un0_wipe (vs := vs) hun8
                                    rw [wipe_wipe σ' vs vs1 hvs, hw] at hu
                                    refine .inl ⟨v2 (by omega), S8, _, _, acc8, va8, ys', Ro, (((s2.trans gr.s).trans s5).trans s7).trans s8, hD8, hacc8, hSD8, hu, q5, ?_, rfl, ?_⟩
                                    · rw [happ8, ← ha0]; exact hlenT
                                    · rw [happ8, ← ha0]; exact happ
            · rw [List.drop_eq_nil_of_le (by omega)] at hgo
              cases hgo
              rw [List.append_nil] at happ
              subst happ
              refine .inl ⟨w2 (by omega), ?_⟩
              refine q (.ref D) S2 H2 (R1.restored s2 hno R2) (s1.trans s2) ⟨D, va, rfl, hDl, hacc, hSD, hgD, fun j dj h1 h2 => ?_⟩
              rw [restore_get] at h1
              by_cases hj : j ∈ vs
              · rw [if_pos hj] at h1
                have hlt0 : j < ρ1.length := by
                  by_cases hlt0 : j < ρ1.length
                  · exact hlt0
                  · exfalso
                    rw [List.getElem?_eq_none (by rw [R2.len, wipe_length, ← R1.len]; omega)] at h1
                    cases h1
                have e0 : ρ1[j]? = some ρ1[j] := List.getElem?_eq_getElem hlt0
                cases z : (ρ2[j]? : Option Sl) with
                | none => rw [z] at h1; cases h1
                | some y =>
                  rw [z] at h1
                  have h1' : some (ρ1.getD j .un) = some (Sl.ow dj) := h1
                  rw [List.getD_eq_getElem?_getD, e0] at h1'
                  have h3 : ρ1[j] = Sl.ow dj := Option.some.inj h1'
                  rw [h3] at e0
                  exact noOw_ok hno hj dj e0
              · rw [if_neg hj] at h1
                refine hun j (by rw [h1]; trivial) ?_
                rw [wipe_get, if_neg hj]
                exact h2
  · exact ⟨G, S, ρ, _, R, e1, fun S' H' R' s' => q S' H' R' s'⟩
end
section
variable {X : Cx} {W : WX}
theorem d_lc2 {elt tg iter tg1 iter1 : Expr} {ifs ifs1 : List Expr} {scope : Scope} {own : List (Str × Nat)} {vs1 : List Nat} {pos : Pos} {src src1 : M (List Dt)} {is is1 : List Nat} {t t1 : Dt → Ev → Option Ev} {tt tt1 : M Bool} {te : M Rv}
    (hc : X.calm = true) (hN : X.N.Nodup) (hi : PI X tg iter (tI X.K X.mg W src)) (ok : BlkOk X.N X.env.scope scope own)
    (hg : ∀ (s : Shared) (H : Hp) (C : Addr) (cl : List (Str × Addr)) (fp : List Addr), PG (X.blk s H scope (compEnvC scope cl C X.env) fp) tg (tG X.K is t))
    (ht : ∀ (s : Shared) (H : Hp) (C : Addr) (cl : List (Str × Addr)) (fp : List Addr), PTs (X.blk s H scope (compEnvC scope cl C X.env) fp) ifs (tB X.K X.mg W0 tt))
    (hi1 : ∀ (s : Shared) (H : Hp) (C : Addr) (cl : List (Str × Addr)) (fp : List Addr), PI (X.blk s H scope (compEnvC scope cl C X.env) fp) tg1 iter1 (tI X.K X.mg W0 src1))
    (hg1 : ∀ (s : Shared) (H : Hp) (C : Addr) (cl : List (Str × Addr)) (fp : List Addr), PG (X.blk s H scope (compEnvC scope cl C X.env) fp) tg1 (tG X.K is1 t1))
    (ht1 : ∀ (s : Shared) (H : Hp) (C : Addr) (cl : List (Str × Addr)) (fp : List Addr), PTs (X.blk s H scope (compEnvC scope cl C X.env) fp) ifs1 (tB X.K X.mg W0 tt1))
    (he : ∀ (s : Shared) (H : Hp) (C : Addr) (cl : List (Str × Addr)) (fp : List Addr), PE (X.blk s H scope (compEnvC scope cl C X.env) fp) elt (tD X.K X.mg W0 te))
    (hsub : ∀ i ∈ is, i ∈ own.map (·.2) := by decide) (hsub1 : ∀ i ∈ is1, i ∈ vs1 := by decide) (hv : ∀ i ∈ vs1, i ∈ own.map (·.2) := by decide) (hs : ∀ x, foldedSetIterable iter X.env x = pure x := by intro _; rfl) (hs1 : ∀ env x, foldedSetIterable iter1 env x = pure x := by intro _ _; rfl) :
    PE X (.ListComp elt [⟨tg, iter, ifs, 0⟩, ⟨tg1, iter1, ifs1, 0⟩] scope pos) (tN X.K X.mg W (mLc2 (own.map (·.2)) vs1 src t tt src1 t1 tt1 te)) := by
  exact pe_imp (pe_lc2 hc hN hi ok hv hg ht hi1 hg1 ht1 he hs hs1) fun σ H Q w => rd_lc2 hsub hsub1 hv w
theorem d_setLc2 {i : Nat} {y : Str} {py : Pos} {elt tg iter tg1 iter1 : Expr} {ifs ifs1 : List Expr} {scope : Scope} {own : List (Str × Nat)} {vs1 : List Nat} {pos spos : Pos} {src src1 : M (List Dt)} {is is1 ios : List Nat} {t t1 : Dt → Ev → Option Ev} {tt tt1 : M Bool} {te : M Rv}
    (hc : X.calm = true) (hN : X.N.Nodup) (hi : PI X tg iter (tI X.K X.mg W src)) (ok : BlkOk X.N X.env.scope scope own)
    (hg : ∀ (s : Shared) (H : Hp) (C : Addr) (cl : List (Str × Addr)) (fp : List Addr), PG (X.blk s H scope (compEnvC scope cl C X.env) fp) tg (tG X.K is t))
    (ht : ∀ (s : Shared) (H : Hp) (C : Addr) (cl : List (Str × Addr)) (fp : List Addr), PTs (X.blk s H scope (compEnvC scope cl C X.env) fp) ifs (tB X.K X.mg W0 tt))
    (hi1 : ∀ (s : Shared) (H : Hp) (C : Addr) (cl : List (Str × Addr)) (fp : List Addr), PI (X.blk s H scope (compEnvC scope cl C X.env) fp) tg1 iter1 (tI X.K X.mg W0 src1))
    (hg1 : ∀ (s : Shared) (H : Hp) (C : Addr) (cl : List (Str × Addr)) (fp : List Addr), PG (X.blk s H scope (compEnvC scope cl C X.env) fp) tg1 (tG X.K is1 t1))
    (ht1 : ∀ (s : Shared) (H : Hp) (C : Addr) (cl : List (Str × Addr)) (fp : List Addr), PTs (X.blk s H scope (compEnvC scope cl C X.env) fp) ifs1 (tB X.K X.mg W0 tt1))
    (he : ∀ (s : Shared) (H : Hp) (C : Addr) (cl : List (Str × Addr)) (fp : List Addr), PE (X.blk s H scope (compEnvC scope cl C X.env) fp) elt (tD X.K X.mg W0 te))
    (hio : i ∉ ios := by decide) (hy : X.N[i]? = some y := by rfl) (hyl : X.env.scope.names.lookup y = some .local := by rfl) (hsw : swapsWith (.ListComp elt [⟨tg, iter, ifs, 0⟩, ⟨tg1, iter1, ifs1, 0⟩] scope pos) (some (.Name y py)) spos.line X.env = pure true := by rfl)
    (hsub : ∀ i ∈ is, i ∈ own.map (·.2) := by decide) (hsub1 : ∀ i ∈ is1, i ∈ vs1 := by decide) (hv : ∀ i ∈ vs1, i ∈ own.map (·.2) := by decide) (hs : ∀ x, foldedSetIterable iter X.env x = pure x := by intro _; rfl) (hs1 : ∀ env x, foldedSetIterable iter1 env x = pure x := by intro _ _; rfl) :
    PS X (.Assign [.Name y py] (.ListComp elt [⟨tg, iter, ifs, 0⟩, ⟨tg1, iter1, ifs1, 0⟩] scope pos) spos) (tS X.K X.mg W ios (sSetO i (mLc2 (own.map (·.2)) vs1 src t tt src1 t1 tt1 te))) :=
  ps_imp (ps_setLc2 hc hN hy hyl hsw hi ok hv hg ht hi1 hg1 ht1 he hs hs1) fun D σ H w => by
    have z := rd_setO hio w
    exact rd_lc2 hsub hsub1 hv z
theorem d_setLc2F {i : Nat} {y : Str} {py : Pos} {elt tg iter tg1 iter1 : Expr} {ifs ifs1 : List Expr} {scope : Scope} {own : List (Str × Nat)} {vs1 : List Nat} {pos spos : Pos} {src src1 : M (List Dt)} {is is1 ios : List Nat} {t t1 : Dt → Ev → Option Ev} {tt tt1 : M Bool} {te : M Rv}
    (hc : X.calm = true) (hN : X.N.Nodup) (hi : PI X tg iter (tI X.K X.mg W src)) (ok : BlkOk X.N X.env.scope scope own)
    (hg : ∀ (s : Shared) (H : Hp) (C : Addr) (cl : List (Str × Addr)) (fp : List Addr), PG (X.blk s H scope (compEnvC scope cl C X.env) fp) tg (tG X.K is t))
    (ht : ∀ (s : Shared) (H : Hp) (C : Addr) (cl : List (Str × Addr)) (fp : List Addr), PTs (X.blk s H scope (compEnvC scope cl C X.env) fp) ifs (tB X.K X.mg W0 tt))
    (hi1 : ∀ (s : Shared) (H : Hp) (C : Addr) (cl : List (Str × Addr)) (fp : List Addr), PI (X.blk s H scope (compEnvC scope cl C X.env) fp) tg1 iter1 (tI X.K X.mg W0 src1))
    (hg1 : ∀ (s : Shared) (H : Hp) (C : Addr) (cl : List (Str × Addr)) (fp : List Addr), PG (X.blk s H scope (compEnvC scope cl C X.env) fp) tg1 (tG X.K is1 t1))
    (ht1 : ∀ (s : Shared) (H : Hp) (C : Addr) (cl : List (Str × Addr)) (fp : List Addr), PTs (X.blk s H scope (compEnvC scope cl C X.env) fp) ifs1 (tB X.K X.mg W0 tt1))
    (he : ∀ (s : Shared) (H : Hp) (C : Addr) (cl : List (Str × Addr)) (fp : List Addr), PE (X.blk s H scope (compEnvC scope cl C X.env) fp) elt (tD X.K X.mg W0 te))
    (hio : i ∉ ios := by decide) (hy : X.N[i]? = some y := by rfl) (hyl : X.env.scope.names.lookup y = some .local := by rfl) (hsw : swapsWith (.ListComp elt [⟨tg, iter, ifs, 0⟩, ⟨tg1, iter1, ifs1, 0⟩] scope pos) (some (.Name y py)) spos.line X.env = pure true := by rfl)
    (hsub : ∀ i ∈ is, i ∈ own.map (·.2) := by decide) (hsub1 : ∀ i ∈ is1, i ∈ vs1 := by decide) (hv : ∀ i ∈ vs1, i ∈ own.map (·.2) := by decide) (hs : ∀ x, foldedSetIterable iter X.env x = pure x := by intro _; rfl) (hs1 : ∀ env x, foldedSetIterable iter1 env x = pure x := by intro _ _; rfl) :
    PS X (.Assign [.Name y py] (.ListComp elt [⟨tg, iter, ifs, 0⟩, ⟨tg1, iter1, ifs1, 0⟩] scope pos) spos) (tS X.K X.mg W ios (sSet i (mFrz (mLc2 (own.map (·.2)) vs1 src t tt src1 t1 tt1 te)))) :=
  ps_imp (ps_setLc2 hc hN hy hyl hsw hi ok hv hg ht hi1 hg1 ht1 he hs hs1) fun D σ H w => by
    have z := rd_frz (rd_set hio w)
    exact rd_lc2 hsub hsub1 hv z
end
end PD
/-! PD19: own exception classes told by name: raise, clauses. -/
namespace PD
open PySem L2
/-- an own class over ValueError without an __init__ -/
structure Exo (K : PySem.W.Frag) (mg : Str → Option Value) (x : Str) : Prop where
  ex : ∃ C, mg x = some (.ref C) ∧ PySem.W.excIn K C [.type "ValueError", .type "Exception", .type "BaseException", .type "object"] "ValueError.__new__" = true ∧ PySem.W.keepIn K (.ref C) = true ∧ PySem.W.subIn K (.ref C) (.type "BaseException") = some true ∧ PySem.W.typeIn K (.ref C) = some (.type "type")
/-- whether an error of class x is caught by a clause for y -/
structure Exm (K : PySem.W.Frag) (mg : Str → Option Value) (x y : Str) (b : Bool) : Prop where
  ex : ∃ C D, mg x = some (.ref C) ∧ mg y = some (.ref D) ∧ PySem.W.exmOne K (.ref C) (.ref D) = some b
def hitL : List (Str × Bool) → Str → Option Bool
  | [], _ => none
  | (x, b) :: r, n => if n = x then some b else hitL r n
inductive HitOk (K : PySem.W.Frag) (mg : Str → Option Value) (y : Str) : List (Str × Bool) → Prop
  | nil : HitOk K mg y []
  | cons {x : Str} {b : Bool} {l : List (Str × Bool)} (h : Exm K mg x y b) (t : HitOk K mg y l) : HitOk K mg y ((x, b) :: l)
theorem HitOk.hit {K : PySem.W.Frag} {mg : Str → Option Value} {y : Str} {D : Addr} (hD : mg y = some (.ref D)) : ∀ {l : List (Str × Bool)}, HitOk K mg y l → ∀ n b, hitL l n = some b → ∃ C, mg n = some (.ref C) ∧ PySem.W.exmOne K (.ref C) (.ref D) = some b
  | _, .nil, n, b, h => nomatch h
  | _, .cons (x := x) (b := b0) (l := l) hx t, n, b, h => by
    unfold hitL at h
    by_cases hn : n = x
    · rw [if_pos hn] at h
      cases h
      obtain ⟨C, D', h1, h2, h3⟩ := hx.ex
      rw [hD] at h2
      cases h2
      exact ⟨C, by rw [hn]; exact h1, h3⟩
    · rw [if_neg hn] at h
      exact HitOk.hit hD t n b h
section
variable {X : Cx} {W : WX} {ios : List Nat}
theorem d_raiseT {x m : Str} {j : Nat} {p p2 pos pos2 : Pos} (hx : Exo X.K X.mg x) (tk : Takes X W) (hc : X.calm = true := by rfl) (hg : Gl X x := by rfl) (hdb : (x == ("__debug__" : Str)) = false := by decide) :
    PS X (.Raise (some (.Call (.Name x p) [.Constant (.str m) j p2] [] pos)) none pos2) (tS X.K X.mg W ios (sRaise x)) := by
  obtain ⟨C, h1, h2, h3, h4, h5⟩ := hx.ex
  exact d_raise hc tk h2 h1 h3 h4 h5 hg hdb
/-- the clauses of a try -/
inductive Cls (X : Cx) (ios : List Nat) : List ExceptHandler → List ((Str → Option Bool) × F) → Prop
  | nil : Cls X ios [] []
  | cons {x : Str} {np pos' : Pos} {b₀ : Stmt} {suite : List Stmt} {hds : List ExceptHandler} {hl : List (Str × Bool)} {h : F} {l : List ((Str → Option Bool) × F)} (hx : Exo X.K X.mg x) (hh : HitOk X.K X.mg x hl)
      (hs : ∀ (a : Addr) (oe : Obj) (pn : List (Addr × Obj)), PSs (X.suite a ((a, oe) :: pn)) (b₀ :: suite) (tS X.K X.mg W0 ios h)) (t : Cls X ios hds l) (hg : Gl X x := by rfl) (hdb : (x == ("__debug__" : Str)) = false := by decide) :
      Cls X ios (.ExceptHandler (some (.Name x np)) none (b₀ :: suite) pos' :: hds) ((hitL hl, h) :: l)
theorem Cls.split : ∀ {hds : List ExceptHandler} {l : List ((Str → Option Bool) × F)}, Cls X ios hds l → ∃ r, HdsOk X hds r ∧ Cl X ios l r
  | _, _, .nil => ⟨[], .nil, .nil⟩
  | _, _, .cons hx hh hs t hg hdb => by
    obtain ⟨C, h1, _⟩ := hx.ex
    obtain ⟨r, h2, h3⟩ := t.split
    exact ⟨_, .cons ⟨hg, hdb, .inl h1⟩ (fun a oe cls d pn _ _ => hs a oe pn) h2, .cons (hh.hit h1) h3⟩
theorem d_tryT {body : List Stmt} {h₀ : ExceptHandler} {hds : List ExceptHandler} {l : List ((Str → Option Bool) × F)} {pos : Pos} {g : F} (tk : Takes X W)
    (hb : ∀ (W' : WX) (pn : List (Addr × Obj)) (xe : Value → Shared → Prop), Takes (X.tr pn xe) W' → PSs (X.tr pn xe) body (tS X.K X.mg W' ios g))
    (hh : Cls X ios (h₀ :: hds) l) (hs : X.stack = X.env :: X.outer := by rfl) (hf : X.env.frame = some X.env.locals := by rfl) (hne : l ≠ [] := by exact List.cons_ne_nil _ _) : PS X (.Try body (h₀ :: hds) [] [] pos) (tS X.K X.mg W ios (sTry l g)) := by
  obtain ⟨r, h1, h2⟩ := hh.split
  exact d_try hs hf tk (fun W' pn xe tk' _ => hb W' pn xe tk') h1 h2 hne
end
end PD
/-! PD20: what comprehensions with two fors make. -/
namespace PD
open PySem L2
theorem lc2L_map {α : Type} {vs vs1 : List Nat} {t t1 : Dt → Ev → Option Ev} {tt tt1 : M Bool} {src1 : M (List Dt)} {te : M Rv} {ρ : Ev} {f : α → Dt} {b : α → Bool} {z : α → List Dt} : ∀ (as : List α),
    (∀ a ∈ as, ∃ ρd, t (f a) ρ = some ρd ∧ tt ρd = some (.ok (b a) ρd) ∧ kills vs ρd = ρ ∧ (b a = true → ∃ es ρe ρf, src1 ρd = some (.ok es ρe) ∧ lcL vs1 t1 tt1 te es (kills vs1 ρe) = some (.ok (z a) ρf) ∧ kills vs ρf = ρ)) →
    lc2L vs vs1 t tt src1 t1 tt1 te (as.map f) ρ = some (.ok ((as.filter b).flatMap z) ρ)
  | [], _ => rfl
  | d :: ds, h => by
    obtain ⟨ρd, h1, h2, h4, h3⟩ := h d List.mem_cons_self
    have ih := lc2L_map ds fun e he => h e (List.mem_cons_of_mem _ he)
    rw [List.map_cons]
    unfold lc2L
    rw [h1]
    show (match tt ρd with | some (.ok true ρ2) => _ | some (.ok false ρ2) => _ | _ => _) = _
    rw [h2]
    cases hb : b d with
    | false =>
      show lc2L vs vs1 t tt src1 t1 tt1 te (ds.map f) (kills vs ρd) = _
      rw [h4, ih, List.filter_cons, hb]
      rfl
    | true =>
      obtain ⟨es, ρe, ρf, k1, k2, k3⟩ := h3 hb
      show (match src1 ρd with | some (.ok es ρ3) => _ | _ => _) = _
      rw [k1]
      show (match lcL vs1 t1 tt1 te es (kills vs1 ρe) with | some (.ok xs ρ4) => _ | _ => _) = _
      rw [k2]
      show (match lc2L vs vs1 t tt src1 t1 tt1 te (ds.map f) (kills vs ρf) with | some (.ok ys ρ5) => _ | _ => _) = _
      rw [k3, ih, List.filter_cons, hb]
      rfl
theorem mLc2_map {α : Type} {vs vs1 : List Nat} {src src1 : M (List Dt)} {t t1 : Dt → Ev → Option Ev} {tt tt1 : M Bool} {te : M Rv} {ρ ρ0 : Ev} (as : List α) (f : α → Dt) (b : α → Bool) (z : α → List Dt) (h1 : src ρ = some (.ok (as.map f) ρ0)) (h2 : noOw vs ρ0 = true)
    (hs : ∀ a ∈ as, ∃ ρd, t (f a) (kills vs ρ0) = some ρd ∧ tt ρd = some (.ok (b a) ρd) ∧ kills vs ρd = kills vs ρ0 ∧ (b a = true → ∃ es ρe ρf, src1 ρd = some (.ok es ρe) ∧ lcL vs1 t1 tt1 te es (kills vs1 ρe) = some (.ok (z a) ρf) ∧ kills vs ρf = kills vs ρ0))
    (hl : ((as.filter b).flatMap z).length ≤ sizeLine) :
    mLc2 vs vs1 src t tt src1 t1 tt1 te ρ = some (.ok ((as.filter b).flatMap z) (restore vs ρ0 (kills vs ρ0))) := by
  unfold mLc2 bd
  rw [h1]
  show (match noOw vs ρ0 with | false => _ | true => _) = _
  rw [h2]
  show (match lc2L vs vs1 t tt src1 t1 tt1 te (as.map f) (kills vs ρ0) with | some (.ok ys ρ1) => _ | _ => _) = _
  rw [lc2L_map as hs]
  show (match fits ((as.filter b).flatMap z).length with | some _ => _ | none => _) = _
  cases hf : fits ((as.filter b).flatMap z).length with
  | some u => rfl
  | none =>
    exfalso
    unfold fits at hf
    rw [if_pos hl] at hf
    cases hf
/-! ### x += e, x -= e of ints -/
def gAddI := gI yes2 fun i j => .int (i + j)
theorem pur_ipAdd {K : PySem.W.Frag} : Pur2 K (ipI fun i j => i + j) gAddI := by
  intro S H x y dx dy dz Q sb tx ty e q
  obtain ⟨i, j, rfl, rfl, _, rfl⟩ := gI_some e
  exact ⟨i, j, tr_int tx, tr_int ty, q _ S H (Grow.rfl' sb) (.int _)⟩
theorem pur_ipSub {K : PySem.W.Frag} : Pur2 K (ipI fun i j => i - j) gSub := by
  intro S H x y dx dy dz Q sb tx ty e q
  obtain ⟨i, j, rfl, rfl, _, rfl⟩ := gI_some e
  exact ⟨i, j, tr_int tx, tr_int ty, q _ S H (Grow.rfl' sb) (.int _)⟩
@[simp] theorem gAddI_i (i j : Int) : gAddI (.int i) (.int j) = some (.int (i + j)) := rfl
end PD
/-! PD21: sorted(set(xs)), xs a list of ints. -/
namespace PD
open PySem PySem.Spec PyProof.Rows L2
/-- a set that was made just now -/
abbrev mtS (w : World) : Obj := { cls := .type "set", dict := none, data := .set #[] 0 (.fresh 0 0 (!w.params.followText "set-order")) }
/-- what filling ends in -/
def Filled (w : World) (s : Shared) (ns : List Int) (s2 : Shared) : Prop := ∃ h' tk c, s2 = { s with heap := h', toks := tk } ∧ SetR w h' s.heap.objs.size (fun j => decide (j ∈ ns)) c ∧ c ≤ ns.length ∧ ∀ b o, s.heap.get? b = some o → h'.get? b = some o
section
variable {P : Program} {w : World} {A : Around} {E : Value → Shared → Prop} {s : Shared}
theorem fill_list {l : Addr} {its : Array Value} {ns : List Int} (hh : A.handled = none) (hl : s.heap.IsList l its) (hit : IntsAre its.toList ns) (hb : ns.length + 1 < scanBound) :
    codeAny (model P w) A (.call (.builtin "set.__init__") ⟨[.ref s.heap.objs.size, .ref l], []⟩) (wants (fun r s2 => r = Value.none ∧ Filled w s ns s2) E) { s with heap := s.heap.push (mtS w) } := by
  have hz : its.size = ns.length := by rw [← IntsAre.length hit, Array.length_toList]
  have hS : (s.heap.push (mtS w)).get? s.heap.objs.size = some (mtS w) := Heap.get?_push_size _ rfl
  obtain ⟨⟨oc, od, oa, os⟩, hol, hcl, nl, hdl⟩ := hl
  simp only at hcl hdl
  subst hcl; subst hdl
  have f1 := Heap.get?_push_of_some (mtS w) hol
  have f2 := F.sub_list_set
  have f3 := F.sub_list_frozenset
  have f4 : (Value.type "list" == Value.type "dict") = false := by decide
  have hl1 : (s.heap.push (mtS w)).IsList l its := ⟨_, f1, rfl, nl, rfl⟩
  have hlS : l < s.heap.objs.size := Heap.lt_size hol
  have hz1 : (s.heap.push (mtS w)).objs.size = s.heap.objs.size + 1 := Heap.size_push ..
  have hT : Shared.TypeIs { s with heap := s.heap.push (mtS w) } (.ref s.heap.objs.size) "set" := ⟨_, hS, rfl⟩
  have hI : l ≠ (s.heap.push (mtS w)).objs.size := by rw [hz1]; exact Nat.ne_of_lt (Nat.lt_succ_of_lt hlS)
  have hSf : s.heap.objs.size ∉ [(s.heap.push (mtS w)).objs.size, l] := by
    rw [hz1]
    simp only [List.mem_cons, List.not_mem_nil, or_false, not_or]
    exact ⟨Nat.ne_of_lt (Nat.lt_succ_self _), Nat.ne_of_gt hlS⟩
  refine codeAny_call_builtin F.called_set.init.plain F.entry_set_init (check_set_init_1 hT ?_)
  unfold Builtin.«set.__init__» noKeywords Builtin.Frozenset.updateFrom
  generalize hPI : pyIter = PI
  wp_walk
  subst hPI
  refine wpAny_pyIter_list hl1 (wpAny_bind (wpAny_runValue ?_))
  refine set_update_ints ((Walks.list (by simp [hh]) _ l hI its).toS) s.heap.objs.size hSf ns hz hb (fun i v hv => ?_) its.size 0 _ (by omega) (Nat.zero_le _) ⟨⟨_, Heap.get?_push_size _ rfl, rfl, rfl⟩, hl1.push _⟩ ⟨0, Nat.le_refl 0, setR_new_at (Heap.get?_push_of_some _ hS)⟩ fun s' c' hm hc' hS' => ?_
  · have hi : i < ns.length := by rw [← hz]; exact (Array.getElem?_eq_some_iff.mp hv).1
    obtain ⟨t, e⟩ := IntsAre.int_at hit i v (by rw [Array.getElem?_toList]; exact hv)
    exact ⟨ns[i], t, List.getElem?_eq_getElem hi, by rw [e, List.getD_eq_getElem?_getD, List.getElem?_eq_getElem hi]; rfl⟩
  · obtain ⟨h', g2, d', tk', os'⟩ := s'
    cases hm.gens; cases hm.drawn; cases hm.os
    show wpAny _ _ _ _ _ _
    refine wpAny_pure ?_
    show wpAny _ _ (ret Value.none) _ _ _
    rw [hz] at hc'
    refine wpAny_pure ⟨rfl, h', tk', c', rfl, hS', hc', fun b o e => ?_⟩
    have hb0 := Heap.lt_size e
    exact hm.heap b o (by simp only [List.mem_cons, List.not_mem_nil, or_false, not_or]; exact ⟨Nat.ne_of_lt hb0, by rw [hz1]; exact Nat.ne_of_lt (Nat.lt_succ_of_lt hb0)⟩) (Heap.get?_push_of_some _ (Heap.get?_push_of_some _ e))
/-- set(xs) -/
theorem call_set_ints {l : Addr} {its : Array Value} {ns : List Int} {Q : Value → Shared → Prop} (hh : A.handled = none) (hl : s.heap.IsList l its) (hit : IntsAre its.toList ns) (hb : ns.length + 1 < scanBound)
    (h : ∀ s2, Filled w s ns s2 → Q (.ref s.heap.objs.size) s2) : wpAny (model P w) A (call (.type "set") [.ref l]) Q E s := by
  obtain ⟨c, tl, g1⟩ := F.called_set.mro
  have g2 := F.called_set.made
  have g3 := F.called_set.sub
  have g4 := F.called_set.notType
  have g5 := F.called_set.canCreate
  have g6 := F.typeCall_set_1 (.ref l)
  refine wpAny_call (codeAny_of_tree ?_)
  show wpAny _ _ (callAny (.type "set") _) _ _ _
  refine wpAny_pure ⟨Code.quiet_builtin _ (by decide +kernel), codeAny_builtin F.entry_type_call ?_⟩
  rw [Around.under_plain (weight_type_call_type "set" [.ref l] []) rfl]
  repeat (any_goals (first | assumption | wp_step))
  refine codeAny_mono (code_set_led1 (.ref l) (E := E) (Q₁ := fun x s1 => x = .ref s.heap.objs.size ∧ s1 = { s with heap := s.heap.push (mtS w) }) ⟨rfl, rfl⟩) fun r s1 hr => ?_
  rcases r with e | f
  · exact hr
  · cases f with
    | ret x =>
      obtain ⟨rfl, rfl⟩ := hr
      have hS : (s.heap.push (mtS w)).get? s.heap.objs.size = some (mtS w) := Heap.get?_push_size _ rfl
      have hT : Shared.TypeIs { s with heap := s.heap.push (mtS w) } (.ref s.heap.objs.size) "set" := ⟨_, hS, rfl⟩
      have k1 := F.called_set.init.lookup
      have k2 := F.called_set.init.bind (.ref s.heap.objs.size)
      repeat (any_goals (first | assumption | wp_step))
      refine codeAny_mono (fill_list (E := E) (by simp [hh]) hl hit hb) fun r2 s2 hr2 => ?_
      rcases r2 with e | f2
      · exact hr2
      · cases f2 with
        | ret r =>
          obtain ⟨rfl, hr3⟩ := hr2
          repeat (any_goals (first | assumption | wp_step))
          exact h _ hr3
        | _ => exact hr2.elim
    | _ => exact hr.elim
end
end PD
/-! PD22: sorted(set(e)), e a list of ints, fewer than 64. -/
namespace PD
open PySem L2
def tSortSetD (K : PySem.W.Frag) (ta : TE) : TE := fun σ H Q => ta σ H fun x H1 => ∃ (l : Addr) (ns : List Int), x = .ref l ∧ SqL K H1 l (ns.map V.int) ∧ ns.length < 64 ∧
  ∀ (ms : List Int) (p : Addr), ms.Pairwise (· < ·) → (∀ k : Int, k ∈ ms ↔ k ∈ ns) → H1 p = none → Q (.ref p) (upd H1 p (.lst (ms.map V.int)))
section
variable {X : Cx} {W : WX} {a : Expr} {m : M Rv} {p p2 q pos : Pos}
theorem pe_sortSetD {ta : TE} (hg : Gl X "sorted") (hm : X.mg "sorted" = none) (hg2 : Gl X "set") (hm2 : X.mg "set" = none) (ha : PE X a ta) (hc : X.calm = true)
    (na : starEach [a] X.env = (false, eval a X.env) :: starEach [] X.env := by rfl) : PE X (.Call (.Name "sorted" p) [.Call (.Name "set" p2) [a] [] q] [] pos) (tSortSetD X.K ta) := by
  refine ⟨fun pins s σ H Q I h => ?_⟩
  refine PyProof.Rows.Call_ (ld_blt I hg hm PyProof.Rows.boot_sorted ?_)
  refine PyProof.Rows.callWith_builtin1 (PyProof.Rows.args_cons ?_ rfl) rfl rfl
  refine PyProof.Rows.Call_ (ld_blt I hg2 hm2 PyProof.Rows.boot_set ?_)
  refine PyProof.Rows.callWith_type1 (PyProof.Rows.args_cons (thn (ha.run pins s σ H _ I h) fun v s1 ⟨x, H1, I1, r1, q1⟩ => PyProof.Rows.args_nil ?_) na) na rfl
  obtain ⟨l, ns, rfl, hq, hl, q1⟩ := q1
  cases r1
  obtain ⟨its, r, pl, hz⟩ := I1.list hq
  refine call_set_ints (I1.ok.hd hc) pl.isList (ns := ns) (by simpa using RZ.intsAre_vals r) (by unfold scanBound; omega) fun s2 ⟨h', tk, c, e2, R, hcn, kp⟩ => ?_
  subst e2
  refine PyProof.Rows.args_nil ?_
  have I2 : Inv X pins σ H1 { s1 with heap := h', toks := tk } := I1.kept kp
  have R2 : SetR X.w ({ s1 with heap := h', toks := tk } : Shared).heap s1.heap.objs.size (fun j => decide (j ∈ ns)) c := R
  generalize ({ s1 with heap := h', toks := tk } : Shared) = s3 at I2 R2 ⊢
  refine sorted_set R2 (I2.ok.hd hc) (by omega) fun s' p out c ms k g o hp hg hi hs hm hl => ?_
  have hlen : (ms.map V.int).length ≤ sizeLine := by rw [List.length_map, hl, sizeLine_eq]; omega
  have hn : H1 p = none := I2.hok.fresh hp
  have J : Inv X pins σ (upd H1 p (.lst (ms.map V.int))) { s3 with heap := s'.heap, gens := s'.gens, drawn := s'.drawn, toks := s'.toks } :=
    I2.call (ch := []) (Un.laid k hp hn) (I2.hok.laid k hp ⟨hlen, out.toList, c, vals_of_ints hi, hg⟩) (by rw [g]; exact I2.bare) (fun _ z => nomatch z)
  have e : s' = { s3 with heap := s'.heap, gens := s'.gens, drawn := s'.drawn, toks := s'.toks } := by
    obtain ⟨b1, b2, b3, b4, b5⟩ := s'
    obtain ⟨a1, a2, a3, a4, a5⟩ := s3
    cases o
    rfl
  rw [e]
  exact ⟨.ref p, _, J, rfl, q1 ms p hs (fun k => by rw [hm k, decide_eq_true_eq]) hn⟩
end
end PD
/-! PD23: the ascending list of the members. -/
namespace PD
open PySem L2
def insI (k : Int) : List Int → List Int
  | [] => [k]
  | x :: l => if k < x then k :: x :: l else if k = x then x :: l else x :: insI k l
/-- each number once, ascending -/
def ascI : List Int → List Int
  | [] => []
  | k :: l => insI k (ascI l)
theorem mem_insI {k j : Int} : ∀ {l : List Int}, j ∈ insI k l ↔ j = k ∨ j ∈ l
  | [] => by simp [insI]
  | x :: l => by
    unfold insI
    by_cases h1 : k < x
    · rw [if_pos h1]; simp
    · rw [if_neg h1]
      by_cases h2 : k = x
      · rw [if_pos h2]; subst h2; simp
      · rw [if_neg h2, List.mem_cons, mem_insI (l := l), List.mem_cons]
        constructor
        · rintro (h | h | h)
          · exact .inr (.inl h)
          · exact .inl h
          · exact .inr (.inr h)
        · rintro (h | h | h)
          · exact .inr (.inl h)
          · exact .inl h
          · exact .inr (.inr h)
theorem asc_insI {k : Int} : ∀ {l : List Int}, l.Pairwise (· < ·) → (insI k l).Pairwise (· < ·)
  | [], _ => by simp [insI]
  | x :: l, h => by
    obtain ⟨h1, h2⟩ := List.pairwise_cons.mp h
    unfold insI
    by_cases g1 : k < x
    · rw [if_pos g1]
      refine List.pairwise_cons.mpr ⟨fun y hy => ?_, h⟩
      rcases List.mem_cons.mp hy with e | e
      · rw [e]; exact g1
      · exact Int.lt_trans g1 (h1 y e)
    · rw [if_neg g1]
      by_cases g2 : k = x
      · rw [if_pos g2]; exact h
      · rw [if_neg g2]
        refine List.pairwise_cons.mpr ⟨fun y hy => ?_, asc_insI h2⟩
        rcases mem_insI.mp hy with e | e
        · rw [e]; omega
        · exact h1 y e
theorem mem_ascI {j : Int} : ∀ {l : List Int}, j ∈ ascI l ↔ j ∈ l
  | [] => by simp [ascI]
  | x :: l => by
    unfold ascI
    rw [mem_insI, mem_ascI (l := l), List.mem_cons]
theorem asc_ascI : ∀ l : List Int, (ascI l).Pairwise (· < ·)
  | [] => .nil
  | x :: l => asc_insI (asc_ascI l)
theorem asc_one : ∀ {l m : List Int}, l.Pairwise (· < ·) → m.Pairwise (· < ·) → (∀ k, k ∈ l ↔ k ∈ m) → l = m
  | [], [], _, _, _ => rfl
  | [], y :: m, _, _, h => absurd ((h y).mpr List.mem_cons_self) (by simp)
  | x :: l, [], _, _, h => absurd ((h x).mp List.mem_cons_self) (by simp)
  | x :: l, y :: m, h1, h2, h => by
    obtain ⟨a1, a2⟩ := List.pairwise_cons.mp h1
    obtain ⟨b1, b2⟩ := List.pairwise_cons.mp h2
    have e : x = y := by
      rcases List.mem_cons.mp ((h x).mp List.mem_cons_self) with e | e
      · exact e
      · rcases List.mem_cons.mp ((h y).mpr List.mem_cons_self) with e2 | e2
        · exact e2.symm
        · have := b1 x e
          have := a1 y e2
          omega
    subst e
    have t : l = m := asc_one a2 b2 fun k => by
      constructor
      · intro hk
        rcases List.mem_cons.mp ((h k).mp (List.mem_cons_of_mem _ hk)) with e | e
        · have := a1 k hk
          omega
        · exact e
      · intro hk
        rcases List.mem_cons.mp ((h k).mpr (List.mem_cons_of_mem _ hk)) with e | e
        · have := b1 k hk
          omega
        · exact e
    rw [t]
theorem asc_is {l m : List Int} (h : m.Pairwise (· < ·)) (e : ∀ k, k ∈ m ↔ k ∈ l) : m = ascI l := asc_one h (asc_ascI l) fun k => (e k).trans mem_ascI.symm
end PD
/-! PD24: sorted(set(e)) over data. -/
namespace PD
open PySem L2
def mOp1F (g : Dt → Option (List Dt)) (a : M Rv) : M (List Dt) := bd a fun r => bd (res r) fun x => opt (g x)
def gSortSet : Dt → Option (List Dt)
  | .list ds => match intsD ds with
    | some ns => if ns.length < 64 then some ((ascI ns).map .int) else none
    | none => none
  | _ => none
theorem dpa_of_ints {K : PySem.W.Frag} {S : Hp} : ∀ ns : List Int, DpAll K S (ns.map V.int) (ns.map .int)
  | [] => .nil
  | n :: ns => .cons (.int _) (dpa_of_ints ns)
section
variable {X : Cx} {W : WX} {a : Expr} {m : M Rv} {p p2 q pos : Pos}
theorem d_sortSet (hm : X.mg "sorted" = none) (hm2 : X.mg "set" = none) (ha : PE X a (tD X.K X.mg W m)) (hc : X.calm = true) (hg : Gl X "sorted" := by rfl) (hg2 : Gl X "set" := by rfl)
    (na : starEach [a] X.env = (false, eval a X.env) :: starEach [] X.env := by rfl) : PE X (.Call (.Name "sorted" p) [.Call (.Name "set" p2) [a] [] q] [] pos) (tN X.K X.mg W (mOp1F gSortSet m)) :=
  pe_imp (pe_sortSetD hg hm hg2 hm2 ha hc na) fun σ H Q h => by
    obtain ⟨G, S, ρ, o, R, e, q⟩ := h
    refine seqD R e (fun r1 ρ1 v1 S1 H1 _ e1 R1 s1 rv1 => ?_) fun c ρ' eo S' H' R' s' => by subst eo; exact q S' H' R' s'
    obtain ⟨x, t1, e3⟩ := res_ok R1 rv1 e1
    obtain ⟨z, e5, rfl⟩ := opt_in (β := Unit) e3
    unfold gSortSet at e5
    split at e5
    · split at e5
      · rename_i ns hns
        split at e5
        · rename_i hl
          cases e5
          obtain ⟨b, xs, rfl, h1, h2⟩ := tr_list R1.sub t1
          have h3 := dpa_ints h2 hns
          subst h3
          refine ⟨b, ns, rfl, h1, hl, fun ms p hs hk hn => ?_⟩
          have h4 := asc_is hs hk
          subst h4
          exact q (.ref p) S1 _ (R1.alloc hn _) s1 (R1.fresh hn (dpa_of_ints _))
        · cases e5
      · cases e5
    · cases e5
end
end PD
/-! PD25: places, texts cut, lists of ints: what the operators answer. -/
namespace PD
open PySem L2
theorem leI_is (a b : Int) : PySem.W.dataLe false id (.int a) (.int b) = decide (a ≤ b) := by
  show (!PySem.W.dataLt (.int b) (.int a)) = _
  rw [PySem.W.dataLt_int]
  by_cases h : a ≤ b
  · rw [decide_eq_true h, decide_eq_false (by omega)]; rfl
  · rw [decide_eq_false h, decide_eq_true (by omega)]; rfl
/-- a place as data -/
def pn (p : Nat) : Dt := .int (p : Int)
theorem pn_inj {a b : Nat} (h : pn a = pn b) : a = b := by
  unfold pn at h
  injection h with h
  omega
theorem sort_pn {ps : List Nat} (hl : ps.length ≤ 1000) : fSort [.list (ps.map pn)] = some ((ps.mergeSort fun a b => decide (a ≤ b)).map pn) := by
  have h : sortOk (ps.map pn) = true := by
    unfold sortOk
    have a1 : ((ps.map pn).all fun d => (ps.map pn).all fun e => PySem.W.alike d e) = true := List.all_eq_true.mpr fun d hd => List.all_eq_true.mpr fun e he => by
      obtain ⟨p, _, rfl⟩ := List.mem_map.mp hd
      obtain ⟨q, _, rfl⟩ := List.mem_map.mp he
      unfold pn
      simp [PySem.W.alike]
    have a2 : (ps.map pn).all noTup = true := List.all_eq_true.mpr fun d hd => by
      obtain ⟨p, _, rfl⟩ := List.mem_map.mp hd
      rfl
    have a3 : ((ps.map pn).all fun d => decide (d.depth ≤ 50)) = true := List.all_eq_true.mpr fun d hd => by
      obtain ⟨p, _, rfl⟩ := List.mem_map.mp hd
      unfold pn PyData.depth
      rfl
    rw [a1, a2, a3, decide_eq_true (by rw [List.length_map]; exact le_line (by omega))]
    simp
  show (if sortOk (ps.map pn) = true then some (srt (ps.map pn)) else none) = _
  rw [if_pos h]
  unfold srt
  refine congrArg some ?_
  exact (List.map_mergeSort (r := fun a b => decide (a ≤ b)) (s := PySem.W.dataLe false id) (f := pn) fun a _ b _ => by
    unfold pn
    rw [leI_is]
    by_cases h : a ≤ b
    · rw [decide_eq_true h, decide_eq_true (by omega)]
    · rw [decide_eq_false h, decide_eq_false (by omega)]).symm
/-- two ascending lists of the same members are one -/
theorem ascN_one : ∀ {l m : List Nat}, l.Pairwise (· < ·) → m.Pairwise (· < ·) → (∀ k, k ∈ l ↔ k ∈ m) → l = m
  | [], [], _, _, _ => rfl
  | [], y :: m, _, _, h => absurd ((h y).mpr List.mem_cons_self) (by simp)
  | x :: l, [], _, _, h => absurd ((h x).mp List.mem_cons_self) (by simp)
  | x :: l, y :: m, h1, h2, h => by
    obtain ⟨a1, a2⟩ := List.pairwise_cons.mp h1
    obtain ⟨b1, b2⟩ := List.pairwise_cons.mp h2
    have e : x = y := by
      rcases List.mem_cons.mp ((h x).mp List.mem_cons_self) with e | e
      · exact e
      · rcases List.mem_cons.mp ((h y).mpr List.mem_cons_self) with e2 | e2
        · exact e2.symm
        · have := b1 x e
          have := a1 y e2
          omega
    subst e
    have t : l = m := ascN_one a2 b2 fun k => by
      constructor
      · intro hk
        rcases List.mem_cons.mp ((h k).mp (List.mem_cons_of_mem _ hk)) with e | e
        · have := a1 k hk
          omega
        · exact e
      · intro hk
        rcases List.mem_cons.mp ((h k).mpr (List.mem_cons_of_mem _ hk)) with e | e
        · have := b1 k hk
          omega
        · exact e
    rw [t]
theorem asc_nd {l : List Nat} (h : l.Pairwise (· < ·)) : l.Nodup := h.imp fun h => Nat.ne_of_lt h
theorem asc_len' {ps : List Nat} {n : Nat} (h : ps.Nodup) (k : ∀ p ∈ ps, p ≤ n) : ps.length ≤ n + 1 := by
  have := nodup_le (bs := List.range (n + 1)) h fun a ha => List.mem_range.mpr (by have := k a ha; omega)
  rwa [List.length_range] at this
/-- sorted: the ascending list of what is once in a list -/
theorem sort_one {ps qs : List Nat} (hn : ps.Nodup) (hq : qs.Pairwise (· < ·)) (h : ∀ k, k ∈ qs ↔ k ∈ ps) : (ps.mergeSort fun a b => decide (a ≤ b)) = qs := by
  have p := List.mergeSort_perm ps (fun a b => decide (a ≤ b))
  refine ascN_one ?_ hq fun k => ?_
  · have s := List.pairwise_mergeSort (le := fun a b : Nat => decide (a ≤ b)) (fun a b c h1 h2 => by
      have h1 := of_decide_eq_true h1
      have h2 := of_decide_eq_true h2
      exact decide_eq_true (by omega)) (fun a b => by
      rw [Bool.or_eq_true, decide_eq_true_eq, decide_eq_true_eq]
      omega) ps
    have nd := p.nodup_iff.mpr hn
    exact (s.and nd).imp fun ⟨h1, h2⟩ => Nat.lt_of_le_of_ne (of_decide_eq_true h1) h2
  · rw [p.mem_iff, h]
theorem sort_asc {ps : List Nat} (h : ps.Pairwise (· < ·)) : (ps.mergeSort fun a b => decide (a ≤ b)) = ps := sort_one (asc_nd h) h fun _ => Iff.rfl
theorem eqv_pn (a b : Nat) : PyData.eqv (pn a) (pn b) = decide (a = b) := by
  unfold pn PyData.eqv
  by_cases h : a = b
  · subst h; simp
  · rw [decide_eq_false h, beq_eq_false_iff_ne]; omega
theorem gInB_pn (p : Nat) (ps : List Nat) : gInB (pn p) (.list (ps.map pn)) = some (decide (p ∈ ps)) := by
  have h1 : (ps.map pn).all flatD = true := by
    rw [List.all_map]
    exact List.all_eq_true.mpr fun _ _ => rfl
  show (if (flatD (pn p) && (ps.map pn).all flatD) = true then some ((ps.map pn).any fun z => PyData.eqv z (pn p)) else _) = _
  rw [if_pos (by rw [h1]; rfl), List.any_map]
  refine congrArg some ?_
  rw [Bool.eq_iff_iff, List.any_eq_true, decide_eq_true_eq]
  constructor
  · rintro ⟨k, hk, e⟩
    have e' : PyData.eqv (pn k) (pn p) = true := e
    rw [eqv_pn, decide_eq_true_eq] at e'
    rw [← e']; exact hk
  · intro h
    refine ⟨p, h, ?_⟩
    show PyData.eqv (pn p) (pn p) = true
    rw [eqv_pn]
    simp
theorem gIn_pn (p : Nat) (ps : List Nat) : gIn (pn p) (.list (ps.map pn)) = some (.bool (decide (p ∈ ps))) := by
  unfold gIn
  rw [gInB_pn]
  rfl
theorem gNotIn_pn (p : Nat) (ps : List Nat) : gNotIn (pn p) (.list (ps.map pn)) = some (.bool (!decide (p ∈ ps))) := by
  unfold gNotIn
  rw [gInB_pn]
  rfl
/-! ### lists that are equal -/
theorem tame_lstI {xs : List Dt} (h1 : xs.length ≤ 1000) (h2 : ∀ x ∈ xs, tame x = true) : tame (.list xs) = true := by
  unfold tame
  rw [decide_eq_true h1, tameL_of h2]
  rfl
theorem lay_shaped {d : Dt} (h : d.canLay0 = true) (hd : d.depth ≤ 64) : SeqAt.shaped d = true := by
  unfold SeqAt.shaped
  rw [h, decide_eq_true hd]
  rfl
theorem lay_ints : ∀ (ns : List Int), PyData.canLayAll0 (ns.map .int) = true
  | [] => by rw [List.map_nil]; unfold PyData.canLayAll0; rfl
  | n :: ns => by
    rw [List.map_cons]
    unfold PyData.canLayAll0
    rw [lay_ints ns]
    unfold PyData.canLay0
    rfl
theorem depth_ints : ∀ (ns : List Int), PyData.depthAll (ns.map .int) = 0
  | [] => by rw [List.map_nil]; unfold PyData.depthAll; rfl
  | n :: ns => by
    rw [List.map_cons]
    unfold PyData.depthAll
    rw [depth_ints ns]
    unfold PyData.depth
    rfl
theorem shaped_ints (ns : List Int) : SeqAt.shaped (.list (ns.map .int)) = true := lay_shaped (by unfold PyData.canLay0; exact lay_ints ns) (by unfold PyData.depth; rw [depth_ints]; omega)
theorem eqvAll_ints : ∀ (ns ms : List Int), PyData.eqvAll (ns.map .int) (ms.map .int) = decide (ns = ms)
  | [], [] => by rw [List.map_nil]; unfold PyData.eqvAll; rfl
  | [], m :: ms => by rw [List.map_nil, List.map_cons]; unfold PyData.eqvAll; simp
  | n :: ns, [] => by rw [List.map_nil, List.map_cons]; unfold PyData.eqvAll; simp
  | n :: ns, m :: ms => by
    rw [List.map_cons, List.map_cons]
    unfold PyData.eqvAll
    rw [eqvAll_ints ns ms]
    unfold PyData.eqv
    by_cases h : n = m
    · subst h
      by_cases h2 : ns = ms <;> simp [h2]
    · simp [h]
theorem eqv_ints (ns ms : List Int) : PyData.eqv (.list (ns.map .int)) (.list (ms.map .int)) = decide (ns = ms) := by
  unfold PyData.eqv
  exact eqvAll_ints ns ms
theorem gEqB_sh {x y : Dt} (h1 : SeqAt.shaped x = true) (h2 : SeqAt.shaped y = true) {xs ys : List Dt} (hx : x = .list xs) (hy : y = .list ys) : gEqB x y = some (PyData.eqv x y) := by
  subst hx hy
  show (if (SeqAt.shaped (.list xs) && SeqAt.shaped (.list ys)) = true then some (PyData.eqv (.list xs) (.list ys)) else none) = _
  rw [h1, h2]
  rfl
theorem gEqB_ints (ns ms : List Int) : gEqB (.list (ns.map .int)) (.list (ms.map .int)) = some (decide (ns = ms)) := by
  rw [gEqB_sh (shaped_ints _) (shaped_ints _) rfl rfl, eqv_ints]
theorem gEq_ints (ns ms : List Int) : gEq (.list (ns.map .int)) (.list (ms.map .int)) = some (.bool (decide (ns = ms))) := by
  unfold gEq; rw [gEqB_ints]; rfl
theorem gNe_ints (ns ms : List Int) : gNe (.list (ns.map .int)) (.list (ms.map .int)) = some (.bool (!decide (ns = ms))) := by
  unfold gNe; rw [gEqB_ints]; rfl
theorem pn_ints (ps : List Nat) : ps.map pn = (ps.map fun p : Nat => (p : Int)).map .int := by rw [List.map_map]; rfl
theorem gEq_pn_nil (ps : List Nat) : gEq (.list (ps.map pn)) (.list []) = some (.bool (decide (ps = []))) := by
  have h := gEq_ints (ps.map fun p : Nat => (p : Int)) []
  rw [← pn_ints] at h
  rw [show (.list [] : Dt) = .list (List.map PyData.int []) from rfl, h]
  cases ps <;> simp
theorem gNe_pn_nil (ps : List Nat) : gNe (.list (ps.map pn)) (.list []) = some (.bool (!decide (ps = []))) := by
  have h := gNe_ints (ps.map fun p : Nat => (p : Int)) []
  rw [← pn_ints] at h
  rw [show (.list [] : Dt) = .list (List.map PyData.int []) from rfl, h]
  cases ps <;> simp
theorem gNe_pn_self (ps : List Nat) : gNe (.list (ps.map pn)) (.list (ps.map pn)) = some (.bool false) := by
  have h := gNe_ints (ps.map fun p : Nat => (p : Int)) (ps.map fun p : Nat => (p : Int))
  rw [← pn_ints] at h
  rw [h]
  simp
theorem gNe_one_nil {α : Type} (as : List α) : gNe (.list (as.map fun _ => .int 1)) (.list []) = some (.bool (!decide (as = []))) := by
  have h := gNe_ints (as.map fun _ => 1) []
  rw [List.map_map] at h
  rw [show (.list [] : Dt) = .list (List.map PyData.int []) from rfl, show (as.map fun _ => PyData.int 1) = as.map (PyData.int ∘ fun _ => 1) from rfl, h]
  cases as <;> simp
theorem gEq_nilTu {xs : List Dt} (h : tame (.tuple xs) = true) (hd : (PyData.tuple xs).depth ≤ 64) : gEq (.tuple xs) (.tuple []) = some (.bool (decide (xs = []))) := by
  have h1 := tame_shaped h hd
  have h2 : SeqAt.shaped (.tuple []) = true := by decide +kernel
  have h3 : PyData.eqv (.tuple xs) (.tuple []) = decide (xs = []) := by
    unfold PyData.eqv
    cases xs with
    | nil => unfold PyData.eqvAll; simp
    | cons x xs => unfold PyData.eqvAll; simp
  show (if (SeqAt.shaped (.tuple xs) && SeqAt.shaped (.tuple [])) = true then some (PyData.eqv (.tuple xs) (.tuple [])) else none).map PyData.bool = _
  rw [h1, h2, h3]
  rfl
/-! ### sorted(set(..)) of places -/
theorem intsD_all (ns : List Int) : intsD (ns.map .int) = some ns := by
  induction ns with
  | nil => rfl
  | cons n ns ih =>
    show (intsD (ns.map .int)).map (n :: ·) = _
    rw [ih]
    rfl
theorem gSortSet_pn {ps qs : List Nat} (hl : ps.length < 64) (hq : qs.Pairwise (· < ·)) (hm : ∀ k, k ∈ qs ↔ k ∈ ps) : gSortSet (.list (ps.map pn)) = some (qs.map pn) := by
  have h1 : gSortSet (.list (ps.map pn)) = some ((ascI (ps.map fun p : Nat => (p : Int))).map .int) := by
    rw [pn_ints]
    show (match intsD _ with | some ns => _ | none => none) = _
    rw [intsD_all]
    exact if_pos (by rw [List.length_map]; exact hl)
  have h2 : (qs.map fun p : Nat => (p : Int)) = ascI (ps.map fun p : Nat => (p : Int)) := asc_is (by
    rw [List.pairwise_map]
    exact hq.imp fun h => by omega) fun k => by
    rw [List.mem_map, List.mem_map]
    constructor
    · rintro ⟨a, ha, rfl⟩; exact ⟨a, (hm a).mp ha, rfl⟩
    · rintro ⟨a, ha, rfl⟩; exact ⟨a, (hm a).mpr ha, rfl⟩
  rw [h1, ← h2, ← pn_ints]
/-! ### texts -/
theorem atI_nat {α : Type} {xs : List α} {p : Nat} (h : p < xs.length) : atI xs (p : Int) = some xs[p] := by
  unfold atI ixN
  rw [if_pos (by omega), if_pos (by omega)]
  show xs[(p : Int).toNat]? = _
  rw [Int.toNat_natCast]
  exact List.getElem?_eq_getElem h
theorem gIx_tx {T : List Nat} {p : Nat} (h : p < T.length) (hT : T.length ≤ 1000) : gIx (.str (tx T)) (.int (p : Int)) = some (sgD T[p]) := by
  show (if (tx T).length ≤ sizeLine then (atI (tx T).cps.toList (p : Int)).map fun c => PyData.str ⟨#[c]⟩ else none) = _
  rw [if_pos (by rw [tx_len]; exact le_line (by omega)), tx_cps, atI_nat h]
  rfl
theorem gLen_tx {T : List Nat} (hT : T.length ≤ 1000) : gLen [.str (tx T)] = some (.int T.length) := gLen_s _ (by rw [tx_len]; exact le_line (by omega))
theorem gSl_tx {T : List Nat} (hT : T.length ≤ 1000) (lo hi : Option Int) : gSlice (.str (tx T)) lo hi = some (.str (tx ((T.drop (HT.sIx T.length 0 lo)).take (HT.sIx T.length T.length hi - HT.sIx T.length 0 lo)))) := by
  show (if (tx T).length ≤ sizeLine then some (PyData.str (cutS (tx T) lo hi)) else none) = _
  rw [if_pos (by rw [tx_len]; exact le_line (by omega))]
  rfl
theorem gSl_take {T : List Nat} (hT : T.length ≤ 1000) {k : Nat} (hk : k ≤ T.length) : gSlice (.str (tx T)) none (some (k : Int)) = some (.str (tx (T.take k))) := by
  rw [gSl_tx hT, HT.sIx_none, HT.sIx_nat, Nat.min_eq_left hk]
  rfl
theorem gSl_drop {T : List Nat} (hT : T.length ≤ 1000) {k : Nat} (hk : k ≤ T.length) : gSlice (.str (tx T)) (some (k : Int)) none = some (.str (tx (T.drop k))) := by
  rw [gSl_tx hT, HT.sIx_none, HT.sIx_nat, Nat.min_eq_left hk, List.take_of_length_le (by rw [List.length_drop]; omega)]
theorem gSl_seg {T : List Nat} (hT : T.length ≤ 1000) {p e : Nat} (hp : p ≤ T.length) (he : e ≤ T.length) : gSlice (.str (tx T)) (some (p : Int)) (some (e : Int)) = some (.str (tx ((T.drop p).take (e - p)))) := by
  rw [gSl_tx hT, HT.sIx_nat, HT.sIx_nat, Nat.min_eq_left hp, Nat.min_eq_left he]
theorem gSl_tail (x : Dt) (xs : List Dt) : gSlice (.tuple (x :: xs)) (some 1) none = some (.tuple xs) := by
  have h : cutD (x :: xs) (some 1) none = xs := by
    unfold cutD
    rw [show (some 1 : Option Int) = some ((1 : Nat) : Int) from rfl, HT.sIx_nat, HT.sIx_none, List.length_cons, Nat.min_eq_left (by omega)]
    show (xs.take (xs.length + 1 - 1)) = xs
    exact List.take_of_length_le (by omega)
  show some (PyData.tuple (cutD (x :: xs) (some 1) none)) = _
  rw [h]
/-! ### while -/
theorem sWhile_stop {kl : List Nat} {c : M Bool} {b : F} {n : Nat} {ρ ρ1 : Ev} (h : c ρ = some (.ok false ρ1)) : sWhile kl c b (n + 1) ρ = some (.nx ρ1) := by
  unfold sWhile
  rw [h]
  rfl
theorem sWhile_step {kl : List Nat} {c : M Bool} {b : F} {n : Nat} {ρ ρ1 ρ2 : Ev} (h : c ρ = some (.ok true ρ1)) (h2 : b ρ1 = some (.nx ρ2)) : sWhile kl c b (n + 1) ρ = sWhile kl c b n (kills kl ρ2) := by
  conv => lhs; unfold sWhile
  rw [h]
  show (match b ρ1 with | some (.nx ρ2) => _ | some (.ct ρ2) => _ | some (.bk ρ2) => _ | o => o) = _
  rw [h2]
/-! ### tries -/
@[simp] theorem ev_raiseM (c : Str) (ρ : Ev) : sRaise c ρ = some (.ex c ρ) := rfl
def yx (hs : List ((Str → Option Bool) × F)) : Option Fl → Option Fl
  | some (.ex c ρ') => pick hs c ρ'
  | o => o
@[simp] theorem yx_ex (hs : List ((Str → Option Bool) × F)) (c : Str) (ρ : Ev) : yx hs (some (.ex c ρ)) = pick hs c ρ := rfl
@[simp] theorem yx_rn (hs : List ((Str → Option Bool) × F)) (ds : List Dt) (ρ : Ev) : yx hs (some (.rn ds ρ)) = some (.rn ds ρ) := rfl
@[simp] theorem yx_rt (hs : List ((Str → Option Bool) × F)) (d : Dt) (ρ : Ev) : yx hs (some (.rt d ρ)) = some (.rt d ρ) := rfl
@[simp] theorem yx_nx (hs : List ((Str → Option Bool) × F)) (ρ : Ev) : yx hs (some (.nx ρ)) = some (.nx ρ) := rfl
@[simp] theorem ev_try (hs : List ((Str → Option Bool) × F)) (g : F) (ρ : Ev) : sTry hs g ρ = yx hs (g ρ) := by
  unfold sTry
  cases g ρ with
  | none => rfl
  | some f => cases f <;> rfl
/-! ### text * int -/
theorem foldl_app_size : ∀ (n : Nat) (x acc : Array Nat), ((List.replicate n x).foldl (· ++ ·) acc).size = acc.size + n * x.size
  | 0, x, acc => by simp
  | n + 1, x, acc => by
    rw [List.replicate_succ, List.foldl_cons, foldl_app_size n x (acc ++ x), Array.size_append, Nat.succ_mul]
    omega
theorem mul_len {z : Str} {n : Nat} : (Txt.mul z n).length = n * z.length := by
  unfold Txt.mul
  by_cases h1 : (n : Int) < 1
  · rw [if_pos h1]
    have : n = 0 := by omega
    subst this
    rw [Nat.zero_mul]
    rfl
  · rw [if_neg h1]
    by_cases h2 : ((n : Int) == 1 || z.length == 0) = true
    · rw [if_pos h2]
      rw [Bool.or_eq_true, beq_iff_eq, beq_iff_eq] at h2
      rcases h2 with h2 | h2
      · have : n = 1 := by omega
        subst this
        rw [Nat.one_mul]
      · rw [h2, Nat.mul_zero]
    · rw [if_neg h2]
      show ((List.replicate (n : Int).toNat z.cps).foldl (· ++ ·) #[]).size = _
      rw [foldl_app_size, Int.toNat_natCast, Array.size_empty, Nat.zero_add]
      rfl
theorem gMul_s {z : Str} {n : Int} (h0 : 0 ≤ n) (h1 : n ≤ 65536) (h2 : z.length ≤ 64) : gMulA (.str z) (.int n) = some (.str (Txt.mul z n)) := if_pos ⟨h0, h1, h2⟩
end PD
/-! PD26: comprehensions over a list of a slot's own. -/
namespace PD
open PySem L2
def lcO (vs : List Nat) (i0 : Nat) (t : Dt → Ev → Option Ev) (tt : M Bool) (te : M Rv) : Nat → Nat → M (List Dt)
  | 0, _ => fun _ => none
  | n + 1, k => fun ρ => match (ρ[i0]? : Option Sl) with
    | some (.ow ds) => match ds[k]? with
      | none => some (.ok [] ρ)
      | some d => match t d ρ with
        | none => none
        | some ρ1 => match tt ρ1 with
          | some (.ok true ρ2) => match te ρ2 with
            | some (.ok (.val y) ρ3) => match lcO vs i0 t tt te n (k + 1) (kills vs ρ3) with
              | some (.ok ys ρ4) => some (.ok (y :: ys) ρ4)
              | _ => none
            | _ => none
          | some (.ok false ρ2) => lcO vs i0 t tt te n (k + 1) (kills vs ρ2)
          | _ => none
    | _ => none
def mLcO (vs : List Nat) (i0 : Nat) (t : Dt → Ev → Option Ev) (tt : M Bool) (te : M Rv) : M (List Dt) := fun ρ0 => match (ρ0[i0]? : Option Sl) with
  | some (.ow ds) => match noOw vs ρ0 with
    | false => none
    | true => match lcO vs i0 t tt te (ds.length + 1) 0 (kills vs ρ0) with
      | some (.ok ys ρ1) => match fits ys.length with
        | some _ => some (.ok ys (restore vs ρ0 ρ1))
        | none => none
      | _ => none
  | _ => none
def tIOwn (K : PySem.W.Frag) (i0 : Nat) : TI := fun σ H R => ∃ a xs, σ[i0]? = some (some (.ref a)) ∧ SqL K H a xs ∧ R (Itl K a) H
theorem pi_own {X : Cx} {tg : Expr} {i0 : Nat} {y : Str} {py : Pos} (hN : X.N[i0]? = some y) (hv : Vis X.env.scope y) (hd : (y == ("__debug__" : Str)) = false) (hcd : (y == ("__classdict__" : Str)) = false) : PI X tg (.Name y py) (tIOwn X.K i0) := pi_imp (pi_any (pe_var hN hv hd hcd)) fun σ H R w => by
  obtain ⟨a, xs, h1, h2, h3⟩ := w
  exact ⟨.ref a, h1, .inl ⟨a, rfl, ⟨xs, h2⟩, h3⟩⟩
theorem rd_lcO {K : PySem.W.Frag} {mg : Str → Option Value} {W : WX} {vs is : List Nat} {i0 : Nat} {t : Dt → Ev → Option Ev} {tt : M Bool} {te : M Rv} (hsub : ∀ i ∈ is, i ∈ vs) {σ : St} {H : Hp} {Q : VK} (w : tN K mg W (mLcO vs i0 t tt te) σ H Q) :
    tLc (tIOwn K i0) (tG K is t) (tB K mg W0 tt) (tD K mg W0 te) vs σ H Q := by
  obtain ⟨G, S1, ρ1, o, R1, e, q⟩ := w
  unfold mLcO at e
  cases hρ : (ρ1[i0]? : Option Sl) with
  | none => rw [hρ] at e; cases e
  | some sl =>
    cases sl with
    | un => rw [hρ] at e; cases e
    | sh d => rw [hρ] at e; cases e
    | od d => rw [hρ] at e; cases e
    | ow ds0 =>
      rw [hρ] at e
      dsimp only at e
      obtain ⟨a, xs0, ea, q1, q2, q3, q4⟩ := R1.slot i0 _ hρ
      cases hno : noOw vs ρ1 with
      | false => rw [hno] at e; cases e
      | true =>
        rw [hno] at e
        dsimp only at e
        cases hl : lcO vs i0 t tt te (ds0.length + 1) 0 (kills vs ρ1) with
        | none => rw [hl] at e; cases e
        | some x =>
          cases x with
          | ex c ρ' => rw [hl] at e; cases e
          | ok ys ρf =>
            rw [hl] at e
            dsimp only at e
            cases hfit : fits ys.length with
            | none => rw [hfit] at e; cases e
            | some u =>
              rw [hfit] at e
              cases e
              refine ⟨a, xs0, ea, .inl (.inl q1), fun D hD => ?_⟩
              have hfr : ∀ i ∈ vs, Free G i := fun i hi => free_now R1 (noOw_ok hno hi)
              have hgD : G.H D = none := R1.gone hD
              have Rw : Rep K G S1 (upd H D (.lst [])) (wipe σ vs) (kills vs ρ1) := (R1.wiped hfr).alloc hD _
              refine ⟨fun i m H => LcI K G S1 (wipe σ vs) D (lcO vs i0 t tt te m i) ys ρf H,
                ⟨ds0.length + 1, S1, _, [], [], ys, Rw, Same.refl _, upd_same, .nil, R1.sub.free hD, un0_wipe (un0_new R1 hD), hl, rfl⟩, ?_⟩
              rintro i m H2 ⟨S2, ρ2, acc, va, rest, R2, s2, hDl, hacc, hSD, hun, hgo, happ⟩
              cases m with
              | zero => cases hgo
              | succ m =>
              unfold lcO at hgo
              cases hρ2 : (ρ2[i0]? : Option Sl) with
              | none => rw [hρ2] at hgo; cases hgo
              | some sl2 =>
              cases sl2 with
              | un => rw [hρ2] at hgo; cases hgo
              | sh d => rw [hρ2] at hgo; cases hgo
              | od d => rw [hρ2] at hgo; cases hgo
              | ow ds =>
              rw [hρ2] at hgo
              dsimp only at hgo
              obtain ⟨a2, xs2, ea2, p1, p2, p3, p4⟩ := R2.slot i0 _ hρ2
              have hni : i0 ∉ vs := fun z => by
                rw [wipe_get, if_pos z] at ea2
                cases q0 : σ[i0]? with
                | none => rw [q0] at ea2; cases ea2
                | some y => rw [q0] at ea2; cases ea2
              have haa : a2 = a := by
                rw [wipe_get, if_neg hni, ea] at ea2
                cases ea2
                rfl
              subst haa
              cases hdi : ds[i]? with
              | some di =>
                rw [hdi] at hgo
                dsimp only at hgo
                obtain ⟨vi, ev, hvi⟩ := dpa_some p2 hdi
                have go : (Itl K a2).go i H2 := ⟨xs2, vi, (.inl (.inl p1)), ev⟩
                refine .inr ⟨go, LcI K G S1 (wipe σ vs) D (lcO vs i0 t tt te m (i + 1)) ys ρf, fun H' z => ⟨m, Nat.lt_succ_self _, z⟩, fun x H3 y => ?_⟩
                have gr : Grow S2 H2 S2 H2 := Grow.rfl' R2.sub
                obtain ⟨rfl, y⟩ := y
                have hx : Dp K S2 x di := by
                  have e3 := y xs2 ((.inl (.inl p1)))
                  rw [ev] at e3
                  cases e3
                  exact hvi
                have S3e : S2 = S2 := rfl
                have R3 := R2.grow (Grow.rfl' R2.sub)
                have hD3 : H3 D = some (.lst va) := gr.h _ _ hDl
                have hS2 : S2 D = none := by
                  cases z : S2 D with
                  | none => rfl
                  | some u =>
                    rcases gr.new D u z with y | y
                    · rw [hSD] at y; cases y
                    · rw [hDl] at y; cases y
                cases q1 : t di ρ2 with
                | none => rw [q1] at hgo; cases hgo
                | some ρ3 =>
                  rw [q1] at hgo
                  refine ⟨entN S2 H3 (wipe σ vs) ρ2, S2, ρ2, di, ρ3, R3.again, hx, q1, fun σ' R4 off => ?_⟩
                  have hw : wipe σ' vs = wipe (wipe σ vs) vs := wipe_off off hsub
                  have hww : wipe (wipe σ vs) vs = wipe σ vs := by
                    apply List.ext_getElem?
                    intro j
                    rw [wipe_get, wipe_get]
                    by_cases hj : j ∈ vs
                    · rw [if_pos hj, if_pos hj]; cases σ[j]? <;> rfl
                    · rw [if_neg hj, if_neg hj]
                  refine ⟨hw.trans hww, ?_⟩
                  try dsimp only at hgo
                  cases q2 : tt ρ3 with
                  | none => rw [q2] at hgo; cases hgo
                  | some y2 =>
                    cases y2 with
                    | ex c ρ' => rw [q2] at hgo; cases hgo
                    | ok b ρ4 =>
                      refine ⟨_, S2, ρ3, _, R4, q2, fun S5 H5 R5 s5 => ?_⟩
                      rw [q2] at hgo
                      cases b with
                      | false =>
                        refine iteF ?_
                        obtain ⟨k1, k2, k3⟩ := R5.held hD3 hS2 hun
                        have R6 := (R3.backS R5).wiped (vs := vs) hfr
                        rw [hw, hww] at R6
                        refine ⟨S5, _, acc, va, rest, R6, (s2.trans gr.s).trans s5, k1, dpAll_mono (gr.s.trans s5) _ _ hacc, k2, ?_, hgo, happ⟩
                        have := un0_wipe (vs := vs) k3
                        rw [hw, hww] at this
                        exact this
                      | true =>
                        refine iteT ?_
                        try dsimp only at hgo
                        cases q3 : te ρ4 with
                        | none => rw [q3] at hgo; cases hgo
                        | some y3 =>
                          cases y3 with
                          | ex c ρ' => rw [q3] at hgo; cases hgo
                          | ok r ρ5 =>
                            rw [q3] at hgo
                            cases r with
                            | loc _ => cases hgo
                            | val yd =>
                              try dsimp only at hgo
                              cases q4 : lcO vs i0 t tt te m (i + 1) (kills vs ρ5) with
                              | none => rw [q4] at hgo; cases hgo
                              | some y4 =>
                                cases y4 with
                                | ex c ρ' => rw [q4] at hgo; cases hgo
                                | ok rest' ρ6 =>
                                  rw [q4] at hgo
                                  cases hgo
                                  refine ⟨_, S5, ρ4, _, R5, q3, fun v S7 H7 R7 s7 rv => ?_⟩
                                  obtain ⟨k1, k2, k3⟩ := R7.held hD3 hS2 hun
                                  have hrv : Dp K S7 v yd := rv
                                  have hlen : va.length < sizeLine := by
                                    have z1 := dpa_len hacc
                                    have z2 := fits_ok hfit
                                    rw [← happ, List.length_append, List.length_cons] at z2
                                    omega
                                  refine ⟨va, k1, hlen, ?_⟩
                                  have R8 := ((R3.backS R7).other k2 hgD k3 (.lst (va ++ [v]))).wiped (vs := vs) hfr
                                  rw [hw, hww] at R8
                                  refine ⟨S7, _, acc ++ [yd], va ++ [v], rest', R8, ((s2.trans gr.s).trans s5).trans s7, upd_same, dpa_snoc (dpAll_mono ((gr.s.trans s5).trans s7) _ _ hacc) hrv, k2, ?_, q4, by rw [← happ, List.append_assoc]; rfl⟩
                                  have := un0_wipe (vs := vs) k3
                                  rw [hw, hww] at this
                                  exact this
              | none =>
                rw [hdi] at hgo
                cases hgo
                rw [List.append_nil] at happ
                subst happ
                refine .inl ⟨⟨xs2, (.inl (.inl p1)), by rw [dpa_len p2]; exact List.getElem?_eq_none_iff.mp hdi⟩, ?_⟩
                refine q (.ref D) S2 H2 (R1.restored s2 hno R2) s2 ⟨D, va, rfl, hDl, hacc, hSD, hgD, fun j dj h1 h2 => ?_⟩
                rw [restore_get] at h1
                by_cases hj : j ∈ vs
                · rw [if_pos hj] at h1
                  have hlt0 : j < ρ1.length := by
                    by_cases hlt0 : j < ρ1.length
                    · exact hlt0
                    · exfalso
                      rw [List.getElem?_eq_none (by rw [R2.len, wipe_length, ← R1.len]; omega)] at h1
                      cases h1
                  have e0 : ρ1[j]? = some ρ1[j] := List.getElem?_eq_getElem hlt0
                  cases z : ρf[j]? with
                  | none => rw [z] at h1; cases h1
                  | some y =>
                    rw [z] at h1
                    have h1' : some (ρ1.getD j .un) = some (Sl.ow dj) := h1
                    rw [List.getD_eq_getElem?_getD, e0] at h1'
                    have h3 : ρ1[j] = Sl.ow dj := Option.some.inj h1'
                    rw [h3] at e0
                    exact noOw_ok hno hj dj e0
                · rw [if_neg hj] at h1
                  refine hun j (by rw [h1]; trivial) ?_
                  rw [wipe_get, if_neg hj]
                  exact h2
section
variable {X : Cx} {W : WX}
theorem d_lcO (i0 : Nat) {elt tg : Expr} {ifs : List Expr} {scope : Scope} {own : List (Str × Nat)} {pos : Pos} {y : Str} {py : Pos} {is : List Nat} {t : Dt → Ev → Option Ev} {tt : M Bool} {te : M Rv}
    (hc : X.calm = true) (hN : X.N.Nodup) (ok : BlkOk X.N X.env.scope scope own)
    (hg : ∀ (s : Shared) (H : Hp) (C : Addr) (cl : List (Str × Addr)) (fp : List Addr), PG (X.blk s H scope (compEnvC scope cl C X.env) fp) tg (tG X.K is t))
    (ht : ∀ (s : Shared) (H : Hp) (C : Addr) (cl : List (Str × Addr)) (fp : List Addr), PTs (X.blk s H scope (compEnvC scope cl C X.env) fp) ifs (tB X.K X.mg W0 tt))
    (he : ∀ (s : Shared) (H : Hp) (C : Addr) (cl : List (Str × Addr)) (fp : List Addr), PE (X.blk s H scope (compEnvC scope cl C X.env) fp) elt (tD X.K X.mg W0 te))
    (hsub : ∀ i ∈ is, i ∈ own.map (·.2) := by decide) (hs : ∀ x, foldedSetIterable (.Name y py) X.env x = pure x := by intro _; rfl) (hyN : X.N[i0]? = some y := by rfl) (hv : Vis X.env.scope y := by first | exact Or.inl rfl | exact Or.inr (Or.inl rfl) | exact Or.inr (Or.inr rfl)) (hd : (y == ("__debug__" : Str)) = false := by decide) (hcd : (y == ("__classdict__" : Str)) = false := by decide) :
    PE X (.ListComp elt [⟨tg, .Name y py, ifs, 0⟩] scope pos) (tN X.K X.mg W (mLcO (own.map (·.2)) i0 t tt te)) := by
  exact pe_imp (pe_lc hc hN (pi_own hyN hv hd hcd) ok hg ht he hs) fun σ H Q w => rd_lcO hsub w
end
theorem lcO_map {α : Type} {vs : List Nat} {i0 : Nat} {t : Dt → Ev → Option Ev} {tt : M Bool} {te : M Rv} {ρ : Ev} {f : α → Dt} {b : α → Bool} {y : α → Dt} : ∀ (as pre : List α) (k : Nat), k = pre.length → ρ[i0]? = some (.ow ((pre ++ as).map f)) →
    (∀ a ∈ as, ∃ ρd, t (f a) ρ = some ρd ∧ tt ρd = some (.ok (b a) ρd) ∧ (b a = true → te ρd = some (.ok (.val (y a)) ρd)) ∧ kills vs ρd = ρ) →
    lcO vs i0 t tt te (as.length + 1) k ρ = some (.ok ((as.filter b).map y) ρ)
  | [], pre, k, hk, hρ, _ => by
    unfold lcO
    rw [hρ]
    dsimp only
    rw [List.append_nil, List.getElem?_eq_none (by rw [List.length_map]; omega)]
    rfl
  | a :: as, pre, k, hk, hρ, h => by
    obtain ⟨ρd, h1, h2, h3, h4⟩ := h a List.mem_cons_self
    have ih := lcO_map (f := f) (b := b) (y := y) as (pre ++ [a]) (k + 1) (by rw [List.length_append, hk]; rfl) (by rw [hρ, List.append_assoc]; rfl) fun e he => h e (List.mem_cons_of_mem _ he)
    rw [List.length_cons]
    unfold lcO
    rw [hρ]
    dsimp only
    rw [show ((pre ++ a :: as).map f)[k]? = some (f a) by rw [List.map_append, List.getElem?_append_right (by rw [List.length_map]; omega), List.length_map, hk, Nat.sub_self]; rfl]
    dsimp only
    rw [h1]
    dsimp only
    rw [h2]
    cases hb : b a with
    | false =>
      dsimp only
      rw [h4, ih, List.filter_cons, hb]
      rfl
    | true =>
      dsimp only
      rw [h3 hb]
      dsimp only
      rw [h4, ih, List.filter_cons, hb]
      rfl
theorem mLcO_map {α : Type} {vs : List Nat} {i0 : Nat} {t : Dt → Ev → Option Ev} {tt : M Bool} {te : M Rv} {ρ : Ev} (as : List α) (f : α → Dt) (b : α → Bool) (y : α → Dt) (h0 : ρ[i0]? = some (.ow (as.map f))) (h1 : (kills vs ρ)[i0]? = some (.ow (as.map f))) (h2 : noOw vs ρ = true)
    (hs : ∀ a ∈ as, ∃ ρd, t (f a) (kills vs ρ) = some ρd ∧ tt ρd = some (.ok (b a) ρd) ∧ (b a = true → te ρd = some (.ok (.val (y a)) ρd)) ∧ kills vs ρd = kills vs ρ) (hl : as.length ≤ sizeLine) :
    mLcO vs i0 t tt te ρ = some (.ok ((as.filter b).map y) (restore vs ρ (kills vs ρ))) := by
  unfold mLcO
  rw [h0, h2]
  dsimp only
  rw [List.length_map, lcO_map as [] 0 rfl h1 hs]
  dsimp only
  have hf : fits ((as.filter b).map y).length = some () := if_pos (by
    rw [List.length_map]
    exact Nat.le_trans (List.length_filter_le _ _) hl)
  rw [hf]
end PD
/-! PD27: a dict of the slot's own: {k: v}, k not in d, d[k] = v for a new k. -/
namespace PD
open PySem PySem.Spec PyProof.Rows L2
abbrev Row4 := Int × NestedKey × Addr × Value
/-! ### keys -/
theorem nkS_flat {d : Dt} {k : NestedKey} (h : nkS d = some k) : k.depth = 0 ∧ ∀ w w', k.hash w = k.hash w' := by
  cases d <;> first | (cases h; done) | (cases h; exact ⟨by unfold NestedKey.depth; rfl, fun w w' => by unfold NestedKey.hash; rfl⟩)
theorem nkL_flat : ∀ {ds : List Dt} {ks : List NestedKey}, nkL ds = some ks → NestedKey.depthAll ks = 0 ∧ ∀ w w', NestedKey.hashes w ks = NestedKey.hashes w' ks
  | [], ks, h => by cases h; exact ⟨by unfold NestedKey.depthAll; rfl, fun w w' => by unfold NestedKey.hashes; rfl⟩
  | d :: ds, ks, h => by
    unfold nkL at h
    cases h1 : nkS d with
    | none => rw [h1] at h; cases h
    | some k =>
      cases h2 : nkL ds with
      | none => rw [h1, h2] at h; cases h
      | some kr =>
        rw [h1, h2] at h
        cases h
        obtain ⟨a1, a2⟩ := nkS_flat h1
        obtain ⟨b1, b2⟩ := nkL_flat h2
        exact ⟨by unfold NestedKey.depthAll; rw [a1, b1]; rfl, fun w w' => by unfold NestedKey.hashes; rw [a2 w w', b2 w w']⟩
theorem nkD_flat {d : Dt} {k : NestedKey} (h : nkD d = some k) : k.depth ≤ 8 ∧ ∀ w w', k.hash w = k.hash w' := by
  cases d with
  | tuple ds =>
    obtain ⟨ks, h1, rfl⟩ := Option.map_eq_some_iff.mp h
    obtain ⟨a, b⟩ := nkL_flat h1
    exact ⟨by unfold NestedKey.depth; rw [a]; decide, fun w w' => by unfold NestedKey.hash; rw [b w w']⟩
  | _ => cases h
section
variable {X : Cx} {pins : List (Addr × Obj)} {σ : L2.St} {H : Hp} {s : Shared}
theorem nkS_is {v : V} {u : Value} {d : Dt} {k : NestedKey} (h : Dp X.K H v d) (r : RelV v u) (e : nkS d = some k) : NestedIs s.heap k u := by
  cases h with
  | non =>
    cases e
    have r : u = Value.none := r
    subst r
    exact .none
  | int i =>
    cases e
    obtain ⟨t, rfl⟩ := (show ∃ t, u = Value.int i t from r)
    exact .int _ _
  | bl b => cases e
  | str z => cases e
  | lst _ _ => cases e
  | tup _ _ => cases e
theorem nkL_is : ∀ {ds : List Dt} {vs : List V} {us : List Value} {ks : List NestedKey}, DpAll X.K H vs ds → Vals vs us → nkL ds = some ks → NestedAll s.heap ks us
  | [], _, _, ks, .nil, .nil, h => by cases h; exact .nil
  | d :: ds, _, _, ks, .cons h1 h2, .cons r1 r2, h => by
    unfold nkL at h
    cases e1 : nkS d with
    | none => rw [e1] at h; cases h
    | some k =>
      cases e2 : nkL ds with
      | none => rw [e1, e2] at h; cases h
      | some kr =>
        rw [e1, e2] at h
        cases h
        exact .cons (nkS_is h1 r1 e1) (nkL_is h2 r2 e2)
theorem nk_is (I : Inv X pins σ H s) {b : Addr} {d : Dt} {k : NestedKey} (h : Dp X.K H (.ref b) d) (e : nkD d = some k) : (nestedKind X.prog X.w).is s.heap k b := by
  refine ⟨?_, (nkD_flat e).1⟩
  cases h with
  | lst _ _ => cases e
  | tup hs ha =>
    obtain ⟨ks, e1, rfl⟩ := Option.map_eq_some_iff.mp e
    obtain ⟨its, r, ⟨o, h1, h2, n, h3⟩, _⟩ := I.tuple hs
    exact .tup h1 h2 h3 (by simpa using nkL_is ha r e1)
/-- the keys' tuples stand -/
def KeysOk (K : PySem.W.Frag) (H : Hp) (xs : List Row4) : Prop := ∀ x ∈ xs, ∃ kd, nkD kd = some x.2.1 ∧ (∀ w, x.1 = x.2.1.hash w) ∧ Dp K H (.ref x.2.2.1) kd
theorem do_ok {P : Program} {w : World} {H : Hp} {h : Heap} {a : Addr} {xs : List Row4} (h1 : (a == sysModules) = false) (h2 : xs.length ≤ sizeLine) (h3 : (xs.map (·.2.1)).Nodup)
    (h4 : ∃ o es ep, h.get? a = some o ∧ o.ExactDict ∧ o.data = .dict es ep ∧ es.toList = xs.map fun x => ⟨x.1, .ref x.2.2.1, x.2.2.2⟩) : ObjOk P w H h a (DO a xs) := by
  obtain ⟨o, es, ep, e1, e2, e3, e4⟩ := h4
  refine ⟨⟨h1, h2, h3, o, es, ep, e1, e2, e3, e4⟩, ⟨o, e1⟩, ?_⟩
  rintro g1 g2 ⟨p1, p2, p3, o', es', ep', q1, q2, q3, q4⟩ k
  exact ⟨p1, p2, p3, o', es', ep', k o' q1, q2, q3, q4⟩
theorem do_rd (I : Inv X pins σ H s) {a : Addr} {xs : List Row4} (e : H a = some (DO a xs)) (hk : KeysOk X.K H xs) : (a == sysModules) = false ∧ xs.length ≤ sizeLine ∧ (xs.map (·.2.1)).Nodup ∧ s.heap.DictOfH (nestedKind X.prog X.w) a (xs.map (·.2)) := by
  obtain ⟨⟨h1, h2, h3, o, es, ep, e1, e2, e3, e4⟩, _, _⟩ := (show ObjOk X.prog X.w H s.heap a (DO a xs) from I.hok a _ e)
  refine ⟨h1, h2, h3, o, es, ep, e1, e2, e3, ?_, fun y hy => ?_, by rw [List.map_map]; exact h3⟩
  · rw [e4, List.map_map]
    refine List.map_congr_left fun x hx => ?_
    obtain ⟨kd, _, q, _⟩ := hk x hx
    show (⟨x.1, .ref x.2.2.1, x.2.2.2⟩ : DictEntry) = ⟨x.2.1.hash X.w, .ref x.2.2.1, x.2.2.2⟩
    rw [q X.w]
  · obtain ⟨x, hx, rfl⟩ := List.mem_map.mp hy
    obtain ⟨kd, q1, _, q3⟩ := hk x hx
    exact nk_is I q3 q1
end
theorem dk_keys {K : PySem.W.Frag} {S H : Hp} (sb : Same S H) : ∀ {xs : List Row4} {kds : List (Dt × Dt)}, DkAll K S xs kds → KeysOk K H xs
  | _, _, .nil => fun x hx => nomatch hx
  | _, _, .cons h t => fun x hx => by
    obtain ⟨h1, h2, h3, _⟩ := h
    rcases List.mem_cons.mp hx with rfl | hx
    · exact ⟨_, h1, h2, dp_mono sb _ _ h3⟩
    · exact dk_keys sb t x hx
/-- is the key there -/
def hasK (kds : List (Dt × Dt)) (k : NestedKey) : Bool := kds.any fun p => decide (nkD p.1 = some k)
theorem dk_has {K : PySem.W.Frag} {S : Hp} : ∀ {xs : List Row4} {kds : List (Dt × Dt)} (k : NestedKey), DkAll K S xs kds → (atKey (xs.map (·.2)) k).isSome = hasK kds k
  | _, _, k, .nil => rfl
  | _, _, k, .cons (x := x) (kd := kd) (xs := xs) (kds := kds) ⟨h1, _⟩ t => by
    have ih := dk_has k t
    unfold hasK at ih ⊢
    rw [List.any_cons, ← ih, h1]
    unfold atKey
    rw [List.map_cons, List.find?_cons]
    by_cases hx : x.2.1 = k
    · rw [decide_eq_true hx, decide_eq_true (by rw [hx])]
      rfl
    · rw [decide_eq_false hx, decide_eq_false (fun z => hx (Option.some.inj z))]
      rfl
theorem dk_snoc {K : PySem.W.Frag} {S : Hp} : ∀ {xs : List Row4} {kds : List (Dt × Dt)} {x : Row4} {kd : Dt × Dt}, DkAll K S xs kds → DkOk K S x kd → DkAll K S (xs ++ [x]) (kds ++ [kd])
  | _, _, _, _, .nil, h => .cons h .nil
  | _, _, _, _, .cons h1 t, h => .cons h1 (dk_snoc t h)
theorem dk_len {K : PySem.W.Frag} {S : Hp} : ∀ {xs : List Row4} {kds : List (Dt × Dt)}, DkAll K S xs kds → xs.length = kds.length
  | _, _, .nil => rfl
  | _, _, .cons _ t => by rw [List.length_cons, List.length_cons, dk_len t]
/-! ### the rules -/
section
variable {X : Cx} {o i kx vx value : Expr} {pos pos' : Pos} {td ty tv : TE}
/-- {k: v} -/
def tDisp1 (K : PySem.W.Frag) (w : World) (tk tv : TE) : TE := fun σ H Q => ∀ p, H p = none → tPairs [(tk, tv)] σ (upd H p (DO p [])) fun ps H2 => H2 p = some (DO p []) ∧
  ∃ b y kd k, ps = [(.ref b, y)] ∧ nkD kd = some k ∧ Dp K H2 (.ref b) kd ∧ ∀ u, RelV y u → Q (.ref p) (upd H2 p (DO p [(k.hash w, k, b, u)]))
theorem do_put {pins : List (Addr × Obj)} {σ : L2.St} {H : Hp} {s : Shared} {a b : Addr} {xs : List Row4} {k : NestedKey} {u : Value} {h' : Heap} {t' : Nat} (I : Inv X pins σ H s) (e : H a = some (DO a xs)) (hd : (a == sysModules) = false) (hl : xs.length < sizeLine) (hk : KeysOk X.K H xs)
    (hs : Heap.SameBut a s.heap h') (dd : h'.DictOfH (nestedKind X.prog X.w) a (xs.map (·.2) ++ [(k, b, u)])) : Inv X pins σ (upd H a (DO a (xs ++ [(k.hash X.w, k, b, u)]))) { s with heap := h', toks := t' } := by
  obtain ⟨o, es, ep, h1, h2, h3, h4, _, h5⟩ := dd
  refine d_write I (by rw [e]; exact True.intro) hs ⟨o, h1⟩ (do_ok hd (by rw [List.length_append]; exact hl) ?_ ⟨o, es, ep, h1, h2, h3, ?_⟩)
  · rw [List.map_append, List.map_map] at h5
    rw [List.map_append]
    exact h5
  · rw [h4, List.map_append, List.map_append, List.map_map]
    refine congrArg (· ++ _) (List.map_congr_left fun x hx => ?_)
    obtain ⟨kd, _, q, _⟩ := hk x hx
    show (⟨x.2.1.hash X.w, .ref x.2.2.1, x.2.2.2⟩ : DictEntry) = ⟨x.1, .ref x.2.2.1, x.2.2.2⟩
    rw [q X.w]
theorem pe_disp1 (hu : X.A.units + 10 < cLine) (hk : PE X kx ty) (hv : PE X vx tv) : PE X (.Dict [some kx] [vx] pos) (tDisp1 X.K X.w ty tv) := by
  refine ⟨fun pins s σ H Q I q => ?_⟩
  have hn := I.hok.fresh (Nat.le_refl s.heap.objs.size)
  have I1 := I.laid (a := s.heap.objs.size) (o := DO s.heap.objs.size []) (h' := s.heap.push { cls := .type "dict", data := .dict #[] }) (t' := s.toks) (fun _ _ q => Heap.get?_push_of_some _ q) (Nat.le_refl _)
    (do_ok (beq_eq_false_iff_ne.mpr (Ne.symm (Nat.ne_of_lt I.big))) (Nat.zero_le _) List.nodup_nil ⟨_, #[], 0, Heap.get?_push_size _ rfl, ⟨rfl, rfl, rfl⟩, rfl, rfl⟩)
  refine wpAny_Dict_any rfl rfl (by simp) (by simp) (thn ((pps_cons (pos := pos) hk hv pps_nil).run pins _ σ _ _ I1 (q _ hn)) fun ws s2 ⟨ps, H2, I2, rel, e, b, y, kd, k, ep, hk1, hk2, fin⟩ => ?_)
  subst ep
  obtain ⟨⟨u1, u2⟩, rfl, r1, r2⟩ : ∃ q : Value × Value, ws = [q] ∧ RelV (.ref b) q.1 ∧ RelV y q.2 := by
    cases rel with
    | cons r t =>
      cases t
      exact ⟨_, rfl, r.1, r.2⟩
  obtain rfl : u1 = Value.ref b := r1
  obtain ⟨hd, _, _, dd⟩ := do_rd I2 e (fun x hx => nomatch hx)
  unfold storeAll
  rw [List.forIn_cons]
  refine wpAny_bind (wpAny_bind (wpAny_dictSet_heap (knd := nestedKind X.prog X.w) (show X.A.units + 8 < cLine by omega) (nk_is I2 hk2 hk1) dd fun h' hm' hs => ?_))
  rw [storedH_new (show atKey (List.map (·.2) ([] : List Row4)) k = none from rfl)] at hm'
  refine wpAny_pure ?_
  show wpAny _ _ (forIn ([] : List (Value × Value)) PUnit.unit _) _ _ _
  rw [List.forIn_nil]
  refine wpAny_pure ⟨.ref s.heap.objs.size, _, do_put I2 e hd (by rw [sizeLine_eq]; decide) (fun x hx => nomatch hx) hs hm', rfl, fin u2 r2⟩
/-- k not in d -/
def tNotD (K : PySem.W.Frag) (ty td : TE) : TE := fun σ H Q => ty σ H fun y H1 => td σ H1 fun x H2 => ∃ a b xs kd k, x = .ref a ∧ y = .ref b ∧ H2 a = some (DO a xs) ∧ KeysOk K H2 xs ∧ nkD kd = some k ∧ Dp K H2 (.ref b) kd ∧ Q (.bl (!(atKey (xs.map (·.2)) k).isSome)) H2
theorem pc_notD (hu : X.A.units + 10 < cLine) (hi : PE X i ty) (ho : PE X o td) : PC X .NotIn i o (tNotD X.K ty td) := by
  refine ⟨fun pins s σ H Q I h => ?_⟩
  refine thn (hi.run pins s σ H _ I h) fun iv s1 ⟨y, H1, I1, ry, q1⟩ => thn (ho.run pins s1 σ H1 _ I1 q1) fun u s2 ⟨x, H2, I2, rx, a, b, xs, kd, k, ex, ey, e, hk, n1, n2, q2⟩ => ?_
  subst ex ey
  obtain rfl : u = Value.ref a := rx
  obtain rfl : iv = Value.ref b := ry
  obtain ⟨hd, _, _, dd⟩ := do_rd I2 e hk
  exact wpAny_notIn_heap (knd := nestedKind X.prog X.w) (show X.A.in1.units + 8 < cLine by rw [Around.in1_units]; omega) (nk_is I2 n2 n1) hd dd ⟨.bl _, H2, I2.tok _, rfl, q2⟩
/-- d[k] = v, a new k -/
def sPutNew (K : PySem.W.Frag) (w : World) (td ty tv : TE) : TS := fun D σ H => tv σ H fun v H1 => td σ H1 fun x H2 => ty σ H2 fun y H3 => ∃ a b xs kd k, x = .ref a ∧ y = .ref b ∧ H3 a = some (DO a xs) ∧ KeysOk K H3 xs ∧ nkD kd = some k ∧ Dp K H3 (.ref b) kd ∧ atKey (xs.map (·.2)) k = none ∧ xs.length < sizeLine ∧
  ∀ u, RelV v u → D.nx σ (upd H3 a (DO a (xs ++ [(k.hash w, k, b, u)])))
theorem ps_putNew (hu : X.A.units + 10 < cLine) (ho : PE X o td) (hi : PE X i ty) (hv : PE X value tv) (hs : swapsWith value (some (.Subscript o i pos')) pos.line X.env = pure false) :
    PS X (.Assign [.Subscript o i pos'] value pos) (sPutNew X.K X.w td ty tv) := by
  refine ⟨fun pins s σ H D I h => ?_⟩
  refine wpAny_Assign_Subscript (thn (hv.run pins s σ H _ I h) fun r s1 ⟨v, H1, I1, rv, q1⟩ => thn (ho.run pins s1 σ H1 _ I1 q1) fun u s2 ⟨x, H2, I2, rx, q2⟩ => thn (hi.run pins s2 σ H2 _ I2 q2) fun iv s3 ⟨y, H3, I3, ry, a, b, xs, kd, k, ex, ey, e, hk, n1, n2, hn, hl, q3⟩ => ?_) hs
  subst ex ey
  obtain rfl : u = Value.ref a := rx
  obtain rfl : iv = Value.ref b := ry
  obtain ⟨hd, hz, _, dd⟩ := do_rd I3 e hk
  refine wpAny_setItem_heap (knd := nestedKind X.prog X.w) (hsz := by rw [List.length_map]; exact hz) (show X.A.in1.units + 8 < cLine by rw [Around.in1_units]; omega) (nk_is I3 n2 n1) dd fun h' hm' hs => ?_
  rw [storedH_new hn] at hm'
  exact ⟨σ, _, do_put I3 e hd hl hk hs hm', q3 r rv⟩
end
end PD
/-! PD28: dicts of the slot's own over data. -/
namespace PD
open PySem L2
def mDisp1 (mk mv : M Rv) : M (List (Dt × Dt)) := bd mk fun r => bd (asV r) fun kd => bd mv fun q => bd (asV q) fun vd => opt ((nkD kd).map fun _ => [(kd, vd)])
def hasX (k : Option NestedKey) : Option Sl → Ev → Option (Ex Rv)
  | some (.od kds), ρ => k.map fun k => .ok (.val (.bool (!hasK kds k))) ρ
  | _, _ => none
def mNotInD (i : Nat) (m : M Rv) : M Rv := bd m fun r => bd (asV r) fun kd => fun ρ => hasX (nkD kd) ρ[i]? ρ
def putX (i : Nat) (kd vd : Dt) (k : Option NestedKey) : Option Sl → Ev → Option Fl
  | some (.od kds), ρ => k.bind fun k => if hasK kds k = false ∧ kds.length < sizeLine then some (.nx (ρ.set i (.od (kds ++ [(kd, vd)])))) else none
  | _, _ => none
def odNow (i : Nat) : M Unit := fun ρ => match (ρ[i]? : Option Sl) with
  | some (.od _) => some (.ok () ρ)
  | _ => none
def sPutD (i : Nat) (me mk : M Rv) : F := fun ρ => fromE (fun (p : Dt × Dt) ρ' => putX i p.2 p.1 (nkD p.2) ρ'[i]? ρ') ((bd me fun r => bd (asV r) fun vd => bd (odNow i) fun _ => bd mk fun r2 => bd (asV r2) fun kd => pur (vd, kd)) ρ)
section
variable {K : PySem.W.Frag} {G : Ent} {S H : Hp} {σ : St} {ρ : Ev}
theorem nkD_ref {v : V} {d : Dt} {k : NestedKey} (h : Dp K S v d) (e : nkD d = some k) : ∃ b, v = .ref b := by
  cases h with
  | tup hs ha => exact ⟨_, rfl⟩
  | lst _ _ => cases e
  | non => cases e
  | bl _ => cases e
  | int _ => cases e
  | str _ => cases e
theorem Rep.putD (R : Rep K G S H σ ρ) {i : Nat} {ks ls : List (Dt × Dt)} {a : Addr} {ob : HO} (e : ρ[i]? = some (.od ks)) (ea : σ[i]? = some (some (.ref a))) (h : DRel K S a ob ls) :
    Rep K G S (upd H a ob) σ (ρ.set i (.od ls)) := by
  obtain ⟨b, xs, e1, q1, q2, q3, q4⟩ := R.slot i _ e
  rw [ea] at e1; cases e1
  have hi : i < ρ.length := (List.getElem?_eq_some_iff.mp e).1
  refine ⟨fun b u eb => ?_, R.ent, fun b u h1 h2 => ?_, R.new, by rw [List.length_set]; exact R.len, fun j sl ej => ?_, fun j k b h1 h2 h3 h4 => ?_, fun j b ej => ?_⟩
  · have ne : b ≠ a := fun z => by subst z; rw [q3] at eb; cases eb
    rw [upd_ne ne]; exact R.sub _ _ eb
  · have ne : b ≠ a := fun z => by
      subst z
      rw [q4] at h1; cases h1
    rw [upd_ne ne]; exact R.frm b u h1 h2
  · rcases get_set ej with ⟨rfl, rfl⟩ | ⟨ne, ej⟩
    · exact ⟨a, ob, ea, upd_same, h, q3, q4⟩
    · have z := R.slot j sl ej
      cases sl with
      | un => trivial
      | sh d => exact z
      | ow dz =>
        obtain ⟨c, zs, z1, z2, z3, z4, z5⟩ := z
        have nc : c ≠ a := fun y => by subst y; exact ne (R.dist i j c (by rw [e]; trivial) (by rw [ej]; trivial) ea z1)
        exact ⟨c, zs, z1, by rw [upd_ne nc]; exact z2, z3, z4, z5⟩
      | od kz =>
        obtain ⟨c, zs, z1, z2, z3, z4, z5⟩ := z
        have nc : c ≠ a := fun y => by subst y; exact ne (R.dist i j c (by rw [e]; trivial) (by rw [ej]; trivial) ea z1)
        exact ⟨c, zs, z1, by rw [upd_ne nc]; exact z2, z3, z4, z5⟩
  · have f : ∀ {m : Nat}, isO (ρ.set i (.od ls))[m]? → isO ρ[m]? := fun {m} hm => by
      rcases isO_set hm with ⟨rfl, _⟩ | ⟨_, hm⟩
      · rw [e]; trivial
      · exact hm
    exact R.dist j k b (f h1) (f h2) h3 h4
  · obtain ⟨⟨dj, h1⟩, h2⟩ := R.io j b ej
    refine ⟨?_, h2⟩
    by_cases hj : i = j
    · subst hj; rw [e] at h1; cases h1
    · exact ⟨dj, by rw [get_set_ne hj]; exact h1⟩
end
section
variable {X : Cx} {W : WX} {ios : List Nat} {kx vx e : Expr} {mk mv me : M Rv} {pos pos' : Pos}
theorem d_disp1 (hu : X.A.units + 64 < cLine) (hk : PE X kx (tD X.K X.mg W mk)) (hv : PE X vx (tD X.K X.mg W mv)) : PE X (.Dict [some kx] [vx] pos) (tK X.K X.mg W (mDisp1 mk mv)) :=
  pe_imp (pe_disp1 (by omega) hk hv) fun σ H Q w => by
    obtain ⟨G, S, ρ, o, R, e, q⟩ := w
    intro p hp
    have R0 := R.alloc hp (DO p [])
    have un := un0_new R hp
    show tD X.K X.mg W mk σ _ fun x H1 => tD X.K X.mg W mv σ H1 fun y H2 => H2 p = some (DO p []) ∧ ∃ b y' kd k, [(x, y)] = [(.ref b, y')] ∧ _
    refine seqD R0.again e (fun r1 ρ1 v1 S1 H1 _ e1 R1 s1 rv1 => ?_) fun c ρ' eo S' H' R' s' => by subst eo; exact q S' H' (R0.back R') s'
    obtain ⟨kd, rfl, e2⟩ := asV_ok e1
    refine seqD R1 e2 (fun r2 ρ2 v2 S2 H2 _ e3 R2 s2 rv2 => ?_) fun c ρ' eo S' H' R' s' => by subst eo; exact q S' H' (R0.back R') (s1.trans s')
    obtain ⟨vd, rfl, e4⟩ := asV_ok e3
    obtain ⟨ds, e5, e6⟩ := opt_in (β := Unit) e4
    obtain ⟨k, e7, rfl⟩ := Option.map_eq_some_iff.mp e5
    obtain ⟨b, rfl⟩ := nkD_ref rv1 e7
    obtain ⟨k1, k2, k3⟩ := R2.held upd_same (R.sub.free hp) un
    have dk : Dp X.K S2 (.ref b) kd := dp_mono s2 _ _ rv1
    refine ⟨k1, b, v2, kd, k, rfl, e7, dp_mono R2.sub _ _ dk, fun u hu' => ?_⟩
    cases e6
    refine q (.ref p) S2 _ ((R0.back R2).other k2 (R.gone hp) k3 _) (s1.trans s2) ⟨p, _, rfl, upd_same, ⟨_, rfl, .cons ⟨e7, fun w => (nkD_flat e7).2 _ _, dk, v2, hu', rv2⟩ .nil⟩, k2, R.gone hp, k3⟩
theorem rd_notD {K : PySem.W.Frag} {mg : Str → Option Value} {i : Nat} {σ : St} {H : Hp} {Q : VK} (w : tD K mg W (mNotInD i me) σ H Q) : tNotD K (tD K mg W me) (tVar i) σ H Q := by
  obtain ⟨G, S, ρ, o, R, e, q⟩ := w
  refine seqD R e (fun r1 ρ1 v1 S1 H1 _ e1 R1 s1 rv1 => ?_) fun c ρ' eo S' H' R' s' => by subst eo; exact q S' H' R' s'
  obtain ⟨kd, rfl, e2⟩ := asV_ok e1
  cases hs : (ρ1[i]? : Option Sl) with
  | none => rw [hs] at e2; cases e2
  | some sl =>
    cases sl with
    | un => rw [hs] at e2; cases e2
    | sh _ => rw [hs] at e2; cases e2
    | ow _ => rw [hs] at e2; cases e2
    | od kds =>
      rw [hs] at e2
      obtain ⟨k, e3, rfl⟩ := Option.map_eq_some_iff.mp e2
      obtain ⟨a, ob, ea, q1, ⟨xs, rfl, q2⟩, q3, q4⟩ := R1.slot i _ hs
      obtain ⟨b, rfl⟩ := nkD_ref rv1 e3
      refine ⟨.ref a, ea, a, b, xs, kd, k, rfl, rfl, q1, dk_keys R1.sub q2, e3, dp_mono R1.sub _ _ rv1, ?_⟩
      rw [dk_has k q2]
      exact q (.bl _) S1 H1 R1 s1 (.bl _)
theorem d_notD (i : Nat) {y : Str} {py : Pos} (hu : X.A.units + 64 < cLine) (he : PE X e (tD X.K X.mg W me)) (hN : X.N[i]? = some y := by rfl) (hv : Vis X.env.scope y := by first | exact Or.inl rfl | exact Or.inr (Or.inl rfl) | exact Or.inr (Or.inr rfl)) (hd : (y == ("__debug__" : Str)) = false := by decide)
    (hcd : (y == ("__classdict__" : Str)) = false := by decide) (h1 : behindInMarks .NotIn (.Name y py) = false := by rfl) : PE X (.Compare e [.NotIn] [.Name y py] pos) (tD X.K X.mg W (mNotInD i me)) :=
  pe_imp (pe_cmp (pc_notD (by omega) he (pe_var hN hv hd hcd)) h1) fun σ H Q w => rd_notD w
theorem d_notDT (i : Nat) {y : Str} {py : Pos} (hu : X.A.units + 64 < cLine) (he : PE X e (tD X.K X.mg W me)) (hN : X.N[i]? = some y := by rfl) (hv : Vis X.env.scope y := by first | exact Or.inl rfl | exact Or.inr (Or.inl rfl) | exact Or.inr (Or.inr rfl)) (hd : (y == ("__debug__" : Str)) = false := by decide)
    (hcd : (y == ("__classdict__" : Str)) = false := by decide) (h1 : behindInMarks .NotIn (.Name y py) = false := by rfl) : PT X (.Compare e [.NotIn] [.Name y py] pos) (tB X.K X.mg W (mTst (mNotInD i me))) :=
  pt_imp (pt_cmp (pc_notD (by omega) he (pe_var hN hv hd hcd)) h1) fun σ H Q w => rd_notD (rd_tst w)
theorem d_putD (i : Nat) {y : Str} {py : Pos} (hu : X.A.units + 64 < cLine) (hv : PE X vx (tD X.K X.mg W mv)) (hk : PE X kx (tD X.K X.mg W mk)) (hN : X.N[i]? = some y := by rfl) (hvi : Vis X.env.scope y := by first | exact Or.inl rfl | exact Or.inr (Or.inl rfl) | exact Or.inr (Or.inr rfl)) (hd : (y == ("__debug__" : Str)) = false := by decide)
    (hcd : (y == ("__classdict__" : Str)) = false := by decide) (hs : swapsWith vx (some (.Subscript (.Name y py) kx pos')) pos.line X.env = pure false := by rfl) :
    PS X (.Assign [.Subscript (.Name y py) kx pos'] vx pos) (tS X.K X.mg W ios (sPutD i mv mk)) :=
  ps_imp (ps_putNew (by omega) (pe_var hN hvi hd hcd) hk hv hs) fun D σ H w => by
    obtain ⟨G, S, ρ, fl, hio, R, e0, q⟩ := w
    have fin : ∀ {c : Str} {ρ' : Ev}, fl = .ex c ρ' → ∀ S' H', Rep X.K G S' H' σ ρ' → Same S S' → exW X.mg W c σ H' := fun {c ρ'} z S' H' R' s' => by subst z; exact q σ S' H' R' s'
    have step : ∀ {o : Ex (Dt × Dt)}, (bd mv fun r => bd (asV r) fun vd => bd (odNow i) fun _ => bd mk fun r2 => bd (asV r2) fun kd => pur (vd, kd)) ρ = some o → (∀ c ρ', o = .ex c ρ' → fl = .ex c ρ') → (∀ vd kd ρ', o = .ok (vd, kd) ρ' → putX i kd vd (nkD kd) ρ'[i]? ρ' = some fl) →
        sPutNew X.K X.w (tVar i) (tD X.K X.mg W mk) (tD X.K X.mg W mv) D σ H := fun {o} e1 hex hok => by
      refine seqD R e1 (fun r1 ρ1 v1 S1 H1 _ e2 R1 s1 rv1 => ?_) fun c ρ' eo S' H' R' s' => fin (hex c ρ' eo) S' H' R' s'
      obtain ⟨vd, rfl, e3⟩ := asV_ok e2
      rcases bd_some e3 with ⟨u0, ρ1', e4, e5⟩ | ⟨c, ρ', e4, rfl⟩
      · unfold odNow at e4
        split at e4
        · rename_i kds0 hs0
          cases e4
          obtain ⟨a, ob, ea, _⟩ := R1.slot i _ hs0
          refine ⟨.ref a, ea, ?_⟩
          refine seqD R1 e5 (fun r2 ρ2 v2 S2 H2 _ e6 R2 s2 rv2 => ?_) fun c ρ' eo S' H' R' s' => fin (hex c ρ' eo) S' H' R' (s1.trans s')
          obtain ⟨kd, rfl, e7⟩ := asV_ok e6
          cases e7
          have e8 := hok vd kd ρ2 rfl
          cases hs : (ρ2[i]? : Option Sl) with
          | none => rw [hs] at e8; cases e8
          | some sl =>
            cases sl with
            | un => rw [hs] at e8; cases e8
            | sh _ => rw [hs] at e8; cases e8
            | ow _ => rw [hs] at e8; cases e8
            | od kds =>
              rw [hs] at e8
              obtain ⟨k, e9, e10⟩ := Option.bind_eq_some_iff.mp (show (nkD kd).bind _ = some fl from e8)
              split at e10
              · rename_i hc
                cases e10
                obtain ⟨b, rfl⟩ := nkD_ref rv2 e9
                obtain ⟨a2, ob2, ea2, q1, ⟨xs, rfl, q2⟩, q3, q4⟩ := R2.slot i _ hs
                rw [ea] at ea2; cases ea2
                have hn : atKey (xs.map (·.2)) k = none := by
                  have z := dk_has k q2
                  rw [hc.1] at z
                  cases y : atKey (xs.map (·.2)) k with
                  | none => rfl
                  | some p => rw [y] at z; cases z
                refine ⟨a, b, xs, kd, k, rfl, rfl, q1, dk_keys R2.sub q2, e9, dp_mono R2.sub _ _ rv2, hn, by rw [dk_len q2]; exact hc.2, fun u hu' => ?_⟩
                have rvv : Dp X.K S2 v1 vd := dp_mono s2 _ _ rv1
                exact q σ S2 _ (R2.putD hs ea ⟨_, rfl, dk_snoc q2 ⟨e9, fun w => (nkD_flat e9).2 _ _, rv2, v1, hu', rvv⟩⟩) (s1.trans s2)
              · cases e10
        · cases e4
      · unfold odNow at e4
        split at e4
        · cases e4
        · cases e4
    rcases fromE_some e0 with ⟨p, ρ', e1, e2⟩ | ⟨c, ρ', e1, rfl⟩
    · exact step e1 (fun c ρ'' z => by cases z) fun vd kd ρ'' z => by cases z; exact e2
    · exact step e1 (fun c' ρ'' z => by cases z; rfl) fun vd kd ρ'' z => by cases z
end
end PD
/-! Printed by gen.py: the maps of the defs, and that the defs keep them. -/
namespace K27
open PySem L2 PD
/-! ### the text -/
def topS (i : Nat) : Stmt := PySem.Challenge.pw_shiftroads_k27_parting_words.main.body.getD i (.Pass ⟨0, 0, 0, 0⟩)
abbrev s_f_is_whole : Stmt := topS 5
abbrev s_f_is_tuple_of : Stmt := topS 6
abbrev s_f_ascends : Stmt := topS 7
abbrev s_f_is_text : Stmt := topS 10
abbrev s_f_ascending : Stmt := topS 11
abbrev s_f_fits_letters : Stmt := topS 12
abbrev s_f_fits_state : Stmt := topS 16
abbrev s_f_is_word_machine : Stmt := topS 17
abbrev s_f_need_machine : Stmt := topS 18
abbrev s_f_need_state : Stmt := topS 19
abbrev s_f_way_of : Stmt := topS 20
abbrev s_f_parting_word : Stmt := topS 21
abbrev s_l_cup : Stmt := topS 23
abbrev s_l_roll : Stmt := topS 24
abbrev s_l_some : Stmt := topS 25
abbrev s_l_chars : Stmt := topS 26
abbrev s_l_is_whole : Stmt := topS 27
abbrev s_l_is_state : Stmt := topS 28
abbrev s_l_is_machine : Stmt := topS 29
abbrev s_l_way : Stmt := topS 30
abbrev s_l_walk : Stmt := topS 31
abbrev s_l_machine : Stmt := topS 32
abbrev s_l_parted : Stmt := topS 33
abbrev s_l_told : Stmt := topS 34
abbrev s_l_parts : Stmt := topS 35
abbrev s_f_law : Stmt := topS 36
def cs_CHARACTERS : Str := "\n !\"#$&'()*+,-./012\
  3456789:;<=>?@ABCDEF\
  GHIJKLMNOPQRSTUVWXYZ\
  [\\]^_`abcdefghijklmn\
  opqrstuvwxyz{|}~"
structure Txt (K : PySem.W.Frag) (mg : Str → Option Value) : Prop where
  d_f_is_whole : DefTxt K mg "is_whole" s_f_is_whole ["value", "low", "high"]
  d_f_is_tuple_of : DefTxt K mg "is_tuple_of" s_f_is_tuple_of ["value", "low", "high"]
  d_f_ascends : DefTxt K mg "ascends" s_f_ascends ["items"]
  d_f_is_text : DefTxt K mg "is_text" s_f_is_text ["value", "most"]
  d_f_ascending : DefTxt K mg "ascending" s_f_ascending ["letters"]
  d_f_fits_letters : DefTxt K mg "fits_letters" s_f_fits_letters ["value"]
  d_f_fits_state : DefTxt K mg "fits_state" s_f_fits_state ["value", "many"]
  d_f_is_word_machine : DefTxt K mg "is_word_machine" s_f_is_word_machine ["value"]
  d_f_need_machine : DefTxt K mg "need_machine" s_f_need_machine ["value"]
  d_f_need_state : DefTxt K mg "need_state" s_f_need_state ["machine", "value"]
  d_f_way_of : DefTxt K mg "way_of" s_f_way_of ["machine", "state", "sign"]
  d_f_parting_word : DefTxt K mg "parting_word" s_f_parting_word ["machine", "one", "other"]
  d_l_cup : DefTxt K mg "_law_cup" s_l_cup ["_law_script"]
  d_l_roll : DefTxt K mg "_law_roll" s_l_roll ["_law_cup_here", "_law_many"]
  d_l_some : DefTxt K mg "_law_some" s_l_some ["_law_cup_here", "_law_things"]
  d_l_chars : DefTxt K mg "_law_chars" s_l_chars []
  d_l_is_whole : DefTxt K mg "_law_is_whole" s_l_is_whole ["_law_value"]
  d_l_is_state : DefTxt K mg "_law_is_state" s_l_is_state ["_law_value", "_law_many"]
  d_l_is_machine : DefTxt K mg "_law_is_machine" s_l_is_machine ["_law_value"]
  d_l_way : DefTxt K mg "_law_way" s_l_way ["_law_machine_here", "_law_state", "_law_sign"]
  d_l_walk : DefTxt K mg "_law_walk" s_l_walk ["_law_machine_here", "_law_state", "_law_word"]
  d_l_machine : DefTxt K mg "_law_machine" s_l_machine ["_law_cup_here", "_law_chars_here"]
  d_l_parted : DefTxt K mg "_law_parted" s_l_parted ["_law_machine_here", "_law_other", "_law_one", "_law_two", "_law_chars_here"]
  d_l_told : DefTxt K mg "_law_told" s_l_told ["_law_machine_here", "_law_one", "_law_other"]
  d_l_parts : DefTxt K mg "_law_parts" s_l_parts ["_law_machine_here", "_law_one", "_law_other", "_law_word"]
  d_f_law : DefTxt K mg "law" s_f_law ["_law_script"]
  c_CHARACTERS : ∃ t, mg "CHARACTERS" = some (.str cs_CHARACTERS t)
  c_RULES : ∃ t, mg "RULES" = some (.int 40 t)
  c_STATES : ∃ t, mg "STATES" = some (.int 400 t)
  z_abs : mg "abs" = none
  z_all : mg "all" = none
  z_bool : mg "bool" = none
  z_enumerate : mg "enumerate" = none
  z_int : mg "int" = none
  z_isinstance : mg "isinstance" = none
  z_len : mg "len" = none
  z_list : mg "list" = none
  z_range : mg "range" = none
  z_set : mg "set" = none
  z_sorted : mg "sorted" = none
  z_str : mg "str" = none
  z_tuple : mg "tuple" = none
  z_zip : mg "zip" = none
  x_InvalidMachine : Exo K mg "InvalidMachine"
  x_InvalidNumber : Exo K mg "InvalidNumber"
  m_InvalidMachine_InvalidMachine : Exm K mg "InvalidMachine" "InvalidMachine" true
  m_InvalidMachine_InvalidNumber : Exm K mg "InvalidMachine" "InvalidNumber" false
  m_InvalidNumber_InvalidMachine : Exm K mg "InvalidNumber" "InvalidMachine" false
  m_InvalidNumber_InvalidNumber : Exm K mg "InvalidNumber" "InvalidNumber" true
/-! ### the maps -/
def b_l_cup  : F :=
  (sSeq (sSet 1 (mOpN gAbs (mCons (mOp2 gIx (mOp2 gAdd (mFrz (mOpF fList (mCons (mVar 0) mNil))) (mFrz (mLst (mCons (mC (.int 0)) mNil)))) (mC (.int 0))) mNil)))
  (sRetO (mLst (mCons (mIf (mTst (mOp2 gGe (mVar 1) (mOp2 gPow (mC (.int 10)) (mC (.int 18))))) (mOp2 gDiv (mVar 1) (mC (.int 67))) (mC (.int 0))) (mCons (mOp2 gAdd (mOp2 gMod (mOpN gInt (mCons (mOp2 gAdd (mOp2 gMulA (mVar 1) (mC (.int 277))) (mC (.int 2633))) mNil)) (mC (.int 2077503161))) (mC (.int 163))) mNil)))))
def l_cup : Fn := run 1 2 [] b_l_cup
def b_l_roll  : F :=
  (sSeq (sIf (mTst (mOp2 gGt (mOp2 gIx (mVar 0) (mC (.int 0))) (mC (.int 0))))
  (sSeq (sSet 3 (mOp2 gMod (mOpN gInt (mCons (mOp2 gIx (mVar 0) (mC (.int 0))) mNil)) (mVar 1)))
  (sSeq (sPut 0 (mOp2 gDiv (mOp2 gIx (mVar 0) (mC (.int 0))) (mVar 1)) (mC (.int 0)))
  (sRet (mVar 3))))
  sNil)
  (sSeq (sPut 0 (mOp2 gMod (mOpN gInt (mCons (mOp2 gAdd (mOp2 gMulA (mOp2 gIx (mVar 0) (mC (.int 1))) (mC (.int 31039))) (mC (.int 7993))) mNil)) (mC (.int 2147483543))) (mC (.int 1)))
  (sSeq (sSet 2 (mOp2 gMod (mOpN gInt (mCons (mOp2 gMulA (mOp2 gIx (mVar 0) (mC (.int 1))) (mOp2 gAdd (mOp2 gIx (mVar 0) (mC (.int 1))) (mC (.int 229)))) mNil)) (mC (.int 2147483587))))
  (sRet (mOp2 gMod (mOpN gInt (mCons (mOp2 gDiv (mVar 2) (mC (.int 821))) mNil)) (mVar 1))))))
def l_roll : Fn := run 2 4 [0] b_l_roll
def b_l_some  : F :=
  (sRet (mOp2 gIx (mVar 1) (mCall l_roll (mCons (mVar 0) (mCons (mOpN gLen (mCons (mVar 1) mNil)) mNil)))))
def l_some : Fn := run 2 2 [0] b_l_some
def q_l_machine_0 : M (List Dt) := (mLc [9] (mItems (mVar 1)) (gN 9) mYes (mCall l_roll (mCons (mVar 0) (mCons (mOp2 gAdd (mOp2 gAdd (mVar 2) (mC (.int 1))) (mCall l_roll (mCons (mVar 0) (mCons (mC (.int 2)) mNil)))) mNil))))
def q_l_machine_1 : M (List Dt) := (mLc [10, 9] (mArg enumD (mCons (mVar 1) mNil)) (gT 2 (gCons (gN 10) (gCons (gN 9) gNil))) (mTst (mOp2 gEq (mOp2 gIx (mVar 5) (mVar 10)) (mVar 7))) (mVar 9))
def w_l_machine_0 : F := (sForE [7, 8, 9, 10] (mArg rng1 (mCons (mVar 2) mNil)) (gN 7)
  (sSeq (sSet 8 (mBM isStr gJoin (mC (.str "")) (mCons (mFrz q_l_machine_1) mNil)))
  (sSet 6 (mOp2 gAdd (mVar 6) (mIf (mTst (mOp2 gNe (mVar 8) (mC (.str "")))) (mFrz (mLst (mCons (mTup (mCons (mVar 8) (mCons (mVar 7) mNil))) mNil))) (mFrz (mLst mNil)))))))
def w_l_machine_1 : F := (sForE [4, 5, 6, 7, 8, 9, 10] (mArg rng1 (mCons (mVar 2) mNil)) (gN 4)
  (sSeq (sSet 5 (mFrz q_l_machine_0))
  (sSeq (sSet 6 (mFrz (mLst mNil)))
  (sSeq w_l_machine_0
  (sDrop (mOwn 3 fAppend (mCons (mTup (mCons (mCall l_some (mCons (mVar 0) (mCons (mFrz (mLst (mCons (mC (.int (-1))) (mCons (mC (.int (-1))) (mCons (mC (.int 0)) (mCons (mC (.int 1)) mNil)))))) mNil))) (mCons (mOpN gTup (mCons (mFrz (mOpF fSort (mCons (mVar 6) mNil))) mNil)) mNil))) mNil)))))))
def b_l_machine  : F :=
  (sSeq (sPar [2, 3] (mPd (mOp2 gAdd (mC (.int 1)) (mCall l_roll (mCons (mVar 0) (mCons (mC (.int 6)) mNil)))) (mPo (mLst mNil) mPn)))
  (sSeq w_l_machine_1
  (sRet (mOpN gTup (mCons (mVar 3) mNil)))))
def l_machine : Fn := run 2 11 [0] b_l_machine
def b_l_is_whole  : F :=
  (sRet (mAndV (mOp1 (gIsi "int") (mVar 0)) (mNotV (mOp1 (gIsi "bool") (mVar 0)))))
def l_is_whole : Fn := run 1 1 [] b_l_is_whole
def b_l_chars  : F :=
  (sRet (mC (.str "\n !\"#$&'()*+,-./012\
  3456789:;<=>?@ABCDEF\
  GHIJKLMNOPQRSTUVWXYZ\
  [\\]^_`abcdefghijklmn\
  opqrstuvwxyz{|}~")))
def l_chars : Fn := run 0 0 [] b_l_chars
def q_l_is_state_0 : M (List Dt) := (mLc [5] (mItems (mCall l_chars mNil)) (gN 5) (mTst (mOp2 gIn (mVar 5) (mOp2 gIx (mVar 4) (mC (.int 0))))) (mVar 5))
def q_l_is_state_1 : M (List Dt) := (mLc [5] (mItems (mOp2 gIx (mVar 4) (mC (.int 0)))) (gN 5) (mTst (mOp2 gIn (mVar 5) (mVar 2))) (mC (.int 1)))
def w_l_is_state_0 : F := (sForE [4, 5] (mItems (mOp2 gIx (mVar 0) (mC (.int 1)))) (gN 4)
  (sSeq (sIf (mOrT (mNotT (mTst (mOp1 (gIsi "tuple") (mVar 4)))) (mOrT (mTst (mOp2 gNe (mOpN gLen (mCons (mVar 4) mNil)) (mC (.int 2)))) (mOrT (mNotT (mTst (mOp1 (gIsi "str") (mOp2 gIx (mVar 4) (mC (.int 0)))))) (mOrT (mTst (mOp2 gEq (mOp2 gIx (mVar 4) (mC (.int 0))) (mC (.str "")))) (mNotT (mTst (mCall l_is_whole (mCons (mOp2 gIx (mVar 4) (mC (.int 1))) mNil))))))))
  (sRet (mC (.bool false)))
  sNil)
  (sSeq (sIf (mOrT (mNotT (mTst (mChain gLe gLtA (mC (.int 0)) (mOp2 gIx (mVar 4) (mC (.int 1))) (mVar 1)))) (mOrT (mTst (mOp2 gNe (mBM isStr gJoin (mC (.str "")) (mCons (mFrz q_l_is_state_0) mNil)) (mOp2 gIx (mVar 4) (mC (.int 0))))) (mTst (mOp2 gIn (mOp2 gIx (mVar 4) (mC (.int 1))) (mVar 3)))))
  (sRet (mC (.bool false)))
  sNil)
  (sSeq (sIf (mTst (mOp2 gNe (mFrz q_l_is_state_1) (mFrz (mLst mNil))))
  (sRet (mC (.bool false)))
  sNil)
  (sPar [2, 3] (mPd (mOp2 gAdd (mVar 2) (mOp2 gIx (mVar 4) (mC (.int 0)))) (mPd (mOp2 gAdd (mVar 3) (mFrz (mLst (mCons (mOp2 gIx (mVar 4) (mC (.int 1))) mNil)))) mPn)))))))
def b_l_is_state  : F :=
  (sSeq (sIf (mOrT (mNotT (mTst (mOp1 (gIsi "tuple") (mVar 0)))) (mOrT (mTst (mOp2 gNe (mOpN gLen (mCons (mVar 0) mNil)) (mC (.int 2)))) (mOrT (mNotT (mTst (mCall l_is_whole (mCons (mOp2 gIx (mVar 0) (mC (.int 0))) mNil)))) (mOrT (mNotT (mTst (mChain gLe gLtA (mC (.int (-1))) (mOp2 gIx (mVar 0) (mC (.int 0))) (mC (.int 40))))) (mNotT (mTst (mOp1 (gIsi "tuple") (mOp2 gIx (mVar 0) (mC (.int 1))))))))))
  (sRet (mC (.bool false)))
  sNil)
  (sSeq (sPar [2, 3] (mPd (mC (.str "")) (mPd (mFrz (mLst mNil)) mPn)))
  (sSeq w_l_is_state_0
  (sRet (mOp2 gEq (mFrz (mOpF fList (mCons (mOp2 gIx (mVar 0) (mC (.int 1))) mNil))) (mFrz (mOpF fSort (mCons (mOp2 gIx (mVar 0) (mC (.int 1))) mNil))))))))
def l_is_state : Fn := run 2 6 [] b_l_is_state
def q_l_is_machine_0 : M (List Dt) := (mLc [1] (mItems (mVar 0)) (gN 1) (mNotT (mTst (mCall l_is_state (mCons (mVar 1) (mCons (mOpN gLen (mCons (mVar 0) mNil)) mNil))))) (mC (.int 1)))
def b_l_is_machine  : F :=
  (sRet (mAndV (mOp1 (gIsi "tuple") (mVar 0)) (mAndV (mChain gLe gLe (mC (.int 1)) (mOpN gLen (mCons (mVar 0) mNil)) (mC (.int 400))) (mOp2 gEq (mFrz q_l_is_machine_0) (mFrz (mLst mNil))))))
def l_is_machine : Fn := run 1 2 [] b_l_is_machine
def q_l_way_0 : M (List Dt) := (mLc [3, 4] (mItems (mOp2 gIx (mOp2 gIx (mVar 0) (mVar 1)) (mC (.int 1)))) (gT 2 (gCons (gN 3) (gCons (gN 4) gNil))) (mTst (mOp2 gIn (mVar 2) (mVar 3))) (mVar 4))
def b_l_way  : F :=
  (sRet (mOp2 gIx (mOp2 gAdd (mFrz q_l_way_0) (mFrz (mLst (mCons (mC .none) mNil)))) (mC (.int 0))))
def l_way : Fn := run 3 5 [] b_l_way
def q_l_parted_0 : M (List Dt) := (mLc [10] (mItems (mVar 4)) (gN 10) mYes (mTup (mCons (mCall l_way (mCons (mVar 0) (mCons (mVar 7) (mCons (mVar 10) mNil)))) (mCons (mCall l_way (mCons (mVar 1) (mCons (mVar 8) (mCons (mVar 10) mNil)))) (mCons (mOp2 gAdd (mVar 9) (mC (.int 1))) mNil)))))
def w_l_parted_0 : F := (fun ρ => sWhile [7, 8, 9, 10] (mTst (mOp2 gNe (mVar 5) (mFrz (mLst mNil))))
  (sSeq (sAsg (gT 3 (gCons (gN 7) (gCons (gN 8) (gCons (gN 9) gNil)))) (mOp2 gIx (mVar 5) (mC (.int 0))))
  (sSeq (sSet 5 (mSl gSlice (mVar 5) (mEnd (some (mC (.int 1)))) (mEnd none)))
  (sSeq (sIf (mOrT (mTst (mOp2 gNe (mOp2 gIsN (mVar 7) (mC .none)) (mOp2 gIsN (mVar 8) (mC .none)))) (mAndT (mTst (mOp2 gNotN (mVar 7) (mC .none))) (mTst (mOp2 gNe (mOp2 gIx (mOp2 gIx (mVar 0) (mVar 7)) (mC (.int 0))) (mOp2 gIx (mOp2 gIx (mVar 1) (mVar 8)) (mC (.int 0)))))))
  (sRet (mVar 9))
  sNil)
  (sIf (mAndT (mTst (mOp2 gNotN (mVar 7) (mC .none))) (mTst (mOp2 gNotIn (mTup (mCons (mVar 7) (mCons (mVar 8) mNil))) (mVar 6))))
  (sSeq (sDrop (mOwn 6 fAppend (mCons (mTup (mCons (mVar 7) (mCons (mVar 8) mNil))) mNil)))
  (sSet 5 (mOp2 gAdd (mVar 5) (mFrz q_l_parted_0))))
  sNil)))) 300 (kills [7, 8, 9, 10] ρ))
def b_l_parted  : F :=
  (sSeq (sPar [5, 6] (mPd (mFrz (mLst (mCons (mTup (mCons (mVar 2) (mCons (mVar 3) (mCons (mC (.int 0)) mNil)))) mNil))) (mPo (mLst mNil) mPn)))
  (sSeq w_l_parted_0
  (sRet (mC (.int (-1))))))
def l_parted : Fn := run 5 11 [] b_l_parted
def b_f_is_tuple_of  : F :=
  (sRet (mAndV (mOp1 (gIsi "tuple") (mVar 0)) (mChain gLe gLe (mVar 1) (mOpN gLen (mCons (mVar 0) mNil)) (mVar 2))))
def f_is_tuple_of : Fn := run 3 3 [] b_f_is_tuple_of
def q_f_ascends_0 : M (List Dt) := (mLc [1, 2] (mArg zipD (mCons (mVar 0) (mCons (mSl gSlice (mVar 0) (mEnd (some (mC (.int 1)))) (mEnd none)) mNil))) (gT 2 (gCons (gN 1) (gCons (gN 2) gNil))) mYes (mOp2 gLtA (mVar 1) (mVar 2)))
def b_f_ascends  : F :=
  (sRet (mOpN gAll (mCons (mFrz q_f_ascends_0) mNil)))
def f_ascends : Fn := run 1 3 [] b_f_ascends
def b_f_is_whole  : F :=
  (sRet (mAndV (mOp1 (gIsi "int") (mVar 0)) (mAndV (mNotV (mOp1 (gIsi "bool") (mVar 0))) (mChain gLe gLe (mVar 1) (mVar 0) (mVar 2)))))
def f_is_whole : Fn := run 3 3 [] b_f_is_whole
def q_f_is_text_0 : M (List Dt) := (mLc [2] (mItems (mVar 0)) (gN 2) mYes (mOp2 gIn (mVar 2) (mC (.str cs_CHARACTERS))))
def b_f_is_text  : F :=
  (sRet (mAndV (mOp1 (gIsi "str") (mVar 0)) (mAndV (mOp2 gLe (mOpN gLen (mCons (mVar 0) mNil)) (mVar 1)) (mOpN gAll (mCons (mFrz q_f_is_text_0) mNil)))))
def f_is_text : Fn := run 2 3 [] b_f_is_text
def q_f_ascending_0 : M (List Dt) := (mLc [1] (mItems (mC (.str cs_CHARACTERS))) (gN 1) (mTst (mOp2 gIn (mVar 1) (mVar 0))) (mVar 1))
def b_f_ascending  : F :=
  (sRet (mBM isStr gJoin (mC (.str "")) (mCons (mFrz q_f_ascending_0) mNil)))
def f_ascending : Fn := run 1 2 [] b_f_ascending
def b_f_fits_letters  : F :=
  (sRet (mAndV (mOp1 (gIsi "str") (mVar 0)) (mAndV (mOp2 gNe (mVar 0) (mC (.str ""))) (mAndV (mCall f_is_text (mCons (mVar 0) (mCons (mOpN gLen (mCons (mC (.str cs_CHARACTERS)) mNil)) mNil))) (mOp2 gEq (mVar 0) (mCall f_ascending (mCons (mVar 0) mNil)))))))
def f_fits_letters : Fn := run 1 1 [] b_f_fits_letters
def w_f_fits_state_0 : F := (sForE [2] (mItems (mOp2 gIx (mVar 0) (mC (.int 1)))) (gN 2)
  (sIf (mOrT (mNotT (mTst (mCall f_is_tuple_of (mCons (mVar 2) (mCons (mC (.int 2)) (mCons (mC (.int 2)) mNil)))))) (mOrT (mNotT (mTst (mCall f_fits_letters (mCons (mOp2 gIx (mVar 2) (mC (.int 0))) mNil)))) (mNotT (mTst (mCall f_is_whole (mCons (mOp2 gIx (mVar 2) (mC (.int 1))) (mCons (mC (.int 0)) (mCons (mOp2 gSub (mVar 1) (mC (.int 1))) mNil))))))))
  (sRet (mC (.bool false)))
  sNil))
def q_f_fits_state_0 : M (List Dt) := (mLc [2] (mItems (mOp2 gIx (mVar 0) (mC (.int 1)))) (gN 2) mYes (mOp2 gIx (mVar 2) (mC (.int 0))))
def q_f_fits_state_1 : M (List Dt) := (mLc [2] (mItems (mOp2 gIx (mVar 0) (mC (.int 1)))) (gN 2) mYes (mOp2 gIx (mVar 2) (mC (.int 1))))
def b_f_fits_state  : F :=
  (sSeq (sIf (mOrT (mNotT (mTst (mCall f_is_tuple_of (mCons (mVar 0) (mCons (mC (.int 2)) (mCons (mC (.int 2)) mNil)))))) (mOrT (mNotT (mTst (mCall f_is_whole (mCons (mOp2 gIx (mVar 0) (mC (.int 0))) (mCons (mC (.int (-1))) (mCons (mOp2 gSub (mC (.int 40)) (mC (.int 1))) mNil)))))) (mNotT (mTst (mOp1 (gIsi "tuple") (mOp2 gIx (mVar 0) (mC (.int 1))))))))
  (sRet (mC (.bool false)))
  sNil)
  (sSeq w_f_fits_state_0
  (sSeq (sSet 3 (mBM isStr gJoin (mC (.str "")) (mCons (mFrz q_f_fits_state_0) mNil)))
  (sSeq (sSet 4 (mFrz q_f_fits_state_1))
  (sRet (mAndV (mOp2 gEq (mOpN gLen (mCons (mCall f_ascending (mCons (mVar 3) mNil)) mNil)) (mOpN gLen (mCons (mVar 3) mNil))) (mAndV (mOp2 gEq (mOp1 gLenSet (mVar 4)) (mOpN gLen (mCons (mVar 4) mNil))) (mCall f_ascends (mCons (mOp2 gIx (mVar 0) (mC (.int 1))) mNil)))))))))
def f_fits_state : Fn := run 2 5 [] b_f_fits_state
def q_f_is_word_machine_0 : M (List Dt) := (mLc [1] (mItems (mVar 0)) (gN 1) mYes (mCall f_fits_state (mCons (mVar 1) (mCons (mOpN gLen (mCons (mVar 0) mNil)) mNil))))
def b_f_is_word_machine  : F :=
  (sRet (mAndV (mCall f_is_tuple_of (mCons (mVar 0) (mCons (mC (.int 1)) (mCons (mC (.int 400)) mNil)))) (mOpN gAll (mCons (mFrz q_f_is_word_machine_0) mNil))))
def f_is_word_machine : Fn := run 1 2 [] b_f_is_word_machine
def b_f_need_machine  : F :=
  (sIf (mNotT (mTst (mCall f_is_word_machine (mCons (mVar 0) mNil))))
  (sRaise "InvalidMachine")
  sNil)
def f_need_machine : Fn := run 1 1 [] b_f_need_machine
def b_f_need_state  : F :=
  (sIf (mNotT (mTst (mCall f_is_whole (mCons (mVar 1) (mCons (mC (.int 0)) (mCons (mOp2 gSub (mOpN gLen (mCons (mVar 0) mNil)) (mC (.int 1))) mNil))))))
  (sRaise "InvalidNumber")
  sNil)
def f_need_state : Fn := run 2 2 [] b_f_need_state
def w_f_way_of_0 : F := (sForE [3, 4] (mItems (mOp2 gIx (mOp2 gIx (mVar 0) (mVar 1)) (mC (.int 1)))) (gT 2 (gCons (gN 3) (gCons (gN 4) gNil)))
  (sIf (mTst (mOp2 gIn (mVar 2) (mVar 3)))
  (sRet (mVar 4))
  sNil))
def b_f_way_of  : F :=
  (sSeq w_f_way_of_0
  (sRet (mC .none)))
def f_way_of : Fn := run 3 5 [] b_f_way_of
def w_f_parting_word_0 : F := (sForE [9, 10] (mItems (mC (.str cs_CHARACTERS))) (gN 9)
  (sSeq (sSet 10 (mTup (mCons (mCall f_way_of (mCons (mVar 0) (mCons (mVar 6) (mCons (mVar 9) mNil)))) (mCons (mCall f_way_of (mCons (mVar 0) (mCons (mVar 7) (mCons (mVar 9) mNil)))) mNil))))
  (sIf (mAndT (mTst (mNotInD 4 (mVar 10))) (mTst (mOp2 gNe (mVar 10) (mTup (mCons (mC .none) (mCons (mC .none) mNil))))))
  (sSeq (sPutD 4 (mC (.bool true)) (mVar 10))
  (sDrop (mOwn 3 fAppend (mCons (mOp2 gAdd (mVar 10) (mTup (mCons (mOp2 gAdd (mVar 8) (mVar 9)) mNil))) mNil))))
  sNil)))
def w_f_parting_word_1 : F := (fun ρ => sWhile [6, 7, 8, 9, 10] (mTst (mOp2 gLtA (mVar 5) (mOpN gLen (mCons (mVar 3) mNil))))
  (sSeq (sAsg (gT 3 (gCons (gN 6) (gCons (gN 7) (gCons (gN 8) gNil)))) (mOp2 gIx (mVar 3) (mVar 5)))
  (sSeq (sAug 5 gAddI (mC (.int 1)))
  (sSeq (sIf (mOrT (mTst (mOp2 gIsN (mVar 6) (mC .none))) (mOrT (mTst (mOp2 gIsN (mVar 7) (mC .none))) (mTst (mOp2 gNe (mOp2 gIx (mOp2 gIx (mVar 0) (mVar 6)) (mC (.int 0))) (mOp2 gIx (mOp2 gIx (mVar 0) (mVar 7)) (mC (.int 0)))))))
  (sRet (mVar 8))
  sNil)
  w_f_parting_word_0))) 60 (kills [6, 7, 8, 9, 10] ρ))
def b_f_parting_word  : F :=
  (sSeq (sDrop (mCall f_need_machine (mCons (mVar 0) mNil)))
  (sSeq (sDrop (mCall f_need_state (mCons (mVar 0) (mCons (mVar 1) mNil))))
  (sSeq (sDrop (mCall f_need_state (mCons (mVar 0) (mCons (mVar 2) mNil))))
  (sSeq (sPar [3, 4, 5] (mPo (mLst (mCons (mTup (mCons (mVar 1) (mCons (mVar 2) (mCons (mC (.str "")) mNil)))) mNil)) (mPk (mDisp1 (mTup (mCons (mVar 1) (mCons (mVar 2) mNil))) (mC (.bool true))) (mPd (mC (.int 0)) mPn))))
  (sSeq w_f_parting_word_1
  (sRet (mC .none)))))))
def f_parting_word : Fn := run 3 11 [] b_f_parting_word
def b_l_told  : F :=
  (sTry [(hitL [("InvalidMachine", true), ("InvalidNumber", false)], (sRet (mTup (mCons (mC (.str "error")) (mCons (mC (.str "machine")) mNil))))),
    (hitL [("InvalidMachine", false), ("InvalidNumber", true)], (sRet (mTup (mCons (mC (.str "error")) (mCons (mC (.str "number")) mNil)))))]
  (sRet (mCall f_parting_word (mCons (mVar 0) (mCons (mVar 1) (mCons (mVar 2) mNil))))))
def l_told : Fn := run 3 3 [] b_l_told
def w_l_walk_0 : F := (sForE [3] (mItems (mVar 2)) (gN 3)
  (sSet 1 (mIf (mTst (mOp2 gIsN (mVar 1) (mC .none))) (mC .none) (mCall l_way (mCons (mVar 0) (mCons (mVar 1) (mCons (mVar 3) mNil)))))))
def b_l_walk  : F :=
  (sSeq w_l_walk_0
  (sRet (mVar 1)))
def l_walk : Fn := run 3 4 [] b_l_walk
def b_l_parts  : F :=
  (sSeq (sPar [4, 5] (mPd (mCall l_walk (mCons (mVar 0) (mCons (mVar 1) (mCons (mVar 3) mNil)))) (mPd (mCall l_walk (mCons (mVar 0) (mCons (mVar 2) (mCons (mVar 3) mNil)))) mPn)))
  (sSeq (sIf (mOrT (mTst (mOp2 gIsN (mVar 4) (mC .none))) (mTst (mOp2 gIsN (mVar 5) (mC .none))))
  (sRet (mOp2 gNe (mOp2 gIsN (mVar 4) (mC .none)) (mOp2 gIsN (mVar 5) (mC .none))))
  sNil)
  (sRet (mOp2 gNe (mOp2 gIx (mOp2 gIx (mVar 0) (mVar 4)) (mC (.int 0))) (mOp2 gIx (mOp2 gIx (mVar 0) (mVar 5)) (mC (.int 0)))))))
def l_parts : Fn := run 4 6 [] b_l_parts
def b_f_law  : F :=
  (sSeq (sSetO 1 (mCallO l_cup (mCons (mVar 0) mNil)))
  (sSeq (sSet 2 (mCall l_machine (mCons (mVar 1) (mCons (mIf (mTst (mOp2 gEq (mCall l_roll (mCons (mVar 1) (mCons (mC (.int 2)) mNil))) (mC (.int 0)))) (mC (.str "abc")) (mC (.str "a~"))) mNil))))
  (sSeq (sPar [3, 4] (mPd (mCall l_roll (mCons (mVar 1) (mCons (mOpN gLen (mCons (mVar 2) mNil)) mNil))) (mPd (mCall l_roll (mCons (mVar 1) (mCons (mOpN gLen (mCons (mVar 2) mNil)) mNil))) mPn)))
  (sSeq (sIf (mNotT (mTst (mCall l_is_machine (mCons (mVar 2) mNil))))
  (sRet (mC (.bool false)))
  sNil)
  (sSeq (sPar [5, 6] (mPd (mCall l_parted (mCons (mVar 2) (mCons (mVar 2) (mCons (mVar 3) (mCons (mVar 4) (mCons (mC (.str "abc~")) mNil)))))) (mPd (mCall l_told (mCons (mVar 2) (mCons (mVar 3) (mCons (mVar 4) mNil)))) mPn)))
  (sSeq (sIf (mTst (mOp2 gLtA (mVar 5) (mC (.int 0))))
  (sIf (mTst (mOp2 gNotN (mVar 6) (mC .none)))
  (sRet (mC (.bool false)))
  sNil)
  (sIf (mOrT (mNotT (mTst (mOp1 (gIsi "str") (mVar 6)))) (mOrT (mTst (mOp2 gNe (mOpN gLen (mCons (mVar 6) mNil)) (mVar 5))) (mNotT (mTst (mCall l_parts (mCons (mVar 2) (mCons (mVar 3) (mCons (mVar 4) (mCons (mVar 6) mNil)))))))))
  (sRet (mC (.bool false)))
  sNil))
  (sSeq (sIf (mOrT (mTst (mOp2 gNotN (mCall l_told (mCons (mVar 2) (mCons (mVar 3) (mCons (mVar 3) mNil)))) (mC .none))) (mTst (mOp2 gNe (mCall l_told (mCons (mC .none) (mCons (mC (.int (-1))) (mCons (mC (.int 0)) mNil)))) (mTup (mCons (mC (.str "error")) (mCons (mC (.str "machine")) mNil))))))
  (sRet (mC (.bool false)))
  sNil)
  (sSeq (sSet 7 (mCall l_some (mCons (mVar 1) (mCons (mFrz (mLst (mCons (mC (.int (-1))) (mCons (mOpN gLen (mCons (mVar 2) mNil)) (mCons (mC (.bool true)) (mCons (mC .none) (mCons (mC (.str "0")) mNil))))))) mNil))))
  (sRet (mAndV (mOp2 gEq (mCall l_told (mCons (mVar 2) (mCons (mVar 7) (mCons (mC (.int 0)) mNil)))) (mTup (mCons (mC (.str "error")) (mCons (mC (.str "number")) mNil)))) (mOp2 gEq (mCall l_told (mCons (mVar 2) (mCons (mVar 4) (mCons (mVar 7) mNil)))) (mTup (mCons (mC (.str "error")) (mCons (mC (.str "number")) mNil))))))))))))))
def f_law : Fn := run 1 8 [] b_f_law
/-! ### the walk -/
section
variable {P : Program} {w : World} {K : PySem.W.Frag} {mg : Str → Option Value} {base : Heap}
theorem sc_l_cup : FnScope ["_law_script", "_law_cell"] ["_law_script"] (defScope s_l_cup) := ⟨rfl, rfl, rfl, by decide +kernel, rfl, by decide +kernel, by decide +kernel⟩
theorem ok_l_cup (T : Txt K mg) : DefOk P w K mg base 1 "_law_cup" 1 l_cup := by
  have nd := sc_l_cup.nd
  exact def_mk T.d_l_cup sc_l_cup fun f cdv A outer s H E hr tk =>
    (d_scons (d_set (i := 1) nd (d_callB call_abs pur_abs T.z_abs PyProof.Rows.boot_abs (d_cons (d_ix ix_seq pur_ix (d_op op_addA pur_add (d_frz (d_callTF call_list_of pur_listOf T.z_list PyProof.Rows.boot_list (d_cons (d_var 0) d_nil))) (d_frz (d_lstN (d_cons d_int d_nil)))) d_int) d_nil)))
    (d_sone (d_retO (d_lstN (d_cons (d_if (d_cmpT op_ge pur_ge (d_var 1) (d_op op_pow pur_pow d_int d_int)) (d_op op_fdiv pur_div (d_var 1) d_int) d_int) (d_cons (d_op op_addA pur_add (d_op op_mod pur_mod (d_callT call_int1 pur_int T.z_int PyProof.Rows.boot_int (d_cons (d_op op_addA pur_add (d_op op_mulA pur_mulA (d_var 1) d_int) d_int) d_nil)) d_int) d_int) d_nil))))))
theorem sc_l_roll : FnScope ["_law_cup_here", "_law_many", "_law_deep", "_law_found"] ["_law_cup_here", "_law_many"] (defScope s_l_roll) := ⟨rfl, rfl, rfl, by decide +kernel, rfl, by decide +kernel, by decide +kernel⟩
theorem ok_l_roll (T : Txt K mg) : DefOk P w K mg base 1 "_law_roll" 2 l_roll := by
  have nd := sc_l_roll.nd
  exact def_mk T.d_l_roll sc_l_roll fun f cdv A outer s H E hr tk =>
    (d_scons (d_ifS (d_cmpT op_gt pur_gt (d_ix ix_seq pur_ix (d_var 0) d_int) d_int)
    (d_scons (d_set (i := 3) nd (d_op op_mod pur_mod (d_callT call_int1 pur_int T.z_int PyProof.Rows.boot_int (d_cons (d_ix ix_seq pur_ix (d_var 0) d_int) d_nil)) (d_var 1)))
    (d_scons (d_put (d_op op_fdiv pur_div (d_ix ix_seq pur_ix (d_var 0) d_int) (d_var 1)) (pv 0) d_int)
    (d_sone (d_ret (d_var 3)))))
    d_snil)
    (d_scons (d_put (d_op op_mod pur_mod (d_callT call_int1 pur_int T.z_int PyProof.Rows.boot_int (d_cons (d_op op_addA pur_add (d_op op_mulA pur_mulA (d_ix ix_seq pur_ix (d_var 0) d_int) d_int) d_int) d_nil)) d_int) (pv 0) d_int)
    (d_scons (d_set (i := 2) nd (d_op op_mod pur_mod (d_callT call_int1 pur_int T.z_int PyProof.Rows.boot_int (d_cons (d_op op_mulA pur_mulA (d_ix ix_seq pur_ix (d_var 0) d_int) (d_op op_addA pur_add (d_ix ix_seq pur_ix (d_var 0) d_int) d_int)) d_nil)) d_int))
    (d_sone (d_ret (d_op op_mod pur_mod (d_callT call_int1 pur_int T.z_int PyProof.Rows.boot_int (d_cons (d_op op_fdiv pur_div (d_var 2) d_int) d_nil)) (d_var 1)))))))
theorem sc_l_some : FnScope ["_law_cup_here", "_law_things"] ["_law_cup_here", "_law_things"] (defScope s_l_some) := ⟨rfl, rfl, rfl, by decide +kernel, rfl, by decide +kernel, by decide +kernel⟩
theorem ok_l_some (T : Txt K mg) : DefOk P w K mg base 2 "_law_some" 2 l_some := by
  have nd := sc_l_some.nd
  exact def_mk T.d_l_some sc_l_some fun f cdv A outer s H E hr tk =>
    (d_sone (d_ret (d_ix ix_seq pur_ix (d_var 1) (c_call (ok_l_roll T) tk (hr.mono (by omega)) (d_cons (d_var 0) (d_cons (d_callB call_len pur_len T.z_len PySem.boot_len (d_cons (d_var 1) d_nil)) d_nil))))))
theorem sc_l_machine : FnScope ["_law_cup_here", "_law_chars_here", "_law_many", "_law_rows", "_law_state", "_law_targets", "_law_ways", "_law_target", "_law_letters", "_law_sign", "_law_at"] ["_law_cup_here", "_law_chars_here"] (defScope s_l_machine) := ⟨rfl, rfl, rfl, by decide +kernel, rfl, by decide +kernel, by decide +kernel⟩
theorem ok_l_machine (T : Txt K mg) : DefOk P w K mg base 3 "_law_machine" 2 l_machine := by
  have nd := sc_l_machine.nd
  exact def_mk T.d_l_machine sc_l_machine fun f cdv A outer s H E hr tk =>
    (d_scons (d_parT (is := [2, 3]) rfl (d_pd (d_op op_addA pur_add d_int (c_call (ok_l_roll T) tk (hr.mono (by omega)) (d_cons (d_var 0) (d_cons d_int d_nil)))) (d_po (d_lstN d_nil) d_pn)) (pgs_cons (pg_name (i := 2) nd rfl (by first | exact .inl rfl | exact .inr rfl)) (pgs_cons (pg_name (i := 3) nd rfl (by first | exact .inl rfl | exact .inr rfl)) pgs_nil)))
    (d_scons (d_for (kl := [4, 5, 6, 7, 8, 9, 10]) (passes_of rfl) rfl (d_range1 T.z_range (d_cons (d_var 2) d_nil)) (d_gn (pg_name (i := 4) nd rfl (by first | exact .inl rfl | exact .inr rfl)))
    (d_scons (d_set (i := 5) nd (d_frz (d_lc (own := [("_law_sign", 9)]) rfl nd (d_items (d_var 1)) (blk_of (by kernel_rfl)) (fun _ _ _ _ _ => (d_gn (pg_name (i := 9) nd rfl (by first | exact .inl rfl | exact .inr rfl)))) (fun _ _ _ _ _ => d_yes) (fun _ _ _ _ _ => (c_call (ok_l_roll T) tk0 (hr.mono (by omega)) (d_cons (d_var 0) (d_cons (d_op op_addA pur_add (d_op op_addA pur_add (d_var 2) d_int) (c_call (ok_l_roll T) tk0 (hr.mono (by omega)) (d_cons (d_var 0) (d_cons d_int d_nil)))) d_nil)))))))
    (d_scons (d_set (i := 6) nd (d_frz (d_lstN d_nil)))
    (d_scons (d_for (kl := [7, 8, 9, 10]) (passes_of rfl) rfl (d_range1 T.z_range (d_cons (d_var 2) d_nil)) (d_gn (pg_name (i := 7) nd rfl (by first | exact .inl rfl | exact .inr rfl)))
    (d_scons (d_set (i := 8) nd (d_bm (fun _ _ _ _ => ty_str) purM_join PySem.F.plainAttrs_str PySem.F.slot_str_join PySem.F.type_str_join mt_join d_str (d_cons (d_frz (d_lc (own := [("_law_at", 10), ("_law_sign", 9)]) rfl nd (d_enum T.z_enumerate (d_cons (d_var 1) d_nil)) (blk_of (by kernel_rfl)) (fun _ _ _ _ _ => (d_gt rfl (d_gcons (d_gn (pg_name (i := 10) nd rfl (by first | exact .inl rfl | exact .inr rfl))) (d_gcons (d_gn (pg_name (i := 9) nd rfl (by first | exact .inl rfl | exact .inr rfl))) d_gnil)))) (fun _ _ _ _ _ => (d_ift (d_cmpT (op_eqA (u64 hr)) pur_eq (d_ix ix_seq pur_ix (d_var 5) (d_var 10)) (d_var 7)))) (fun _ _ _ _ _ => (d_var 9)))) d_nil)))
    (d_sone (d_set (i := 6) nd (d_op op_addA pur_add (d_var 6) (d_if (d_cmpT (op_neA (u64 hr)) pur_ne (d_var 8) d_str) (d_frz (d_lstN (d_cons (d_tup (d_cons (d_var 8) (d_cons (d_var 7) d_nil))) d_nil))) (d_frz (d_lstN d_nil))))))))
    (d_sone (d_drop (d_own own_append PySem.F.slot_list_append PySem.F.type_list_append mt_append (pv 3) (d_cons (d_tup (d_cons (c_call (ok_l_some T) tk (hr.mono (by omega)) (d_cons (d_var 0) (d_cons (d_frz (d_lstN (d_cons d_negC (d_cons d_negC (d_cons d_int (d_cons d_int d_nil)))))) d_nil))) (d_cons (d_callT call_tuple_of pur_tupOf T.z_tuple PyProof.Rows.boot_tuple (d_cons (d_frz (d_callBF cr_sortD (pur_sort (u65 hr)) T.z_sorted PyProof.Rows.boot_sorted (d_cons (d_var 6) d_nil))) d_nil)) d_nil))) d_nil))))))))
    (d_sone (d_ret (d_callT call_tuple_of pur_tupOf T.z_tuple PyProof.Rows.boot_tuple (d_cons (d_var 3) d_nil))))))
theorem sc_l_is_whole : FnScope ["_law_value"] ["_law_value"] (defScope s_l_is_whole) := ⟨rfl, rfl, rfl, by decide +kernel, rfl, by decide +kernel, by decide +kernel⟩
theorem ok_l_is_whole (T : Txt K mg) : DefOk P w K mg base 1 "_law_is_whole" 1 l_is_whole := by
  have nd := sc_l_is_whole.nd
  exact def_mk T.d_l_is_whole sc_l_is_whole fun f cdv A outer s H E hr tk =>
    (d_sone (d_ret (d_andV (d_isi T.z_isinstance T.z_int PyProof.Rows.boot_int (d_var 0)) (d_oneV (d_notV (d_isi T.z_isinstance T.z_bool PyProof.Rows.boot_bool (d_var 0)))))))
theorem sc_l_chars : FnScope [] [] (defScope s_l_chars) := ⟨rfl, rfl, rfl, by decide +kernel, rfl, by decide +kernel, by decide +kernel⟩
theorem ok_l_chars (T : Txt K mg) : DefOk P w K mg base 1 "_law_chars" 0 l_chars := by
  have nd := sc_l_chars.nd
  exact def_mk T.d_l_chars sc_l_chars fun f cdv A outer s H E hr tk =>
    (d_sone (d_ret d_str))
theorem sc_l_is_state : FnScope ["_law_value", "_law_many", "_law_letters", "_law_targets", "_law_way_here", "_law_one"] ["_law_value", "_law_many"] (defScope s_l_is_state) := ⟨rfl, rfl, rfl, by decide +kernel, rfl, by decide +kernel, by decide +kernel⟩
theorem ok_l_is_state (T : Txt K mg) : DefOk P w K mg base 2 "_law_is_state" 2 l_is_state := by
  have nd := sc_l_is_state.nd
  exact def_mk T.d_l_is_state sc_l_is_state fun f cdv A outer s H E hr tk =>
    (d_scons (d_ifS (d_orT (d_notT (d_tst (d_isi T.z_isinstance T.z_tuple PyProof.Rows.boot_tuple (d_var 0)))) (d_orT (d_cmpT (op_neA (u64 hr)) pur_ne (d_callB call_len pur_len T.z_len PySem.boot_len (d_cons (d_var 0) d_nil)) d_int) (d_orT (d_notT (d_tst (c_call (ok_l_is_whole T) tk (hr.mono (by omega)) (d_cons (d_ix ix_seq pur_ix (d_var 0) d_int) d_nil)))) (d_orT (d_notT (d_chainT op_le (op_ltA (u65 hr)) pur_le pur_ltA d_negC (d_ix ix_seq pur_ix (d_var 0) d_int) d_int)) (d_or1 (d_notT (d_tst (d_isi T.z_isinstance T.z_tuple PyProof.Rows.boot_tuple (d_ix ix_seq pur_ix (d_var 0) d_int))))))))).pt
    (d_sone (d_ret d_bl))
    d_snil)
    (d_scons (d_parT (is := [2, 3]) rfl (d_pd d_str (d_pd (d_frz (d_lstN d_nil)) d_pn)) (pgs_cons (pg_name (i := 2) nd rfl (by first | exact .inl rfl | exact .inr rfl)) (pgs_cons (pg_name (i := 3) nd rfl (by first | exact .inl rfl | exact .inr rfl)) pgs_nil)))
    (d_scons (d_for (kl := [4, 5]) (passes_of rfl) rfl (d_items (d_ix ix_seq pur_ix (d_var 0) d_int)) (d_gn (pg_name (i := 4) nd rfl (by first | exact .inl rfl | exact .inr rfl)))
    (d_scons (d_ifS (d_orT (d_notT (d_tst (d_isi T.z_isinstance T.z_tuple PyProof.Rows.boot_tuple (d_var 4)))) (d_orT (d_cmpT (op_neA (u64 hr)) pur_ne (d_callB call_len pur_len T.z_len PySem.boot_len (d_cons (d_var 4) d_nil)) d_int) (d_orT (d_notT (d_tst (d_isi T.z_isinstance T.z_str PyProof.Rows.boot_str (d_ix ix_seq pur_ix (d_var 4) d_int)))) (d_orT (d_cmpT (op_eqA (u64 hr)) pur_eq (d_ix ix_seq pur_ix (d_var 4) d_int) d_str) (d_or1 (d_notT (d_tst (c_call (ok_l_is_whole T) tk (hr.mono (by omega)) (d_cons (d_ix ix_seq pur_ix (d_var 4) d_int) d_nil))))))))).pt
    (d_sone (d_ret d_bl))
    d_snil)
    (d_scons (d_ifS (d_orT (d_notT (d_chainT op_le (op_ltA (u65 hr)) pur_le pur_ltA d_int (d_ix ix_seq pur_ix (d_var 4) d_int) (d_var 1))) (d_orT (d_cmpT (op_neA (u64 hr)) pur_ne (d_bm (fun _ _ _ _ => ty_str) purM_join PySem.F.plainAttrs_str PySem.F.slot_str_join PySem.F.type_str_join mt_join d_str (d_cons (d_frz (d_lc (own := [("_law_one", 5)]) rfl nd (d_items (c_call0 (ok_l_chars T) tk (hr.mono (by omega)))) (blk_of (by kernel_rfl)) (fun _ _ _ _ _ => (d_gn (pg_name (i := 5) nd rfl (by first | exact .inl rfl | exact .inr rfl)))) (fun _ _ _ _ _ => (d_ift (d_cmpT (op_inA (u65 hr)) pur_in (d_var 5) (d_ix ix_seq pur_ix (d_var 4) d_int)))) (fun _ _ _ _ _ => (d_var 5)))) d_nil)) (d_ix ix_seq pur_ix (d_var 4) d_int)) (d_or1 (d_cmpT (op_inA (u65 hr)) pur_in (d_ix ix_seq pur_ix (d_var 4) d_int) (d_var 3))))).pt
    (d_sone (d_ret d_bl))
    d_snil)
    (d_scons (d_ifS (d_cmpT (op_neA (u64 hr)) pur_ne (d_frz (d_lc (own := [("_law_one", 5)]) rfl nd (d_items (d_ix ix_seq pur_ix (d_var 4) d_int)) (blk_of (by kernel_rfl)) (fun _ _ _ _ _ => (d_gn (pg_name (i := 5) nd rfl (by first | exact .inl rfl | exact .inr rfl)))) (fun _ _ _ _ _ => (d_ift (d_cmpT (op_inA (u65 hr)) pur_in (d_var 5) (d_var 2)))) (fun _ _ _ _ _ => d_int))) (d_frz (d_lstN d_nil)))
    (d_sone (d_ret d_bl))
    d_snil)
    (d_sone (d_parT (is := [2, 3]) rfl (d_pd (d_op op_addA pur_add (d_var 2) (d_ix ix_seq pur_ix (d_var 4) d_int)) (d_pd (d_op op_addA pur_add (d_var 3) (d_frz (d_lstN (d_cons (d_ix ix_seq pur_ix (d_var 4) d_int) d_nil)))) d_pn)) (pgs_cons (pg_name (i := 2) nd rfl (by first | exact .inl rfl | exact .inr rfl)) (pgs_cons (pg_name (i := 3) nd rfl (by first | exact .inl rfl | exact .inr rfl)) pgs_nil))))))))
    (d_sone (d_ret (d_cmp (op_eqA (u64 hr)) pur_eq (d_frz (d_callTF call_list_of pur_listOf T.z_list PyProof.Rows.boot_list (d_cons (d_ix ix_seq pur_ix (d_var 0) d_int) d_nil))) (d_frz (d_callBF cr_sortD (pur_sort (u65 hr)) T.z_sorted PyProof.Rows.boot_sorted (d_cons (d_ix ix_seq pur_ix (d_var 0) d_int) d_nil)))))))))
theorem sc_l_is_machine : FnScope ["_law_value", "_law_one"] ["_law_value"] (defScope s_l_is_machine) := ⟨rfl, rfl, rfl, by decide +kernel, rfl, by decide +kernel, by decide +kernel⟩
theorem ok_l_is_machine (T : Txt K mg) : DefOk P w K mg base 3 "_law_is_machine" 1 l_is_machine := by
  have nd := sc_l_is_machine.nd
  exact def_mk T.d_l_is_machine sc_l_is_machine fun f cdv A outer s H E hr tk =>
    (d_sone (d_ret (d_andV (d_isi T.z_isinstance T.z_tuple PyProof.Rows.boot_tuple (d_var 0)) (d_andV (d_chain op_le op_le pur_le pur_le d_int (d_callB call_len pur_len T.z_len PySem.boot_len (d_cons (d_var 0) d_nil)) d_int) (d_oneV (d_cmp (op_eqA (u64 hr)) pur_eq (d_frz (d_lc (own := [("_law_one", 1)]) rfl nd (d_items (d_var 0)) (blk_of (by kernel_rfl)) (fun _ _ _ _ _ => (d_gn (pg_name (i := 1) nd rfl (by first | exact .inl rfl | exact .inr rfl)))) (fun _ _ _ _ _ => (d_ift (d_notT (d_tst (c_call (ok_l_is_state T) tk0 (hr.mono (by omega)) (d_cons (d_var 1) (d_cons (d_callB call_len pur_len T.z_len PySem.boot_len (d_cons (d_var 0) d_nil)) d_nil))))))) (fun _ _ _ _ _ => d_int))) (d_frz (d_lstN d_nil))))))))
theorem sc_l_way : FnScope ["_law_machine_here", "_law_state", "_law_sign", "_law_letters", "_law_target"] ["_law_machine_here", "_law_state", "_law_sign"] (defScope s_l_way) := ⟨rfl, rfl, rfl, by decide +kernel, rfl, by decide +kernel, by decide +kernel⟩
theorem ok_l_way (T : Txt K mg) : DefOk P w K mg base 1 "_law_way" 3 l_way := by
  have nd := sc_l_way.nd
  exact def_mk T.d_l_way sc_l_way fun f cdv A outer s H E hr tk =>
    (d_sone (d_ret (d_ix ix_seq pur_ix (d_op op_addA pur_add (d_frz (d_lc (own := [("_law_letters", 3), ("_law_target", 4)]) rfl nd (d_items (d_ix ix_seq pur_ix (d_ix ix_seq pur_ix (d_var 0) (d_var 1)) d_int)) (blk_of (by kernel_rfl)) (fun _ _ _ _ _ => (d_gt rfl (d_gcons (d_gn (pg_name (i := 3) nd rfl (by first | exact .inl rfl | exact .inr rfl))) (d_gcons (d_gn (pg_name (i := 4) nd rfl (by first | exact .inl rfl | exact .inr rfl))) d_gnil)))) (fun _ _ _ _ _ => (d_ift (d_cmpT (op_inA (u65 hr)) pur_in (d_var 2) (d_var 3)))) (fun _ _ _ _ _ => (d_var 4)))) (d_frz (d_lstN (d_cons d_non d_nil)))) d_int)))
theorem sc_l_parted : FnScope ["_law_machine_here", "_law_other", "_law_one", "_law_two", "_law_chars_here", "_law_line", "_law_seen", "_law_here", "_law_there", "_law_many", "_law_sign"] ["_law_machine_here", "_law_other", "_law_one", "_law_two", "_law_chars_here"] (defScope s_l_parted) := ⟨rfl, rfl, rfl, by decide +kernel, rfl, by decide +kernel, by decide +kernel⟩
theorem ok_l_parted (T : Txt K mg) : DefOk P w K mg base 2 "_law_parted" 5 l_parted := by
  have nd := sc_l_parted.nd
  exact def_mk T.d_l_parted sc_l_parted fun f cdv A outer s H E hr tk =>
    (d_scons (d_par2 (i := 5) (j := 6) rfl nd (d_pd (d_frz (d_lstN (d_cons (d_tup (d_cons (d_var 2) (d_cons (d_var 3) (d_cons d_int d_nil)))) d_nil))) (d_po (d_lstN d_nil) d_pn)))
    (d_scons (d_while (kl := [7, 8, 9, 10]) (n := 300) (passes_of rfl) (d_cmpT (op_neA (u64 hr)) pur_ne (d_var 5) (d_frz (d_lstN d_nil)))
    (d_scons (d_asg (d_ix ix_seq pur_ix (d_var 5) d_int) (d_gt rfl (d_gcons (d_gn (pg_name (i := 7) nd rfl (by first | exact .inl rfl | exact .inr rfl))) (d_gcons (d_gn (pg_name (i := 8) nd rfl (by first | exact .inl rfl | exact .inr rfl))) (d_gcons (d_gn (pg_name (i := 9) nd rfl (by first | exact .inl rfl | exact .inr rfl))) d_gnil)))))
    (d_scons (d_set (i := 5) nd (d_slice sl_any purS_slice (d_var 5) (d_some d_int) d_none))
    (d_scons (d_ifS (d_orT (d_cmpT (op_neA (u64 hr)) pur_ne (d_cmp op_isN pur_isN (d_var 7) d_non) (d_cmp op_isN pur_isN (d_var 8) d_non)) (d_or1 (d_andT (d_cmpT op_notN pur_notN (d_var 7) d_non) (d_and1 (d_cmpT (op_neA (u64 hr)) pur_ne (d_ix ix_seq pur_ix (d_ix ix_seq pur_ix (d_var 0) (d_var 7)) d_int) (d_ix ix_seq pur_ix (d_ix ix_seq pur_ix (d_var 1) (d_var 8)) d_int)))).pt)).pt
    (d_sone (d_ret (d_var 9)))
    d_snil)
    (d_sone (d_ifS (d_andT (d_cmpT op_notN pur_notN (d_var 7) d_non) (d_and1 (d_cmpT (op_notInA (u65 hr)) pur_notIn (d_tup (d_cons (d_var 7) (d_cons (d_var 8) d_nil))) (d_var 6)))).pt
    (d_scons (d_drop (d_own own_append PySem.F.slot_list_append PySem.F.type_list_append mt_append (pv 6) (d_cons (d_tup (d_cons (d_var 7) (d_cons (d_var 8) d_nil))) d_nil)))
    (d_sone (d_set (i := 5) nd (d_op op_addA pur_add (d_var 5) (d_frz (d_lc (own := [("_law_sign", 10)]) rfl nd (d_items (d_var 4)) (blk_of (by kernel_rfl)) (fun _ _ _ _ _ => (d_gn (pg_name (i := 10) nd rfl (by first | exact .inl rfl | exact .inr rfl)))) (fun _ _ _ _ _ => d_yes) (fun _ _ _ _ _ => (d_tup (d_cons (c_call (ok_l_way T) tk0 (hr.mono (by omega)) (d_cons (d_var 0) (d_cons (d_var 7) (d_cons (d_var 10) d_nil)))) (d_cons (c_call (ok_l_way T) tk0 (hr.mono (by omega)) (d_cons (d_var 1) (d_cons (d_var 8) (d_cons (d_var 10) d_nil)))) (d_cons (d_op op_addA pur_add (d_var 9) d_int) d_nil)))))))))))
    d_snil))))))
    (d_sone (d_ret d_negC))))
theorem sc_f_is_tuple_of : FnScope ["value", "low", "high"] ["value", "low", "high"] (defScope s_f_is_tuple_of) := ⟨rfl, rfl, rfl, by decide +kernel, rfl, by decide +kernel, by decide +kernel⟩
theorem ok_f_is_tuple_of (T : Txt K mg) : DefOk P w K mg base 1 "is_tuple_of" 3 f_is_tuple_of := by
  have nd := sc_f_is_tuple_of.nd
  exact def_mk T.d_f_is_tuple_of sc_f_is_tuple_of fun f cdv A outer s H E hr tk =>
    (d_sone (d_ret (d_andV (d_isi T.z_isinstance T.z_tuple PyProof.Rows.boot_tuple (d_var 0)) (d_oneV (d_chain op_le op_le pur_le pur_le (d_var 1) (d_callB call_len pur_len T.z_len PySem.boot_len (d_cons (d_var 0) d_nil)) (d_var 2))))))
theorem sc_f_ascends : FnScope ["items", "one", "other"] ["items"] (defScope s_f_ascends) := ⟨rfl, rfl, rfl, by decide +kernel, rfl, by decide +kernel, by decide +kernel⟩
theorem ok_f_ascends (T : Txt K mg) : DefOk P w K mg base 1 "ascends" 1 f_ascends := by
  have nd := sc_f_ascends.nd
  exact def_mk T.d_f_ascends sc_f_ascends fun f cdv A outer s H E hr tk =>
    (d_sone (d_ret (d_callB (cr_all rfl) pur_all T.z_all PyProof.Rows.boot_all (d_cons (d_frz (d_lc (own := [("one", 1), ("other", 2)]) rfl nd (d_zip T.z_zip (d_cons (d_var 0) (d_cons (d_slice sl_any purS_slice (d_var 0) (d_some d_int) d_none) d_nil))) (blk_of (by kernel_rfl)) (fun _ _ _ _ _ => (d_gt rfl (d_gcons (d_gn (pg_name (i := 1) nd rfl (by first | exact .inl rfl | exact .inr rfl))) (d_gcons (d_gn (pg_name (i := 2) nd rfl (by first | exact .inl rfl | exact .inr rfl))) d_gnil)))) (fun _ _ _ _ _ => d_yes) (fun _ _ _ _ _ => (d_cmp (op_ltA (u65 hr)) pur_ltA (d_var 1) (d_var 2))))) d_nil))))
theorem sc_f_is_whole : FnScope ["value", "low", "high"] ["value", "low", "high"] (defScope s_f_is_whole) := ⟨rfl, rfl, rfl, by decide +kernel, rfl, by decide +kernel, by decide +kernel⟩
theorem ok_f_is_whole (T : Txt K mg) : DefOk P w K mg base 1 "is_whole" 3 f_is_whole := by
  have nd := sc_f_is_whole.nd
  exact def_mk T.d_f_is_whole sc_f_is_whole fun f cdv A outer s H E hr tk =>
    (d_sone (d_ret (d_andV (d_isi T.z_isinstance T.z_int PyProof.Rows.boot_int (d_var 0)) (d_andV (d_notV (d_isi T.z_isinstance T.z_bool PyProof.Rows.boot_bool (d_var 0))) (d_oneV (d_chain op_le op_le pur_le pur_le (d_var 1) (d_var 0) (d_var 2)))))))
theorem sc_f_is_text : FnScope ["value", "most", "one"] ["value", "most"] (defScope s_f_is_text) := ⟨rfl, rfl, rfl, by decide +kernel, rfl, by decide +kernel, by decide +kernel⟩
theorem ok_f_is_text (T : Txt K mg) : DefOk P w K mg base 1 "is_text" 2 f_is_text := by
  have nd := sc_f_is_text.nd
  exact def_mk T.d_f_is_text sc_f_is_text fun f cdv A outer s H E hr tk =>
    (d_sone (d_ret (d_andV (d_isi T.z_isinstance T.z_str PyProof.Rows.boot_str (d_var 0)) (d_andV (d_cmp op_le pur_le (d_callB call_len pur_len T.z_len PySem.boot_len (d_cons (d_var 0) d_nil)) (d_var 1)) (d_oneV (d_callB (cr_all rfl) pur_all T.z_all PyProof.Rows.boot_all (d_cons (d_frz (d_lc (own := [("one", 2)]) rfl nd (d_items (d_var 0)) (blk_of (by kernel_rfl)) (fun _ _ _ _ _ => (d_gn (pg_name (i := 2) nd rfl (by first | exact .inl rfl | exact .inr rfl)))) (fun _ _ _ _ _ => d_yes) (fun _ _ _ _ _ => (d_cmp (op_inA (u65 hr)) pur_in (d_var 2) (d_gstrE T.c_CHARACTERS))))) d_nil)))))))
theorem sc_f_ascending : FnScope ["letters", "one"] ["letters"] (defScope s_f_ascending) := ⟨rfl, rfl, rfl, by decide +kernel, rfl, by decide +kernel, by decide +kernel⟩
theorem ok_f_ascending (T : Txt K mg) : DefOk P w K mg base 1 "ascending" 1 f_ascending := by
  have nd := sc_f_ascending.nd
  exact def_mk T.d_f_ascending sc_f_ascending fun f cdv A outer s H E hr tk =>
    (d_sone (d_ret (d_bm (fun _ _ _ _ => ty_str) purM_join PySem.F.plainAttrs_str PySem.F.slot_str_join PySem.F.type_str_join mt_join d_str (d_cons (d_frz (d_lc (own := [("one", 1)]) rfl nd (d_items (d_gstrE T.c_CHARACTERS)) (blk_of (by kernel_rfl)) (fun _ _ _ _ _ => (d_gn (pg_name (i := 1) nd rfl (by first | exact .inl rfl | exact .inr rfl)))) (fun _ _ _ _ _ => (d_ift (d_cmpT (op_inA (u65 hr)) pur_in (d_var 1) (d_var 0)))) (fun _ _ _ _ _ => (d_var 1)))) d_nil))))
theorem sc_f_fits_letters : FnScope ["value"] ["value"] (defScope s_f_fits_letters) := ⟨rfl, rfl, rfl, by decide +kernel, rfl, by decide +kernel, by decide +kernel⟩
theorem ok_f_fits_letters (T : Txt K mg) : DefOk P w K mg base 2 "fits_letters" 1 f_fits_letters := by
  have nd := sc_f_fits_letters.nd
  exact def_mk T.d_f_fits_letters sc_f_fits_letters fun f cdv A outer s H E hr tk =>
    (d_sone (d_ret (d_andV (d_isi T.z_isinstance T.z_str PyProof.Rows.boot_str (d_var 0)) (d_andV (d_cmp (op_neA (u64 hr)) pur_ne (d_var 0) d_str) (d_andV (c_call (ok_f_is_text T) tk (hr.mono (by omega)) (d_cons (d_var 0) (d_cons (d_callB call_len pur_len T.z_len PySem.boot_len (d_cons (d_gstrE T.c_CHARACTERS) d_nil)) d_nil))) (d_oneV (d_cmp (op_eqA (u64 hr)) pur_eq (d_var 0) (c_call (ok_f_ascending T) tk (hr.mono (by omega)) (d_cons (d_var 0) d_nil)))))))))
theorem sc_f_fits_state : FnScope ["value", "many", "way", "letters", "states"] ["value", "many"] (defScope s_f_fits_state) := ⟨rfl, rfl, rfl, by decide +kernel, rfl, by decide +kernel, by decide +kernel⟩
theorem ok_f_fits_state (T : Txt K mg) : DefOk P w K mg base 3 "fits_state" 2 f_fits_state := by
  have nd := sc_f_fits_state.nd
  exact def_mk T.d_f_fits_state sc_f_fits_state fun f cdv A outer s H E hr tk =>
    (d_scons (d_ifS (d_orT (d_notT (d_tst (c_call (ok_f_is_tuple_of T) tk (hr.mono (by omega)) (d_cons (d_var 0) (d_cons d_int (d_cons d_int d_nil)))))) (d_orT (d_notT (d_tst (c_call (ok_f_is_whole T) tk (hr.mono (by omega)) (d_cons (d_ix ix_seq pur_ix (d_var 0) d_int) (d_cons d_negC (d_cons (d_op op_sub pur_sub (d_gintE T.c_RULES) d_int) d_nil)))))) (d_or1 (d_notT (d_tst (d_isi T.z_isinstance T.z_tuple PyProof.Rows.boot_tuple (d_ix ix_seq pur_ix (d_var 0) d_int))))))).pt
    (d_sone (d_ret d_bl))
    d_snil)
    (d_scons (d_for (kl := [2]) (passes_of rfl) rfl (d_items (d_ix ix_seq pur_ix (d_var 0) d_int)) (d_gn (pg_name (i := 2) nd rfl (by first | exact .inl rfl | exact .inr rfl)))
    (d_sone (d_ifS (d_orT (d_notT (d_tst (c_call (ok_f_is_tuple_of T) tk (hr.mono (by omega)) (d_cons (d_var 2) (d_cons d_int (d_cons d_int d_nil)))))) (d_orT (d_notT (d_tst (c_call (ok_f_fits_letters T) tk (hr.mono (by omega)) (d_cons (d_ix ix_seq pur_ix (d_var 2) d_int) d_nil)))) (d_or1 (d_notT (d_tst (c_call (ok_f_is_whole T) tk (hr.mono (by omega)) (d_cons (d_ix ix_seq pur_ix (d_var 2) d_int) (d_cons d_int (d_cons (d_op op_sub pur_sub (d_var 1) d_int) d_nil))))))))).pt
    (d_sone (d_ret d_bl))
    d_snil)))
    (d_scons (d_set (i := 3) nd (d_bm (fun _ _ _ _ => ty_str) purM_join PySem.F.plainAttrs_str PySem.F.slot_str_join PySem.F.type_str_join mt_join d_str (d_cons (d_frz (d_lc (own := [("way", 2)]) rfl nd (d_items (d_ix ix_seq pur_ix (d_var 0) d_int)) (blk_of (by kernel_rfl)) (fun _ _ _ _ _ => (d_gn (pg_name (i := 2) nd rfl (by first | exact .inl rfl | exact .inr rfl)))) (fun _ _ _ _ _ => d_yes) (fun _ _ _ _ _ => (d_ix ix_seq pur_ix (d_var 2) d_int)))) d_nil)))
    (d_scons (d_setLcF (i := 4) (own := [("way", 2)]) rfl nd (d_items (d_ix ix_seq pur_ix (d_var 0) d_int)) (blk_of (by kernel_rfl)) (fun _ _ _ _ _ => (d_gn (pg_name (i := 2) nd rfl (by first | exact .inl rfl | exact .inr rfl)))) (fun _ _ _ _ _ => d_yes) (fun _ _ _ _ _ => (d_ix ix_seq pur_ix (d_var 2) d_int)))
    (d_sone (d_ret (d_andV (d_cmp (op_eqA (u64 hr)) pur_eq (d_callB call_len pur_len T.z_len PySem.boot_len (d_cons (c_call (ok_f_ascending T) tk (hr.mono (by omega)) (d_cons (d_var 3) d_nil)) d_nil)) (d_callB call_len pur_len T.z_len PySem.boot_len (d_cons (d_var 3) d_nil))) (d_andV (d_cmp (op_eqA (u64 hr)) pur_eq (d_lenSet T.z_len T.z_set (d_var 4) rfl) (d_callB call_len pur_len T.z_len PySem.boot_len (d_cons (d_var 4) d_nil))) (d_oneV (c_call (ok_f_ascends T) tk (hr.mono (by omega)) (d_cons (d_ix ix_seq pur_ix (d_var 0) d_int) d_nil)))))))))))
theorem sc_f_is_word_machine : FnScope ["value", "one"] ["value"] (defScope s_f_is_word_machine) := ⟨rfl, rfl, rfl, by decide +kernel, rfl, by decide +kernel, by decide +kernel⟩
theorem ok_f_is_word_machine (T : Txt K mg) : DefOk P w K mg base 4 "is_word_machine" 1 f_is_word_machine := by
  have nd := sc_f_is_word_machine.nd
  exact def_mk T.d_f_is_word_machine sc_f_is_word_machine fun f cdv A outer s H E hr tk =>
    (d_sone (d_ret (d_andV (c_call (ok_f_is_tuple_of T) tk (hr.mono (by omega)) (d_cons (d_var 0) (d_cons d_int (d_cons (d_gintE T.c_STATES) d_nil)))) (d_oneV (d_callB (cr_all rfl) pur_all T.z_all PyProof.Rows.boot_all (d_cons (d_frz (d_lc (own := [("one", 1)]) rfl nd (d_items (d_var 0)) (blk_of (by kernel_rfl)) (fun _ _ _ _ _ => (d_gn (pg_name (i := 1) nd rfl (by first | exact .inl rfl | exact .inr rfl)))) (fun _ _ _ _ _ => d_yes) (fun _ _ _ _ _ => (c_call (ok_f_fits_state T) tk0 (hr.mono (by omega)) (d_cons (d_var 1) (d_cons (d_callB call_len pur_len T.z_len PySem.boot_len (d_cons (d_var 0) d_nil)) d_nil)))))) d_nil))))))
theorem sc_f_need_machine : FnScope ["value"] ["value"] (defScope s_f_need_machine) := ⟨rfl, rfl, rfl, by decide +kernel, rfl, by decide +kernel, by decide +kernel⟩
theorem ok_f_need_machine (T : Txt K mg) : DefOk P w K mg base 5 "need_machine" 1 f_need_machine := by
  have nd := sc_f_need_machine.nd
  exact def_mk T.d_f_need_machine sc_f_need_machine fun f cdv A outer s H E hr tk =>
    (d_sone (d_ifS (d_notT (d_tst (c_call (ok_f_is_word_machine T) tk (hr.mono (by omega)) (d_cons (d_var 0) d_nil))))
    (d_sone (d_raiseT T.x_InvalidMachine tk))
    d_snil))
theorem sc_f_need_state : FnScope ["machine", "value"] ["machine", "value"] (defScope s_f_need_state) := ⟨rfl, rfl, rfl, by decide +kernel, rfl, by decide +kernel, by decide +kernel⟩
theorem ok_f_need_state (T : Txt K mg) : DefOk P w K mg base 2 "need_state" 2 f_need_state := by
  have nd := sc_f_need_state.nd
  exact def_mk T.d_f_need_state sc_f_need_state fun f cdv A outer s H E hr tk =>
    (d_sone (d_ifS (d_notT (d_tst (c_call (ok_f_is_whole T) tk (hr.mono (by omega)) (d_cons (d_var 1) (d_cons d_int (d_cons (d_op op_sub pur_sub (d_callB call_len pur_len T.z_len PySem.boot_len (d_cons (d_var 0) d_nil)) d_int) d_nil))))))
    (d_sone (d_raiseT T.x_InvalidNumber tk))
    d_snil))
theorem sc_f_way_of : FnScope ["machine", "state", "sign", "letters", "target"] ["machine", "state", "sign"] (defScope s_f_way_of) := ⟨rfl, rfl, rfl, by decide +kernel, rfl, by decide +kernel, by decide +kernel⟩
theorem ok_f_way_of (T : Txt K mg) : DefOk P w K mg base 1 "way_of" 3 f_way_of := by
  have nd := sc_f_way_of.nd
  exact def_mk T.d_f_way_of sc_f_way_of fun f cdv A outer s H E hr tk =>
    (d_scons (d_for (kl := [3, 4]) (passes_of rfl) rfl (d_items (d_ix ix_seq pur_ix (d_ix ix_seq pur_ix (d_var 0) (d_var 1)) d_int)) (d_gt rfl (d_gcons (d_gn (pg_name (i := 3) nd rfl (by first | exact .inl rfl | exact .inr rfl))) (d_gcons (d_gn (pg_name (i := 4) nd rfl (by first | exact .inl rfl | exact .inr rfl))) d_gnil)))
    (d_sone (d_ifS (d_cmpT (op_inA (u65 hr)) pur_in (d_var 2) (d_var 3))
    (d_sone (d_ret (d_var 4)))
    d_snil)))
    (d_sone (d_ret d_non)))
theorem sc_f_parting_word : FnScope ["machine", "one", "other", "line", "seen", "at", "here", "there", "word", "sign", "pair"] ["machine", "one", "other"] (defScope s_f_parting_word) := ⟨rfl, rfl, rfl, by decide +kernel, rfl, by decide +kernel, by decide +kernel⟩
theorem ok_f_parting_word (T : Txt K mg) : DefOk P w K mg base 6 "parting_word" 3 f_parting_word := by
  have nd := sc_f_parting_word.nd
  exact def_mk T.d_f_parting_word sc_f_parting_word fun f cdv A outer s H E hr tk =>
    (d_scons (d_drop (c_call (ok_f_need_machine T) tk (hr.mono (by omega)) (d_cons (d_var 0) d_nil)))
    (d_scons (d_drop (c_call (ok_f_need_state T) tk (hr.mono (by omega)) (d_cons (d_var 0) (d_cons (d_var 1) d_nil))))
    (d_scons (d_drop (c_call (ok_f_need_state T) tk (hr.mono (by omega)) (d_cons (d_var 0) (d_cons (d_var 2) d_nil))))
    (d_scons (d_par3 (i := 3) (j := 4) (l := 5) rfl nd (d_po (d_lstN (d_cons (d_tup (d_cons (d_var 1) (d_cons (d_var 2) (d_cons d_str d_nil)))) d_nil)) (d_pk (d_disp1 (u64 hr) (d_tup (d_cons (d_var 1) (d_cons (d_var 2) d_nil))) d_bl) (d_pd d_int d_pn))))
    (d_scons (d_while (kl := [6, 7, 8, 9, 10]) (n := 60) (passes_of rfl) (d_cmpT (op_ltA (u65 hr)) pur_ltA (d_var 5) (d_callB call_len pur_len T.z_len PySem.boot_len (d_cons (d_var 3) d_nil)))
    (d_scons (d_asg (d_ix ix_seq pur_ix (d_var 3) (d_var 5)) (d_gt rfl (d_gcons (d_gn (pg_name (i := 6) nd rfl (by first | exact .inl rfl | exact .inr rfl))) (d_gcons (d_gn (pg_name (i := 7) nd rfl (by first | exact .inl rfl | exact .inr rfl))) (d_gcons (d_gn (pg_name (i := 8) nd rfl (by first | exact .inl rfl | exact .inr rfl))) d_gnil)))))
    (d_scons (d_aug (i := 5) nd ip_add pur_ipAdd d_int)
    (d_scons (d_ifS (d_orT (d_cmpT op_isN pur_isN (d_var 6) d_non) (d_orT (d_cmpT op_isN pur_isN (d_var 7) d_non) (d_or1 (d_cmpT (op_neA (u64 hr)) pur_ne (d_ix ix_seq pur_ix (d_ix ix_seq pur_ix (d_var 0) (d_var 6)) d_int) (d_ix ix_seq pur_ix (d_ix ix_seq pur_ix (d_var 0) (d_var 7)) d_int))))).pt
    (d_sone (d_ret (d_var 8)))
    d_snil)
    (d_sone (d_for (kl := [9, 10]) (passes_of rfl) rfl (d_items (d_gstrE T.c_CHARACTERS)) (d_gn (pg_name (i := 9) nd rfl (by first | exact .inl rfl | exact .inr rfl)))
    (d_scons (d_set (i := 10) nd (d_tup (d_cons (c_call (ok_f_way_of T) tk (hr.mono (by omega)) (d_cons (d_var 0) (d_cons (d_var 6) (d_cons (d_var 9) d_nil)))) (d_cons (c_call (ok_f_way_of T) tk (hr.mono (by omega)) (d_cons (d_var 0) (d_cons (d_var 7) (d_cons (d_var 9) d_nil)))) d_nil))))
    (d_sone (d_ifS (d_andT (d_notDT 4 (u64 hr) (d_var 10)) (d_and1 (d_cmpT (op_neA (u64 hr)) pur_ne (d_var 10) (d_tup (d_cons d_non (d_cons d_non d_nil)))))).pt
    (d_scons (d_putD 4 (u64 hr) d_bl (d_var 10))
    (d_sone (d_drop (d_own own_append PySem.F.slot_list_append PySem.F.type_list_append mt_append (pv 3) (d_cons (d_op op_addA pur_add (d_var 10) (d_tup (d_cons (d_op op_addA pur_add (d_var 8) (d_var 9)) d_nil))) d_nil)))))
    d_snil)))))))))
    (d_sone (d_ret d_non)))))))
theorem sc_l_told : FnScope ["_law_machine_here", "_law_one", "_law_other"] ["_law_machine_here", "_law_one", "_law_other"] (defScope s_l_told) := ⟨rfl, rfl, rfl, by decide +kernel, rfl, by decide +kernel, by decide +kernel⟩
theorem ok_l_told (T : Txt K mg) : DefOk P w K mg base 7 "_law_told" 3 l_told := by
  have nd := sc_l_told.nd
  exact def_mk T.d_l_told sc_l_told fun f cdv A outer s H E hr tk =>
    (d_sone (d_tryT tk (fun _ _ _ tk => (d_sone (d_ret (c_call (ok_f_parting_word T) tk (hr.mono (by omega)) (d_cons (d_var 0) (d_cons (d_var 1) (d_cons (d_var 2) d_nil)))))))
    (.cons T.x_InvalidMachine (.cons T.m_InvalidMachine_InvalidMachine (.cons T.m_InvalidNumber_InvalidMachine HitOk.nil)) (fun _ _ _ => (d_sone (d_ret (d_tup (d_cons d_str (d_cons d_str d_nil)))))) (.cons T.x_InvalidNumber (.cons T.m_InvalidMachine_InvalidNumber (.cons T.m_InvalidNumber_InvalidNumber HitOk.nil)) (fun _ _ _ => (d_sone (d_ret (d_tup (d_cons d_str (d_cons d_str d_nil)))))) Cls.nil))))
theorem sc_l_walk : FnScope ["_law_machine_here", "_law_state", "_law_word", "_law_sign"] ["_law_machine_here", "_law_state", "_law_word"] (defScope s_l_walk) := ⟨rfl, rfl, rfl, by decide +kernel, rfl, by decide +kernel, by decide +kernel⟩
theorem ok_l_walk (T : Txt K mg) : DefOk P w K mg base 2 "_law_walk" 3 l_walk := by
  have nd := sc_l_walk.nd
  exact def_mk T.d_l_walk sc_l_walk fun f cdv A outer s H E hr tk =>
    (d_scons (d_for (kl := [3]) (passes_of rfl) rfl (d_items (d_var 2)) (d_gn (pg_name (i := 3) nd rfl (by first | exact .inl rfl | exact .inr rfl)))
    (d_sone (d_set (i := 1) nd (d_if (d_cmpT op_isN pur_isN (d_var 1) d_non) d_non (c_call (ok_l_way T) tk (hr.mono (by omega)) (d_cons (d_var 0) (d_cons (d_var 1) (d_cons (d_var 3) d_nil))))))))
    (d_sone (d_ret (d_var 1))))
theorem sc_l_parts : FnScope ["_law_machine_here", "_law_one", "_law_other", "_law_word", "_law_here", "_law_there"] ["_law_machine_here", "_law_one", "_law_other", "_law_word"] (defScope s_l_parts) := ⟨rfl, rfl, rfl, by decide +kernel, rfl, by decide +kernel, by decide +kernel⟩
theorem ok_l_parts (T : Txt K mg) : DefOk P w K mg base 3 "_law_parts" 4 l_parts := by
  have nd := sc_l_parts.nd
  exact def_mk T.d_l_parts sc_l_parts fun f cdv A outer s H E hr tk =>
    (d_scons (d_par2 (i := 4) (j := 5) rfl nd (d_pd (c_call (ok_l_walk T) tk (hr.mono (by omega)) (d_cons (d_var 0) (d_cons (d_var 1) (d_cons (d_var 3) d_nil)))) (d_pd (c_call (ok_l_walk T) tk (hr.mono (by omega)) (d_cons (d_var 0) (d_cons (d_var 2) (d_cons (d_var 3) d_nil)))) d_pn)))
    (d_scons (d_ifS (d_orT (d_cmpT op_isN pur_isN (d_var 4) d_non) (d_or1 (d_cmpT op_isN pur_isN (d_var 5) d_non))).pt
    (d_sone (d_ret (d_cmp (op_neA (u64 hr)) pur_ne (d_cmp op_isN pur_isN (d_var 4) d_non) (d_cmp op_isN pur_isN (d_var 5) d_non))))
    d_snil)
    (d_sone (d_ret (d_cmp (op_neA (u64 hr)) pur_ne (d_ix ix_seq pur_ix (d_ix ix_seq pur_ix (d_var 0) (d_var 4)) d_int) (d_ix ix_seq pur_ix (d_ix ix_seq pur_ix (d_var 0) (d_var 5)) d_int))))))
theorem sc_f_law : FnScope ["_law_script", "_law_cup_here", "_law_machine_here", "_law_one", "_law_other", "_law_many", "_law_told_here", "_law_bad"] ["_law_script"] (defScope s_f_law) := ⟨rfl, rfl, rfl, by decide +kernel, rfl, by decide +kernel, by decide +kernel⟩
theorem pr_f_law (T : Txt K mg) (f : Addr) (cdv : Value) (A : Around) (outer : List Env) (s : Shared) (H : Hp) (E : XK) (hr : Room 7 (A.deeper (PyProof.Rows.envOfC "law" (defScope s_f_law) s.heap.objs.size f cdv)))
    (tk : Takes (cxOf (L2.CX P w) P w K mg base ["_law_script", "_law_cup_here", "_law_machine_here", "_law_one", "_law_other", "_law_many", "_law_told_here", "_law_bad"] "law" (defScope s_f_law) f cdv A outer s H E) (fun cls d _ H => E cls d H)) :
    PSs (cxOf (L2.CX P w) P w K mg base ["_law_script", "_law_cup_here", "_law_machine_here", "_law_one", "_law_other", "_law_many", "_law_told_here", "_law_bad"] "law" (defScope s_f_law) f cdv A outer s H E) (defBody s_f_law) (tS K mg (fun cls d _ H => E cls d H) [] b_f_law) := by
  have nd := sc_f_law.nd
  exact (d_scons (d_setO (i := 1) nd (c_callO (ok_l_cup T) tk (hr.mono (by omega)) (d_cons (d_var 0) d_nil)))
    (d_scons (d_set (i := 2) nd (c_call (ok_l_machine T) tk (hr.mono (by omega)) (d_cons (d_var 1) (d_cons (d_if (d_cmpT (op_eqA (u64 hr)) pur_eq (c_call (ok_l_roll T) tk (hr.mono (by omega)) (d_cons (d_var 1) (d_cons d_int d_nil))) d_int) d_str d_str) d_nil))))
    (d_scons (d_par2 (i := 3) (j := 4) rfl nd (d_pd (c_call (ok_l_roll T) tk (hr.mono (by omega)) (d_cons (d_var 1) (d_cons (d_callB call_len pur_len T.z_len PySem.boot_len (d_cons (d_var 2) d_nil)) d_nil))) (d_pd (c_call (ok_l_roll T) tk (hr.mono (by omega)) (d_cons (d_var 1) (d_cons (d_callB call_len pur_len T.z_len PySem.boot_len (d_cons (d_var 2) d_nil)) d_nil))) d_pn)))
    (d_scons (d_ifS (d_notT (d_tst (c_call (ok_l_is_machine T) tk (hr.mono (by omega)) (d_cons (d_var 2) d_nil))))
    (d_sone (d_ret d_bl))
    d_snil)
    (d_scons (d_par2 (i := 5) (j := 6) rfl nd (d_pd (c_call (ok_l_parted T) tk (hr.mono (by omega)) (d_cons (d_var 2) (d_cons (d_var 2) (d_cons (d_var 3) (d_cons (d_var 4) (d_cons d_str d_nil)))))) (d_pd (c_call (ok_l_told T) tk (hr.mono (by omega)) (d_cons (d_var 2) (d_cons (d_var 3) (d_cons (d_var 4) d_nil)))) d_pn)))
    (d_scons (d_ifS (d_cmpT (op_ltA (u65 hr)) pur_ltA (d_var 5) d_int)
    (d_sone (d_ifS (d_cmpT op_notN pur_notN (d_var 6) d_non)
    (d_sone (d_ret d_bl))
    d_snil))
    (d_sone (d_ifS (d_orT (d_notT (d_tst (d_isi T.z_isinstance T.z_str PyProof.Rows.boot_str (d_var 6)))) (d_orT (d_cmpT (op_neA (u64 hr)) pur_ne (d_callB call_len pur_len T.z_len PySem.boot_len (d_cons (d_var 6) d_nil)) (d_var 5)) (d_or1 (d_notT (d_tst (c_call (ok_l_parts T) tk (hr.mono (by omega)) (d_cons (d_var 2) (d_cons (d_var 3) (d_cons (d_var 4) (d_cons (d_var 6) d_nil)))))))))).pt
    (d_sone (d_ret d_bl))
    d_snil)))
    (d_scons (d_ifS (d_orT (d_cmpT op_notN pur_notN (c_call (ok_l_told T) tk (hr.mono (by omega)) (d_cons (d_var 2) (d_cons (d_var 3) (d_cons (d_var 3) d_nil)))) d_non) (d_or1 (d_cmpT (op_neA (u64 hr)) pur_ne (c_call (ok_l_told T) tk (hr.mono (by omega)) (d_cons d_non (d_cons d_negC (d_cons d_int d_nil)))) (d_tup (d_cons d_str (d_cons d_str d_nil)))))).pt
    (d_sone (d_ret d_bl))
    d_snil)
    (d_scons (d_set (i := 7) nd (c_call (ok_l_some T) tk (hr.mono (by omega)) (d_cons (d_var 1) (d_cons (d_frz (d_lstN (d_cons d_negC (d_cons (d_callB call_len pur_len T.z_len PySem.boot_len (d_cons (d_var 2) d_nil)) (d_cons d_bl (d_cons d_non (d_cons d_str d_nil))))))) d_nil))))
    (d_sone (d_ret (d_andV (d_cmp (op_eqA (u64 hr)) pur_eq (c_call (ok_l_told T) tk (hr.mono (by omega)) (d_cons (d_var 2) (d_cons (d_var 7) (d_cons d_int d_nil)))) (d_tup (d_cons d_str (d_cons d_str d_nil)))) (d_oneV (d_cmp (op_eqA (u64 hr)) pur_eq (c_call (ok_l_told T) tk (hr.mono (by omega)) (d_cons (d_var 2) (d_cons (d_var 4) (d_cons (d_var 7) d_nil)))) (d_tup (d_cons d_str (d_cons d_str d_nil))))))))))))))))
end
end K27
/-! K27M: the draw. -/
namespace K27
open PySem L2 PD
theorem cup_made (ns : List Int) (hn : ns.length ≤ 1000) : ∃ a b : Int, l_cup [.sh (.list (ns.map .int))] = some (.ok (.new [.int a, .int b]) [.sh (.list (ns.map .int))]) := by
  have h1 : (ns.map PyData.int).length + [PyData.int 0].length ≤ sizeLine := by rw [sizeLine_eq, List.length_map, List.length_singleton]; omega
  obtain ⟨d, hd, hm⟩ := atI_lt (xs := ns.map PyData.int ++ [PyData.int 0]) (i := 0) (by decide) (by rw [List.length_append, List.length_singleton]; omega)
  have hi : ∃ i, d = .int i := by
    rcases List.mem_append.mp hm with h | h
    · obtain ⟨i, _, rfl⟩ := List.mem_map.mp h; exact ⟨i, rfl⟩
    · rw [List.mem_singleton] at h; exact ⟨0, h⟩
  obtain ⟨i, rfl⟩ := hi
  have hs : ∀ z : Int, (PD.small64 z || PD.small64 277) = true := fun z => by rw [Bool.or_eq_true]; exact .inr (by decide +kernel)
  generalize hz : (if i < 0 then -i else i) = z
  by_cases hc : 1000000000000000000 ≤ z
  · refine ⟨z / 67, (z * 277 + 2633) % 2077503161 + 163, ?_⟩
    unfold l_cup b_l_cup
    simp [gAdd_l _ _ h1, hd, gMul_i, gMod_i, gDiv_i, fits_small, hz, hc, hs]
  · refine ⟨0, (z * 277 + 2633) % 2077503161 + 163, ?_⟩
    unfold l_cup b_l_cup
    simp [gAdd_l _ _ h1, hd, gMul_i, gMod_i, gDiv_i, fits_small, hz, hc, hs]
/-- the cup -/
structure Cup (s : Sl) : Prop where
  ex : ∃ a b : Int, s = .ow [.int a, .int b]
theorem roll_made {c : Sl} (hc : Cup c) {m : Int} (h0 : 0 < m) (h1 : m < 1073741824) : ∃ (r : Int) (c' : Sl), 0 ≤ r ∧ r < m ∧ Cup c' ∧ l_roll [c, .sh (.int m)] = some (.ok (.val (.int r)) [c', .sh (.int m)]) := by
  obtain ⟨a, b, rfl⟩ := hc.ex
  have hs : ∀ z : Int, (PD.small64 z || PD.small64 31039) = true := fun z => by rw [Bool.or_eq_true]; exact .inr (by decide +kernel)
  by_cases hc : 0 < a
  · refine ⟨a % m, .ow [.int (a / m), .int b], Int.emod_nonneg _ (by omega), Int.emod_lt_of_pos _ h0, ⟨_, _, rfl⟩, ?_⟩
    unfold l_roll b_l_roll
    simp [hc, gMod_i, gDiv_i, h0, h1]
  · generalize hz : (b * 31039 + 7993) % 2147483543 = z
    have z0 : 0 ≤ z := by rw [← hz]; exact Int.emod_nonneg _ (by decide)
    have z1 : z < 2147483543 := by rw [← hz]; exact Int.emod_lt_of_pos _ (by decide)
    have hz2 : (PD.small64 z || PD.small64 (z + 229)) = true := by
      rw [Bool.or_eq_true]
      refine .inl ?_
      unfold PD.small64
      rw [Bool.and_eq_true, decide_eq_true_eq, decide_eq_true_eq]
      omega
    refine ⟨((z * (z + 229)) % 2147483587 / 821) % m, .ow [.int a, .int z], Int.emod_nonneg _ (by omega), Int.emod_lt_of_pos _ h0, ⟨_, _, rfl⟩, ?_⟩
    unfold l_roll b_l_roll
    simp [hc, gMod_i, gDiv_i, gMul_i, h0, h1, hs, hz, hz2]
theorem some_list {c : Sl} (hc : Cup c) {xs : List Dt} (h0 : 0 < xs.length) (h1 : xs.length ≤ 1000) : ∃ (d : Dt) (c' : Sl), d ∈ xs ∧ Cup c' ∧ l_some [c, .sh (.list xs)] = some (.ok (.val d) [c', .sh (.list xs)]) := by
  obtain ⟨r, c', r0, r1, hc', e⟩ := roll_made hc (m := (xs.length : Nat)) (by omega) (by omega)
  obtain ⟨d, hd, hm⟩ := atI_lt r0 r1
  obtain ⟨a, b, rfl⟩ := hc.ex
  obtain ⟨a', b', rfl⟩ := hc'.ex
  refine ⟨d, _, hm, hc', ?_⟩
  unfold l_some b_l_some
  simp [e, hd]
/-- a sign of a text -/
def sg (c : Nat) : Str := ⟨#[c]⟩
theorem some_text {c : Sl} (hc : Cup c) {z : Str} (h0 : 0 < z.cps.toList.length) (h1 : z.cps.toList.length ≤ 1000) : ∃ (k : Nat) (c' : Sl), k ∈ z.cps.toList ∧ Cup c' ∧ l_some [c, .sh (.str z)] = some (.ok (.val (.str (sg k))) [c', .sh (.str z)]) := by
  have hl : z.length = z.cps.toList.length := rfl
  have hL : z.length ≤ sizeLine := by rw [sizeLine_eq, hl]; omega
  obtain ⟨r, c', r0, r1, hc', e⟩ := roll_made hc (m := (z.length : Nat)) (by omega) (by omega)
  obtain ⟨a, b, rfl⟩ := hc.ex
  obtain ⟨a', b', rfl⟩ := hc'.ex
  have h2 : r.toNat < z.cps.toList.length := by omega
  have hat : atI z.cps.toList r = some z.cps.toList[r.toNat] := by
    unfold atI ixN
    rw [if_pos r0, if_pos (by omega)]
    exact List.getElem?_eq_getElem h2
  have hg : gIx (.str z) (.int r) = some (.str (sg z.cps.toList[r.toNat])) := by
    show (if z.length ≤ sizeLine then _ else _) = _
    rw [if_pos hL, hat]
    rfl
  refine ⟨z.cps.toList[r.toNat], _, List.getElem_mem h2, hc', ?_⟩
  unfold l_some b_l_some
  simp [e, gLen_s _ hL, hg]
end K27
/-! K27N: regular trees, as the program and the law look at them. -/
namespace K27
open PySem L2 PD
def CH : List Nat := cs_CHARACTERS.cps.toList
theorem CH_nd : CH.Nodup := by decide +kernel
theorem CH_len : CH.length = 95 := by decide +kernel
theorem cs_is : cs_CHARACTERS = tx CH := (tx_of _).symm
def asc (l : List Nat) : List Nat := CH.filter fun c => decide (c ∈ l)
theorem asc_len (l : List Nat) : (asc l).length ≤ 95 := by rw [← CH_len]; exact List.length_filter_le _ _
theorem q_asc (l : List Nat) : q_f_ascending_0 [.sh (.str (tx l)), .un] = some (.ok ((asc l).map sgD) [.sh (.str (tx l)), .un]) := by
  unfold q_f_ascending_0 asc
  rw [cs_is]
  rw [mLc_map (ρ0 := [.sh (.str (tx l)), .un]) CH sgD (fun c => decide (c ∈ l)) sgD (by simp [items_tx]) rfl (fun c hc => ⟨[.sh (.str (tx l)), .sh (sgD c)], by simp, by simp [gIn_tx], fun _ => by simp, rfl⟩) (by rw [CH_len]; exact le_line (by decide))]
  rfl
theorem ascending_ok (l : List Nat) : f_ascending [.sh (.str (tx l))] = some (.ok (.val (.str (tx (asc l)))) [.sh (.str (tx l))]) := by
  unfold f_ascending b_f_ascending
  simp [q_asc, gJoin_signs _ (Nat.le_trans (asc_len l) (by decide))]
theorem chars_ok : l_chars [] = some (.ok (.val (.str (tx CH))) []) := by
  unfold l_chars b_l_chars
  simp
  exact cs_is

theorem CH_mem_len {l : List Nat} (h : asc l = l) : l.length ≤ 95 := by rw [← h]; exact asc_len l
theorem asc_all {l : List Nat} (h : asc l = l) : ∀ c ∈ l, c ∈ CH := fun c hc => by
  rw [← h] at hc
  exact (List.mem_filter.mp hc).1
theorem q_text (l : List Nat) (m : Int) (hl : l.length ≤ 1000) : q_f_is_text_0 [.sh (.str (tx l)), .sh (.int m), .un] = some (.ok (l.map fun c => .bool (decide (c ∈ CH))) [.sh (.str (tx l)), .sh (.int m), .un]) := by
  unfold q_f_is_text_0
  rw [cs_is]
  rw [mLc_all (ρ0 := [.sh (.str (tx l)), .sh (.int m), .un]) l sgD (fun c => .bool (decide (c ∈ CH))) (by simp) rfl (fun c hc => ⟨[.sh (.str (tx l)), .sh (.int m), .sh (sgD c)], by simp, by simp, rfl⟩) (le_line (by omega))]
  rfl
theorem text_ok (l : List Nat) (m : Int) (hl : l.length ≤ 1000) : f_is_text [.sh (.str (tx l)), .sh (.int m)] = some (.ok (.val (.bool (decide ((l.length : Int) ≤ m) && l.all fun c => decide (c ∈ CH)))) [.sh (.str (tx l)), .sh (.int m)]) := by
  have hL : (tx l).length ≤ sizeLine := le_line (by rw [tx_len]; omega)
  unfold f_is_text b_f_is_text
  by_cases h : (l.length : Int) ≤ m
  · simp [isi_str (d := .str (tx l)) rfl, isStr, gLen_s _ hL, tx_len, h, q_text l m hl, gAll_map]
  · simp [isi_str (d := .str (tx l)) rfl, isStr, gLen_s _ hL, tx_len, h]
/-- a text of letters in their order -/
def letP (l : List Nat) : Bool := !decide (l = []) && decide (asc l = l)
def lettersP : Dt → Bool
  | .str z => letP z.cps.toList
  | _ => false
theorem empty_tx : ("" : Str) = tx [] := by decide +kernel
theorem letters_ok (l : List Nat) (hl : l.length ≤ 1000) : f_fits_letters [.sh (.str (tx l))] = some (.ok (.val (.bool (letP l))) [.sh (.str (tx l))]) := by
  have hC : gLen [.str (tx CH)] = some (.int 95) := by
    rw [gLen_s _ (le_line (by rw [tx_len, CH_len]; decide)), tx_len, CH_len]
    rfl
  unfold f_fits_letters b_f_fits_letters letP
  rw [cs_is, empty_tx]
  by_cases h0 : l = []
  · subst h0
    simp [isi_str (d := .str (tx [])) rfl, isStr]
  · have hne : ¬ tx l = tx [] := fun z => h0 (tx_inj z)
    by_cases h1 : ((l.length : Int) ≤ 95 ∧ ∀ c ∈ l, c ∈ CH)
    · have h2 : (l.all fun c => decide (c ∈ CH)) = true := List.all_eq_true.mpr fun c hc => decide_eq_true (h1.2 c hc)
      simp [isi_str (d := .str (tx l)) rfl, isStr, hne, hC, text_ok l 95 hl, h1.1, h2, ascending_ok, tx_eq, h0]
      rw [eq_comm]
    · have h2 : ¬ asc l = l := fun z => h1 ⟨by have := CH_mem_len z; omega, asc_all z⟩
      have h3 : (decide ((l.length : Int) ≤ 95) && l.all fun c => decide (c ∈ CH)) = false := by
        cases q : (decide ((l.length : Int) ≤ 95) && l.all fun c => decide (c ∈ CH)) with
        | false => rfl
        | true =>
          rw [Bool.and_eq_true, decide_eq_true_eq, List.all_eq_true] at q
          exact absurd ⟨q.1, fun c hc => of_decide_eq_true (q.2 c hc)⟩ h1
      simp [isi_str (d := .str (tx l)) rfl, isStr, hne, hC, text_ok l 95 hl, h3, h2, h0]
theorem letters_no {d : Dt} (h : noDc d = true) (hs : isStr d = false) : f_fits_letters [.sh d] = some (.ok (.val (.bool false)) [.sh d]) := by
  unfold f_fits_letters b_f_fits_letters
  simp [isi_str h, hs]
end K27
/-! K27O: lists of ones, alphabets, data of small depth. -/
namespace K27
open PySem L2 PD

theorem ones_lay : ∀ (n : Nat), PyData.canLayAll0 (List.replicate n (PyData.int 1)) = true
  | 0 => by unfold List.replicate PyData.canLayAll0; rfl
  | n + 1 => by
    unfold List.replicate PyData.canLayAll0
    rw [ones_lay n]
    rfl
theorem ones_depth : ∀ (n : Nat), PyData.depthAll (List.replicate n (PyData.int 1)) = 0
  | 0 => by unfold List.replicate PyData.depthAll; rfl
  | n + 1 => by
    unfold List.replicate PyData.depthAll
    rw [ones_depth n]
    rfl
theorem ones_shaped (n : Nat) : SeqAt.shaped (.list (List.replicate n (PyData.int 1))) = true := by
  unfold SeqAt.shaped PyData.canLay0 PyData.depth
  rw [ones_lay, ones_depth]
  rfl
theorem nil_shaped : SeqAt.shaped (.list []) = true := ones_shaped 0
theorem eqv_nil (xs : List Dt) : PyData.eqv (.list xs) (.list []) = decide (xs = []) := by
  unfold PyData.eqv
  cases xs with
  | nil => unfold PyData.eqvAll; simp
  | cons x xs => unfold PyData.eqvAll; simp
theorem gEq_ones {α : Type} (as : List α) : gEq (.list (as.map fun _ => .int 1)) (.list []) = some (.bool (decide (as = []))) := by
  have e : (as.map fun _ => PyData.int 1) = List.replicate as.length (.int 1) := List.map_const' ..
  have h : gEqB (.list (as.map fun _ => .int 1)) (.list []) = some (decide (as = [])) := by
    show (if (SeqAt.shaped (.list (as.map fun _ => .int 1)) && SeqAt.shaped (.list [])) = true then some (PyData.eqv (.list (as.map fun _ => .int 1)) (.list [])) else none) = _
    rw [eqv_nil, e, ones_shaped, nil_shaped]
    cases as <;> simp
  unfold gEq
  rw [h]
  rfl
/-- an alphabet to draw from -/
structure Alpha (A : List Nat) : Prop where
  ne : A ≠ []
  asc : asc A = A
  nd : A.Nodup
theorem alpha_CH : Alpha CH := ⟨by decide +kernel, by decide +kernel, CH_nd⟩
theorem alpha_abc : Alpha ("abc" : Str).cps.toList := ⟨by decide +kernel, by decide +kernel, by decide +kernel⟩
theorem Alpha.len {A : List Nat} (h : Alpha A) : A.length ≤ 95 := CH_mem_len h.asc

theorem CH_small : ∀ c ∈ CH, c < 0x110000 := by decide +kernel
theorem tame_tx {l : List Nat} (h : ∀ k ∈ l, k ∈ CH) (hl : l.length ≤ 1000) : tame (.str (tx l)) = true := by
  have h1 : PyData.strOk (tx l) = true := by
    unfold PyData.strOk
    rw [← Array.all_toList, tx_cps]
    exact List.all_eq_true.mpr fun k hk => decide_eq_true (CH_small k (h k hk))
  unfold tame
  rw [h1, decide_eq_true (show (tx l).length ≤ 1000 by rw [tx_len]; exact hl)]
  rfl
theorem depthAll_le {n : Nat} : ∀ {xs : List Dt}, (∀ x ∈ xs, x.depth ≤ n) → PyData.depthAll xs ≤ n
  | [], _ => by unfold PyData.depthAll; exact Nat.zero_le _
  | x :: xs, h => by
    unfold PyData.depthAll
    exact Nat.max_le.mpr ⟨h x List.mem_cons_self, depthAll_le fun y hy => h y (List.mem_cons_of_mem _ hy)⟩
theorem depth_tup {n : Nat} {xs : List Dt} (h : ∀ x ∈ xs, x.depth ≤ n) : (PyData.tuple xs).depth ≤ n + 1 := by
  unfold PyData.depth
  exact Nat.succ_le_succ (depthAll_le h)
theorem pair_tame {w : Str} {d : Dt} (h1 : tame (.str w) = true) (h2 : tame d = true) : tame (.tuple [.str w, d]) = true := tame_tupI (by simp) fun x hx => by
  simp at hx
  rcases hx with rfl | rfl
  · exact h1
  · exact h2
theorem pair_depth {n : Nat} {w : Str} {d : Dt} (h : d.depth ≤ n) : (PyData.tuple [.str w, d]).depth ≤ n + 1 := depth_tup fun x hx => by
  simp at hx
  rcases hx with rfl | rfl
  · unfold PyData.depth; exact Nat.zero_le _
  · exact h

theorem cut_mem {xs : List Dt} {lo hi : Option Int} {x : Dt} (h : x ∈ cutD xs lo hi) : x ∈ xs := by
  unfold cutD at h
  exact List.mem_of_mem_drop (List.mem_of_mem_take h)
theorem cut_lo {xs : List Dt} {r : Int} (r0 : 0 ≤ r) : (cutD xs none (some r)).length ≤ r.toNat := by
  have e : HT.sIx xs.length xs.length (some r) = min r.toNat xs.length := by
    show (if r < 0 then _ else min r.toNat xs.length) = _
    rw [if_neg (by omega)]
  unfold cutD
  rw [List.length_take, e, HT.sIx_none]
  omega
theorem cut_hi {xs : List Dt} {r : Int} (r0 : 0 ≤ r) : (cutD xs (some r) none).length ≤ xs.length - r.toNat := by
  have e : HT.sIx xs.length 0 (some r) = min r.toNat xs.length := by
    show (if r < 0 then _ else min r.toNat xs.length) = _
    rw [if_neg (by omega)]
  unfold cutD
  rw [List.length_take, List.length_drop, e, HT.sIx_none]
  omega
theorem gSl_t (xs : List Dt) (lo hi : Option Int) : gSlice (.tuple xs) lo hi = some (.tuple (cutD xs lo hi)) := rfl
theorem letters_any {d : Dt} (h : tame d = true) : f_fits_letters [.sh d] = some (.ok (.val (.bool (lettersP d))) [.sh d]) := by
  cases hs : isStr d with
  | false =>
    rw [letters_no (tame_dc h) hs]
    cases d <;> first | rfl | cases hs
  | true =>
    cases d with
    | str z =>
      have h1 := letters_ok z.cps.toList (tame_str h).2
      rw [tx_of] at h1
      exact h1
    | _ => cases hs
end K27
/-! K27T: states of machines, as the program looks at them. -/
namespace K27
open PySem L2 PD
def tupB (d : Dt) (a b : Int) : Bool := match d with
  | .tuple xs => decide (a ≤ (xs.length : Int)) && decide ((xs.length : Int) ≤ b)
  | _ => false
def wholeB (d : Dt) (a b : Int) : Bool := match d with
  | .int i => decide (a ≤ i) && decide (i ≤ b)
  | _ => false
theorem tuple_ok {d : Dt} (h : noDc d = true) (a b : Int) : f_is_tuple_of [.sh d, .sh (.int a), .sh (.int b)] = some (.ok (.val (.bool (tupB d a b))) [.sh d, .sh (.int a), .sh (.int b)]) := by
  unfold f_is_tuple_of b_f_is_tuple_of tupB
  cases hT : isTup d with
  | false =>
    simp [isi_tup h, hT]
    cases d <;> first | rfl | cases hT
  | true =>
    cases d with
    | tuple xs =>
      by_cases h1 : a ≤ (xs.length : Int)
      · simp [isi_tup (d := .tuple xs) rfl, hT, h1]
      · simp [isi_tup (d := .tuple xs) rfl, hT, h1]
    | _ => cases hT
theorem whole_ok {d : Dt} (h : noDc d = true) (a b : Int) : f_is_whole [.sh d, .sh (.int a), .sh (.int b)] = some (.ok (.val (.bool (wholeB d a b))) [.sh d, .sh (.int a), .sh (.int b)]) := by
  unfold f_is_whole b_f_is_whole wholeB
  cases hI : isInt d with
  | false =>
    simp [isi_int h, hI]
    cases d <;> first | rfl | cases hI
  | true =>
    cases d with
    | int i =>
      by_cases h1 : a ≤ i
      · simp [isi_int (d := .int i) rfl, isi_bool (d := .int i) rfl, isInt, isBool, h1]
      · simp [isi_int (d := .int i) rfl, isi_bool (d := .int i) rfl, isInt, isBool, h1]
    | bool b => simp [isi_int (d := .bool b) rfl, isi_bool (d := .bool b) rfl, isInt, isBool]
    | _ => cases hI
/-- a way: letters, target -/
abbrev Way := List Nat × Int
def wD (p : Way) : Dt := .tuple [.str (tx p.1), .int p.2]
def wayP (many : Int) : Dt → Bool
  | .tuple [x, y] => lettersP x && wholeB y 0 (many - 1)
  | _ => false
structure WayOk (many : Int) (p : Way) : Prop where
  let_ : letP p.1 = true
  lo : 0 ≤ p.2
  hi : p.2 < many
theorem ways_of {many : Int} : ∀ {ws : List Dt}, (∀ w ∈ ws, wayP many w = true) → ∃ ps : List Way, ws = ps.map wD ∧ ∀ p ∈ ps, WayOk many p
  | [], _ => ⟨[], rfl, fun p h => nomatch h⟩
  | w :: ws, h => by
    obtain ⟨ps, e, hp⟩ := ways_of fun x hx => h x (List.mem_cons_of_mem _ hx)
    have hw := h w List.mem_cons_self
    unfold wayP at hw
    split at hw
    · rename_i x y
      rw [Bool.and_eq_true] at hw
      obtain ⟨h1, h2⟩ := hw
      cases x with
      | str z =>
        cases y with
        | int t =>
          unfold wholeB at h2
          rw [Bool.and_eq_true, decide_eq_true_eq, decide_eq_true_eq] at h2
          refine ⟨(z.cps.toList, t) :: ps, ?_, fun p hm => ?_⟩
          · rw [List.map_cons, ← e]
            show PyData.tuple [.str z, .int t] :: ws = .tuple [.str (tx z.cps.toList), .int t] :: ws
            rw [tx_of]
          · rcases List.mem_cons.mp hm with rfl | hm
            · exact ⟨h1, h2.1, by have := h2.2; show t < many; omega⟩
            · exact hp p hm
        | _ => cases h2
      | _ => cases h1
    · cases hw
theorem way_yes {many : Int} {p : Way} (h : WayOk many p) : wayP many (wD p) = true := by
  show (letP (tx p.1).cps.toList && (decide (0 ≤ p.2) && decide (p.2 ≤ many - 1))) = true
  have h1 := h.lo
  have h2 := h.hi
  rw [tx_cps, h.let_, decide_eq_true h1, decide_eq_true (by omega)]
  rfl
theorem wayOk_len {many : Int} {p : Way} (h : WayOk many p) : asc p.1 = p.1 ∧ p.1 ≠ [] ∧ p.1.length ≤ 95 := by
  have h1 := h.let_
  unfold letP at h1
  rw [Bool.and_eq_true, decide_eq_true_eq] at h1
  exact ⟨h1.2, by simpa using h1.1, CH_mem_len h1.2⟩
/-- the loop over the ways -/
theorem w_ways {f : Dt} {ws : List Dt} {many : Int} (hl : ws.length ≤ 1000) (hw : ∀ w ∈ ws, tame w = true) :
    (ws.all (wayP many) = true → w_f_fits_state_0 [.sh (.tuple [f, .tuple ws]), .sh (.int many), .un, .un, .un] = some (.nx [.sh (.tuple [f, .tuple ws]), .sh (.int many), .un, .un, .un])) ∧
    (ws.all (wayP many) = false → ∃ ρ', w_f_fits_state_0 [.sh (.tuple [f, .tuple ws]), .sh (.int many), .un, .un, .un] = some (.rt (.bool false) ρ')) := by
  unfold w_f_fits_state_0
  have key := sFor_find (kl := [2]) (t := gN 2) (b := (sIf (mOrT (mNotT (mTst (mCall f_is_tuple_of (mCons (mVar 2) (mCons (mC (.int 2)) (mCons (mC (.int 2)) mNil)))))) (mOrT (mNotT (mTst (mCall f_fits_letters (mCons (mOp2 gIx (mVar 2) (mC (.int 0))) mNil)))) (mNotT (mTst (mCall f_is_whole (mCons (mOp2 gIx (mVar 2) (mC (.int 1))) (mCons (mC (.int 0)) (mCons (mOp2 PD.gSub (mVar 1) (mC (.int 1))) mNil)))))))) (sRet (mC (.bool false))) sNil)) (x := .bool false) (p := wayP many) (ρ := [.sh (.tuple [f, .tuple ws]), .sh (.int many), .un, .un, .un]) ws (fun w hm => by
    refine ⟨[.sh (.tuple [f, .tuple ws]), .sh (.int many), .sh w, .un, .un], by simp, ?_⟩
    have tw := hw w hm
    have e1 := tuple_ok (tame_dc tw) 2 2
    cases hb : tupB w 2 2 with
    | false =>
      rw [hb] at e1
      have hp : wayP many w = false := by
        unfold wayP
        split
        · rename_i x y
          exact absurd hb (by unfold tupB; simp)
        · rfl
      rw [hp]
      refine ⟨fun z => (nomatch z), fun _ => ⟨_, by simp [e1]; rfl⟩⟩
    | true =>
      rw [hb] at e1
      have hxy : ∃ x y, w = .tuple [x, y] := by
        cases w with
        | tuple xs =>
          unfold tupB at hb
          rw [Bool.and_eq_true, decide_eq_true_eq, decide_eq_true_eq] at hb
          match xs, hb with
          | [x, y], _ => exact ⟨x, y, rfl⟩
          | [], hb => simp at hb
          | [x], hb => simp at hb
          | x :: y :: z :: r, hb => simp at hb; omega
        | _ => cases hb
      obtain ⟨x, y, rfl⟩ := hxy
      obtain ⟨_, hxs⟩ := tame_tup tw
      have tx' := hxs x (by simp)
      have ty' := hxs y (by simp)
      have e2 := letters_any tx'
      have e3 := whole_ok (tame_dc ty') 0 (many - 1)
      have hp : wayP many (.tuple [x, y]) = (lettersP x && wholeB y 0 (many - 1)) := rfl
      rw [hp]
      cases hL : lettersP x with
      | false =>
        rw [hL] at e2
        exact ⟨fun z => (nomatch z), fun _ => ⟨_, by simp [e1, e2]; rfl⟩⟩
      | true =>
        rw [hL] at e2
        cases hW : wholeB y 0 (many - 1) with
        | false =>
          rw [hW] at e3
          exact ⟨fun z => (nomatch z), fun _ => ⟨_, by simp [e1, e2, e3]; rfl⟩⟩
        | true =>
          rw [hW] at e3
          exact ⟨fun _ => ⟨_, by simp [e1, e2, e3]; rfl, rfl⟩, fun z => nomatch z⟩)
  obtain ⟨k1, k2⟩ := key
  constructor
  · intro h
    simp
    exact k1 h
  · intro h
    obtain ⟨ρ', e⟩ := k2 h
    refine ⟨ρ', ?_⟩
    simp
    exact e
end K27
/-! K27U: states of machines, as the program looks at them, whole. -/
namespace K27
open PySem L2 PD
def cat (ps : List Way) : List Nat := (ps.map fun p => p.1).flatten
def tg (ps : List Way) : List Int := ps.map fun p => p.2
def ltW (p q : Way) : Bool := PySem.W.dataLt (wD p) (wD q)
def adj (ps : List Way) : Bool := (ps.zip (ps.drop 1)).all fun pq => ltW pq.1 pq.2
theorem ltW_is (p q : Way) : ltW p q = if p.1 = q.1 then decide (p.2 < q.2) else decide (p.1 < q.1) := by
  unfold ltW wD
  rw [PySem.W.dataLt_pair (by simp [PySem.W.alike]) (by simp [PySem.W.alike]), PySem.W.dataLt_str, PySem.W.dataLt_int, tx_cps, tx_cps]
  simp only [PyData.eqv]
  by_cases h : p.1 = q.1
  · rw [h]
    simp
    by_cases h2 : p.2 = q.2 <;> simp [h2]
  · have h1 : ¬ tx p.1 = tx q.1 := fun z => h (tx_inj z)
    simp [h, h1]
theorem gLt_w (p q : Way) : gLtA (wD p) (wD q) = some (.bool (ltW p q)) := by
  have h1 : PySem.W.alike (wD p) (wD q) = true := by unfold wD; simp [PySem.W.alike, PySem.W.alikeAll]
  have h2 : (wD p).depth ≤ 60 := by unfold wD; simp [PyData.depth, PyData.depthAll]
  show (if (PySem.W.alike (wD p) (wD q) && decide ((wD p).depth ≤ 60)) = true then some (PyData.bool (PySem.W.dataLt (wD p) (wD q))) else none) = _
  rw [h1, decide_eq_true h2]
  rfl
theorem cut_tail (xs : List Dt) : cutD xs (some 1) none = xs.drop 1 := by
  have e : HT.sIx xs.length 0 (some 1) = min 1 xs.length := by
    show (if (1 : Int) < 0 then ((1 : Int) + (xs.length : Int)).toNat else min (1 : Int).toNat xs.length) = _
    rw [if_neg (by decide)]
    rfl
  unfold cutD
  rw [e, HT.sIx_none]
  cases xs with
  | nil => rfl
  | cons x xs =>
    rw [show min 1 (x :: xs).length = 1 by rw [List.length_cons]; omega]
    exact List.take_of_length_le (by rw [List.length_drop]; omega)
theorem zip_ways (ps : List Way) : zipD [.tuple (ps.map wD), .tuple (cutD (ps.map wD) (some 1) none)] = some ((ps.zip (ps.drop 1)).map fun pq => .tuple [wD pq.1, wD pq.2]) := by
  rw [cut_tail, ← List.map_drop]
  show some ((ps.map wD).zipWith (fun x y => PyData.tuple [x, y]) ((ps.drop 1).map wD)) = _
  rw [List.zipWith_map, List.zip_eq_zipWith, List.map_zipWith]
theorem q_adj (ps : List Way) (hl : ps.length ≤ 1000) : q_f_ascends_0 [.sh (.tuple (ps.map wD)), .un, .un] = some (.ok ((ps.zip (ps.drop 1)).map fun pq => .bool (ltW pq.1 pq.2)) [.sh (.tuple (ps.map wD)), .un, .un]) := by
  unfold q_f_ascends_0
  rw [mLc_all (ρ0 := [.sh (.tuple (ps.map wD)), .un, .un]) (ps.zip (ps.drop 1)) (fun pq => .tuple [wD pq.1, wD pq.2]) (fun pq => .bool (ltW pq.1 pq.2)) (by simp [gSl_t, zip_ways]) rfl (fun pq hm => ⟨[.sh (.tuple (ps.map wD)), .sh (wD pq.1), .sh (wD pq.2)], by simp, by simp [gLt_w], rfl⟩) (le_line (by rw [List.length_zip]; omega))]
  rfl
theorem ascends_ok (ps : List Way) (hl : ps.length ≤ 1000) : f_ascends [.sh (.tuple (ps.map wD))] = some (.ok (.val (.bool (adj ps))) [.sh (.tuple (ps.map wD))]) := by
  have h1 := q_adj ps hl
  have h2 := gAll_map (ps.zip (ps.drop 1)) fun pq => ltW pq.1 pq.2
  have h3 : (ps.zip (ps.drop 1)).all (fun pq => ltW pq.1 pq.2) = adj ps := rfl
  rw [h3] at h2
  generalize ((ps.zip (ps.drop 1)).map fun pq => PyData.bool (ltW pq.1 pq.2)) = L at h1 h2
  unfold f_ascends b_f_ascends
  simp [h1, h2]
theorem cat_len {many : Int} : ∀ {ps : List Way}, (∀ p ∈ ps, WayOk many p) → (ps.map fun p => p.1.length).sum ≤ 95 * ps.length
  | [], _ => Nat.zero_le _
  | p :: ps, h => by
    have h1 := (wayOk_len (h p List.mem_cons_self)).2.2
    have ih := cat_len fun q hq => h q (List.mem_cons_of_mem _ hq)
    rw [List.map_cons, List.sum_cons, List.length_cons]
    omega
theorem cat_length (ps : List Way) : (cat ps).length = (ps.map fun p => p.1.length).sum := by
  unfold cat
  rw [List.length_flatten, List.map_map]
  rfl
section
variable {x : Dt} {ps : List Way} {many : Int}
theorem q_lets (hl : ps.length ≤ 1000) : q_f_fits_state_0 [.sh (.tuple [x, .tuple (ps.map wD)]), .sh (.int many), .un, .un, .un] = some (.ok ((ps.map fun p => tx p.1).map .str) [.sh (.tuple [x, .tuple (ps.map wD)]), .sh (.int many), .un, .un, .un]) := by
  unfold q_f_fits_state_0
  rw [mLc_all (ρ0 := [.sh (.tuple [x, .tuple (ps.map wD)]), .sh (.int many), .un, .un, .un]) ps wD (fun p => .str (tx p.1)) (by simp) rfl (fun p hm => ⟨[.sh (.tuple [x, .tuple (ps.map wD)]), .sh (.int many), .sh (wD p), .un, .un], by simp, by simp [wD], rfl⟩) (le_line (by omega)), List.map_map]
  rfl
theorem q_tgs (hl : ps.length ≤ 1000) (L : Dt) : q_f_fits_state_1 [.sh (.tuple [x, .tuple (ps.map wD)]), .sh (.int many), .un, .sh L, .un] = some (.ok ((tg ps).map .int) [.sh (.tuple [x, .tuple (ps.map wD)]), .sh (.int many), .un, .sh L, .un]) := by
  unfold q_f_fits_state_1 tg
  rw [mLc_all (ρ0 := [.sh (.tuple [x, .tuple (ps.map wD)]), .sh (.int many), .un, .sh L, .un]) ps wD (fun p => .int p.2) (by simp) rfl (fun p hm => ⟨[.sh (.tuple [x, .tuple (ps.map wD)]), .sh (.int many), .sh (wD p), .sh L, .un], by simp, by simp [wD], rfl⟩) (le_line (by omega)), List.map_map]
  rfl
theorem intsD_map (ns : List Int) : intsD (ns.map .int) = some ns := by
  induction ns with
  | nil => rfl
  | cons n ns ih =>
    show (intsD (ns.map .int)).map (n :: ·) = _
    rw [ih]
    rfl
theorem gLenSet_is (ns : List Int) (h : ns.length ≤ 1000) : gLenSet (.list (ns.map .int)) = some (.int (onceI ns).length) := by
  show (match intsD (ns.map .int) with | some ns => if ns.length + 1 < scanBound then some (PyData.int (onceI ns).length) else none | none => none) = _
  rw [intsD_map]
  exact if_pos (by unfold scanBound; omega)
def shapeP (many : Int) : Dt → Bool
  | .tuple [x, .tuple ws] => wholeB x (-1) 39 && ws.all (wayP many)
  | _ => false
def okW (ps : List Way) : Bool := decide ((asc (cat ps)).length = (cat ps).length) && decide ((onceI (tg ps)).length = (tg ps).length) && adj ps
theorem state_yes (ht : tame (.tuple [x, .tuple (ps.map wD)]) = true) (hx : wholeB x (-1) 39 = true) (hp : ∀ p ∈ ps, WayOk many p) :
    f_fits_state [.sh (.tuple [x, .tuple (ps.map wD)]), .sh (.int many)] = some (.ok (.val (.bool (okW ps))) [.sh (.tuple [x, .tuple (ps.map wD)]), .sh (.int many)]) := by
  obtain ⟨_, hxs⟩ := tame_tup ht
  have tx' := hxs x (by simp)
  have tw := hxs (.tuple (ps.map wD)) (by simp)
  obtain ⟨hl, hws⟩ := tame_tup tw
  rw [List.length_map] at hl
  have e1 := tuple_ok (tame_dc ht) 2 2
  have e2 := whole_ok (tame_dc tx') (-1) 39
  rw [hx] at e2
  have hall : (ps.map wD).all (wayP many) = true := List.all_eq_true.mpr fun w hw => by
    obtain ⟨p, hm, rfl⟩ := List.mem_map.mp hw
    exact way_yes (hp p hm)
  have e3 := (w_ways (f := x) (many := many) (by rw [List.length_map]; exact hl) hws).1 hall
  have hcl : (cat ps).length ≤ 95000 := by rw [cat_length]; have := cat_len hp; omega
  have e4 := gJoin_strs (ps.map fun p => tx p.1) (by
    rw [List.map_map]
    have : (ps.map ((fun y : Str => y.length) ∘ fun p : Way => tx p.1)) = ps.map fun p => p.1.length := rfl
    rw [this, ← cat_length]
    omega)
  have e5 : ((ps.map fun p => tx p.1).map fun y => y.cps.toList).flatten = cat ps := by
    unfold cat
    rw [List.map_map]
    congr 1
  rw [e5] at e4
  have hL1 : (tx (cat ps)).length ≤ sizeLine := le_line (by rw [tx_len]; omega)
  have hL2 : (tx (asc (cat ps))).length ≤ sizeLine := le_line (by rw [tx_len]; have := asc_len (cat ps); omega)
  have htl : (tg ps).length ≤ 1000 := by unfold tg; rw [List.length_map]; exact hl
  have e6 := gLenSet_is (tg ps) htl
  have e7 := q_tgs (x := x) (many := many) hl (.str (tx (cat ps)))
  have e8 := q_lets (x := x) (many := many) hl
  have ea := ascends_ok ps hl
  have ht2 : tupB (.tuple [x, .tuple (ps.map wD)]) 2 2 = true := by unfold tupB; simp
  rw [ht2] at e1
  have hTl : ((tg ps).map PyData.int).length = (tg ps).length := by rw [List.length_map]
  generalize ((ps.map fun p => tx p.1).map PyData.str) = LS at e4 e8
  generalize ((tg ps).map PyData.int) = TS at e6 e7 hTl
  unfold f_fits_state b_f_fits_state okW
  generalize hS : PyData.tuple [x, .tuple (ps.map wD)] = S at *
  have hS0 : gIx S (.int 0) = some x := by rw [← hS]; simp
  have hS1 : gIx S (.int 1) = some (.tuple (ps.map wD)) := by rw [← hS]; simp
  by_cases h1 : (asc (cat ps)).length = (cat ps).length
  · by_cases h2 : (onceI (tg ps)).length = (tg ps).length
    · simp [e1, hS0, hS1, e2, isi_tup (tame_dc tw), isTup, e3, e8, e4, e7, ascending_ok, gLen_s _ hL1, gLen_s _ hL2, tx_len, e6, hTl, ea, h1, h2]
    · have h2' : ¬ (((onceI (tg ps)).length : Int) = (tg ps).length) := by omega
      simp [e1, hS0, hS1, e2, isi_tup (tame_dc tw), isTup, e3, e8, e4, e7, ascending_ok, gLen_s _ hL1, gLen_s _ hL2, tx_len, e6, hTl, ea, h1, h2, h2']
  · have h1' : ¬ (((asc (cat ps)).length : Int) = (cat ps).length) := by omega
    simp [e1, hS0, hS1, e2, isi_tup (tame_dc tw), isTup, e3, e8, e4, e7, ascending_ok, gLen_s _ hL1, gLen_s _ hL2, tx_len, e6, hTl, ea, h1, h1']
theorem pair_or {d : Dt} : (∃ x y, d = .tuple [x, y]) ∨ tupB d 2 2 = false := by
  cases d with
  | tuple xs =>
    match xs with
    | [] => exact .inr (by unfold tupB; simp)
    | [x] => exact .inr (by unfold tupB; simp)
    | [x, y] => exact .inl ⟨x, y, rfl⟩
    | x :: y :: z :: r => exact .inr (by unfold tupB; simp; omega)
  | _ => exact .inr rfl
theorem state_no {d : Dt} (ht : tame d = true) (hs : shapeP many d = false) : f_fits_state [.sh d, .sh (.int many)] = some (.ok (.val (.bool false)) [.sh d, .sh (.int many)]) := by
  have e1 := tuple_ok (tame_dc ht) 2 2
  unfold f_fits_state b_f_fits_state
  rcases pair_or (d := d) with ⟨x, y, rfl⟩ | hb
  · obtain ⟨_, hxs⟩ := tame_tup ht
    have tx' := hxs x (by simp)
    have ty := hxs y (by simp)
    have e2 := whole_ok (tame_dc tx') (-1) 39
    have ht2 : tupB (.tuple [x, y]) 2 2 = true := by unfold tupB; simp
    rw [ht2] at e1
    cases hW : wholeB x (-1) 39 with
    | false =>
      rw [hW] at e2
      simp [e1, e2]
    | true =>
      rw [hW] at e2
      cases hT : isTup y with
      | false => simp [e1, e2, isi_tup (tame_dc ty), hT]
      | true =>
        cases y with
        | tuple ws =>
          have hs' : (wholeB x (-1) 39 && ws.all (wayP many)) = false := hs
          rw [hW, Bool.true_and] at hs'
          obtain ⟨hl, hws⟩ := tame_tup ty
          obtain ⟨ρ', e3⟩ := (w_ways (f := x) (many := many) hl hws).2 hs'
          simp [e1, e2, isi_tup (tame_dc ty), hT, e3]
        | _ => cases hT
  · rw [hb] at e1
    simp [e1]
end
end K27
/-! K27V: machines, as the program looks at them. -/
namespace K27
open PySem L2 PD
def wayOf : Dt → Way
  | .tuple [.str z, .int t] => (z.cps.toList, t)
  | _ => ([], 0)
def parse : Dt → List Way
  | .tuple [_, .tuple ws] => ws.map wayOf
  | _ => []
theorem wayOf_wD (p : Way) : wayOf (wD p) = p := by
  show ((tx p.1).cps.toList, p.2) = p
  rw [tx_cps]
theorem parse_is (x : Dt) (ps : List Way) : parse (.tuple [x, .tuple (ps.map wD)]) = ps := by
  show (ps.map wD).map wayOf = ps
  rw [List.map_map]
  have : (wayOf ∘ wD) = id := funext fun p => wayOf_wD p
  rw [this, List.map_id]
theorem shape_of {many : Int} {d : Dt} (h : shapeP many d = true) : ∃ (x : Dt) (ps : List Way), d = .tuple [x, .tuple (ps.map wD)] ∧ wholeB x (-1) 39 = true ∧ ∀ p ∈ ps, WayOk many p := by
  unfold shapeP at h
  split at h
  · rename_i x ws
    rw [Bool.and_eq_true, List.all_eq_true] at h
    obtain ⟨ps, rfl, hp⟩ := ways_of h.2
    exact ⟨x, ps, rfl, h.1, hp⟩
  · cases h
def stateB (many : Int) (d : Dt) : Bool := shapeP many d && okW (parse d)
theorem state_ok {many : Int} {d : Dt} (ht : tame d = true) : f_fits_state [.sh d, .sh (.int many)] = some (.ok (.val (.bool (stateB many d))) [.sh d, .sh (.int many)]) := by
  unfold stateB
  cases hs : shapeP many d with
  | false => exact state_no ht hs
  | true =>
    obtain ⟨x, ps, rfl, hx, hp⟩ := shape_of hs
    rw [parse_is, Bool.true_and]
    exact state_yes ht hx hp
def machB : Dt → Bool
  | .tuple ss => decide (1 ≤ ss.length) && decide (ss.length ≤ 400) && ss.all (stateB ss.length)
  | _ => false
theorem q_mach {ss : List Dt} (hl : ss.length ≤ 1000) (hs : ∀ s ∈ ss, tame s = true) : q_f_is_word_machine_0 [.sh (.tuple ss), .un] = some (.ok (ss.map fun s => .bool (stateB ss.length s)) [.sh (.tuple ss), .un]) := by
  unfold q_f_is_word_machine_0
  rw [mLc_all (ρ0 := [.sh (.tuple ss), .un]) ss id (fun s => .bool (stateB ss.length s)) (by simp) rfl (fun s hm => ⟨[.sh (.tuple ss), .sh s], by simp, by simp [state_ok (hs s hm)], rfl⟩) (le_line (by omega))]
  rfl
theorem machine_ok {d : Dt} (ht : tame d = true) : f_is_word_machine [.sh d] = some (.ok (.val (.bool (machB d))) [.sh d]) := by
  have e1 := tuple_ok (tame_dc ht) 1 400
  unfold f_is_word_machine b_f_is_word_machine
  cases hT : isTup d with
  | false =>
    have hm : machB d = false := by cases d <;> first | rfl | cases hT
    have hb : tupB d 1 400 = false := by cases d <;> first | rfl | cases hT
    rw [hb] at e1
    simp [e1, hm]
  | true =>
    cases d with
    | tuple ss =>
      obtain ⟨hl, hs⟩ := tame_tup ht
      have e2 := q_mach hl hs
      have e3 := gAll_map ss (stateB ss.length)
      generalize (ss.map fun s => PyData.bool (stateB ss.length s)) = L at e2 e3
      have hb : tupB (.tuple ss) 1 400 = (decide (1 ≤ ss.length) && decide (ss.length ≤ 400)) := by
        show (decide ((1 : Int) ≤ (ss.length : Int)) && decide ((ss.length : Int) ≤ 400)) = _
        congr 1
        · exact decide_eq_decide.mpr (by omega)
        · exact decide_eq_decide.mpr (by omega)
      rw [hb] at e1
      have hm : machB (.tuple ss) = (decide (1 ≤ ss.length) && decide (ss.length ≤ 400) && ss.all (stateB ss.length)) := rfl
      rw [hm]
      cases hc : (decide (1 ≤ ss.length) && decide (ss.length ≤ 400)) with
      | false =>
        rw [hc] at e1
        simp [e1]
      | true =>
        rw [hc] at e1
        simp [e1, e2, e3]
    | _ => cases hT
theorem machine_list (ss : List Dt) : f_is_word_machine [.sh (.list ss)] = some (.ok (.val (.bool false)) [.sh (.list ss)]) := by
  have e1 := tuple_ok (d := .list ss) rfl 1 400
  have hb : tupB (.list ss) 1 400 = false := rfl
  rw [hb] at e1
  unfold f_is_word_machine b_f_is_word_machine
  simp [e1]
end K27
/-! K27W: the law's own look at a state. -/
namespace K27
open PySem L2 PD
def onlyInt : Dt → Bool
  | .int _ => true
  | _ => false
theorem lwhole_ok {d : Dt} (h : noDc d = true) : l_is_whole [.sh d] = some (.ok (.val (.bool (onlyInt d))) [.sh d]) := by
  unfold l_is_whole b_l_is_whole
  cases hI : isInt d with
  | false =>
    have : onlyInt d = false := by cases d <;> first | rfl | cases hI
    simp [isi_int h, hI, this]
  | true =>
    cases d with
    | int i => simp [isi_int (d := .int i) rfl, isi_bool (d := .int i) rfl, isInt, isBool, onlyInt]
    | bool b => simp [isi_int (d := .bool b) rfl, isi_bool (d := .bool b) rfl, isInt, isBool, onlyInt]
    | _ => cases hI
theorem gIn_ints (t : Int) (T : List Int) : gIn (.int t) (.list (T.map .int)) = some (.bool (decide (t ∈ T))) := by
  have h1 : (T.map PyData.int).all flatD = true := by
    rw [List.all_map]
    exact List.all_eq_true.mpr fun _ _ => rfl
  show (if (flatD (.int t) && (T.map PyData.int).all flatD) = true then some ((T.map PyData.int).any fun z => PyData.eqv z (.int t)) else _).map PyData.bool = _
  rw [if_pos (by rw [h1]; rfl), List.any_map]
  refine congrArg (fun b => some (PyData.bool b)) ?_
  rw [Bool.eq_iff_iff, List.any_eq_true, decide_eq_true_eq]
  constructor
  · rintro ⟨k, hk, e⟩
    have e' : PyData.eqv (.int k) (.int t) = true := e
    unfold PyData.eqv at e'
    rw [beq_iff_eq] at e'
    rw [← e']; exact hk
  · intro h
    refine ⟨t, h, ?_⟩
    show PyData.eqv (.int t) (.int t) = true
    unfold PyData.eqv
    simp
theorem gNe_ones {α : Type} (as : List α) : gNe (.list (as.map fun _ => .int 1)) (.list []) = some (.bool (!decide (as = []))) := by
  have h := gEq_ones as
  unfold gEq at h
  unfold gNe
  cases q : gEqB (.list (as.map fun _ => .int 1)) (.list []) with
  | none => rw [q] at h; cases h
  | some b =>
    rw [q] at h
    cases h
    rfl
/-- the state of the loop -/
def stL (S : Dt) (many : Int) (L : List Nat) (T : List Int) : Ev := [.sh S, .sh (.int many), .sh (.str (tx L)), .sh (.list (T.map .int)), .un, .un]
def stW (S : Dt) (many : Int) (L : List Nat) (T : List Int) (w : Dt) : Ev := [.sh S, .sh (.int many), .sh (.str (tx L)), .sh (.list (T.map .int)), .sh w, .un]
def bodyW : F := (sSeq (sIf (mOrT (mNotT (mTst (mOp1 (gIsi "tuple") (mVar 4)))) (mOrT (mTst (mOp2 gNe (mOpN gLen (mCons (mVar 4) mNil)) (mC (.int 2)))) (mOrT (mNotT (mTst (mOp1 (gIsi "str") (mOp2 gIx (mVar 4) (mC (.int 0)))))) (mOrT (mTst (mOp2 gEq (mOp2 gIx (mVar 4) (mC (.int 0))) (mC (.str "")))) (mNotT (mTst (mCall l_is_whole (mCons (mOp2 gIx (mVar 4) (mC (.int 1))) mNil))))))))
  (sRet (mC (.bool false)))
  sNil)
  (sSeq (sIf (mOrT (mNotT (mTst (mChain gLe gLtA (mC (.int 0)) (mOp2 gIx (mVar 4) (mC (.int 1))) (mVar 1)))) (mOrT (mTst (mOp2 gNe (mBM isStr gJoin (mC (.str "")) (mCons (mFrz q_l_is_state_0) mNil)) (mOp2 gIx (mVar 4) (mC (.int 0))))) (mTst (mOp2 gIn (mOp2 gIx (mVar 4) (mC (.int 1))) (mVar 3)))))
  (sRet (mC (.bool false)))
  sNil)
  (sSeq (sIf (mTst (mOp2 gNe (mFrz q_l_is_state_1) (mFrz (mLst mNil))))
  (sRet (mC (.bool false)))
  sNil)
  (sPar [2, 3] (mPd (mOp2 gAdd (mVar 2) (mOp2 gIx (mVar 4) (mC (.int 0)))) (mPd (mOp2 gAdd (mVar 3) (mFrz (mLst (mCons (mOp2 gIx (mVar 4) (mC (.int 1))) mNil)))) mPn))))))
section
variable {S : Dt} {many : Int} {L l : List Nat} {T : List Int} {y : Dt}
theorem q_st0 : q_l_is_state_0 (stW S many L T (.tuple [.str (tx l), y])) = some (.ok ((asc l).map sgD) (stW S many L T (.tuple [.str (tx l), y]))) := by
  unfold q_l_is_state_0 asc stW
  rw [mLc_map (ρ0 := [.sh S, .sh (.int many), .sh (.str (tx L)), .sh (.list (T.map .int)), .sh (.tuple [.str (tx l), y]), .un]) CH sgD (fun c => decide (c ∈ l)) sgD (by simp [chars_ok]) rfl (fun c hc => ⟨[.sh S, .sh (.int many), .sh (.str (tx L)), .sh (.list (T.map .int)), .sh (.tuple [.str (tx l), y]), .sh (sgD c)], by simp, by simp, fun _ => by simp, rfl⟩) (by rw [CH_len]; exact le_line (by decide))]
  rfl
theorem q_st1 (hl : l.length ≤ 1000) : q_l_is_state_1 (stW S many L T (.tuple [.str (tx l), y])) = some (.ok ((l.filter fun c => decide (c ∈ L)).map fun _ => .int 1) (stW S many L T (.tuple [.str (tx l), y]))) := by
  unfold q_l_is_state_1 stW
  rw [mLc_map (ρ0 := [.sh S, .sh (.int many), .sh (.str (tx L)), .sh (.list (T.map .int)), .sh (.tuple [.str (tx l), y]), .un]) l sgD (fun c => decide (c ∈ L)) (fun _ => .int 1) (by simp) rfl (fun c hc => ⟨[.sh S, .sh (.int many), .sh (.str (tx L)), .sh (.list (T.map .int)), .sh (.tuple [.str (tx l), y]), .sh (sgD c)], by simp, by simp, fun _ => by simp, rfl⟩) (le_line (by omega))]
  rfl
/-- a way that is none -/
theorem step_no {w : Dt} (tw : tame w = true) (hp : wayP many w = false) : ∃ ρ2, bodyW (stW S many L T w) = some (.rt (.bool false) ρ2) := by
  unfold bodyW
  cases hT : isTup w with
  | false => exact ⟨_, by unfold stW; simp [isi_tup (tame_dc tw), hT]; rfl⟩
  | true =>
    rcases pair_or (d := w) with ⟨x, y, rfl⟩ | hb
    · obtain ⟨_, hxs⟩ := tame_tup tw
      have tx' := hxs x (by simp)
      have ty := hxs y (by simp)
      have hp' : (lettersP x && wholeB y 0 (many - 1)) = false := hp
      cases hS : isStr x with
      | false => exact ⟨_, by unfold stW; simp [isi_tup (tame_dc tw), hT, isi_str (tame_dc tx'), hS]; rfl⟩
      | true =>
        cases x with
        | str z =>
          obtain ⟨l, rfl⟩ : ∃ l, z = tx l := ⟨_, (tx_of z).symm⟩
          have hll : l.length ≤ 1000 := (tame_str tx').2
          have q0 := q_st0 (S := S) (many := many) (L := L) (T := T) (l := l) (y := y)
          unfold stW at q0
          have hv : lettersP (.str (tx l)) = letP l := by show letP (tx l).cps.toList = _; rw [tx_cps]
          rw [hv] at hp'
          by_cases h0 : l = []
          · subst h0
            have he : tx [] = ("" : Str) := empty_tx.symm
            exact ⟨_, by unfold stW; simp [isi_tup (tame_dc tw), hT, isi_str (tame_dc tx'), hS, he]; rfl⟩
          · have hne : ¬ tx l = ("" : Str) := fun z => h0 (tx_inj (z.trans empty_tx))
            have e1 := lwhole_ok (tame_dc ty)
            cases hI : onlyInt y with
            | false =>
              rw [hI] at e1
              exact ⟨_, by unfold stW; simp [isi_tup (tame_dc tw), hT, isi_str (tame_dc tx'), hS, hne, e1]; rfl⟩
            | true =>
              rw [hI] at e1
              cases y with
              | int t =>
                by_cases h1 : 0 ≤ t
                · by_cases h2 : t < many
                  · have hW : wholeB (.int t) 0 (many - 1) = true := by
                      show (decide (0 ≤ t) && decide (t ≤ many - 1)) = true
                      rw [decide_eq_true h1, decide_eq_true (by omega)]
                      rfl
                    rw [hW, Bool.and_true] at hp'
                    have h3 : ¬ asc l = l := fun z => by
                      unfold letP at hp'
                      rw [z] at hp'
                      simp [h0] at hp'
                    have h4 : ¬ tx (asc l) = tx l := fun z => h3 (tx_inj z)
                    exact ⟨_, by unfold stW; simp [isi_tup (tame_dc tw), hT, isi_str (tame_dc tx'), hS, hne, e1, h1, h2, q0, gJoin_signs _ (Nat.le_trans (asc_len l) (by decide)), h4]; rfl⟩
                  · exact ⟨_, by unfold stW; simp [isi_tup (tame_dc tw), hT, isi_str (tame_dc tx'), hS, hne, e1, h1, h2]; rfl⟩
                · exact ⟨_, by unfold stW; simp [isi_tup (tame_dc tw), hT, isi_str (tame_dc tx'), hS, hne, e1, h1]; rfl⟩
              | _ => cases hI
        | _ => cases hS
    · cases w with
      | tuple xs =>
        have h2 : ¬ (xs.length : Int) = 2 := fun z => by
          have hb' : (decide (2 ≤ (xs.length : Int)) && decide ((xs.length : Int) ≤ 2)) = false := hb
          rw [z] at hb'
          simp at hb'
        exact ⟨_, by unfold stW; simp [isi_tup (tame_dc tw), hT, h2]; rfl⟩
      | _ => cases hT
/-- a way that is one -/
theorem step_yes {p : Way} (tw : tame (wD p) = true) (hp : WayOk many p) (hL : L.length ≤ 1000000) (hTl : T.length ≤ 10000) :
    ((decide (p.2 ∈ T) || !decide ((p.1.filter fun c => decide (c ∈ L)) = [])) = true → ∃ ρ2, bodyW (stW S many L T (wD p)) = some (.rt (.bool false) ρ2)) ∧
    ((decide (p.2 ∈ T) || !decide ((p.1.filter fun c => decide (c ∈ L)) = [])) = false → ∃ ρ2, bodyW (stW S many L T (wD p)) = some (.nx ρ2) ∧ kills [4, 5] ρ2 = stL S many (L ++ p.1) (T ++ [p.2])) := by
  obtain ⟨l, t⟩ := p
  obtain ⟨ha, hne0, hll⟩ := wayOk_len hp
  have h1 : 0 ≤ t := hp.lo
  have h2 : t < many := hp.hi
  have ha' : asc l = l := ha
  have hll' : l.length ≤ 95 := hll
  have hne : ¬ tx l = ("" : Str) := fun z => hne0 (tx_inj (z.trans empty_tx))
  obtain ⟨_, hxs⟩ := tame_tup tw
  have tx' : tame (.str (tx l)) = true := hxs _ (by simp)
  have q0 := q_st0 (S := S) (many := many) (L := L) (T := T) (l := l) (y := .int t)
  have q1 := q_st1 (S := S) (many := many) (L := L) (T := T) (l := l) (y := .int t) (by omega)
  have e1 := lwhole_ok (d := .int t) rfl
  have ht2 : isTup (wD (l, t)) = true := rfl
  have g1 := gNe_ones (l.filter fun c => decide (c ∈ L))
  have g2 := gAdd_s (tx L) (tx l) (le_line (by rw [tx_len, tx_len]; omega))
  have g3 := gAdd_l (T.map PyData.int) [.int t] (le_line (by rw [List.length_map, List.length_singleton]; omega))
  have g4 : tx L ++ tx l = tx (L ++ l) := by
    rw [← tx_of (tx L ++ tx l)]
    congr 1
    show TL.tl (tx L ++ tx l) = _
    rw [TL.tl_append]
    show (tx L).cps.toList ++ (tx l).cps.toList = _
    rw [tx_cps, tx_cps]
  have g5 : T.map PyData.int ++ [.int t] = (T ++ [t]).map .int := by rw [List.map_append]; rfl
  rw [g4] at g2
  rw [g5] at g3
  have gi := gIn_ints t T
  have hj := gJoin_signs l (by omega)
  rw [ha'] at q0
  unfold bodyW
  unfold stW at q0 q1
  unfold stW stL
  generalize ((l.filter fun c => decide (c ∈ L)).map fun _ => PyData.int 1) = ON at q1 g1
  generalize decide ((l.filter fun c => decide (c ∈ L)) = []) = b1 at g1
  generalize (T ++ [t]).map PyData.int = TN at g3
  generalize T.map PyData.int = TT at *
  constructor
  · intro h
    by_cases h3 : t ∈ T
    · exact ⟨_, by simp [wD, isi_tup (d := .tuple [.str (tx l), .int t]) rfl, isTup, isi_str (d := .str (tx l)) rfl, isStr, hne, e1, onlyInt, h1, h2, q0, hj, ha', gi, h3]; rfl⟩
    · have hb : b1 = false := by
        simp [h3] at h
        exact h
      rw [hb] at g1
      exact ⟨_, by simp [wD, isi_tup (d := .tuple [.str (tx l), .int t]) rfl, isTup, isi_str (d := .str (tx l)) rfl, isStr, hne, e1, onlyInt, h1, h2, q0, hj, ha', gi, h3, q1, g1]; rfl⟩
  · intro h
    have h3 : ¬ t ∈ T := fun z => by simp [z] at h
    have hb : b1 = true := by
      simp [h3] at h
      exact h
    rw [hb] at g1
    exact ⟨_, by simp [wD, isi_tup (d := .tuple [.str (tx l), .int t]) rfl, isTup, isi_str (d := .str (tx l)) rfl, isStr, hne, e1, onlyInt, h1, h2, q0, hj, ha', gi, h3, q1, g1, g2, g3, fits_small]; rfl, rfl⟩
end
end K27
/-! K27X: the law's own look at a state, whole. -/
namespace K27
open PySem L2 PD
def lawP : List Nat → List Int → List Way → Bool
  | _, _, [] => true
  | L, T, p :: ps => !(decide (p.2 ∈ T) || !decide ((p.1.filter fun c => decide (c ∈ L)) = [])) && lawP (L ++ p.1) (T ++ [p.2]) ps
section
variable {S : Dt} {many : Int}
theorem loop_no : ∀ (ws : List Dt) (L : List Nat) (T : List Int), (∀ w ∈ ws, tame w = true) → ws.all (wayP many) = false → L.length + 95 * ws.length ≤ 900000 → T.length + ws.length ≤ 9000 → ∃ ρ', sFor [4, 5] (gN 4) bodyW ws (stL S many L T) = some (.rt (.bool false) ρ')
  | [], L, T, _, h, _, _ => nomatch h
  | w :: ws, L, T, ht, h, hL, hT => by
    have e1 : gN 4 w (stL S many L T) = some (stW S many L T w) := by unfold stL stW; simp
    have tw := ht w List.mem_cons_self
    rw [List.length_cons] at hL hT
    cases hp : wayP many w with
    | false =>
      obtain ⟨ρ2, e2⟩ := step_no (S := S) (L := L) (T := T) tw hp
      exact ⟨ρ2, sFor_out e1 e2⟩
    | true =>
      obtain ⟨ps, eps, hok⟩ := ways_of (many := many) (ws := [w]) fun v hv => by rw [List.mem_singleton] at hv; rw [hv]; exact hp
      obtain ⟨p, rfl⟩ : ∃ p, w = wD p := by
        match ps, eps with
        | [p], e => exact ⟨p, by simpa using e⟩
        | [], e => simp at e
        | _ :: _ :: _, e => simp at e
      have hpo : WayOk many p := by
        match ps, eps, hok with
        | [q], e, hok =>
          have e' : wD p = wD q := by simpa using e
          have : p = q := by rw [← wayOf_wD p, e', wayOf_wD]
          rw [this]
          exact hok q (by simp)
        | [], e, _ => simp at e
        | _ :: _ :: _, e, _ => simp at e
      obtain ⟨y1, y2⟩ := step_yes (S := S) (L := L) (T := T) tw hpo (by omega) (by omega)
      cases hc : (decide (p.2 ∈ T) || !decide ((p.1.filter fun c => decide (c ∈ L)) = [])) with
      | true =>
        obtain ⟨ρ2, e2⟩ := y1 hc
        exact ⟨ρ2, sFor_out e1 e2⟩
      | false =>
        obtain ⟨ρ2, e2, e3⟩ := y2 hc
        have hlen := (wayOk_len hpo).2.2
        rw [List.all_cons, hp, Bool.true_and] at h
        obtain ⟨ρ', e4⟩ := loop_no ws (L ++ p.1) (T ++ [p.2]) (fun v hv => ht v (List.mem_cons_of_mem _ hv)) h (by rw [List.length_append]; omega) (by rw [List.length_append, List.length_singleton]; omega)
        exact ⟨ρ', by rw [sFor_step e1 e2, e3]; exact e4⟩
theorem loop_yes : ∀ (ps : List Way) (L : List Nat) (T : List Int), (∀ p ∈ ps, WayOk many p ∧ tame (wD p) = true) → L.length + 95 * ps.length ≤ 900000 → T.length + ps.length ≤ 9000 →
    (lawP L T ps = true → ∃ L' T', sFor [4, 5] (gN 4) bodyW (ps.map wD) (stL S many L T) = some (.nx (stL S many L' T'))) ∧
    (lawP L T ps = false → ∃ ρ', sFor [4, 5] (gN 4) bodyW (ps.map wD) (stL S many L T) = some (.rt (.bool false) ρ'))
  | [], L, T, _, _, _ => ⟨fun _ => ⟨L, T, rfl⟩, fun h => nomatch h⟩
  | p :: ps, L, T, hp, hL, hT => by
    have e1 : gN 4 (wD p) (stL S many L T) = some (stW S many L T (wD p)) := by unfold stL stW; simp
    obtain ⟨hpo, tw⟩ := hp p List.mem_cons_self
    rw [List.length_cons] at hL hT
    obtain ⟨y1, y2⟩ := step_yes (S := S) (L := L) (T := T) tw hpo (by omega) (by omega)
    rw [List.map_cons]
    unfold lawP
    cases hc : (decide (p.2 ∈ T) || !decide ((p.1.filter fun c => decide (c ∈ L)) = [])) with
    | true =>
      refine ⟨fun z => (nomatch z), fun _ => ?_⟩
      obtain ⟨ρ2, e2⟩ := y1 hc
      exact ⟨ρ2, sFor_out e1 e2⟩
    | false =>
      obtain ⟨ρ2, e2, e3⟩ := y2 hc
      have hlen := (wayOk_len hpo).2.2
      have ih := loop_yes ps (L ++ p.1) (T ++ [p.2]) (fun q hq => hp q (List.mem_cons_of_mem _ hq)) (by rw [List.length_append]; omega) (by rw [List.length_append, List.length_singleton]; omega)
      rw [sFor_step e1 e2, e3]
      simpa using ih
end
def leW (p q : Way) : Bool := !ltW q p
theorem srt_ways (ps : List Way) : srt (ps.map wD) = (ps.mergeSort leW).map wD := by
  unfold srt
  exact (List.map_mergeSort (r := leW) (s := PySem.W.dataLe false id) (f := wD) fun a _ b _ => rfl).symm
theorem eqv_wD (p q : Way) : PyData.eqv (wD p) (wD q) = decide (p = q) := by
  unfold wD
  simp only [PyData.eqv, PyData.eqvAll, Bool.and_true]
  obtain ⟨a, b⟩ := p
  obtain ⟨c, d⟩ := q
  by_cases h1 : a = c
  · subst h1
    by_cases h2 : b = d <;> simp [h2]
  · have h3 : ¬ tx a = tx c := fun z => h1 (tx_inj z)
    simp [h1, h3]
theorem eqv_ways : ∀ (ps qs : List Way), PyData.eqvAll (ps.map wD) (qs.map wD) = decide (ps = qs)
  | [], [] => by simp [PyData.eqvAll]
  | [], q :: qs => by simp [PyData.eqvAll]
  | p :: ps, [] => by simp [PyData.eqvAll]
  | p :: ps, q :: qs => by
    rw [List.map_cons, List.map_cons, PyData.eqvAll, eqv_wD, eqv_ways ps qs]
    by_cases h1 : p = q <;> by_cases h2 : ps = qs <;> simp [h1, h2]
theorem wD_depth (p : Way) : (wD p).depth = 1 := by unfold wD; simp [PyData.depth, PyData.depthAll]
theorem ways_shaped {ps : List Way} (h : ∀ p ∈ ps, tame (wD p) = true) : SeqAt.shaped (.list (ps.map wD)) = true := by
  have h1 : tameL (ps.map wD) = true := tameL_of fun x hx => by
    obtain ⟨p, hp, rfl⟩ := List.mem_map.mp hx
    exact h p hp
  have h2 : PyData.depthAll (ps.map wD) ≤ 1 := depthAll_le fun x hx => by
    obtain ⟨p, hp, rfl⟩ := List.mem_map.mp hx
    rw [wD_depth]
    exact Nat.le_refl _
  unfold SeqAt.shaped PyData.canLay0 PyData.depth
  rw [tameL_lay _ h1, decide_eq_true (by omega)]
  rfl
theorem sort_ways {ps : List Way} (hl : ps.length ≤ 1000) : fSort [.tuple (ps.map wD)] = some ((ps.mergeSort leW).map wD) := by
  have h : sortOk (ps.map wD) = true := by
    unfold sortOk
    have a1 : ((ps.map wD).all fun d => (ps.map wD).all fun e => PySem.W.alike d e) = true := List.all_eq_true.mpr fun d hd => List.all_eq_true.mpr fun e he => by
      obtain ⟨p, _, rfl⟩ := List.mem_map.mp hd
      obtain ⟨q, _, rfl⟩ := List.mem_map.mp he
      unfold wD
      simp [PySem.W.alike, PySem.W.alikeAll]
    have a2 : (ps.map wD).all tupOne = true := List.all_eq_true.mpr fun d hd => by
      obtain ⟨p, _, rfl⟩ := List.mem_map.mp hd
      rfl
    have a3 : ((ps.map wD).all fun d => decide (d.depth ≤ 50)) = true := List.all_eq_true.mpr fun d hd => by
      obtain ⟨p, _, rfl⟩ := List.mem_map.mp hd
      rw [wD_depth]
      rfl
    rw [a1, a2, a3, decide_eq_true (by rw [List.length_map]; exact le_line (by omega))]
    rfl
  show (if sortOk (ps.map wD) = true then some (srt (ps.map wD)) else none) = _
  rw [if_pos h, srt_ways]
def okL (ps : List Way) : Bool := lawP [] [] ps && decide (ps = ps.mergeSort leW)
section
variable {x : Dt} {ps : List Way} {many : Int}
theorem lst_whole {x : Dt} (h : wholeB x (-1) 39 = true) : ∃ i : Int, x = .int i ∧ -1 ≤ i ∧ i < 40 := by
  cases x with
  | int i =>
    have h' : (decide (-1 ≤ i) && decide (i ≤ 39)) = true := h
    rw [Bool.and_eq_true, decide_eq_true_eq, decide_eq_true_eq] at h'
    exact ⟨i, rfl, h'.1, by omega⟩
  | _ => cases h
theorem lstate_yes (ht : tame (.tuple [x, .tuple (ps.map wD)]) = true) (hx : wholeB x (-1) 39 = true) (hp : ∀ p ∈ ps, WayOk many p) :
    l_is_state [.sh (.tuple [x, .tuple (ps.map wD)]), .sh (.int many)] = some (.ok (.val (.bool (okL ps))) [.sh (.tuple [x, .tuple (ps.map wD)]), .sh (.int many)]) := by
  obtain ⟨_, hxs⟩ := tame_tup ht
  have tw := hxs (.tuple (ps.map wD)) (by simp)
  obtain ⟨hl, hws⟩ := tame_tup tw
  rw [List.length_map] at hl
  obtain ⟨i, rfl, i0, i1⟩ := lst_whole hx
  have e1 := lwhole_ok (d := .int i) rfl
  have hps : ∀ p ∈ ps, WayOk many p ∧ tame (wD p) = true := fun p hm => ⟨hp p hm, hws _ (List.mem_map.mpr ⟨p, hm, rfl⟩)⟩
  obtain ⟨k1, k2⟩ := loop_yes (S := .tuple [.int i, .tuple (ps.map wD)]) ps [] [] hps (by simp; omega) (by simp; omega)
  have es := sort_ways hl
  have hq : gEq (.list (ps.map wD)) (.list ((ps.mergeSort leW).map wD)) = some (.bool (decide (ps = ps.mergeSort leW))) := by
    have s1 := ways_shaped fun p hm => (hps p hm).2
    have s2 := ways_shaped (ps := ps.mergeSort leW) fun p hm => (hps p (List.mem_mergeSort.mp hm)).2
    show (if (SeqAt.shaped (.list (ps.map wD)) && SeqAt.shaped (.list ((ps.mergeSort leW).map wD))) = true then some (PyData.eqv (.list (ps.map wD)) (.list ((ps.mergeSort leW).map wD))) else none).map PyData.bool = _
    rw [s1, s2]
    show (some (PyData.eqv (.list (ps.map wD)) (.list ((ps.mergeSort leW).map wD)))).map PyData.bool = _
    unfold PyData.eqv
    rw [eqv_ways]
    rfl
  have hw : w_l_is_state_0 [.sh (.tuple [.int i, .tuple (ps.map wD)]), .sh (.int many), .sh (.str ""), .sh (.list []), .un, .un] = sFor [4, 5] (gN 4) bodyW (ps.map wD) (stL (.tuple [.int i, .tuple (ps.map wD)]) many [] []) := by
    unfold w_l_is_state_0 stL
    rw [empty_tx]
    simp
    rfl
  unfold l_is_state b_l_is_state okL
  have hi2 : isTup (.tuple (ps.map wD)) = true := rfl
  have hi1 : isTup (.tuple [.int i, .tuple (ps.map wD)]) = true := rfl
  cases hc : lawP [] [] ps with
  | false =>
    obtain ⟨ρ', e3⟩ := k2 hc
    rw [e3] at hw
    simp [isi_tup (tame_dc ht), hi1, e1, onlyInt, i0, i1, isi_tup (tame_dc tw), hi2, hw]
  | true =>
    obtain ⟨L', T', e3⟩ := k1 hc
    rw [e3] at hw
    unfold stL at hw
    generalize (ps.mergeSort leW).map wD = QS at es hq
    simp [isi_tup (tame_dc ht), hi1, e1, onlyInt, i0, i1, isi_tup (tame_dc tw), hi2, hw, es, hq]
theorem lstate_no {d : Dt} (ht : tame d = true) (hs : shapeP many d = false) : l_is_state [.sh d, .sh (.int many)] = some (.ok (.val (.bool false)) [.sh d, .sh (.int many)]) := by
  unfold l_is_state b_l_is_state
  cases hT : isTup d with
  | false => simp [isi_tup (tame_dc ht), hT]
  | true =>
    rcases pair_or (d := d) with ⟨x, y, rfl⟩ | hb
    · obtain ⟨_, hxs⟩ := tame_tup ht
      have tx' := hxs x (by simp)
      have ty := hxs y (by simp)
      have e1 := lwhole_ok (tame_dc tx')
      cases hI : onlyInt x with
      | false =>
        rw [hI] at e1
        simp [isi_tup (tame_dc ht), hT, e1]
      | true =>
        rw [hI] at e1
        cases x with
        | int i =>
          by_cases h1 : -1 ≤ i
          · by_cases h2 : i < 40
            · cases hU : isTup y with
              | false => simp [isi_tup (tame_dc ht), hT, e1, h1, h2, isi_tup (tame_dc ty), hU]
              | true =>
                cases y with
                | tuple ws =>
                  have hs' : (wholeB (.int i) (-1) 39 && ws.all (wayP many)) = false := hs
                  have hW : wholeB (.int i) (-1) 39 = true := by
                    show (decide (-1 ≤ i) && decide (i ≤ 39)) = true
                    rw [decide_eq_true h1, decide_eq_true (by omega)]
                    rfl
                  rw [hW, Bool.true_and] at hs'
                  obtain ⟨hl, hws⟩ := tame_tup ty
                  obtain ⟨ρ', e3⟩ := loop_no (S := .tuple [.int i, .tuple ws]) (many := many) ws [] [] hws hs' (by simp; omega) (by simp; omega)
                  have hw : w_l_is_state_0 [.sh (.tuple [.int i, .tuple ws]), .sh (.int many), .sh (.str ""), .sh (.list []), .un, .un] = sFor [4, 5] (gN 4) bodyW ws (stL (.tuple [.int i, .tuple ws]) many [] []) := by
                    unfold w_l_is_state_0 stL
                    rw [empty_tx]
                    simp
                    rfl
                  rw [e3] at hw
                  simp [isi_tup (tame_dc ht), hT, e1, h1, h2, isi_tup (tame_dc ty), hU, hw]
                | _ => cases hU
            · simp [isi_tup (tame_dc ht), hT, e1, h1, h2]
          · simp [isi_tup (tame_dc ht), hT, e1, h1]
        | _ => cases hI
    · cases d with
      | tuple xs =>
        have h2 : ¬ (xs.length : Int) = 2 := fun z => by
          have hb' : (decide (2 ≤ (xs.length : Int)) && decide ((xs.length : Int) ≤ 2)) = false := hb
          rw [z] at hb'
          simp at hb'
        simp [isi_tup (tame_dc ht), hT, h2]
      | _ => cases hT
end
end K27
/-! K27Y: both looks at a state are one. -/
namespace K27
open PySem L2 PD
/-! ### numbers met once -/
theorem dup_of {α : Type} [BEq α] [LawfulBEq α] : ∀ {l : List α}, ¬ l.Nodup → ∃ x, x ∈ l ∧ x ∈ l.erase x
  | [], h => absurd List.nodup_nil h
  | a :: t, h => by
    by_cases ha : a ∈ t
    · exact ⟨a, List.mem_cons_self, by rw [List.erase_cons_head]; exact ha⟩
    · obtain ⟨x, h1, h2⟩ := dup_of fun z => h (List.nodup_cons.mpr ⟨ha, z⟩)
      have ne : x ≠ a := fun z => ha (by rw [← z]; exact h1)
      refine ⟨x, List.mem_cons_of_mem _ h1, ?_⟩
      rw [List.erase_cons_tail (by simpa using Ne.symm ne)]
      exact List.mem_cons_of_mem _ h2
theorem asc_nodup (l : List Nat) : (asc l).Nodup := CH_nd.filter _
theorem asc_iff {l : List Nat} (h : ∀ c ∈ l, c ∈ CH) : (asc l).length = l.length ↔ l.Nodup := by
  have h1 : ∀ c ∈ asc l, c ∈ l := fun c hc => of_decide_eq_true (List.mem_filter.mp hc).2
  have h2 : ∀ c ∈ l, c ∈ asc l := fun c hc => List.mem_filter.mpr ⟨h c hc, decide_eq_true hc⟩
  constructor
  · intro e
    by_cases hn : l.Nodup
    · exact hn
    · obtain ⟨x, hx, hx2⟩ := dup_of hn
      have := nodup_le (bs := l.erase x) (asc_nodup l) fun c hc => by
        by_cases hcx : c = x
        · rw [hcx]; exact hx2
        · exact (List.mem_erase_of_ne hcx).mpr (h1 c hc)
      rw [List.length_erase_of_mem hx] at this
      have := List.length_pos_of_mem hx
      omega
  · intro hn
    have := nodup_le hn h2
    have := nodup_le (asc_nodup l) h1
    omega
theorem once_le : ∀ (T acc : List Int), (T.foldl PyProof.Rows.step_dedup acc).length ≤ acc.length + T.length ∧ ((T.foldl PyProof.Rows.step_dedup acc).length = acc.length + T.length → T.Nodup ∧ ∀ t ∈ T, t ∉ acc)
  | [], acc => ⟨Nat.le_refl _, fun _ => ⟨List.nodup_nil, fun t h => nomatch h⟩⟩
  | t :: T, acc => by
    rw [List.foldl_cons, List.length_cons]
    cases ha : acc.any (· == t) with
    | true =>
      have e : PyProof.Rows.step_dedup acc t = acc := if_pos ha
      rw [e]
      obtain ⟨h1, _⟩ := once_le T acc
      exact ⟨by omega, fun z => by omega⟩
    | false =>
      have e : PyProof.Rows.step_dedup acc t = acc ++ [t] := if_neg (by rw [ha]; exact Bool.false_ne_true)
      rw [e]
      obtain ⟨h1, h2⟩ := once_le T (acc ++ [t])
      rw [List.length_append, List.length_singleton] at h1 h2
      refine ⟨by omega, fun z => ?_⟩
      obtain ⟨h3, h4⟩ := h2 (by omega)
      have hta : t ∉ acc := fun z => by
        have : acc.any (· == t) = true := List.any_eq_true.mpr ⟨t, z, by simp⟩
        rw [ha] at this
        cases this
      refine ⟨List.nodup_cons.mpr ⟨fun z => h4 t z (by simp), h3⟩, fun s hs => ?_⟩
      rcases List.mem_cons.mp hs with rfl | hs
      · exact hta
      · exact fun z => h4 s hs (List.mem_append_left _ z)
theorem once_of : ∀ (T acc : List Int), T.Nodup → (∀ t ∈ T, t ∉ acc) → (T.foldl PyProof.Rows.step_dedup acc).length = acc.length + T.length
  | [], acc, _, _ => rfl
  | t :: T, acc, hn, hd => by
    rw [List.nodup_cons] at hn
    have ha : acc.any (· == t) = false := by
      cases q : acc.any (· == t) with
      | false => rfl
      | true =>
        obtain ⟨s, hs, e⟩ := List.any_eq_true.mp q
        have e' : s = t := by simpa using e
        exact absurd (e' ▸ hs) (hd t List.mem_cons_self)
    have e : PyProof.Rows.step_dedup acc t = acc ++ [t] := if_neg (by rw [ha]; exact Bool.false_ne_true)
    rw [List.foldl_cons, e, once_of T (acc ++ [t]) hn.2 fun s hs z => ?_, List.length_append, List.length_singleton, List.length_cons]
    · omega
    · rcases List.mem_append.mp z with z | z
      · exact hd s (List.mem_cons_of_mem _ hs) z
      · rw [List.mem_singleton] at z
        subst z
        exact hn.1 hs
theorem once_iff (T : List Int) : (onceI T).length = T.length ↔ T.Nodup := by
  have h1 := once_le T []
  have h2 := once_of T []
  rw [List.length_nil, Nat.zero_add] at h1 h2
  exact ⟨fun e => (h1.2 e).1, fun h => h2 h fun t _ z => nomatch z⟩
theorem lawP_iff : ∀ (ps : List Way) (L : List Nat) (T : List Int), (∀ p ∈ ps, p.1.Nodup) → (lawP L T ps = true ↔ ((cat ps).Nodup ∧ ∀ c ∈ cat ps, c ∉ L) ∧ ((tg ps).Nodup ∧ ∀ t ∈ tg ps, t ∉ T))
  | [], L, T, _ => by
    unfold lawP cat tg
    simp
  | p :: ps, L, T, h => by
    have ih := lawP_iff ps (L ++ p.1) (T ++ [p.2]) fun q hq => h q (List.mem_cons_of_mem _ hq)
    have hc : cat (p :: ps) = p.1 ++ cat ps := by unfold cat; rw [List.map_cons, List.flatten_cons]
    have ht : tg (p :: ps) = p.2 :: tg ps := rfl
    unfold lawP
    rw [Bool.and_eq_true, ih, hc, ht, List.nodup_append, List.nodup_cons]
    have hf : (!(decide (p.2 ∈ T) || !decide ((p.1.filter fun c => decide (c ∈ L)) = []))) = true ↔ p.2 ∉ T ∧ ∀ c ∈ p.1, c ∉ L := by
      simp [List.filter_eq_nil_iff]
    rw [hf]
    have hp := h p List.mem_cons_self
    constructor
    · rintro ⟨⟨a1, a2⟩, ⟨b1, b2⟩, c1, c2⟩
      refine ⟨⟨⟨hp, b1, fun a ha b hb z => b2 b hb (List.mem_append_right _ (z ▸ ha))⟩, fun c hcm => ?_⟩, ⟨fun z => c2 _ z (by simp), c1⟩, fun t htm => ?_⟩
      · rcases List.mem_append.mp hcm with z | z
        · exact a2 c z
        · exact fun y => b2 c z (List.mem_append_left _ y)
      · rcases List.mem_cons.mp htm with rfl | z
        · exact a1
        · exact fun y => c2 t z (List.mem_append_left _ y)
    · rintro ⟨⟨⟨_, b1, b2⟩, a2⟩, ⟨c2, c1⟩, a1⟩
      refine ⟨⟨a1 _ List.mem_cons_self, fun c hcm => a2 c (List.mem_append_left _ hcm)⟩, ⟨b1, fun c hcm z => ?_⟩, c1, fun t htm z => ?_⟩
      · rcases List.mem_append.mp z with z | z
        · exact a2 c (List.mem_append_right _ hcm) z
        · exact b2 c z c hcm rfl
      · rcases List.mem_append.mp z with z | z
        · exact a1 t (List.mem_cons_of_mem _ htm) z
        · rw [List.mem_singleton] at z
          subst z
          exact c2 htm
/-! ### the order -/
theorem lt_irr (a : List Nat) : ¬ a < a := List.lt_irrefl a
theorem lt_tr {a b c : List Nat} (h : a < b) (k : b < c) : a < c := List.lt_trans h k
theorem lt_tri {a b : List Nat} (h : ¬ a < b) (k : ¬ b < a) : a = b := List.le_antisymm (List.not_lt.mp k) (List.not_lt.mp h)
theorem leW_is (p q : Way) : leW p q = true ↔ p.1 < q.1 ∨ (p.1 = q.1 ∧ p.2 ≤ q.2) := by
  unfold leW
  rw [ltW_is]
  by_cases h : q.1 = p.1
  · rw [if_pos h, h]
    constructor
    · intro z
      refine .inr ⟨rfl, ?_⟩
      rw [Bool.not_eq_true', decide_eq_false_iff_not] at z
      omega
    · rintro (z | ⟨_, z⟩)
      · exact absurd z (lt_irr _)
      · rw [Bool.not_eq_true', decide_eq_false_iff_not]
        omega
  · rw [if_neg h, Bool.not_eq_true', decide_eq_false_iff_not]
    constructor
    · intro z
      refine .inl ?_
      by_cases k : p.1 < q.1
      · exact k
      · exact absurd (lt_tri z k) h
    · rintro (z | ⟨z, _⟩)
      · exact fun y => lt_irr _ (lt_tr z y)
      · exact absurd z.symm h
theorem leW_tr (p q r : Way) (h : leW p q = true) (k : leW q r = true) : leW p r = true := by
  rw [leW_is] at h k ⊢
  rcases h with h | ⟨h, h'⟩
  · rcases k with k | ⟨k, _⟩
    · exact .inl (lt_tr h k)
    · exact .inl (k ▸ h)
  · rcases k with k | ⟨k, k'⟩
    · exact .inl (h ▸ k)
    · exact .inr ⟨h.trans k, Int.le_trans h' k'⟩
theorem leW_tot (p q : Way) : (leW p q || leW q p) = true := by
  rw [Bool.or_eq_true, leW_is, leW_is]
  by_cases h : p.1 < q.1
  · exact .inl (.inl h)
  · by_cases k : q.1 < p.1
    · exact .inr (.inl k)
    · have e := lt_tri h k
      rcases Int.le_total p.2 q.2 with z | z
      · exact .inl (.inr ⟨e, z⟩)
      · exact .inr (.inr ⟨e.symm, z⟩)
theorem adj_pair : ∀ {ps : List Way}, adj ps = true → ps.Pairwise (fun p q => p.1 ≠ q.1) → ps.Pairwise (fun p q => p.1 < q.1)
  | [], _, _ => .nil
  | [p], _, _ => .cons (fun q h => nomatch h) .nil
  | p :: q :: ps, h, hd => by
    have h' : (ltW p q && adj (q :: ps)) = true := h
    rw [Bool.and_eq_true] at h'
    cases hd with
    | cons d1 d2 =>
      have ih := adj_pair h'.2 d2
      have hpq : p.1 < q.1 := by
        have z := h'.1
        rw [ltW_is, if_neg (d1 q List.mem_cons_self)] at z
        exact of_decide_eq_true z
      refine .cons (fun r hr => ?_) ih
      rcases List.mem_cons.mp hr with rfl | hr
      · exact hpq
      · cases ih with
        | cons i1 _ => exact lt_tr hpq (i1 r hr)
theorem pair_adj : ∀ {ps : List Way}, ps.Pairwise (fun p q => p.1 < q.1) → adj ps = true
  | [], _ => rfl
  | [p], _ => rfl
  | p :: q :: ps, h => by
    cases h with
    | cons h1 h2 =>
      have hpq := h1 q List.mem_cons_self
      show (ltW p q && adj (q :: ps)) = true
      rw [pair_adj h2, ltW_is, if_neg (fun z : p.1 = q.1 => lt_irr q.1 (by rw [z] at hpq; exact hpq)), decide_eq_true hpq]
      rfl
theorem firsts : ∀ {ps : List Way}, (cat ps).Nodup → (∀ p ∈ ps, p.1 ≠ []) → ps.Pairwise (fun p q => p.1 ≠ q.1)
  | [], _, _ => .nil
  | p :: ps, h, hne => by
    have hc : cat (p :: ps) = p.1 ++ cat ps := by unfold cat; rw [List.map_cons, List.flatten_cons]
    rw [hc, List.nodup_append] at h
    refine .cons (fun q hq z => ?_) (firsts h.2.1 fun q hq => hne q (List.mem_cons_of_mem _ hq))
    obtain ⟨c, hcm⟩ := List.exists_mem_of_ne_nil p.1 (hne p List.mem_cons_self)
    refine h.2.2 c hcm c ?_ rfl
    unfold cat
    exact List.mem_flatten.mpr ⟨q.1, List.mem_map.mpr ⟨q, hq, rfl⟩, z ▸ hcm⟩
theorem sorted_iff {ps : List Way} (hd : ps.Pairwise (fun p q => p.1 ≠ q.1)) : adj ps = true ↔ ps = ps.mergeSort leW := by
  constructor
  · intro h
    have h1 := adj_pair h hd
    exact (List.mergeSort_of_pairwise (h1.imp fun {p q} z => (leW_is p q).mpr (.inl z))).symm
  · intro h
    have h1 := List.pairwise_mergeSort leW_tr leW_tot ps
    rw [← h] at h1
    refine pair_adj ((h1.and hd).imp fun {p q} z => ?_)
    rcases (leW_is p q).mp z.1 with y | ⟨y, _⟩
    · exact y
    · exact absurd y z.2
theorem ok_same {many : Int} {ps : List Way} (hp : ∀ p ∈ ps, WayOk many p) : okL ps = okW ps := by
  have hnd : ∀ p ∈ ps, p.1.Nodup := fun p hm => by
    have := (wayOk_len (hp p hm)).1
    rw [← this]
    exact asc_nodup _
  have hch : ∀ c ∈ cat ps, c ∈ CH := fun c hc => by
    unfold cat at hc
    obtain ⟨l, hl, hcl⟩ := List.mem_flatten.mp hc
    obtain ⟨p, hm, rfl⟩ := List.mem_map.mp hl
    exact asc_all (wayOk_len (hp p hm)).1 c hcl
  have hne : ∀ p ∈ ps, p.1 ≠ [] := fun p hm => (wayOk_len (hp p hm)).2.1
  have h1 := lawP_iff ps [] [] hnd
  rw [Bool.eq_iff_iff]
  unfold okL okW
  rw [Bool.and_eq_true, Bool.and_eq_true, Bool.and_eq_true, h1, decide_eq_true_eq, decide_eq_true_eq, decide_eq_true_eq, asc_iff hch, once_iff]
  constructor
  · rintro ⟨⟨⟨a, _⟩, b, _⟩, c⟩
    exact ⟨⟨a, b⟩, (sorted_iff (firsts a hne)).mpr c⟩
  · rintro ⟨⟨a, b⟩, c⟩
    exact ⟨⟨⟨a, fun c _ z => nomatch z⟩, b, fun t _ z => nomatch z⟩, (sorted_iff (firsts a hne)).mp c⟩
theorem lstate_ok {many : Int} {d : Dt} (ht : tame d = true) : l_is_state [.sh d, .sh (.int many)] = some (.ok (.val (.bool (stateB many d))) [.sh d, .sh (.int many)]) := by
  unfold stateB
  cases hs : shapeP many d with
  | false => exact lstate_no ht hs
  | true =>
    obtain ⟨x, ps, rfl, hx, hp⟩ := shape_of hs
    rw [parse_is, Bool.true_and, ← ok_same hp]
    exact lstate_yes ht hx hp
theorem q_lmach {ss : List Dt} (hl : ss.length ≤ 1000) (hs : ∀ s ∈ ss, tame s = true) : q_l_is_machine_0 [.sh (.tuple ss), .un] = some (.ok ((ss.filter fun s => !stateB ss.length s).map fun _ => .int 1) [.sh (.tuple ss), .un]) := by
  unfold q_l_is_machine_0
  rw [mLc_map (ρ0 := [.sh (.tuple ss), .un]) ss id (fun s => !stateB ss.length s) (fun _ => .int 1) (by simp) rfl (fun s hm => ⟨[.sh (.tuple ss), .sh s], by simp, by simp [lstate_ok (hs s hm)], fun _ => by simp, rfl⟩) (le_line (by omega))]
  rfl
theorem lmachine_ok {d : Dt} (ht : tame d = true) : l_is_machine [.sh d] = some (.ok (.val (.bool (machB d))) [.sh d]) := by
  unfold l_is_machine b_l_is_machine
  cases hT : isTup d with
  | false =>
    have hm : machB d = false := by cases d <;> first | rfl | cases hT
    simp [isi_tup (tame_dc ht), hT, hm]
  | true =>
    cases d with
    | tuple ss =>
      obtain ⟨hl, hs⟩ := tame_tup ht
      have e2 := q_lmach hl hs
      have e3 := gEq_ones (ss.filter fun s => !stateB ss.length s)
      have hfil : decide ((ss.filter fun x => !stateB ss.length x) = []) = ss.all (stateB ss.length) := by
        cases q : ss.all (stateB ss.length) with
        | true =>
          refine decide_eq_true (List.filter_eq_nil_iff.mpr fun x hx => ?_)
          rw [List.all_eq_true.mp q x hx]
          simp
        | false =>
          refine decide_eq_false fun z => ?_
          rw [List.filter_eq_nil_iff] at z
          have : ss.all (stateB ss.length) = true := List.all_eq_true.mpr fun x hx => by simpa using z x hx
          rw [q] at this
          cases this
      rw [hfil] at e3
      generalize ((ss.filter fun s => !stateB ss.length s).map fun _ => PyData.int 1) = L at e2 e3
      have hm : machB (.tuple ss) = (decide (1 ≤ ss.length) && decide (ss.length ≤ 400) && ss.all (stateB ss.length)) := rfl
      rw [hm]
      by_cases h1 : 1 ≤ ss.length
      · have h1' : (1 : Int) ≤ ss.length := by omega
        by_cases h2 : ss.length ≤ 400
        · have h2' : (ss.length : Int) ≤ 400 := by omega
          simp [isi_tup (tame_dc ht), hT, h1, h1', h2, h2', e2, e3]
        · have h2' : ¬ (ss.length : Int) ≤ 400 := by omega
          simp [isi_tup (tame_dc ht), hT, h1, h1', h2, h2', e2, e3]
      · have h1' : ¬ (1 : Int) ≤ ss.length := by omega
        simp [isi_tup (tame_dc ht), hT, h1, h1', e2, e3]
    | _ => cases hT
end K27
/-! K27Z: the machines that are drawn: the mathematics. -/
namespace K27
open PySem L2 PD
theorem sub_filter : ∀ {l m : List Nat}, l.Sublist m → m.Nodup → (m.filter fun c => decide (c ∈ l)) = l
  | _, _, .slnil, _ => rfl
  | l, a :: m, .cons _ h, hn => by
    rw [List.nodup_cons] at hn
    have hal : a ∉ l := fun z => hn.1 (h.subset z)
    rw [List.filter_cons, decide_eq_false hal]
    exact sub_filter h hn.2
  | a :: l, _ :: m, .cons₂ _ h, hn => by
    rw [List.nodup_cons] at hn
    rw [List.filter_cons, decide_eq_true List.mem_cons_self]
    show a :: m.filter (fun c => decide (c ∈ a :: l)) = a :: l
    congr 1
    rw [← sub_filter h hn.2]
    refine List.filter_congr fun c hc => ?_
    have hca : c ≠ a := fun z => hn.1 (z ▸ hc)
    rw [sub_filter h hn.2]
    simp [hca]
theorem sub_asc {l : List Nat} (h : l.Sublist CH) : asc l = l := sub_filter h CH_nd
section
variable (A : List Nat) (ts : List Int)
/-- the letters that lead to t -/
def Lt (t : Int) : List Nat := ((List.range A.length).filter fun i => decide (ts.getD i 0 = t)).map fun i => A.getD i 0
theorem range_get : (List.range A.length).map (fun i => A.getD i 0) = A := by
  apply List.ext_getElem
  · rw [List.length_map, List.length_range]
  · intro i h1 h2
    rw [List.getElem_map, List.getElem_range, List.getD_eq_getElem?_getD, List.getElem?_eq_getElem h2]
    rfl
theorem Lt_sub (t : Int) : (Lt A ts t).Sublist A := by
  have h : (Lt A ts t).Sublist ((List.range A.length).map fun i => A.getD i 0) := List.Sublist.map _ List.filter_sublist
  rw [range_get] at h
  exact h
theorem Lt_mem {t : Int} {c : Nat} (h : c ∈ Lt A ts t) : ∃ i, i < A.length ∧ ts.getD i 0 = t ∧ A.getD i 0 = c := by
  obtain ⟨i, hi, e⟩ := List.mem_map.mp h
  obtain ⟨h1, h2⟩ := List.mem_filter.mp hi
  exact ⟨i, List.mem_range.mp h1, of_decide_eq_true h2, e⟩
theorem Lt_apart (hn : A.Nodup) {t u : Int} {c : Nat} (h : c ∈ Lt A ts t) (k : c ∈ Lt A ts u) : t = u := by
  obtain ⟨i, i1, i2, i3⟩ := Lt_mem A ts h
  obtain ⟨j, j1, j2, j3⟩ := Lt_mem A ts k
  have e : i = j := by
    rw [List.getD_eq_getElem?_getD, List.getElem?_eq_getElem i1] at i3
    rw [List.getD_eq_getElem?_getD, List.getElem?_eq_getElem j1] at j3
    have e2 : A[i] = A[j] := i3.trans j3.symm
    by_cases h1 : i < j
    · exact absurd e2 (List.pairwise_iff_getElem.mp hn i j i1 j1 h1)
    · by_cases h2 : j < i
      · exact absurd e2.symm (List.pairwise_iff_getElem.mp hn j i j1 i1 h2)
      · omega
  rw [← i2, ← j2, e]
def wys (k : Nat) : List Way := ((List.range k).filter fun t => !decide (Lt A ts (t : Nat) = [])).map fun t => (Lt A ts (t : Nat), ((t : Nat) : Int))
theorem wys_succ (k : Nat) : wys A ts (k + 1) = wys A ts k ++ (if Lt A ts (k : Nat) = [] then [] else [(Lt A ts (k : Nat), ((k : Nat) : Int))]) := by
  unfold wys
  rw [List.range_succ, List.filter_append, List.map_append]
  congr 1
  rw [List.filter_cons]
  by_cases h : Lt A ts (k : Nat) = []
  · rw [if_pos h, decide_eq_true h]
    rfl
  · rw [if_neg h, decide_eq_false h]
    rfl
theorem wys_mem {k : Nat} {p : Way} (h : p ∈ wys A ts k) : ∃ t : Nat, t < k ∧ Lt A ts (t : Nat) ≠ [] ∧ p = (Lt A ts (t : Nat), ((t : Nat) : Int)) := by
  unfold wys at h
  obtain ⟨t, ht, rfl⟩ := List.mem_map.mp h
  obtain ⟨h1, h2⟩ := List.mem_filter.mp ht
  exact ⟨t, List.mem_range.mp h1, by simpa using h2, rfl⟩
theorem wys_len (k : Nat) : (wys A ts k).length ≤ k := by
  unfold wys
  rw [List.length_map]
  have := List.length_filter_le (fun t : Nat => !decide (Lt A ts (t : Nat) = [])) (List.range k)
  rw [List.length_range] at this
  exact this
variable (hA : Alpha A)
include hA
theorem wys_ok {k : Nat} {p : Way} (h : p ∈ wys A ts k) : WayOk k p := by
  obtain ⟨t, h1, h2, rfl⟩ := wys_mem A ts h
  have hs : (Lt A ts (t : Nat)).Sublist CH := (Lt_sub A ts _).trans (by rw [← hA.asc]; exact List.filter_sublist)
  refine ⟨?_, by show (0 : Int) ≤ (t : Int); omega, by show ((t : Nat) : Int) < k; omega⟩
  show letP (Lt A ts (t : Nat)) = true
  unfold letP
  rw [sub_asc hs, decide_eq_false h2]
  simp
theorem wys_cat : ∀ k : Nat, (cat (wys A ts k)).Nodup
  | 0 => List.nodup_nil
  | k + 1 => by
    have ih := wys_cat k
    have e : cat (wys A ts (k + 1)) = cat (wys A ts k) ++ Lt A ts (k : Nat) := by
      rw [wys_succ]
      unfold cat
      rw [List.map_append, List.flatten_append]
      congr 1
      by_cases h : Lt A ts (k : Nat) = []
      · rw [if_pos h, h]; rfl
      · rw [if_neg h]; simp
    rw [e, List.nodup_append]
    refine ⟨ih, (Lt_sub A ts _).nodup hA.nd, fun a ha b hb z => ?_⟩
    subst z
    unfold cat at ha
    obtain ⟨l, hl, hal⟩ := List.mem_flatten.mp ha
    obtain ⟨p, hp, rfl⟩ := List.mem_map.mp hl
    obtain ⟨t, h1, _, rfl⟩ := wys_mem A ts hp
    have := Lt_apart A ts hA.nd hal hb
    omega
omit hA in
theorem wys_tg (k : Nat) : (tg (wys A ts k)).Nodup := by
  unfold tg wys
  rw [List.map_map]
  show (((List.range k).filter fun t => !decide (Lt A ts (t : Nat) = [])).map fun t : Nat => (t : Int)).Nodup
  exact List.Pairwise.map _ (fun a b h z => h (by omega)) (List.nodup_range.filter _)
theorem wys_sorted (k : Nat) : okW ((wys A ts k).mergeSort leW) = true := by
  have hperm : ((wys A ts k).mergeSort leW).Perm (wys A ts k) := List.mergeSort_perm _ _
  have hok : ∀ p ∈ (wys A ts k).mergeSort leW, WayOk k p := fun p hp => wys_ok A ts hA (hperm.mem_iff.mp hp)
  rw [← ok_same hok]
  unfold okL
  rw [Bool.and_eq_true, decide_eq_true_eq, lawP_iff _ _ _ (fun p hp => by rw [← (wayOk_len (hok p hp)).1]; exact asc_nodup _)]
  refine ⟨⟨⟨?_, fun c _ z => nomatch z⟩, ?_, fun t _ z => nomatch z⟩, (List.mergeSort_of_pairwise (List.pairwise_mergeSort leW_tr leW_tot _)).symm⟩
  · unfold cat
    exact ((hperm.map (fun p : Way => p.1)).flatten).nodup_iff.mpr (wys_cat A ts hA k)
  · unfold tg
    exact (hperm.map (fun p : Way => p.2)).nodup_iff.mpr (wys_tg A ts k)
end
end K27
/-! K27AA: the machines that are drawn. -/
namespace K27
open PySem L2 PD
theorem ints_of {P : Int → Prop} : ∀ {ys : List Dt}, (∀ y ∈ ys, ∃ i : Int, y = .int i) → ∃ ns : List Int, ys = ns.map .int
  | [], _ => ⟨[], rfl⟩
  | y :: ys, h => by
    obtain ⟨i, rfl⟩ := h y List.mem_cons_self
    obtain ⟨ns, rfl⟩ := ints_of (P := P) fun z hz => h z (List.mem_cons_of_mem _ hz)
    exact ⟨i :: ns, rfl⟩
section
variable {A : List Nat} (hA : Alpha A)
/-- the slots of the draw: cup, signs, many, rows, then what a turn holds -/
def stM (c : Sl) (A : List Nat) (many : Int) (rows : List Dt) (r : Ev) : Ev := c :: .sh (.str (tx A)) :: .sh (.int many) :: .ow rows :: r
include hA
theorem q_targets {c : Sl} (hc : Cup c) {many : Int} (m0 : 0 < many) (m1 : many < 1000) {rows : List Dt} {s4 : Sl} : ∃ (ts : List Int) (c' : Sl), Cup c' ∧ ts.length = A.length ∧
    q_l_machine_0 (stM c A many rows [s4, .un, .un, .un, .un, .un, .un]) = some (.ok (ts.map .int) (stM c' A many rows [s4, .un, .un, .un, .un, .un, .un])) := by
  have hlen := hA.len
  unfold q_l_machine_0
  obtain ⟨ys, ρ1, h1, h2, h3, h4⟩ := mLc_inv (vs := [9]) (src := mItems (mVar 1)) (t := gN 9) (te := mCall l_roll (mCons (mVar 0) (mCons (mOp2 gAdd (mOp2 gAdd (mVar 2) (mC (.int 1))) (mCall l_roll (mCons (mVar 0) (mCons (mC (.int 2)) mNil)))) mNil))) (I := fun ρ => ∃ c, Cup c ∧ ρ = stM c A many rows [s4, .un, .un, .un, .un, .un, .un]) (Y := fun y => ∃ i : Int, y = .int i)
    (ρ := stM c A many rows [s4, .un, .un, .un, .un, .un, .un]) (ρ0 := stM c A many rows [s4, .un, .un, .un, .un, .un, .un]) (ds := A.map sgD) (by unfold stM; simp) rfl ⟨_, hc, rfl⟩
    (fun d hd ρ hI => by
      obtain ⟨c2, hc2, rfl⟩ := hI
      obtain ⟨r, c3, r0, r1, hc3, e3⟩ := roll_made hc2 (m := 2) (by decide) (by decide)
      obtain ⟨q, c4, q0, q1, hc4, e4⟩ := roll_made hc3 (m := many + 1 + r) (by omega) (by omega)
      obtain ⟨a2, b2, rfl⟩ := hc2.ex
      obtain ⟨a3, b3, rfl⟩ := hc3.ex
      obtain ⟨a4, b4, rfl⟩ := hc4.ex
      exact ⟨stM (.ow [.int a2, .int b2]) A many rows [s4, .un, .un, .un, .un, .sh d, .un], .int q, stM (.ow [.int a4, .int b4]) A many rows [s4, .un, .un, .un, .un, .sh d, .un], by unfold stM; simp, by unfold stM; simp [e3, e4], ⟨q, rfl⟩, ⟨_, hc4, rfl⟩⟩)
    (by rw [List.length_map]; exact le_line (by omega))
  obtain ⟨c5, hc5, rfl⟩ := h4
  obtain ⟨ts, rfl⟩ := ints_of (P := fun _ => True) h3
  rw [List.length_map, List.length_map] at h2
  exact ⟨ts, c5, hc5, h2, h1⟩
omit hA in
theorem enum_map : ∀ (A : List Nat) (k : Nat), enumL k (A.map sgD) = (List.range A.length).map fun i => .tuple [.int ((k + i : Nat) : Int), sgD (A.getD i 0)]
  | [], _ => rfl
  | a :: A, k => by
    rw [List.map_cons, List.length_cons, List.range_succ_eq_map, List.map_cons, List.map_map]
    show .tuple [.int (k : Nat), sgD a] :: enumL (k + 1) (A.map sgD) = _
    rw [enum_map A (k + 1)]
    congr 1
    refine List.map_congr_left fun i _ => ?_
    show PyData.tuple [.int ((k + 1 + i : Nat) : Int), sgD (A.getD i 0)] = .tuple [.int ((k + (i + 1) : Nat) : Int), sgD ((a :: A).getD (i + 1) 0)]
    rw [show k + 1 + i = k + (i + 1) by omega]
    simp
theorem q_letters {c : Sl} {many : Int} {rows : List Dt} {s4 s6 : Sl} {ts : List Int} (hts : ts.length = A.length) (t : Int) :
    q_l_machine_1 (stM c A many rows [s4, .sh (.list (ts.map .int)), s6, .sh (.int t), .un, .un, .un]) = some (.ok ((Lt A ts t).map sgD) (stM c A many rows [s4, .sh (.list (ts.map .int)), s6, .sh (.int t), .un, .un, .un])) := by
  have hlen := hA.len
  have hen : enumD [.str (tx A)] = some ((List.range A.length).map fun i => .tuple [.int ((i : Nat) : Int), sgD (A.getD i 0)]) := by
    show (items (.str (tx A))).map (enumL 0) = _
    rw [items_tx, Option.map_some, enum_map]
    congr 1
    refine List.map_congr_left fun i _ => ?_
    rw [Nat.zero_add]
  unfold q_l_machine_1
  rw [mLc_map (ρ0 := stM c A many rows [s4, .sh (.list (ts.map .int)), s6, .sh (.int t), .un, .un, .un]) (List.range A.length) (fun i => .tuple [.int ((i : Nat) : Int), sgD (A.getD i 0)]) (fun i => decide (ts.getD i 0 = t)) (fun i => sgD (A.getD i 0)) (by unfold stM; simp [hen]) rfl (fun i hi => by
    have hi' : i < ts.length := by rw [hts]; exact List.mem_range.mp hi
    have hat : atI (ts.map PyData.int) (i : Nat) = some (.int (ts.getD i 0)) := by
      unfold atI ixN
      rw [if_pos (by omega), if_pos (by rw [List.length_map]; omega)]
      show (ts.map PyData.int)[((i : Nat) : Int).toNat]? = _
      rw [Int.toNat_natCast, List.getElem?_map, List.getElem?_eq_getElem hi', List.getD_eq_getElem?_getD, List.getElem?_eq_getElem hi']
      rfl
    exact ⟨stM c A many rows [s4, .sh (.list (ts.map .int)), s6, .sh (.int t), .un, .sh (sgD (A.getD i 0)), .sh (.int (i : Nat))], by unfold stM; simp, by unfold stM; simp only [ev_tst, ev_op2, ev_mVar, List.getElem?_cons_succ, List.getElem?_cons_zero, vx_sh, bx_ok, ev_resv, gIx_l, hat, ev_opt, ev_mC, gEq_i, tb_b], fun _ => by unfold stM; simp, rfl⟩) (le_line (by rw [List.length_range]; omega))]
  unfold Lt
  rw [List.map_map]
  rfl
def bodyM : F := (sSeq (sSet 8 (mBM isStr gJoin (mC (.str "")) (mCons (mFrz q_l_machine_1) mNil)))
      (sSet 6 (mOp2 gAdd (mVar 6) (mIf (mTst (mOp2 gNe (mVar 8) (mC (.str "")))) (mFrz (mLst (mCons (mTup (mCons (mVar 8) (mCons (mVar 7) mNil))) mNil))) (mFrz (mLst mNil))))))
theorem step_none {c : Sl} {many : Int} {rows : List Dt} {s4 : Sl} {ts : List Int} (hts : ts.length = A.length) {t : Int} {WS : List Dt} (hl : WS.length ≤ 5000) (h0 : Lt A ts t = []) :
    bodyM (stM c A many rows [s4, .sh (.list (ts.map .int)), .sh (.list WS), .sh (.int t), .un, .un, .un]) = some (.nx (stM c A many rows [s4, .sh (.list (ts.map .int)), .sh (.list WS), .sh (.int t), .sh (.str ""), .un, .un])) := by
  have hq := q_letters hA (c := c) (many := many) (rows := rows) (s4 := s4) (s6 := .sh (.list WS)) hts t
  have hj := gJoin_signs [] (by decide)
  have he : tx [] = ("" : Str) := empty_tx.symm
  have g := gAdd_l WS [] (le_line (by rw [List.length_nil]; omega))
  rw [List.append_nil] at g
  rw [h0] at hq
  rw [he] at hj
  unfold bodyM
  unfold stM at hq ⊢
  generalize ts.map PyData.int = TS at *
  simp at hj hq
  simp [hq, hj, g]
theorem step_some {c : Sl} {many : Int} {rows : List Dt} {s4 : Sl} {ts : List Int} (hts : ts.length = A.length) {t : Int} {WS : List Dt} (hl : WS.length ≤ 5000) (h0 : Lt A ts t ≠ []) :
    bodyM (stM c A many rows [s4, .sh (.list (ts.map .int)), .sh (.list WS), .sh (.int t), .un, .un, .un]) = some (.nx (stM c A many rows [s4, .sh (.list (ts.map .int)), .sh (.list (WS ++ [wD (Lt A ts t, t)])), .sh (.int t), .sh (.str (tx (Lt A ts t))), .un, .un])) := by
  have hq := q_letters hA (c := c) (many := many) (rows := rows) (s4 := s4) (s6 := .sh (.list WS)) hts t
  have hlen := hA.len
  have hLl : (Lt A ts t).length ≤ 95 := Nat.le_trans (Lt_sub A ts _).length_le hlen
  have hj := gJoin_signs (Lt A ts t) (Nat.le_trans hLl (by decide))
  have hne : ¬ tx (Lt A ts t) = ("" : Str) := fun z => h0 (tx_inj (z.trans empty_tx))
  have g := gAdd_l WS [wD (Lt A ts t, t)] (le_line (by rw [List.length_singleton]; omega))
  unfold wD at g ⊢
  unfold bodyM
  unfold stM at hq ⊢
  generalize ts.map PyData.int = TS at *
  generalize (Lt A ts t).map sgD = LS at *
  generalize tx (Lt A ts t) = LT at *
  generalize hN : WS ++ [PyData.tuple [.str LT, .int t]] = WN at *
  simp [hq, hj, hne, g, fits_small]
theorem w_waysM {c : Sl} {many : Nat} (m1 : many < 1000) {rows : List Dt} {s4 : Sl} {ts : List Int} (hts : ts.length = A.length) :
    w_l_machine_0 (stM c A many rows [s4, .sh (.list (ts.map .int)), .sh (.list []), .un, .un, .un, .un]) = some (.nx (stM c A many rows [s4, .sh (.list (ts.map .int)), .sh (.list ((wys A ts many).map wD)), .un, .un, .un, .un])) := by
  have hstep : ∀ (i : Nat) (d : Dt) (ρ : Ev), (rngL 0 many)[i]? = some d → ρ = stM c A many rows [s4, .sh (.list (ts.map .int)), .sh (.list ((wys A ts i).map wD)), .un, .un, .un, .un] → ∃ ρ1 ρ2, gN 7 d ρ = some ρ1 ∧ bodyM ρ1 = some (.nx ρ2) ∧ kills [7, 8, 9, 10] ρ2 = stM c A many rows [s4, .sh (.list (ts.map .int)), .sh (.list ((wys A ts (i + 1)).map wD)), .un, .un, .un, .un] := fun i d ρ hd hρ => by
    subst hρ
    have hi : i < many := by
      have := (List.getElem?_eq_some_iff.mp hd).1
      rw [rngL_len] at this
      exact this
    obtain ⟨j, _, rfl⟩ := rngL_mem (List.mem_of_getElem? hd)
    have hij : j = i := by
      unfold rngL at hd
      rw [List.getElem?_map, List.getElem?_range hi] at hd
      have h2 : PyData.int (0 + (i : Nat)) = PyData.int (j : Nat) := Option.some.inj hd
      injection h2 with h3
      omega
    subst hij
    have hwl : ((wys A ts j).map wD).length ≤ 5000 := by rw [List.length_map]; have := wys_len A ts j; omega
    have hs := wys_succ A ts j
    have e1 : gN 7 (.int (j : Nat)) (stM c A many rows [s4, .sh (.list (ts.map .int)), .sh (.list ((wys A ts j).map wD)), .un, .un, .un, .un]) = some (stM c A many rows [s4, .sh (.list (ts.map .int)), .sh (.list ((wys A ts j).map wD)), .sh (.int (j : Nat)), .un, .un, .un]) := by
      unfold stM
      simp
    by_cases h0 : Lt A ts (j : Nat) = []
    · rw [if_pos h0, List.append_nil] at hs
      exact ⟨_, _, e1, step_none hA hts hwl h0, by rw [hs]; rfl⟩
    · rw [if_neg h0] at hs
      refine ⟨_, _, e1, step_some hA hts hwl h0, ?_⟩
      rw [hs, List.map_append]
      rfl
  obtain ⟨ρ', e, hI⟩ := sFor_inv (rngL 0 many) (fun i ρ => ρ = stM c A many rows [s4, .sh (.list (ts.map .int)), .sh (.list ((wys A ts i).map wD)), .un, .un, .un, .un]) (stM c A many rows [s4, .sh (.list (ts.map .int)), .sh (.list []), .un, .un, .un, .un]) hstep rfl
  rw [rngL_len] at hI
  subst hI
  have hr := rng1_i (j := (many : Nat)) (by omega) (by omega)
  rw [Int.toNat_natCast] at hr
  have hsrc : mArg rng1 (mCons (mVar 2) mNil) (stM c A many rows [s4, .sh (.list (ts.map .int)), .sh (.list []), .un, .un, .un, .un]) = some (.ok (rngL 0 many) (stM c A many rows [s4, .sh (.list (ts.map .int)), .sh (.list []), .un, .un, .un, .un])) := by
    have h1 : ∀ g : List Dt → Option (List Dt), mArg g (mCons (mVar 2) mNil) (stM c A many rows [s4, .sh (.list (ts.map .int)), .sh (.list []), .un, .un, .un, .un]) = opt (g [.int (many : Nat)]) (stM c A many rows [s4, .sh (.list (ts.map .int)), .sh (.list []), .un, .un, .un, .un]) := fun g => by
      unfold stM
      simp
    rw [h1, hr, ev_opt]
  unfold w_l_machine_0
  rw [ev_for, hsrc, fromE_ok]
  exact e
end
end K27
/-! K27AB: the machines that are drawn, whole. -/
namespace K27
open PySem L2 PD
structure Row (A : List Nat) (many : Nat) (r : Dt) : Prop where
  ex : ∃ (f : Int) (qs : List Way), r = .tuple [.int f, .tuple (qs.map wD)] ∧ -1 ≤ f ∧ f ≤ 39 ∧ okW qs = true ∧ (∀ q ∈ qs, WayOk (many : Nat) q) ∧ qs.length ≤ 1000 ∧ ∀ q ∈ qs, ∀ c ∈ q.1, c ∈ A
theorem lt_in {A : List Nat} {ts : List Int} {t : Int} {c : Nat} (h : c ∈ Lt A ts t) : c ∈ A := by
  unfold Lt at h
  obtain ⟨i, hi, rfl⟩ := List.mem_map.mp h
  have hi2 := List.mem_range.mp (List.mem_filter.mp hi).1
  rw [List.getD_eq_getElem?_getD, List.getElem?_eq_getElem hi2]
  exact List.getElem_mem hi2
theorem wys_in {A : List Nat} {ts : List Int} {k : Nat} {q : Way} (h : q ∈ wys A ts k) : ∀ c ∈ q.1, c ∈ A := by
  unfold wys at h
  obtain ⟨t, _, rfl⟩ := List.mem_map.mp h
  exact fun c hc => lt_in hc
theorem row_state {A : List Nat} {many : Nat} {r : Dt} (h : Row A many r) : stateB (many : Nat) r = true := by
  obtain ⟨f, qs, rfl, f0, f1, h1, h2, _, _⟩ := h.ex
  unfold stateB
  rw [parse_is, h1, Bool.and_true]
  have hall : (qs.map wD).all (wayP (many : Nat)) = true := List.all_eq_true.mpr fun w hw => by
    obtain ⟨p, hm, rfl⟩ := List.mem_map.mp hw
    exact way_yes (h2 p hm)
  show ((decide (-1 ≤ f) && decide (f ≤ 39)) && (qs.map wD).all (wayP (many : Nat))) = true
  rw [hall, decide_eq_true f0, decide_eq_true f1]
  rfl
theorem wD_tame {many : Int} {p : Way} (h : WayOk many p) : tame (wD p) = true := by
  have h1 := wayOk_len h
  refine tame_tupI (by simp) fun x hx => ?_
  simp at hx
  rcases hx with rfl | rfl
  · exact tame_tx (asc_all h1.1) (by omega)
  · unfold tame; rfl
theorem row_tame {A : List Nat} {many : Nat} {r : Dt} (h : Row A many r) : tame r = true ∧ r.depth ≤ 3 := by
  obtain ⟨f, qs, rfl, f0, f1, h1, h2, h3, _⟩ := h.ex
  have hq : tame (.tuple (qs.map wD)) = true := tame_tupI (by rw [List.length_map]; exact h3) fun x hx => by
    obtain ⟨p, hm, rfl⟩ := List.mem_map.mp hx
    exact wD_tame (h2 p hm)
  have hd : (PyData.tuple (qs.map wD)).depth ≤ 2 := depth_tup fun x hx => by
    obtain ⟨p, hm, rfl⟩ := List.mem_map.mp hx
    rw [wD_depth]
    exact Nat.le_refl _
  refine ⟨tame_tupI (by simp) fun x hx => ?_, depth_tup fun x hx => ?_⟩
  · simp at hx
    rcases hx with rfl | rfl
    · unfold tame; rfl
    · exact hq
  · simp at hx
    rcases hx with rfl | rfl
    · unfold PyData.depth; exact Nat.zero_le _
    · exact hd
theorem sort_list {ps : List Way} (hl : ps.length ≤ 1000) : fSort [.list (ps.map wD)] = some ((ps.mergeSort leW).map wD) := sort_ways hl
def bodyS : F := (sSeq (sSet 5 (mFrz q_l_machine_0))
  (sSeq (sSet 6 (mFrz (mLst mNil)))
  (sSeq w_l_machine_0
  (sDrop (mOwn 3 fAppend (mCons (mTup (mCons (mCall l_some (mCons (mVar 0) (mCons (mFrz (mLst (mCons (mC (.int (-1))) (mCons (mC (.int (-1))) (mCons (mC (.int 0)) (mCons (mC (.int 1)) mNil)))))) mNil))) (mCons (mOpN gTup (mCons (mFrz (mOpF fSort (mCons (mVar 6) mNil))) mNil)) mNil))) mNil))))))
section
variable {A : List Nat} (hA : Alpha A)
include hA
theorem step_row {c : Sl} (hc : Cup c) {many : Nat} (m0 : 0 < many) (m1 : many < 1000) {rows : List Dt} (hr : rows.length ≤ 1000) {s4 : Sl} : ∃ (row : Dt) (c' : Sl) (r : Ev), Cup c' ∧ Row A many row ∧ r.length = 7 ∧ bodyS (stM c A many rows [s4, .un, .un, .un, .un, .un, .un]) = some (.nx (stM c' A many (rows ++ [row]) r)) := by
  obtain ⟨ts, c1, hc1, hts, e1⟩ := q_targets hA hc (many := many) (by omega) (by omega) (rows := rows) (s4 := s4)
  have e2 := w_waysM hA (c := c1) m1 (rows := rows) (s4 := s4) hts
  obtain ⟨d0, c2, hd0, hc2, e3⟩ := some_list hc1 (xs := [.int (-1), .int (-1), .int 0, .int 1]) (by decide) (by decide)
  have hj : ∃ j : Int, d0 = .int j ∧ -1 ≤ j ∧ j ≤ 39 := by
    simp at hd0
    rcases hd0 with rfl | rfl | rfl
    · exact ⟨-1, rfl, by decide, by decide⟩
    · exact ⟨0, rfl, by decide, by decide⟩
    · exact ⟨1, rfl, by decide, by decide⟩
  obtain ⟨j, rfl, j0, j1⟩ := hj
  have hwl := wys_len A ts many
  have es := sort_list (ps := wys A ts many) (by omega)
  have hperm : ((wys A ts many).mergeSort leW).Perm (wys A ts many) := List.mergeSort_perm _ _
  have hrow : Row A many (.tuple [.int j, .tuple (((wys A ts many).mergeSort leW).map wD)]) := ⟨j, _, rfl, j0, j1, wys_sorted A ts hA many, fun q hq => wys_ok A ts hA (hperm.mem_iff.mp hq), by rw [hperm.length_eq]; omega, fun q hq => wys_in (hperm.mem_iff.mp hq)⟩
  have happ : fAppend rows [.tuple [.int j, .tuple (((wys A ts many).mergeSort leW).map wD)]] = some (.none, rows ++ [.tuple [.int j, .tuple (((wys A ts many).mergeSort leW).map wD)]]) := if_pos (Nat.lt_of_le_of_lt hr (by rw [sizeLine_eq]; decide))
  refine ⟨_, c2, [s4, .sh (.list (ts.map .int)), .sh (.list ((wys A ts many).map wD)), .un, .un, .un, .un], hc2, hrow, rfl, ?_⟩
  obtain ⟨a, b, rfl⟩ := hc.ex
  obtain ⟨a1, b1, rfl⟩ := hc1.ex
  obtain ⟨a2, b2, rfl⟩ := hc2.ex
  generalize ((wys A ts many).mergeSort leW).map wD = QS at *
  generalize (wys A ts many).map wD = WS at *
  generalize ts.map PyData.int = TS at *
  generalize ((many : Nat) : Int) = M at *
  unfold bodyS
  unfold stM at *
  generalize fSort = gS at *
  generalize fAppend = gA at *
  rw [ev_seq, ev_set, ev_frz, e1]
  rw [bx_ok, ev_mC, fromE_ok, stx_v, sx_nx]
  simp only [List.set_cons_succ, List.set_cons_zero]
  rw [ev_seq, ev_set, ev_frz, ev_lst, ev_nil, bx_ok, vals_n, ev_opt, bx_ok]
  rw [List.length_nil, fits_0, ev_opt, bx_ok, ev_pur, bx_ok, ev_mC, fromE_ok, stx_v, sx_nx]
  simp only [List.set_cons_succ, List.set_cons_zero]
  rw [ev_seq, e2, sx_nx]
  clear e1 e2
  simp [e3, es, happ, fits_small]
theorem machine_made {c : Sl} (hc : Cup c) : ∃ (M : List Dt) (c' : Sl), Cup c' ∧ (1 ≤ M.length ∧ M.length ≤ 6 ∧ ∀ x ∈ M, Row A M.length x) ∧ machB (.tuple M) = true ∧ tame (.tuple M) = true ∧ (PyData.tuple M).depth ≤ 4 ∧ l_machine [c, .sh (.str (tx A))] = some (.ok (.val (.tuple M)) [c', .sh (.str (tx A))]) := by
  obtain ⟨r, c1, r0, r1, hc1, e1⟩ := roll_made hc (m := 6) (by decide) (by decide)
  obtain ⟨many, hmany⟩ : ∃ many : Nat, (many : Int) = 1 + r := ⟨(1 + r).toNat, by omega⟩
  have m0 : 0 < many := by omega
  have m1 : many < 1000 := by omega
  have m2 : many ≤ 6 := by omega
  have hstep : ∀ (i : Nat) (d : Dt) (ρ : Ev), (rngL 0 many)[i]? = some d → (∃ c rows, Cup c ∧ rows.length = i ∧ (∀ x ∈ rows, Row A many x) ∧ ρ = stM c A many rows [.un, .un, .un, .un, .un, .un, .un]) → ∃ ρ1 ρ2, gN 4 d ρ = some ρ1 ∧ bodyS ρ1 = some (.nx ρ2) ∧ (∃ c rows, Cup c ∧ rows.length = i + 1 ∧ (∀ x ∈ rows, Row A many x) ∧ kills [4, 5, 6, 7, 8, 9, 10] ρ2 = stM c A many rows [.un, .un, .un, .un, .un, .un, .un]) := fun i d ρ hd hI => by
    obtain ⟨c2, rows, hc2, hl, hx, rfl⟩ := hI
    have hi : i < many := by
      have := (List.getElem?_eq_some_iff.mp hd).1
      rw [rngL_len] at this
      exact this
    obtain ⟨row, c3, rr, hc3, hrow, hrr, e⟩ := step_row hA hc2 m0 m1 (rows := rows) (by omega) (s4 := .sh d)
    refine ⟨stM c2 A many rows [.sh d, .un, .un, .un, .un, .un, .un], _, by unfold stM; simp, e, c3, rows ++ [row], hc3, by rw [List.length_append, hl]; rfl, fun x hm => ?_, ?_⟩
    · rcases List.mem_append.mp hm with hm | hm
      · exact hx x hm
      · rw [List.mem_singleton] at hm
        rw [hm]
        exact hrow
    · match rr, hrr with
      | [_, _, _, _, _, _, _], _ => rfl
  obtain ⟨ρ', e, c2, rows, hc2, hl, hx, rfl⟩ := sFor_inv (rngL 0 many) (fun i ρ => ∃ c rows, Cup c ∧ rows.length = i ∧ (∀ x ∈ rows, Row A many x) ∧ ρ = stM c A many rows [.un, .un, .un, .un, .un, .un, .un]) (stM c1 A many [] [.un, .un, .un, .un, .un, .un, .un]) hstep ⟨c1, [], hc1, rfl, fun x h => (nomatch h), rfl⟩
  rw [rngL_len] at hl
  have hr := rng1_i (j := (many : Nat)) (by omega) (by omega)
  rw [Int.toNat_natCast] at hr
  have hw : w_l_machine_1 (stM c1 A many [] [.un, .un, .un, .un, .un, .un, .un]) = some (.nx (stM c2 A many rows [.un, .un, .un, .un, .un, .un, .un])) := by
    have h1 : ∀ g : List Dt → Option (List Dt), mArg g (mCons (mVar 2) mNil) (stM c1 A many [] [.un, .un, .un, .un, .un, .un, .un]) = opt (g [.int (many : Nat)]) (stM c1 A many [] [.un, .un, .un, .un, .un, .un, .un]) := fun g => by
      unfold stM
      simp
    unfold w_l_machine_1
    rw [ev_for, h1, hr, ev_opt, fromE_ok]
    exact e
  refine ⟨rows, c2, hc2, ⟨by omega, by omega, fun x hm => by rw [hl]; exact hx x hm⟩, ?_, ?_, ?_, ?_⟩
  · show (decide (1 ≤ rows.length) && decide (rows.length ≤ 400) && rows.all (stateB (rows.length : Nat))) = true
    rw [hl, decide_eq_true (show 1 ≤ many by omega), decide_eq_true (show many ≤ 400 by omega)]
    exact List.all_eq_true.mpr fun x hm => row_state (hx x hm)
  · exact tame_tupI (by omega) fun x hm => (row_tame (hx x hm)).1
  · exact depth_tup fun x hm => (row_tame (hx x hm)).2
  · obtain ⟨a, b, rfl⟩ := hc.ex
    obtain ⟨a1, b1, rfl⟩ := hc1.ex
    obtain ⟨a2, b2, rfl⟩ := hc2.ex
    unfold l_machine b_l_machine
    rw [hmany] at hw
    unfold stM at hw
    generalize w_l_machine_1 = W1 at *
    simp [e1, hw]
end
end K27
/-! K27AC: two searches for a word that parts two states: plain mathematics. -/
namespace K27
open PySem L2 PD
abbrev Pr := Option Nat × Option Nat
abbrev Wd := List Nat
abbrev En := Pr × Wd
/-- a machine: how many states, where a sign leads, the flags; A the signs that lead anywhere -/
structure Mc where
  m : Nat
  d : Nat → Nat → Option Nat
  fl : Nat → Int
structure McOk (M : Mc) (A : List Nat) : Prop where
  lt : ∀ i c j, i < M.m → M.d i c = some j → j < M.m
  no : ∀ i c, i < M.m → c ∉ A → M.d i c = none
def bad (M : Mc) : Pr → Bool
  | (some a, some b) => !decide (M.fl a = M.fl b)
  | (none, none) => false
  | _ => true
def suc (M : Mc) (p : Pr) (c : Nat) : Pr := (p.1.bind fun i => M.d i c, p.2.bind fun i => M.d i c)
def addS (M : Mc) (p : Pr) (w : Wd) : List Nat → List En → List En
  | [], L => L
  | c :: cs, L => if suc M p c ∉ L.map (·.1) ∧ suc M p c ≠ (none, none) then addS M p w cs (L ++ [(suc M p c, w ++ [c])]) else addS M p w cs L
/-- the program's search -/
def pr (M : Mc) (cs : List Nat) : Nat → Nat → List En → Option (Option Wd)
  | 0, _, _ => none
  | n + 1, at', L => match L[at']? with
    | none => some none
    | some e => if bad M e.1 then some (some e.2) else pr M cs n (at' + 1) (addS M e.1 e.2 cs L)
/-- the law's search -/
def la (M : Mc) (cs : List Nat) : Nat → List (Pr × Nat) → List Pr → Option (Option Nat)
  | 0, _, _ => none
  | _ + 1, [], _ => some none
  | n + 1, e :: Q, S => if bad M e.1 then some (some e.2) else if e.1.1.isSome ∧ e.1 ∉ S then la M cs n (Q ++ cs.map fun c => (suc M e.1 c, e.2 + 1)) (S ++ [e.1]) else la M cs n Q S
/-- what is new in a line -/
def dd (S : List Pr) : List (Pr × Nat) → List (Pr × Nat)
  | [] => []
  | e :: Q => if e.1 = (none, none) ∨ e.1 ∈ S then dd S Q else e :: dd (S ++ [e.1]) Q
theorem dd_cons (S : List Pr) (e : Pr × Nat) (Q : List (Pr × Nat)) : dd S (e :: Q) = if e.1 = (none, none) ∨ e.1 ∈ S then dd S Q else e :: dd (S ++ [e.1]) Q := by
  conv => lhs; unfold dd
theorem dd_app : ∀ (Q R : List (Pr × Nat)) (S : List Pr), dd S (Q ++ R) = dd S Q ++ dd (S ++ (dd S Q).map (·.1)) R
  | [], R, S => by simp [dd]
  | e :: Q, R, S => by
    rw [List.cons_append, dd_cons, dd_cons]
    by_cases h : e.1 = (none, none) ∨ e.1 ∈ S
    · rw [if_pos h, if_pos h, dd_app Q R S]
    · rw [if_neg h, if_neg h, dd_app Q R (S ++ [e.1]), List.cons_append, List.map_cons, List.append_assoc]
      rfl
section
variable {M : Mc}
theorem addS_dd {p : Pr} {w : Wd} : ∀ (cs : List Nat) (L : List En), ∃ X, addS M p w cs L = L ++ X ∧ (X.map fun e => (e.1, e.2.length)) = dd (L.map (·.1)) (cs.map fun c => (suc M p c, w.length + 1)) ∧ ∀ e ∈ X, ∃ c ∈ cs, e = (suc M p c, w ++ [c]) ∧ e.1 ≠ (none, none)
  | [], L => ⟨[], by simp [addS], by simp [dd], fun e h => nomatch h⟩
  | c :: cs, L => by
    unfold addS
    rw [List.map_cons, dd_cons]
    by_cases h : suc M p c ∉ L.map (·.1) ∧ suc M p c ≠ (none, none)
    · rw [if_pos h, if_neg (by rintro (z | z); exact h.2 z; exact h.1 z)]
      obtain ⟨X, h1, h2, h3⟩ := addS_dd (p := p) (w := w) cs (L ++ [(suc M p c, w ++ [c])])
      refine ⟨(suc M p c, w ++ [c]) :: X, by rw [h1, List.append_assoc]; rfl, ?_, fun e he => ?_⟩
      · rw [List.map_cons, h2, List.map_append, List.length_append]
        rfl
      · rcases List.mem_cons.mp he with rfl | he
        · exact ⟨c, List.mem_cons_self, rfl, h.2⟩
        · obtain ⟨c', hc, q⟩ := h3 e he
          exact ⟨c', List.mem_cons_of_mem _ hc, q⟩
    · rw [if_neg h, if_pos (by
        by_cases z : suc M p c = (none, none)
        · exact .inl z
        · exact .inr (Classical.byContradiction fun y => h ⟨y, z⟩))]
      obtain ⟨X, h1, h2, h3⟩ := addS_dd (p := p) (w := w) cs L
      exact ⟨X, h1, h2, fun e he => by
        obtain ⟨c', hc, q⟩ := h3 e he
        exact ⟨c', List.mem_cons_of_mem _ hc, q⟩⟩
/-- only the signs that lead anywhere count -/
theorem addS_some {A : List Nat} (hM : McOk M A) {a b : Nat} (ha : a < M.m) (hb : b < M.m) {w : Wd} (B : List Nat) (hB : ∀ c ∈ A, c ∈ B) : ∀ (cs : List Nat) (L : List En), addS M (some a, some b) w cs L = addS M (some a, some b) w (cs.filter fun c => decide (c ∈ B)) L
  | [], L => rfl
  | c :: cs, L => by
    rw [List.filter_cons]
    by_cases h : c ∈ B
    · rw [decide_eq_true h, if_pos rfl]
      unfold addS
      rw [addS_some hM ha hb B hB cs, addS_some hM ha hb B hB cs]
    · have hs : suc M (some a, some b) c = (none, none) := by
        unfold suc
        show (M.d a c, M.d b c) = _
        rw [hM.no a c ha fun z => h (hB c z), hM.no b c hb fun z => h (hB c z)]
      rw [decide_eq_false h, if_neg Bool.false_ne_true]
      conv => lhs; unfold addS
      rw [hs, if_neg (fun z => z.2 rfl)]
      exact addS_some hM ha hb B hB cs L
/-- a pair whose search goes on -/
theorem good_some {p : Pr} (h : bad M p = false) (hn : p ≠ (none, none)) : ∃ a b, p = (some a, some b) ∧ M.fl a = M.fl b := by
  obtain ⟨x, y⟩ := p
  cases x with
  | none =>
    cases y with
    | none => exact absurd rfl hn
    | some b => cases h
  | some a =>
    cases y with
    | none => cases h
    | some b => exact ⟨a, b, rfl, by simpa [bad] using h⟩
/-- the two searches answer alike -/
theorem sim {cs : List Nat} : ∀ (n N : Nat) (Q : List (Pr × Nat)) (S : List Pr) (at' : Nat) (L : List En) (r : Option Nat) (r' : Option Wd),
    at' ≤ L.length → S = (L.take at').map (·.1) → ((L.drop at').map fun e => (e.1, e.2.length)) = dd S Q → (∀ p ∈ S, bad M p = false) → la M cs n Q S = some r → pr M cs N at' L = some r' → r = r'.map (·.length)
  | 0, N, Q, S, at', L, r, r', _, _, _, _, h1, _ => nomatch h1
  | n + 1, 0, Q, S, at', L, r, r', _, _, _, _, _, h2 => nomatch h2
  | n + 1, N + 1, [], S, at', L, r, r', hat, hS, hd, hg, h1, h2 => by
    cases h1
    have hdr : L.drop at' = [] := List.map_eq_nil_iff.mp hd
    have hl : L.length ≤ at' := List.drop_eq_nil_iff.mp hdr
    unfold pr at h2
    rw [List.getElem?_eq_none hl] at h2
    cases h2
    rfl
  | n + 1, N + 1, e :: Q, S, at', L, r, r', hat, hS, hd, hg, h1, h2 => by
    have hdd := dd_cons S e Q
    unfold la at h1
    by_cases h : e.1 = (none, none) ∨ e.1 ∈ S
    · rw [hdd, if_pos h] at hd
      have hb : bad M e.1 = false := by
        rcases h with h | h
        · rw [h]; rfl
        · exact hg _ h
      have hn : ¬ (e.1.1.isSome ∧ e.1 ∉ S) := by
        rintro ⟨z1, z2⟩
        rcases h with h | h
        · rw [h] at z1; cases z1
        · exact z2 h
      rw [hb, if_neg Bool.false_ne_true, if_neg hn] at h1
      exact sim n (N + 1) Q S at' L r r' hat hS hd hg h1 h2
    · rw [hdd, if_neg h] at hd
      have hlt : at' < L.length := by
        rcases Nat.lt_or_ge at' L.length with z | z
        · exact z
        · rw [List.drop_eq_nil_of_le z] at hd; cases hd
      have hdr := List.drop_eq_getElem_cons hlt
      rw [hdr, List.map_cons] at hd
      obtain ⟨e1, e2⟩ := List.cons.inj hd
      have ep : L[at'].1 = e.1 := by rw [← e1]
      have el : L[at'].2.length = e.2 := by rw [← e1]
      unfold pr at h2
      rw [List.getElem?_eq_getElem hlt] at h2
      dsimp only at h2
      rw [ep] at h2
      cases hb : bad M e.1 with
      | true =>
        rw [hb] at h1 h2
        cases h1
        cases h2
        rw [← el]
        rfl
      | false =>
        rw [hb, if_neg Bool.false_ne_true] at h1 h2
        obtain ⟨a, b, eab, _⟩ := good_some hb fun z => h (.inl z)
        have hs : e.1.1.isSome ∧ e.1 ∉ S := ⟨by rw [eab]; rfl, fun z => h (.inr z)⟩
        rw [if_pos hs] at h1
        obtain ⟨X, x1, x2, _⟩ := addS_dd (M := M) (p := e.1) (w := L[at'].2) cs L
        have htk : (L.take (at' + 1)).map (·.1) = S ++ [e.1] := by
          rw [List.take_add_one, List.getElem?_eq_getElem hlt, List.map_append, ← hS]
          show S ++ [L[at'].1] = _
          rw [ep]
        refine sim n N _ _ (at' + 1) (addS M e.1 L[at'].2 cs L) r r' ?_ ?_ ?_ ?_ h1 h2
        · rw [x1, List.length_append]; omega
        · rw [x1, List.take_append_of_le_length (by omega), htk]
        · rw [x1, List.drop_append_of_le_length (by omega), List.map_append, x2, dd_app, ← e2, el]
          congr 2
          have hL : L = L.take (at' + 1) ++ L.drop (at' + 1) := (List.take_append_drop _ _).symm
          conv => lhs; rw [hL]
          rw [List.map_append, htk, List.map_map]
          rfl
        · intro p hp
          rcases List.mem_append.mp hp with hp | hp
          · exact hg p hp
          · rw [List.mem_singleton] at hp
            rw [hp]; exact hb
end
end K27
/-! K27AD: both searches end; what is found parts. -/
namespace K27
open PySem L2 PD
def wk (M : Mc) (o : Option Nat) (w : Wd) : Option Nat := w.foldl (fun o c => o.bind fun i => M.d i c) o
def ltO (m : Nat) : Option Nat → Prop
  | none => True
  | some i => i < m
def enc : Option Nat → Nat
  | none => 0
  | some i => i + 1
def code (p : Pr) : Nat := enc p.1 * 7 + enc p.2
theorem enc_le {o : Option Nat} {m : Nat} (hm : m ≤ 6) (h : ltO m o) : enc o ≤ 6 := by
  cases o with
  | none => exact Nat.zero_le _
  | some i =>
    have h : i < m := h
    show i + 1 ≤ 6
    omega
theorem enc_inj {a b : Option Nat} (h : enc a = enc b) : a = b := by
  cases a <;> cases b <;> simp [enc] at h ⊢
  exact h
theorem code_inj {p q : Pr} {m : Nat} (hm : m ≤ 6) (hp : ltO m p.1 ∧ ltO m p.2) (hq : ltO m q.1 ∧ ltO m q.2) (h : code p = code q) : p = q := by
  have a1 := enc_le hm hp.1
  have a2 := enc_le hm hp.2
  have b1 := enc_le hm hq.1
  have b2 := enc_le hm hq.2
  unfold code at h
  have e1 : enc p.1 = enc q.1 := by omega
  have e2 : enc p.2 = enc q.2 := by omega
  exact Prod.ext (enc_inj e1) (enc_inj e2)
theorem code_nd {m : Nat} (hm : m ≤ 6) : ∀ {S : List Pr}, S.Nodup → (∀ p ∈ S, ltO m p.1 ∧ ltO m p.2) → (S.map code).Nodup
  | [], _, _ => List.nodup_nil
  | p :: S, hn, h => by
    obtain ⟨n1, n2⟩ := List.nodup_cons.mp hn
    rw [List.map_cons, List.nodup_cons]
    refine ⟨fun z => ?_, code_nd hm n2 fun q hq => h q (List.mem_cons_of_mem _ hq)⟩
    obtain ⟨q, hq, e⟩ := List.mem_map.mp z
    have := code_inj hm (h q (List.mem_cons_of_mem _ hq)) (h p List.mem_cons_self) e
    rw [this] at hq
    exact n1 hq
/-- few pairs -/
theorem few {m : Nat} (hm : m ≤ 6) {S : List Pr} (hn : S.Nodup) (h : ∀ p ∈ S, ltO m p.1 ∧ ltO m p.2) : S.length ≤ 49 := by
  have := nodup_le (bs := List.range 49) (code_nd hm hn h) fun k hk => by
    obtain ⟨p, hp, rfl⟩ := List.mem_map.mp hk
    have a1 := enc_le hm (h p hp).1
    have a2 := enc_le hm (h p hp).2
    refine List.mem_range.mpr ?_
    unfold code
    omega
  rwa [List.length_map, List.length_range] at this
section
variable {M : Mc} {A : List Nat}
theorem suc_lt (hM : McOk M A) {p : Pr} (hp : ltO M.m p.1 ∧ ltO M.m p.2) (c : Nat) : ltO M.m (suc M p c).1 ∧ ltO M.m (suc M p c).2 := by
  have key : ∀ o : Option Nat, ltO M.m o → ltO M.m (o.bind fun i => M.d i c) := fun o ho => by
    cases o with
    | none => trivial
    | some i =>
      show ltO M.m (M.d i c)
      cases h : M.d i c with
      | none => trivial
      | some j => exact hM.lt i c j ho h
  exact ⟨key _ hp.1, key _ hp.2⟩
/-- the line of the program's search -/
structure Line (M : Mc) (one other : Nat) (L : List En) : Prop where
  lt : ∀ e ∈ L, ltO M.m e.1.1 ∧ ltO M.m e.1.2
  nn : ∀ e ∈ L, e.1 ≠ (none, none)
  nd : (L.map (·.1)).Nodup
  wk : ∀ e ∈ L, e.1 = (wk M (some one) e.2, wk M (some other) e.2)
theorem Line.len {one other : Nat} {L : List En} (h : Line M one other L) (hm : M.m ≤ 6) : L.length ≤ 49 := by
  have := few hm h.nd fun p hp => by
    obtain ⟨e, he, rfl⟩ := List.mem_map.mp hp
    exact h.lt e he
  rwa [List.length_map] at this
theorem wk_snoc (o : Option Nat) (w : Wd) (c : Nat) : wk M o (w ++ [c]) = (wk M o w).bind fun i => M.d i c := by
  unfold wk
  rw [List.foldl_append]
  rfl
theorem addS_line (hM : McOk M A) {one other : Nat} {p : Pr} {w : Wd} (hp : ltO M.m p.1 ∧ ltO M.m p.2) (hw : p = (wk M (some one) w, wk M (some other) w)) : ∀ (cs : List Nat) (L : List En), Line M one other L → Line M one other (addS M p w cs L)
  | [], L, h => h
  | c :: cs, L, h => by
    unfold addS
    split
    · rename_i hc
      refine addS_line hM hp hw cs _ ⟨fun e he => ?_, fun e he => ?_, ?_, fun e he => ?_⟩
      · rcases List.mem_append.mp he with he | he
        · exact h.lt e he
        · rw [List.mem_singleton] at he
          rw [he]; exact suc_lt hM hp c
      · rcases List.mem_append.mp he with he | he
        · exact h.nn e he
        · rw [List.mem_singleton] at he
          rw [he]; exact hc.2
      · rw [List.map_append]
        refine List.nodup_append.mpr ⟨h.nd, by simp, fun a ha b hb e => ?_⟩
        rw [List.map_cons, List.map_nil, List.mem_singleton] at hb
        rw [e, hb] at ha
        exact hc.1 ha
      · rcases List.mem_append.mp he with he | he
        · exact h.wk e he
        · rw [List.mem_singleton] at he
          rw [he]
          show suc M p c = _
          rw [wk_snoc, wk_snoc, hw]
          rfl
    · exact addS_line hM hp hw cs L h
theorem pr_term (hM : McOk M A) (hm : M.m ≤ 6) {one other : Nat} {cs : List Nat} : ∀ (N at' : Nat) (L : List En), Line M one other L → at' ≤ L.length → 51 ≤ N + at' → ∃ r, pr M cs N at' L = some r ∧ (∀ w, r = some w → bad M (wk M (some one) w, wk M (some other) w) = true)
  | 0, at', L, h, ha, hN => by
    have := h.len hm
    omega
  | N + 1, at', L, h, ha, hN => by
    unfold pr
    cases hl : L[at']? with
    | none => exact ⟨none, rfl, fun w z => nomatch z⟩
    | some e =>
      dsimp only
      have he := List.mem_of_getElem? hl
      have hlt := (List.getElem?_eq_some_iff.mp hl).1
      cases hb : bad M e.1 with
      | true =>
        refine ⟨some e.2, by rw [if_pos rfl], fun w z => ?_⟩
        cases z
        rw [← h.wk e he]
        exact hb
      | false =>
        rw [if_neg Bool.false_ne_true]
        have h2 := addS_line hM (h.lt e he) (h.wk e he) cs L h
        obtain ⟨X, x1, _⟩ := addS_dd (M := M) (p := e.1) (w := e.2) cs L
        exact pr_term hM hm N (at' + 1) _ h2 (by rw [x1, List.length_append]; omega) (by omega)
theorem la_term (hM : McOk M A) (hm : M.m ≤ 6) {cs : List Nat} (hcs : cs.length = 4) : ∀ (n : Nat) (Q : List (Pr × Nat)) (S : List Pr), S.Nodup → (∀ p ∈ S, ltO M.m p.1 ∧ ltO M.m p.2) → (∀ e ∈ Q, ltO M.m e.1.1 ∧ ltO M.m e.1.2) → 5 * (49 - S.length) + Q.length < n → ∃ r, la M cs n Q S = some r
  | 0, Q, S, _, _, _, h => absurd h (Nat.not_lt_zero _)
  | n + 1, [], S, _, _, _, h => ⟨none, rfl⟩
  | n + 1, e :: Q, S, h1, h2, h3, h => by
    unfold la
    rw [List.length_cons] at h
    split
    · exact ⟨_, rfl⟩
    · split
      · rename_i hc
        have nd : (S ++ [e.1]).Nodup := List.nodup_append.mpr ⟨h1, by simp, fun a ha b hb q => by
          rw [List.mem_singleton] at hb
          rw [q, hb] at ha
          exact hc.2 ha⟩
        have lt : ∀ p ∈ S ++ [e.1], ltO M.m p.1 ∧ ltO M.m p.2 := fun p hp => by
          rcases List.mem_append.mp hp with hp | hp
          · exact h2 p hp
          · rw [List.mem_singleton] at hp
            rw [hp]; exact h3 e List.mem_cons_self
        have fw := few hm nd lt
        rw [List.length_append] at fw
        have fw : S.length + 1 ≤ 49 := fw
        refine la_term hM hm hcs n _ _ nd lt (fun x hx => ?_) (by
          rw [List.length_append, List.length_append, List.length_map, hcs]
          show 5 * (49 - (S.length + 1)) + (Q.length + 4) < n
          omega)
        rcases List.mem_append.mp hx with hx | hx
        · exact h3 x (List.mem_cons_of_mem _ hx)
        · obtain ⟨c, _, rfl⟩ := List.mem_map.mp hx
          exact suc_lt hM (h3 e List.mem_cons_self) c
      · exact la_term hM hm hcs n Q S h1 h2 (fun x hx => h3 x (List.mem_cons_of_mem _ hx)) (by omega)
/-- a state is never parted from itself -/
theorem diag {cs : List Nat} : ∀ (N at' : Nat) (L : List En) (r : Option Wd), (∀ e ∈ L, e.1.1 = e.1.2) → pr M cs N at' L = some r → r = none
  | 0, at', L, r, _, h => nomatch h
  | N + 1, at', L, r, hd, h => by
    unfold pr at h
    cases hl : L[at']? with
    | none => rw [hl] at h; cases h; rfl
    | some e =>
      rw [hl] at h
      dsimp only at h
      have he := hd e (List.mem_of_getElem? hl)
      have hb : bad M e.1 = false := by
        obtain ⟨⟨x, y⟩, w⟩ := e
        have he : x = y := he
        subst he
        cases x with
        | none => rfl
        | some i => simp [bad]
      rw [hb, if_neg Bool.false_ne_true] at h
      obtain ⟨X, x1, _, x3⟩ := addS_dd (M := M) (p := e.1) (w := e.2) cs L
      refine diag N (at' + 1) _ r (fun y hy => ?_) h
      rw [x1] at hy
      rcases List.mem_append.mp hy with hy | hy
      · exact hd y hy
      · obtain ⟨c, _, rfl, _⟩ := x3 y hy
        show (e.1.1.bind _) = e.1.2.bind _
        rw [he]
/-- both searches from two states -/
theorem both (hM : McOk M A) (hm : M.m ≤ 6) {cs : List Nat} (hcs : cs.length = 4) {one other : Nat} (h1 : one < M.m) (h2 : other < M.m) :
    ∃ r : Option Wd, pr M cs 60 0 [((some one, some other), [])] = some r ∧ la M cs 300 [((some one, some other), 0)] [] = some (r.map (·.length)) ∧ (∀ w, r = some w → bad M (wk M (some one) w, wk M (some other) w) = true) ∧ (one = other → r = none) := by
  have line : Line M one other [((some one, some other), [])] := by
    refine ⟨fun e he => ?_, fun e he => ?_, ?_, fun e he => ?_⟩
    · rw [List.mem_singleton] at he
      rw [he]; exact ⟨h1, h2⟩
    · rw [List.mem_singleton] at he
      rw [he]; exact fun z => nomatch z
    · simp
    · rw [List.mem_singleton] at he
      rw [he]; rfl
  obtain ⟨r, e1, e2⟩ := pr_term hM hm (cs := cs) 60 0 _ line (Nat.zero_le _) (by omega)
  obtain ⟨q, e3⟩ := la_term hM hm hcs 300 [((some one, some other), 0)] [] List.nodup_nil (fun p hp => nomatch hp) (fun e he => by
    rw [List.mem_singleton] at he
    rw [he]; exact ⟨h1, h2⟩) (by show 5 * 49 + 1 < 300; omega)
  have e4 := sim 300 60 _ _ 0 _ q r (Nat.zero_le _) rfl (by simp [dd]) (fun p hp => nomatch hp) e3 e1
  refine ⟨r, e1, by rw [e3, e4], e2, fun z => diag 60 0 _ r (fun e he => ?_) e1⟩
  rw [List.mem_singleton] at he
  rw [he, z]
end
end K27
/-! K27AE: where a sign leads, where a word leads. -/
namespace K27
open PySem L2 PD
def oN : Option Nat → Dt
  | none => .none
  | some i => pn i
def flagOf : Dt → Int
  | .tuple [.int f, _] => f
  | _ => 0
def mcOf (M : List Dt) : Mc := ⟨M.length, fun i c => ((parse (M.getD i .none)).find? fun q => decide (c ∈ q.1)).map fun q => q.2.toNat, fun i => flagOf (M.getD i .none)⟩
section
variable {A : List Nat} {M : List Dt}
structure Mach (A : List Nat) (M : List Dt) : Prop where
  pos : 1 ≤ M.length
  few : M.length ≤ 6
  row : ∀ x ∈ M, Row A M.length x
theorem Mach.at (h : Mach A M) {i : Nat} (hi : i < M.length) : ∃ (f : Int) (qs : List Way), M[i]? = some (.tuple [.int f, .tuple (qs.map wD)]) ∧ M.getD i .none = .tuple [.int f, .tuple (qs.map wD)] ∧ (∀ q ∈ qs, WayOk (M.length : Nat) q) ∧ qs.length ≤ 1000 ∧ ∀ q ∈ qs, ∀ c ∈ q.1, c ∈ A := by
  obtain ⟨f, qs, e, _, _, _, h2, h3, h4⟩ := (h.row M[i] (List.getElem_mem hi)).ex
  have e1 : M[i]? = some (.tuple [.int f, .tuple (qs.map wD)]) := by rw [List.getElem?_eq_getElem hi, e]
  exact ⟨f, qs, e1, by rw [List.getD_eq_getElem?_getD, e1]; rfl, h2, h3, h4⟩
theorem mc_ok (h : Mach A M) : McOk (mcOf M) A := by
  refine ⟨fun i c j hi hd => ?_, fun i c hi hc => ?_⟩
  · obtain ⟨f, qs, _, e, h2, _⟩ := h.at (i := i) hi
    unfold mcOf at hd
    dsimp only at hd
    rw [e, parse_is] at hd
    obtain ⟨q, hq, rfl⟩ := Option.map_eq_some_iff.mp hd
    have w := h2 q (List.mem_of_find?_eq_some hq)
    show q.2.toNat < M.length
    have := w.lo
    have := w.hi
    omega
  · obtain ⟨f, qs, _, e, _, _, h4⟩ := h.at (i := i) hi
    show ((parse (M.getD i .none)).find? fun q => decide (c ∈ q.1)).map (fun q => q.2.toNat) = none
    rw [e, parse_is, Option.map_eq_none_iff, List.find?_eq_none]
    intro q hq hz
    exact hc (h4 q hq c (of_decide_eq_true hz))
theorem d_is {i c : Nat} {f : Int} {qs : List Way} (e : M.getD i .none = .tuple [.int f, .tuple (qs.map wD)]) (h2 : ∀ q ∈ qs, WayOk (M.length : Nat) q) : oN ((mcOf M).d i c) = match qs.find? fun q => decide (c ∈ q.1) with
    | none => .none
    | some q => .int q.2 := by
  show oN (((parse (M.getD i .none)).find? fun q => decide (c ∈ q.1)).map fun q => q.2.toNat) = _
  rw [e, parse_is]
  cases hf : qs.find? fun q => decide (c ∈ q.1) with
  | none => rfl
  | some q =>
    have := (h2 q (List.mem_of_find?_eq_some hf)).lo
    show PyData.int ((q.2.toNat : Nat) : Int) = .int q.2
    rw [Int.toNat_of_nonneg this]
/-- the machine's state -/
theorem gIx_m (h : Mach A M) {i : Nat} (hi : i < M.length) {f : Int} {qs : List Way} (e : M[i]? = some (.tuple [.int f, .tuple (qs.map wD)])) : gIx (.tuple M) (pn i) = some (.tuple [.int f, .tuple (qs.map wD)]) := by
  show atI M (i : Int) = _
  rw [atI_nat hi]
  rw [List.getElem?_eq_getElem hi] at e
  exact e
theorem flag_is (h : Mach A M) {i : Nat} (hi : i < M.length) : ∃ d, gIx (.tuple M) (pn i) = some d ∧ gIx d (.int 0) = some (.int ((mcOf M).fl i)) := by
  obtain ⟨f, qs, e1, e2, _⟩ := h.at hi
  refine ⟨_, gIx_m h hi e1, ?_⟩
  show gIx (.tuple [.int f, .tuple (qs.map wD)]) (.int 0) = some (.int (flagOf (M.getD i .none)))
  rw [e2]
  simp [flagOf]
def stY (M : List Dt) (i c : Nat) : Ev := [.sh (.tuple M), .sh (pn i), .sh (sgD c), .un, .un]
theorem way_loop {i c : Nat} : ∀ qs : List Way, (qs.find? (fun q => decide (c ∈ q.1)) = none → sFor [3, 4] (gT 2 (gCons (gN 3) (gCons (gN 4) gNil))) (sIf (mTst (mOp2 gIn (mVar 2) (mVar 3))) (sRet (mVar 4)) sNil) (qs.map wD) (stY M i c) = some (.nx (stY M i c))) ∧
    ∀ q, qs.find? (fun q => decide (c ∈ q.1)) = some q → ∃ ρ', sFor [3, 4] (gT 2 (gCons (gN 3) (gCons (gN 4) gNil))) (sIf (mTst (mOp2 gIn (mVar 2) (mVar 3))) (sRet (mVar 4)) sNil) (qs.map wD) (stY M i c) = some (.rt (.int q.2) ρ') ∧ bk (stY M i c |>.take 3) ρ' = (stY M i c).take 3
  | [] => ⟨fun _ => rfl, fun q h => nomatch h⟩
  | p :: qs => by
    obtain ⟨i1, i2⟩ := way_loop (i := i) (c := c) qs
    have hg : gT 2 (gCons (gN 3) (gCons (gN 4) gNil)) (wD p) (stY M i c) = some [.sh (.tuple M), .sh (pn i), .sh (sgD c), .sh (.str (tx p.1)), .sh (.int p.2)] := by
      unfold wD stY
      simp
    rw [List.find?_cons, List.map_cons]
    by_cases hc : c ∈ p.1
    · rw [decide_eq_true hc]
      refine ⟨fun z => (nomatch z), fun q z => ?_⟩
      cases z
      exact ⟨[.sh (.tuple M), .sh (pn i), .sh (sgD c), .sh (.str (tx p.1)), .sh (.int p.2)], sFor_out hg (by simp [hc]), by unfold stY; simp⟩
    · rw [decide_eq_false hc]
      have hb : (sIf (mTst (mOp2 gIn (mVar 2) (mVar 3))) (sRet (mVar 4)) sNil) [.sh (.tuple M), .sh (pn i), .sh (sgD c), .sh (.str (tx p.1)), .sh (.int p.2)] = some (.nx [.sh (.tuple M), .sh (pn i), .sh (sgD c), .sh (.str (tx p.1)), .sh (.int p.2)]) := by simp [hc]
      rw [sFor_step hg hb]
      exact ⟨i1, i2⟩
theorem way_ok (h : Mach A M) {i : Nat} (hi : i < M.length) (c : Nat) : f_way_of [.sh (.tuple M), .sh (pn i), .sh (sgD c)] = some (.ok (.val (oN ((mcOf M).d i c))) [.sh (.tuple M), .sh (pn i), .sh (sgD c)]) := by
  obtain ⟨f, qs, e1, e2, h2, h3, _⟩ := h.at hi
  have hx := gIx_m h hi e1
  rw [d_is e2 h2]
  obtain ⟨l1, l2⟩ := way_loop (M := M) (i := i) (c := c) qs
  have hsrc : mItems (mOp2 gIx (mOp2 gIx (mVar 0) (mVar 1)) (mC (.int 1))) (stY M i c) = some (.ok (qs.map wD) (stY M i c)) := by
    unfold stY
    generalize pn i = P at *
    simp [hx]
  unfold f_way_of
  rw [run_if, if_pos ⟨rfl, rfl⟩]
  show fx _ (b_f_way_of (stY M i c)) = _
  have hw : w_f_way_of_0 (stY M i c) = sFor [3, 4] (gT 2 (gCons (gN 3) (gCons (gN 4) gNil))) (sIf (mTst (mOp2 gIn (mVar 2) (mVar 3))) (sRet (mVar 4)) sNil) (qs.map wD) (stY M i c) := by
    unfold w_f_way_of_0
    rw [ev_for, hsrc]
    rfl
  unfold b_f_way_of
  rw [ev_seq, hw]
  cases hf : qs.find? fun q => decide (c ∈ q.1) with
  | none =>
    rw [l1 hf]
    unfold stY
    simp
  | some q =>
    obtain ⟨ρ', e3, e4⟩ := l2 q hf
    rw [e3, sx_rt, fx_rt, bkS_bk]
    exact congrArg (fun z => some (Ex.ok (Rt.val (PyData.int q.2)) z)) e4
theorem head_find {α : Type} (p : α → Bool) : ∀ l : List α, (l.filter p).head? = l.find? p
  | [] => rfl
  | x :: l => by
    rw [List.filter_cons, List.find?_cons]
    cases p x with
    | true => rfl
    | false => exact head_find p l
theorem lway_ok (h : Mach A M) {i : Nat} (hi : i < M.length) (c : Nat) : l_way [.sh (.tuple M), .sh (pn i), .sh (sgD c)] = some (.ok (.val (oN ((mcOf M).d i c))) [.sh (.tuple M), .sh (pn i), .sh (sgD c)]) := by
  obtain ⟨f, qs, e1, e2, h2, h3, _⟩ := h.at hi
  have hx := gIx_m h hi e1
  rw [d_is e2 h2]
  have hq : q_l_way_0 (stY M i c) = some (.ok ((qs.filter fun q => decide (c ∈ q.1)).map fun q => .int q.2) (stY M i c)) := by
    unfold q_l_way_0
    rw [mLc_map (ρ0 := stY M i c) qs wD (fun q => decide (c ∈ q.1)) (fun q => .int q.2) (by
      unfold stY
      generalize pn i = P at *
      simp [hx]) rfl (fun q hm => ⟨[.sh (.tuple M), .sh (pn i), .sh (sgD c), .sh (.str (tx q.1)), .sh (.int q.2)], by unfold wD stY; simp, by simp, fun _ => by simp, rfl⟩) (le_line (by omega))]
    rfl
  have hlen : ((qs.filter fun q => decide (c ∈ q.1)).map fun q => PyData.int q.2).length ≤ 1000 := by
    rw [List.length_map]
    exact Nat.le_trans (List.length_filter_le _ _) h3
  unfold l_way
  rw [run_if, if_pos ⟨rfl, rfl⟩]
  show fx _ (b_l_way (stY M i c)) = _
  unfold b_l_way
  have hhd := head_find (fun q : Way => decide (c ∈ q.1)) qs
  generalize qs.find? (fun q => decide (c ∈ q.1)) = F at *
  generalize (qs.filter fun q => decide (c ∈ q.1)) = L at *
  generalize q_l_way_0 = Q at *
  cases L with
  | nil =>
    subst hhd
    unfold stY at *
    simp [hq, fits_small, gAdd_l [] [PyData.none] (le_line (by simp))]
  | cons q L =>
    subst hhd
    have ha := gAdd_l ((q :: L).map fun q => PyData.int q.2) [PyData.none] (by rw [List.length_map, List.length_cons]; rw [List.length_map, List.length_cons] at hlen; exact le_line (by simp; omega))
    rw [List.map_cons] at ha hq
    unfold stY at *
    simp [hq, fits_small, ha]
end
end K27
/-! K27AF: where a word leads, whether it parts; data of pairs. -/
namespace K27
open PySem L2 PD
theorem wk_lt {M : Mc} {A : List Nat} (hM : McOk M A) {o : Option Nat} (ho : ltO M.m o) : ∀ w : Wd, ltO M.m (wk M o w) := fun w => by
  have key : ∀ (w : Wd) (o : Option Nat), ltO M.m o → ltO M.m (wk M o w) := fun w => by
    induction w with
    | nil => exact fun o h => h
    | cons c w ih =>
      intro o h
      refine ih _ ?_
      cases o with
      | none => trivial
      | some i =>
        show ltO M.m (M.d i c)
        cases hd : M.d i c with
        | none => trivial
        | some j => exact hM.lt i c j h hd
  exact key w o ho
@[simp] theorem isN_o (o : Option Nat) : gIsN (oN o) .none = some (.bool o.isNone) := by cases o <;> rfl
@[simp] theorem notN_o (o : Option Nat) : gNotN (oN o) .none = some (.bool (!o.isNone)) := by cases o <;> rfl
section
variable {A : List Nat} {M : List Dt}
theorem walk_ok (h : Mach A M) {o : Option Nat} (ho : ltO M.length o) {w : Wd} : l_walk [.sh (.tuple M), .sh (oN o), .sh (.str (tx w))] = some (.ok (.val (oN (wk (mcOf M) o w))) [.sh (.tuple M), .sh (oN o), .sh (.str (tx w))]) := by
  obtain ⟨ρ', e1, e2⟩ := sFor_inv (kl := [3]) (t := gN 3) (b := sSet 1 (mIf (mTst (mOp2 gIsN (mVar 1) (mC .none))) (mC .none) (mCall l_way (mCons (mVar 0) (mCons (mVar 1) (mCons (mVar 3) mNil)))))) (w.map sgD) (fun i ρ => ρ = [.sh (.tuple M), .sh (oN (wk (mcOf M) o (w.take i))), .sh (.str (tx w)), .un]) [.sh (.tuple M), .sh (oN o), .sh (.str (tx w)), .un] (fun i d ρ hd hI => by
    subst hI
    rw [List.getElem?_map] at hd
    obtain ⟨c, hc, rfl⟩ := Option.map_eq_some_iff.mp hd
    have e : w.take (i + 1) = w.take i ++ [c] := by rw [List.take_add_one, hc]; rfl
    have hlt := wk_lt (mc_ok h) (o := o) ho (w.take i)
    rw [e, wk_snoc]
    generalize wk (mcOf M) o (w.take i) = q at *
    cases q with
    | none => exact ⟨[.sh (.tuple M), .sh (oN none), .sh (.str (tx w)), .sh (sgD c)], [.sh (.tuple M), .sh (oN none), .sh (.str (tx w)), .sh (sgD c)], by simp, by simp [show oN none = PyData.none from rfl, gIsN], rfl⟩
    | some j =>
      have hw := lway_ok h (i := j) hlt c
      refine ⟨[.sh (.tuple M), .sh (oN (some j)), .sh (.str (tx w)), .sh (sgD c)], [.sh (.tuple M), .sh (oN ((mcOf M).d j c)), .sh (.str (tx w)), .sh (sgD c)], by simp, ?_, rfl⟩
      rw [show pn j = oN (some j) from rfl] at hw
      simp [hw]) rfl
  subst e2
  rw [List.length_map, List.take_length] at e1
  unfold l_walk
  rw [run_if, if_pos ⟨rfl, rfl⟩]
  show fx _ (b_l_walk [.sh (.tuple M), .sh (oN o), .sh (.str (tx w)), .un]) = _
  have hw : w_l_walk_0 [.sh (.tuple M), .sh (oN o), .sh (.str (tx w)), .un] = some (.nx [.sh (.tuple M), .sh (oN (wk (mcOf M) o w)), .sh (.str (tx w)), .un]) := by
    unfold w_l_walk_0
    rw [ev_for, show mItems (mVar 2) [.sh (.tuple M), .sh (oN o), .sh (.str (tx w)), .un] = some (.ok (w.map sgD) [.sh (.tuple M), .sh (oN o), .sh (.str (tx w)), .un]) by simp]
    exact e1
  unfold b_l_walk
  rw [ev_seq, hw]
  simp
theorem parts_ok (h : Mach A M) {i j : Nat} (hi : i < M.length) (hj : j < M.length) {w : Wd} : l_parts [.sh (.tuple M), .sh (pn i), .sh (pn j), .sh (.str (tx w))] = some (.ok (.val (.bool (bad (mcOf M) (wk (mcOf M) (some i) w, wk (mcOf M) (some j) w)))) [.sh (.tuple M), .sh (pn i), .sh (pn j), .sh (.str (tx w))]) := by
  have w1 := walk_ok h (o := some i) hi (w := w)
  have w2 := walk_ok h (o := some j) hj (w := w)
  have l1 := wk_lt (mc_ok h) (o := some i) hi w
  have l2 := wk_lt (mc_ok h) (o := some j) hj w
  generalize wk (mcOf M) (some i) w = x at *
  generalize wk (mcOf M) (some j) w = y at *
  rw [show oN (some i) = pn i from rfl] at w1
  rw [show oN (some j) = pn j from rfl] at w2
  generalize pn i = P at *
  generalize pn j = Q at *
  unfold l_parts b_l_parts
  cases x with
  | none =>
    cases y with
    | none => simp [w1, w2, bad]
    | some b => simp [w1, w2, bad]
  | some a =>
    cases y with
    | none => simp [w1, w2, bad]
    | some b =>
      obtain ⟨d1, f1, f2⟩ := flag_is h (i := a) l1
      obtain ⟨d2, f3, f4⟩ := flag_is h (i := b) l2
      rw [show pn a = oN (some a) from rfl] at f1
      rw [show pn b = oN (some b) from rfl] at f3
      simp [w1, w2, bad, f1, f2, f3, f4]
end
/-! ### pairs as data -/
def kD (p : Pr) : Dt := .tuple [oN p.1, oN p.2]
def eD (e : En) : Dt := .tuple [oN e.1.1, oN e.1.2, .str (tx e.2)]
def qD (e : Pr × Nat) : Dt := .tuple [oN e.1.1, oN e.1.2, pn e.2]
def nO : Option Nat → NestedKey
  | none => .none
  | some i => .num (i : Int)
def nK (p : Pr) : NestedKey := .tup [nO p.1, nO p.2]
theorem nkS_o (o : Option Nat) : nkS (oN o) = some (nO o) := by cases o <;> rfl
theorem nkD_k (p : Pr) : nkD (kD p) = some (nK p) := by
  obtain ⟨a, b⟩ := p
  cases a <;> cases b <;> rfl
theorem nO_inj {a b : Option Nat} (h : nO a = nO b) : a = b := by
  cases a <;> cases b <;> first | rfl | (cases h; done) | skip
  rename_i i j
  unfold nO at h
  injection h with h
  have : i = j := by omega
  rw [this]
theorem nK_inj {p q : Pr} (h : nK p = nK q) : p = q := by
  unfold nK at h
  injection h with h
  injection h with h1 h2
  injection h2 with h2 _
  exact Prod.ext (nO_inj h1) (nO_inj h2)
theorem hasK_line (L : List En) (q : Pr) : hasK (L.map fun e => (kD e.1, PyData.bool true)) (nK q) = decide (q ∈ L.map (·.1)) := by
  unfold hasK
  rw [List.any_map, Bool.eq_iff_iff, List.any_eq_true, decide_eq_true_eq, List.mem_map]
  constructor
  · rintro ⟨e, he, h⟩
    have h := of_decide_eq_true h
    rw [nkD_k] at h
    exact ⟨e, he, nK_inj (Option.some.inj h)⟩
  · rintro ⟨e, he, rfl⟩
    exact ⟨e, he, decide_eq_true (nkD_k e.1)⟩
theorem eqv_o (a b : Option Nat) : PyData.eqv (oN a) (oN b) = decide (a = b) := by
  cases a with
  | none => cases b <;> rfl
  | some i =>
    cases b with
    | none => rfl
    | some j =>
      show PyData.eqv (pn i) (pn j) = _
      rw [eqv_pn]
      by_cases h : i = j <;> simp [h]
theorem eqv_k (p q : Pr) : PyData.eqv (kD p) (kD q) = decide (p = q) := by
  obtain ⟨a, b⟩ := p
  obtain ⟨c, d⟩ := q
  unfold kD PyData.eqv PyData.eqvAll PyData.eqvAll PyData.eqvAll
  rw [eqv_o, eqv_o]
  by_cases h1 : a = c <;> by_cases h2 : b = d <;> simp [h1, h2]
theorem lay_o (o : Option Nat) : (oN o).canLay0 = true ∧ (oN o).depth = 0 := by
  cases o with
  | none => exact ⟨by unfold oN PyData.canLay0; rfl, by unfold oN PyData.depth; rfl⟩
  | some i => exact ⟨by unfold oN pn PyData.canLay0; rfl, by unfold oN pn PyData.depth; rfl⟩
theorem lay_k (p : Pr) : (kD p).canLay0 = true ∧ (kD p).depth = 1 := by
  obtain ⟨a1, a2⟩ := lay_o p.1
  obtain ⟨b1, b2⟩ := lay_o p.2
  constructor
  · unfold kD PyData.canLay0 PyData.canLayAll0 PyData.canLayAll0 PyData.canLayAll0
    rw [a1, b1]; rfl
  · unfold kD PyData.depth PyData.depthAll PyData.depthAll PyData.depthAll
    rw [a2, b2]; rfl
theorem lay_q (e : Pr × Nat) : (qD e).canLay0 = true ∧ (qD e).depth = 1 := by
  obtain ⟨a1, a2⟩ := lay_o e.1.1
  obtain ⟨b1, b2⟩ := lay_o e.1.2
  obtain ⟨c1, c2⟩ := lay_o (some e.2)
  constructor
  · unfold qD PyData.canLay0 PyData.canLayAll0 PyData.canLayAll0 PyData.canLayAll0 PyData.canLayAll0
    rw [a1, b1, show (pn e.2).canLay0 = true from c1]; rfl
  · unfold qD PyData.depth PyData.depthAll PyData.depthAll PyData.depthAll PyData.depthAll
    rw [a2, b2, show (pn e.2).depth = 0 from c2]; rfl
theorem lay_map {α : Type} (f : α → Dt) (h : ∀ a, (f a).canLay0 = true ∧ (f a).depth = 1) : ∀ l : List α, PyData.canLayAll0 (l.map f) = true ∧ PyData.depthAll (l.map f) ≤ 1
  | [] => ⟨by rw [List.map_nil]; unfold PyData.canLayAll0; rfl, by rw [List.map_nil]; unfold PyData.depthAll; exact Nat.zero_le _⟩
  | a :: l => by
    obtain ⟨i1, i2⟩ := lay_map f h l
    obtain ⟨h1, h2⟩ := h a
    rw [List.map_cons]
    exact ⟨by unfold PyData.canLayAll0; rw [h1, i1]; rfl, by unfold PyData.depthAll; rw [h2]; exact Nat.max_le.mpr ⟨Nat.le_refl _, i2⟩⟩
theorem shaped_map {α : Type} (f : α → Dt) (h : ∀ a, (f a).canLay0 = true ∧ (f a).depth = 1) (l : List α) : SeqAt.shaped (.list (l.map f)) = true := by
  obtain ⟨h1, h2⟩ := lay_map f h l
  exact lay_shaped (by unfold PyData.canLay0; exact h1) (by unfold PyData.depth; omega)
theorem gNe_k (p q : Pr) : gNe (kD p) (kD q) = some (.bool (!decide (p = q))) := by
  have h : gEqB (kD p) (kD q) = some (decide (p = q)) := by
    have h1 : SeqAt.shaped (kD p) = true := lay_shaped (lay_k p).1 (by rw [(lay_k p).2]; omega)
    have h2 : SeqAt.shaped (kD q) = true := lay_shaped (lay_k q).1 (by rw [(lay_k q).2]; omega)
    have e := eqv_k p q
    show (if (SeqAt.shaped (kD p) && SeqAt.shaped (kD q)) = true then some (PyData.eqv (kD p) (kD q)) else none) = _
    rw [h1, h2, e]
    rfl
  unfold gNe
  rw [h]
  rfl
theorem gNotIn_k (p : Pr) (S : List Pr) : gNotIn (kD p) (.list (S.map kD)) = some (.bool (!decide (p ∈ S))) := by
  have h1 : SeqAt.shaped (kD p) = true := lay_shaped (lay_k p).1 (by rw [(lay_k p).2]; omega)
  have h2 := shaped_map kD lay_k S
  have h : gInB (kD p) (.list (S.map kD)) = some (decide (p ∈ S)) := by
    have h3 : ((S.map kD).any fun z => PyData.eqv z (kD p)) = decide (p ∈ S) := by
      rw [List.any_map, Bool.eq_iff_iff, List.any_eq_true, decide_eq_true_eq]
      constructor
      · rintro ⟨q, hq, e⟩
        have e : PyData.eqv (kD q) (kD p) = true := e
        rw [eqv_k, decide_eq_true_eq] at e
        rw [← e]; exact hq
      · intro hq
        refine ⟨p, hq, ?_⟩
        show PyData.eqv (kD p) (kD p) = true
        rw [eqv_k]
        simp
    show (if (flatD (kD p) && (S.map kD).all flatD) = true then some ((S.map kD).any fun z => PyData.eqv z (kD p)) else if (SeqAt.shaped (kD p) && SeqAt.shaped (.list (S.map kD))) = true then some ((S.map kD).any fun z => PyData.eqv z (kD p)) else none) = _
    rw [show flatD (kD p) = false from rfl, Bool.false_and, if_neg Bool.false_ne_true, h1, h2, h3]
    rfl
  unfold gNotIn
  rw [h]
  rfl
theorem gNe_q (Q : List (Pr × Nat)) : gNe (.list (Q.map qD)) (.list []) = some (.bool (!decide (Q = []))) := by
  have h2 := shaped_map qD lay_q Q
  have h : gEqB (.list (Q.map qD)) (.list []) = some (decide (Q = [])) := by
    have h3 : PyData.eqv (.list (Q.map qD)) (.list []) = decide (Q = []) := by
      unfold PyData.eqv
      cases Q with
      | nil => rw [List.map_nil]; unfold PyData.eqvAll; rfl
      | cons x xs => rw [List.map_cons]; unfold PyData.eqvAll; simp
    rw [gEqB_sh h2 (by decide +kernel) rfl rfl, h3]
  unfold gNe
  rw [h]
  rfl
end K27
/-! K27AG: the program's search. -/
namespace K27
open PySem L2 PD
def kds (L : List En) : List (Dt × Dt) := L.map fun e => (kD e.1, PyData.bool true)
def stQ (M : List Dt) (x y : Dt) (n : Int) (a b : Nat) (w : Wd) (L : List En) : Ev := [.sh (.tuple M), .sh x, .sh y, .ow (L.map eD), .od (kds L), .sh (.int n), .sh (pn a), .sh (pn b), .sh (.str (tx w)), .un, .un]
def bodyQ : F := (sSeq (sSet 10 (mTup (mCons (mCall f_way_of (mCons (mVar 0) (mCons (mVar 6) (mCons (mVar 9) mNil)))) (mCons (mCall f_way_of (mCons (mVar 0) (mCons (mVar 7) (mCons (mVar 9) mNil)))) mNil))))
  (sIf (mAndT (mTst (mNotInD 4 (mVar 10))) (mTst (mOp2 gNe (mVar 10) (mTup (mCons (mC .none) (mCons (mC .none) mNil))))))
  (sSeq (sPutD 4 (mC (.bool true)) (mVar 10))
  (sDrop (mOwn 3 fAppend (mCons (mOp2 gAdd (mVar 10) (mTup (mCons (mOp2 gAdd (mVar 8) (mVar 9)) mNil))) mNil))))
  sNil))
section
variable {A : List Nat} {M : List Dt} {x y : Dt} {n : Int} {a b : Nat} {w : Wd}
theorem add_word {w : Wd} {c : Nat} (hw : w.length ≤ 500) : gAdd (.str (tx w)) (sgD c) = some (.str (tx (w ++ [c]))) := by
  show gAdd (.str (tx w)) (.str (tx [c])) = _
  rw [gAdd_s _ _ (by rw [tx_len, tx_len]; exact le_line (by simp; omega))]
  refine congrArg (fun z => some (PyData.str z)) ?_
  show (⟨w.toArray ++ [c].toArray⟩ : Str) = ⟨(w ++ [c]).toArray⟩
  rw [List.append_toArray]
theorem step_q (h : Mach A M) (ha : a < M.length) (hb : b < M.length) (hw : w.length ≤ 500) {L : List En} (hL : L.length ≤ 1000) (c : Nat) :
    ∃ ρ2, bodyQ ((stQ M x y n a b w L).set 9 (.sh (sgD c))) = some (.nx ρ2) ∧
      kills [9, 10] ρ2 = stQ M x y n a b w (if suc (mcOf M) (some a, some b) c ∉ L.map (·.1) ∧ suc (mcOf M) (some a, some b) c ≠ (none, none) then L ++ [(suc (mcOf M) (some a, some b) c, w ++ [c])] else L) := by
  have w1 := way_ok h ha c
  have w2 := way_ok h hb c
  have hq : (.tuple [oN ((mcOf M).d a c), oN ((mcOf M).d b c)] : Dt) = kD (suc (mcOf M) (some a, some b) c) := rfl
  have hadd : gAdd (kD (suc (mcOf M) (some a, some b) c)) (.tuple [.str (tx (w ++ [c]))]) = some (eD (suc (mcOf M) (some a, some b) c, w ++ [c])) := gAdd_t _ _ (le_line (by simp))
  generalize suc (mcOf M) (some a, some b) c = q at *
  have hk := hasK_line L q
  have hn := nkD_k q
  have hne := gNe_k q (none, none)
  rw [show kD (none, none) = .tuple [.none, .none] from rfl] at hne
  have haw := add_word (w := w) (c := c) hw
  have happ : fAppend (L.map eD) [eD (q, w ++ [c])] = some (.none, L.map eD ++ [eD (q, w ++ [c])]) := if_pos (by rw [List.length_map, sizeLine_eq]; omega)
  have hds : (kds L).length < sizeLine := by unfold kds; rw [List.length_map, sizeLine_eq]; omega
  have s1 : sSet 10 (mTup (mCons (mCall f_way_of (mCons (mVar 0) (mCons (mVar 6) (mCons (mVar 9) mNil)))) (mCons (mCall f_way_of (mCons (mVar 0) (mCons (mVar 7) (mCons (mVar 9) mNil)))) mNil))) ((stQ M x y n a b w L).set 9 (.sh (sgD c))) = some (.nx (((stQ M x y n a b w L).set 9 (.sh (sgD c))).set 10 (.sh (kD q)))) := by
    unfold stQ
    simp [w1, w2, fits_small, hq]
  have t1 : mNotInD 4 (mVar 10) (((stQ M x y n a b w L).set 9 (.sh (sgD c))).set 10 (.sh (kD q))) = some (.ok (.val (.bool (!decide (q ∈ L.map (·.1))))) (((stQ M x y n a b w L).set 9 (.sh (sgD c))).set 10 (.sh (kD q)))) := by
    unfold mNotInD stQ
    rw [ev_bd, ev_mVar]
    show hasX (nkD (kD q)) (some (.od (kds L))) _ = _
    rw [hn]
    show some (Ex.ok (Rv.val (PyData.bool (!hasK (kds L) (nK q)))) _) = _
    unfold kds
    rw [hk]
  unfold bodyQ
  rw [ev_seq, s1, sx_nx, ev_sif, ev_andT, ev_tst, t1, bx_ok, tb_b, bx_ok]
  by_cases hin : q ∈ L.map (·.1)
  · rw [if_neg (fun z => z.1 hin), decide_eq_true hin]
    exact ⟨((stQ M x y n a b w L).set 9 (.sh (sgD c))).set 10 (.sh (kD q)), rfl, rfl⟩
  · rw [decide_eq_false hin]
    have t2 : mTst (mOp2 gNe (mVar 10) (mTup (mCons (mC .none) (mCons (mC .none) mNil)))) (((stQ M x y n a b w L).set 9 (.sh (sgD c))).set 10 (.sh (kD q))) = some (.ok (!decide (q = (none, none))) (((stQ M x y n a b w L).set 9 (.sh (sgD c))).set 10 (.sh (kD q)))) := by
      unfold stQ
      simp [fits_small, hne]
    rw [Bool.not_false, two_t, t2, fromE_ok]
    by_cases hz : q = (none, none)
    · rw [if_neg (fun z => z.2 hz), decide_eq_true hz]
      exact ⟨((stQ M x y n a b w L).set 9 (.sh (sgD c))).set 10 (.sh (kD q)), rfl, rfl⟩
    · rw [if_pos ⟨hin, hz⟩, decide_eq_false hz, Bool.not_false, two_t]
      have s2 : sPutD 4 (mC (.bool true)) (mVar 10) (((stQ M x y n a b w L).set 9 (.sh (sgD c))).set 10 (.sh (kD q))) = some (.nx ((((stQ M x y n a b w L).set 9 (.sh (sgD c))).set 10 (.sh (kD q))).set 4 (.od (kds L ++ [(kD q, .bool true)])))) := by
        have hb2 : (bd (mC (.bool true)) fun r => bd (asV r) fun vd => bd (odNow 4) fun _ => bd (mVar 10) fun r2 => bd (asV r2) fun kd => pur (vd, kd)) (((stQ M x y n a b w L).set 9 (.sh (sgD c))).set 10 (.sh (kD q))) = some (.ok (PyData.bool true, kD q) (((stQ M x y n a b w L).set 9 (.sh (sgD c))).set 10 (.sh (kD q)))) := rfl
        unfold sPutD
        rw [hb2, fromE_ok]
        show putX 4 (kD q) (PyData.bool true) (nkD (kD q)) (some (.od (kds L))) _ = _
        rw [hn]
        show (if hasK (kds L) (nK q) = false ∧ (kds L).length < sizeLine then _ else none) = _
        have hk2 : hasK (kds L) (nK q) = false := by
          unfold kds
          rw [hk]
          exact decide_eq_false hin
        rw [if_pos ⟨hk2, hds⟩]
      refine ⟨[.sh (.tuple M), .sh x, .sh y, .ow (L.map eD ++ [eD (q, w ++ [c])]), .od (kds L ++ [(kD q, .bool true)]), .sh (.int n), .sh (pn a), .sh (pn b), .sh (.str (tx w)), .sh (sgD c), .sh (kD q)], ?_, ?_⟩
      · rw [ev_seq, s2, sx_nx]
        unfold stQ
        generalize fAppend = FA at *
        generalize kD q = kq at *
        generalize eD (q, w ++ [c]) = eq at *
        simp [haw, hadd, happ, fits_small]
      · unfold stQ kds
        rw [List.map_append, List.map_append]
        rfl
theorem loop_q (h : Mach A M) (ha : a < M.length) (hb : b < M.length) (hw : w.length ≤ 500) : ∀ (cs : List Nat) (L : List En), L.length + cs.length ≤ 1000 → sFor [9, 10] (gN 9) bodyQ (cs.map sgD) (stQ M x y n a b w L) = some (.nx (stQ M x y n a b w (addS (mcOf M) (some a, some b) w cs L)))
  | [], L, _ => rfl
  | c :: cs, L, hL => by
    rw [List.length_cons] at hL
    obtain ⟨ρ2, e1, e2⟩ := step_q (x := x) (y := y) (n := n) h ha hb hw (L := L) (by omega) c
    have hg : gN 9 (sgD c) (stQ M x y n a b w L) = some ((stQ M x y n a b w L).set 9 (.sh (sgD c))) := by unfold stQ; simp
    rw [List.map_cons, sFor_step hg e1, e2]
    unfold addS
    split
    · exact loop_q h ha hb hw cs _ (by rw [List.length_append]; simp; omega)
    · exact loop_q h ha hb hw cs _ (by omega)
theorem ev_augX {i : Nat} {g : Dt → Dt → Option Dt} {m : PD.M Rv} {ρ ρ' : Ev} {v u z : Dt} (h : ρ[i]? = some (.sh v)) (hm : m ρ = some (.ok (.val u) ρ')) (hg : g v u = some z) : sAug i g m ρ = some (.nx (ρ'.set i (.sh z))) := by
  unfold sAug
  rw [h]
  dsimp only
  rw [ev_bd, hm, bx_ok, ev_bd]
  show fromE _ (bx (some (.ok u ρ')) fun y => opt (g v y)) = _
  rw [bx_ok, hg]
  rfl
def stP (M : List Dt) (x y : Dt) (n : Nat) (L : List En) : Ev := [.sh (.tuple M), .sh x, .sh y, .ow (L.map eD), .od (kds L), .sh (pn n), .un, .un, .un, .un, .un]
def stR (M : List Dt) (x y : Dt) (n : Nat) (L : List En) (e : En) : Ev := [.sh (.tuple M), .sh x, .sh y, .ow (L.map eD), .od (kds L), .sh (pn n), .sh (oN e.1.1), .sh (oN e.1.2), .sh (.str (tx e.2)), .un, .un]
def condP : PD.M Bool := mTst (mOp2 gLtA (mVar 5) (mOpN gLen (mCons (mVar 3) mNil)))
def ifP : F := sIf (mOrT (mTst (mOp2 gIsN (mVar 6) (mC .none))) (mOrT (mTst (mOp2 gIsN (mVar 7) (mC .none))) (mTst (mOp2 gNe (mOp2 gIx (mOp2 gIx (mVar 0) (mVar 6)) (mC (.int 0))) (mOp2 gIx (mOp2 gIx (mVar 0) (mVar 7)) (mC (.int 0)))))))
  (sRet (mVar 8))
  sNil
def bodyP : F := (sSeq (sAsg (gT 3 (gCons (gN 6) (gCons (gN 7) (gCons (gN 8) gNil)))) (mOp2 gIx (mVar 3) (mVar 5)))
  (sSeq (sAug 5 gAddI (mC (.int 1)))
  (sSeq ifP
  w_f_parting_word_0)))
theorem cond_p {n : Nat} {L : List En} (hL : L.length ≤ 1000) : condP (stP M x y n L) = some (.ok (decide (n < L.length)) (stP M x y n L)) := by
  have e : decide ((n : Int) < (L.length : Int)) = decide (n < L.length) := decide_eq_decide.mpr (by omega)
  unfold condP stP pn
  simp [e]
theorem head_p {n : Nat} {L : List En} {e : En} (he : L[n]? = some e) : sAsg (gT 3 (gCons (gN 6) (gCons (gN 7) (gCons (gN 8) gNil)))) (mOp2 gIx (mVar 3) (mVar 5)) (stP M x y n L) = some (.nx (stR M x y n L e)) := by
  have hlt := (List.getElem?_eq_some_iff.mp he).1
  have hx : gIx (.list (L.map eD)) (pn n) = some (eD e) := by
    show atI (L.map eD) (n : Int) = _
    rw [atI_nat (by rw [List.length_map]; exact hlt), List.getElem_map]
    rw [List.getElem?_eq_getElem hlt] at he
    rw [Option.some.inj he]
  unfold stP stR
  generalize pn n = P at *
  simp [hx]
  unfold eD
  simp
theorem aug_p {n : Nat} {L : List En} {e : En} : sAug 5 gAddI (mC (.int 1)) (stR M x y n L e) = some (.nx (stR M x y (n + 1) L e)) := by
  rw [ev_augX (v := pn n) (u := .int 1) (z := pn (n + 1)) (ρ' := stR M x y n L e) rfl rfl (by
    show some (PyData.int ((n : Int) + 1)) = some (PyData.int ((n + 1 : Nat) : Int))
    rw [Int.natCast_add]
    rfl)]
  rfl
theorem if_p (h : Mach A M) {n : Nat} {L : List En} {e : En} (hl : ltO M.length e.1.1 ∧ ltO M.length e.1.2) (hn : e.1 ≠ (none, none)) : ifP (stR M x y n L e) = if bad (mcOf M) e.1 = true then some (.rt (.str (tx e.2)) (stR M x y n L e)) else some (.nx (stR M x y n L e)) := by
  obtain ⟨⟨o1, o2⟩, w⟩ := e
  unfold ifP stR
  generalize pn n = P at *
  cases o1 with
  | none =>
    cases o2 with
    | none => exact absurd rfl hn
    | some b => simp [bad]
  | some a =>
    cases o2 with
    | none => simp [bad]
    | some b =>
      obtain ⟨d1, f1, f2⟩ := flag_is h (i := a) hl.1
      obtain ⟨d2, f3, f4⟩ := flag_is h (i := b) hl.2
      rw [show pn a = oN (some a) from rfl] at f1
      rw [show pn b = oN (some b) from rfl] at f3
      by_cases hf : (mcOf M).fl a = (mcOf M).fl b
      · simp [bad, f1, f2, f3, f4, hf]
      · simp [bad, f1, f2, f3, f4, hf]
theorem w_q (h : Mach A M) (ha : a < M.length) (hb : b < M.length) (hw : w.length ≤ 500) {n : Nat} {L : List En} (hL : L.length ≤ 900) : w_f_parting_word_0 (stR M x y n L ((some a, some b), w)) = some (.nx (stR M x y n (addS (mcOf M) (some a, some b) w CH L) ((some a, some b), w))) := by
  have hq := loop_q (x := x) (y := y) (n := (n : Int)) h ha hb hw CH L (by rw [CH_len]; omega)
  unfold w_f_parting_word_0
  rw [ev_for, show mItems (mC (.str cs_CHARACTERS)) (stR M x y n L ((some a, some b), w)) = some (.ok (CH.map sgD) (stR M x y n L ((some a, some b), w))) by rw [cs_is]; simp]
  exact hq
end
end K27
/-! K27AH: what the program's search tells. -/
namespace K27
open PySem L2 PD
theorem sWhile_rt {kl : List Nat} {c : PD.M Bool} {b : F} {n : Nat} {ρ ρ1 ρ2 : Ev} {d : Dt} (h : c ρ = some (.ok true ρ1)) (h2 : b ρ1 = some (.rt d ρ2)) : sWhile kl c b (n + 1) ρ = some (.rt d ρ2) := by
  conv => lhs; unfold sWhile
  rw [h]
  show (match b ρ1 with | some (.nx ρ2) => _ | some (.ct ρ2) => _ | some (.bk ρ2) => _ | o => o) = _
  rw [h2]
def B4 : List Nat := ("abc~" : Str).cps.toList
theorem B4_CH : CH.filter (fun c => decide (c ∈ B4)) = B4 := by decide +kernel
theorem pr_same {M : Mc} {A : List Nat} (hM : McOk M A) (hA : ∀ c ∈ A, c ∈ B4) {one other : Nat} : ∀ (N n : Nat) (L : List En), Line M one other L → pr M CH N n L = pr M B4 N n L
  | 0, n, L, _ => rfl
  | N + 1, n, L, h => by
    unfold pr
    cases hl : L[n]? with
    | none => rfl
    | some e =>
      dsimp only
      have he := List.mem_of_getElem? hl
      cases hb : bad M e.1 with
      | true => rfl
      | false =>
        rw [if_neg Bool.false_ne_true, if_neg Bool.false_ne_true]
        obtain ⟨a, b, eab, _⟩ := good_some hb (h.nn e he)
        have hlt := h.lt e he
        rw [eab] at hlt
        have e1 : addS M e.1 e.2 CH L = addS M e.1 e.2 B4 L := by
          rw [eab, addS_some hM hlt.1 hlt.2 B4 hA CH L, B4_CH]
        rw [e1]
        exact pr_same hM hA N (n + 1) _ (addS_line hM (h.lt e he) (h.wk e he) B4 L h)
def ansF (r : Option Wd) (ρ : Ev) : Option Fl := match r with
  | none => some (.nx ρ)
  | some w => some (.rt (.str (tx w)) ρ)
def ansD (r : Option Wd) : Dt := match r with
  | none => .none
  | some w => .str (tx w)
section
variable {A : List Nat} {M : List Dt} {x y : Dt}
theorem prog_ok (h : Mach A M) {one other : Nat} : ∀ (N n : Nat) (L : List En) (r : Option Wd), Line (mcOf M) one other L → n ≤ L.length → (∀ e ∈ L, e.2.length ≤ n) → pr (mcOf M) CH N n L = some r → ∃ ρ', sWhile [6, 7, 8, 9, 10] condP bodyP N (stP M x y n L) = ansF r ρ'
  | 0, n, L, r, _, _, _, e => nomatch e
  | N + 1, n, L, r, hl, hn, hw, e => by
    have hlen := hl.len h.few
    unfold pr at e
    have hc := cond_p (M := M) (x := x) (y := y) (n := n) (L := L) (by omega)
    cases hx : L[n]? with
    | none =>
      rw [hx] at e
      cases e
      have hge : ¬ n < L.length := fun z => by rw [List.getElem?_eq_getElem z] at hx; cases hx
      rw [decide_eq_false hge] at hc
      exact ⟨_, sWhile_stop hc⟩
    | some e0 =>
      rw [hx] at e
      dsimp only at e
      have hlt := (List.getElem?_eq_some_iff.mp hx).1
      rw [decide_eq_true hlt] at hc
      have hm := List.mem_of_getElem? hx
      have hi := if_p h (x := x) (y := y) (n := n + 1) (L := L) (e := e0) (hl.lt e0 hm) (hl.nn e0 hm)
      cases hb : bad (mcOf M) e0.1 with
      | true =>
        rw [hb] at e hi
        cases e
        have hb2 : bodyP (stP M x y n L) = some (.rt (.str (tx e0.2)) (stR M x y (n + 1) L e0)) := by
          unfold bodyP
          rw [ev_seq, head_p hx, sx_nx, ev_seq, aug_p, sx_nx, ev_seq, hi, if_pos rfl, sx_rt]
        exact ⟨stR M x y (n + 1) L e0, sWhile_rt hc hb2⟩
      | false =>
        rw [hb] at e hi
        rw [if_neg Bool.false_ne_true] at e hi
        obtain ⟨a, b, eab, _⟩ := good_some hb (hl.nn e0 hm)
        have hab := hl.lt e0 hm
        rw [eab] at hab
        have he0 : e0 = ((some a, some b), e0.2) := Prod.ext eab rfl
        have hwl := hw e0 hm
        have hwq := w_q h (x := x) (y := y) (n := n + 1) (L := L) (w := e0.2) hab.1 hab.2 (by omega) (by omega)
        rw [← he0] at hwq
        have hb2 : bodyP (stP M x y n L) = some (.nx (stR M x y (n + 1) (addS (mcOf M) (some a, some b) e0.2 CH L) e0)) := by
          unfold bodyP
          rw [ev_seq, head_p hx, sx_nx, ev_seq, aug_p, sx_nx, ev_seq, hi, sx_nx, hwq]
        rw [sWhile_step hc hb2]
        rw [eab] at e
        have hl2 := addS_line (mc_ok h) (hl.lt e0 hm) (hl.wk e0 hm) CH L hl
        rw [eab] at hl2
        obtain ⟨X, x1, _, x3⟩ := addS_dd (M := mcOf M) (p := (some a, some b)) (w := e0.2) CH L
        refine prog_ok h N (n + 1) _ r hl2 (by rw [x1, List.length_append]; omega) (fun z hz => ?_) e
        rw [x1] at hz
        rcases List.mem_append.mp hz with hz | hz
        · have := hw z hz; omega
        · obtain ⟨c, _, rfl, _⟩ := x3 z hz
          show (e0.2 ++ [c]).length ≤ n + 1
          rw [List.length_append]
          show e0.2.length + 1 ≤ n + 1
          omega
theorem setP_k (i : Nat) (is : List Nat) (x : List (Dt × Dt)) (ps : List Pv) (ρ : Ev) : setP (i :: is) (.k x :: ps) ρ = setP is ps (ρ.set i (.od x)) := by rw [setP]
theorem need_mach {d : Dt} (ht : tame d = true) : f_need_machine [.sh d] = if machB d = true then some (.ok (.val .none) [.sh d]) else some (.ex "InvalidMachine" [.sh d]) := by
  have e := machine_ok ht
  unfold f_need_machine b_f_need_machine
  cases hb : machB d with
  | true => rw [hb] at e; simp [e]
  | false => rw [hb] at e; simp [e]
theorem need_st {d : Dt} (hd : noDc d = true) : f_need_state [.sh (.tuple M), .sh d] = if wholeB d 0 ((M.length : Int) - 1) = true then some (.ok (.val .none) [.sh (.tuple M), .sh d]) else some (.ex "InvalidNumber" [.sh (.tuple M), .sh d]) := by
  have e := whole_ok hd 0 ((M.length : Int) - 1)
  unfold f_need_state b_f_need_state
  cases hb : wholeB d 0 ((M.length : Int) - 1) with
  | true => rw [hb] at e; simp [e]
  | false => rw [hb] at e; simp [e]
theorem whole_pn {i : Nat} (hi : i < M.length) : wholeB (pn i) 0 ((M.length : Int) - 1) = true := by
  show (decide ((0 : Int) ≤ (i : Int)) && decide ((i : Int) ≤ (M.length : Int) - 1)) = true
  rw [decide_eq_true (by omega), decide_eq_true (by omega)]
  rfl
theorem part_ok (h : Mach A M) (hA : ∀ c ∈ A, c ∈ B4) (hb : machB (.tuple M) = true) (ht : tame (.tuple M) = true) {i j : Nat} (hi : i < M.length) (hj : j < M.length) {r : Option Wd} (e : pr (mcOf M) B4 60 0 [((some i, some j), [])] = some r) :
    f_parting_word [.sh (.tuple M), .sh (pn i), .sh (pn j)] = some (.ok (.val (ansD r)) [.sh (.tuple M), .sh (pn i), .sh (pn j)]) := by
  have n1 := need_mach ht
  rw [hb, if_pos rfl] at n1
  have n2 := need_st (M := M) (d := pn i) rfl
  rw [whole_pn hi, if_pos rfl] at n2
  have n3 := need_st (M := M) (d := pn j) rfl
  rw [whole_pn hj, if_pos rfl] at n3
  have line : Line (mcOf M) i j [((some i, some j), [])] := by
    refine ⟨fun e he => ?_, fun e he => ?_, ?_, fun e he => ?_⟩
    · rw [List.mem_singleton] at he
      rw [he]; exact ⟨hi, hj⟩
    · rw [List.mem_singleton] at he
      rw [he]; exact fun z => nomatch z
    · simp
    · rw [List.mem_singleton] at he
      rw [he]; rfl
  rw [← pr_same (mc_ok h) hA 60 0 _ line] at e
  obtain ⟨ρ', hw⟩ := prog_ok (x := pn i) (y := pn j) h 60 0 _ r line (Nat.zero_le _) (fun e he => by
    rw [List.mem_singleton] at he
    rw [he]; exact Nat.le_refl _) e
  have hw1 : w_f_parting_word_1 (stP M (pn i) (pn j) 0 [((some i, some j), [])]) = ansF r ρ' := hw
  have hE : ("" : Str) = tx [] := empty_tx
  have hp : sPar [3, 4, 5] (mPo (mLst (mCons (mTup (mCons (mVar 1) (mCons (mVar 2) (mCons (mC (.str "")) mNil)))) mNil)) (mPk (mDisp1 (mTup (mCons (mVar 1) (mCons (mVar 2) mNil))) (mC (.bool true))) (mPd (mC (.int 0)) mPn))) [.sh (.tuple M), .sh (pn i), .sh (pn j), .un, .un, .un, .un, .un, .un, .un, .un] = some (.nx (stP M (pn i) (pn j) 0 [((some i, some j), [])])) := by
    have k1 : mDisp1 (mTup (mCons (mVar 1) (mCons (mVar 2) mNil))) (mC (.bool true)) [.sh (.tuple M), .sh (pn i), .sh (pn j), .un, .un, .un, .un, .un, .un, .un, .un] = some (.ok [(kD (some i, some j), .bool true)] [.sh (.tuple M), .sh (pn i), .sh (pn j), .un, .un, .un, .un, .un, .un, .un, .un]) := by
      have t1 : mTup (mCons (mVar 1) (mCons (mVar 2) mNil)) [.sh (.tuple M), .sh (pn i), .sh (pn j), .un, .un, .un, .un, .un, .un, .un, .un] = some (.ok (.val (kD (some i, some j))) [.sh (.tuple M), .sh (pn i), .sh (pn j), .un, .un, .un, .un, .un, .un, .un, .un]) := by
        unfold kD oN
        simp [fits_small]
      unfold mDisp1
      rw [ev_bd, t1, bx_ok]
      show opt ((nkD (kD (some i, some j))).map fun _ => [(kD (some i, some j), PyData.bool true)]) _ = _
      rw [nkD_k]
      rfl
    have k2 : mPk (mDisp1 (mTup (mCons (mVar 1) (mCons (mVar 2) mNil))) (mC (.bool true))) (mPd (mC (.int 0)) mPn) [.sh (.tuple M), .sh (pn i), .sh (pn j), .un, .un, .un, .un, .un, .un, .un, .un] = some (.ok [.k [(kD (some i, some j), .bool true)], .d (.int 0)] [.sh (.tuple M), .sh (pn i), .sh (pn j), .un, .un, .un, .un, .un, .un, .un, .un]) := by
      unfold mPk
      rw [ev_bd, k1, bx_ok, ev_bd]
      simp
    have k3 : mLst (mCons (mTup (mCons (mVar 1) (mCons (mVar 2) (mCons (mC (.str "")) mNil)))) mNil) [.sh (.tuple M), .sh (pn i), .sh (pn j), .un, .un, .un, .un, .un, .un, .un, .un] = some (.ok [eD ((some i, some j), [])] [.sh (.tuple M), .sh (pn i), .sh (pn j), .un, .un, .un, .un, .un, .un, .un, .un]) := by
      unfold eD oN
      rw [hE]
      simp [fits_small]
    rw [ev_par, ev_po, k3, bx_ok, k2, bx_ok, fromE_ok, if_pos (show ([.n [eD ((some i, some j), [])], .k [(kD (some i, some j), PyData.bool true)], .d (PyData.int 0)] : List Pv).length = [3, 4, 5].length from rfl), setP_o, setP_k, setP_d, setP_n]
    rfl
  unfold f_parting_word
  rw [run_if, if_pos ⟨rfl, rfl⟩]
  show fx _ (b_f_parting_word [.sh (.tuple M), .sh (pn i), .sh (pn j), .un, .un, .un, .un, .un, .un, .un, .un]) = _
  unfold b_f_parting_word
  have d1 : sDrop (mCall f_need_machine (mCons (mVar 0) mNil)) [.sh (.tuple M), .sh (pn i), .sh (pn j), .un, .un, .un, .un, .un, .un, .un, .un] = some (.nx [.sh (.tuple M), .sh (pn i), .sh (pn j), .un, .un, .un, .un, .un, .un, .un, .un]) := by simp [n1]
  have d2 : sDrop (mCall f_need_state (mCons (mVar 0) (mCons (mVar 1) mNil))) [.sh (.tuple M), .sh (pn i), .sh (pn j), .un, .un, .un, .un, .un, .un, .un, .un] = some (.nx [.sh (.tuple M), .sh (pn i), .sh (pn j), .un, .un, .un, .un, .un, .un, .un, .un]) := by simp [n2]
  have d3 : sDrop (mCall f_need_state (mCons (mVar 0) (mCons (mVar 2) mNil))) [.sh (.tuple M), .sh (pn i), .sh (pn j), .un, .un, .un, .un, .un, .un, .un, .un] = some (.nx [.sh (.tuple M), .sh (pn i), .sh (pn j), .un, .un, .un, .un, .un, .un, .un, .un]) := by simp [n3]
  rw [ev_seq, d1, sx_nx, ev_seq, d2, sx_nx, ev_seq, d3, sx_nx, ev_seq, hp, sx_nx, ev_seq, hw1]
  cases r with
  | none =>
    show fx _ (sx (some (.nx ρ')) _) = _
    rw [sx_nx]
    show fx _ (some (.rt .none ρ')) = _
    rw [fx_rt, bkS_bk]
    simp [ansD]
  | some w =>
    show fx _ (sx (some (.rt (.str (tx w)) ρ')) _) = _
    rw [sx_rt, fx_rt, bkS_bk]
    simp [ansD]
end
end K27
/-! K27AI: the law's own search. -/
namespace K27
open PySem L2 PD
def stA (M : List Dt) (x y : Dt) (Q : List (Pr × Nat)) (S : List Pr) : Ev := [.sh (.tuple M), .sh (.tuple M), .sh x, .sh y, .sh (.str (tx B4)), .sh (.list (Q.map qD)), .ow (S.map kD), .un, .un, .un, .un]
def stB (M : List Dt) (x y : Dt) (Q : List (Pr × Nat)) (S : List Pr) (e : Pr × Nat) : Ev := [.sh (.tuple M), .sh (.tuple M), .sh x, .sh y, .sh (.str (tx B4)), .sh (.list (Q.map qD)), .ow (S.map kD), .sh (oN e.1.1), .sh (oN e.1.2), .sh (pn e.2), .un]
def condA : PD.M Bool := mTst (mOp2 gNe (mVar 5) (mFrz (mLst mNil)))
def ifA : F := sIf (mOrT (mTst (mOp2 gNe (mOp2 gIsN (mVar 7) (mC .none)) (mOp2 gIsN (mVar 8) (mC .none)))) (mAndT (mTst (mOp2 gNotN (mVar 7) (mC .none))) (mTst (mOp2 gNe (mOp2 gIx (mOp2 gIx (mVar 0) (mVar 7)) (mC (.int 0))) (mOp2 gIx (mOp2 gIx (mVar 1) (mVar 8)) (mC (.int 0)))))))
  (sRet (mVar 9))
  sNil
def thenA : F := sIf (mAndT (mTst (mOp2 gNotN (mVar 7) (mC .none))) (mTst (mOp2 gNotIn (mTup (mCons (mVar 7) (mCons (mVar 8) mNil))) (mVar 6))))
  (sSeq (sDrop (mOwn 6 fAppend (mCons (mTup (mCons (mVar 7) (mCons (mVar 8) mNil))) mNil)))
  (sSet 5 (mOp2 gAdd (mVar 5) (mFrz q_l_parted_0))))
  sNil
def bodyA : F := (sSeq (sAsg (gT 3 (gCons (gN 7) (gCons (gN 8) (gCons (gN 9) gNil)))) (mOp2 gIx (mVar 5) (mC (.int 0))))
  (sSeq (sSet 5 (mSl gSlice (mVar 5) (mEnd (some (mC (.int 1)))) (mEnd none)))
  (sSeq ifA
  thenA)))
theorem gSl_tailL (x : Dt) (xs : List Dt) : gSlice (.list (x :: xs)) (some 1) none = some (.list xs) := by
  have h := gSl_tail x xs
  have h : some (PyData.tuple (cutD (x :: xs) (some 1) none)) = some (.tuple xs) := h
  show some (PyData.list (cutD (x :: xs) (some 1) none)) = _
  injection h with h
  injection h with h
  rw [h]
section
variable {A : List Nat} {M : List Dt} {x y : Dt}
theorem head_a {e : Pr × Nat} {Q : List (Pr × Nat)} {S : List Pr} : sAsg (gT 3 (gCons (gN 7) (gCons (gN 8) (gCons (gN 9) gNil)))) (mOp2 gIx (mVar 5) (mC (.int 0))) (stA M x y (e :: Q) S) = some (.nx (stB M x y (e :: Q) S e)) := by
  unfold stA stB
  rw [List.map_cons]
  generalize Q.map qD = QS at *
  generalize S.map kD = SS at *
  have hg : ∀ (ρ : Ev), gT 3 (gCons (gN 7) (gCons (gN 8) (gCons (gN 9) gNil))) (qD e) ρ = gCons (gN 7) (gCons (gN 8) (gCons (gN 9) gNil)) [oN e.1.1, oN e.1.2, pn e.2] ρ := fun ρ => rfl
  simp [hg]
theorem tail_a {e : Pr × Nat} {Q : List (Pr × Nat)} {S : List Pr} : sSet 5 (mSl gSlice (mVar 5) (mEnd (some (mC (.int 1)))) (mEnd none)) (stB M x y (e :: Q) S e) = some (.nx (stB M x y Q S e)) := by
  unfold stB
  rw [List.map_cons]
  generalize Q.map qD = QS at *
  generalize S.map kD = SS at *
  generalize qD e = qe at *
  simp [gSl_tailL]
theorem if_a (h : Mach A M) {e : Pr × Nat} {Q : List (Pr × Nat)} {S : List Pr} (hl : ltO M.length e.1.1 ∧ ltO M.length e.1.2) : ifA (stB M x y Q S e) = if bad (mcOf M) e.1 = true then some (.rt (pn e.2) (stB M x y Q S e)) else some (.nx (stB M x y Q S e)) := by
  obtain ⟨⟨o1, o2⟩, k⟩ := e
  unfold ifA stB
  generalize Q.map qD = QS at *
  generalize S.map kD = SS at *
  cases o1 with
  | none =>
    cases o2 with
    | none => simp [bad]
    | some b => simp [bad]
  | some a =>
    cases o2 with
    | none => simp [bad]
    | some b =>
      obtain ⟨d1, f1, f2⟩ := flag_is h (i := a) hl.1
      obtain ⟨d2, f3, f4⟩ := flag_is h (i := b) hl.2
      rw [show pn a = oN (some a) from rfl] at f1
      rw [show pn b = oN (some b) from rfl] at f3
      by_cases hf : (mcOf M).fl a = (mcOf M).fl b
      · simp [bad, f1, f2, f3, f4, hf]
      · simp [bad, f1, f2, f3, f4, hf]
theorem q_a (h : Mach A M) {a b k : Nat} (ha : a < M.length) (hb : b < M.length) {Q : List (Pr × Nat)} {SS : List Dt} : q_l_parted_0 ((stB M x y Q [] ((some a, some b), k)).set 6 (.ow SS)) = some (.ok ((B4.map fun c => (suc (mcOf M) (some a, some b) c, k + 1)).map qD) ((stB M x y Q [] ((some a, some b), k)).set 6 (.ow SS))) := by
  rw [List.map_map]
  unfold q_l_parted_0
  rw [mLc_all (ρ0 := (stB M x y Q [] ((some a, some b), k)).set 6 (.ow SS)) B4 sgD (fun c => qD (suc (mcOf M) (some a, some b) c, k + 1)) (by unfold stB; simp) rfl (fun c hc => ⟨((stB M x y Q [] ((some a, some b), k)).set 6 (.ow SS)).set 10 (.sh (sgD c)), by unfold stB; simp, by
    have w1 := lway_ok h ha c
    have w2 := lway_ok h hb c
    have e : (.tuple [oN ((mcOf M).d a c), oN ((mcOf M).d b c), .int ((k : Int) + 1)] : Dt) = qD (suc (mcOf M) (some a, some b) c, k + 1) := by
      unfold qD pn
      rw [Int.natCast_add]
      rfl
    rw [← e]
    rw [show pn a = oN (some a) from rfl] at w1
    rw [show pn b = oN (some b) from rfl] at w2
    unfold stB
    simp [w1, w2, fits_small, pn], rfl⟩) (le_line (by rw [show B4.length = 4 by decide +kernel]; decide))]
  rfl
theorem then_no {e : Pr × Nat} {Q : List (Pr × Nat)} {S : List Pr} (hn : ¬ (e.1.1.isSome ∧ e.1 ∉ S)) : thenA (stB M x y Q S e) = some (.nx (stB M x y Q S e)) := by
  have hk := gNotIn_k e.1 S
  unfold kD at hk
  obtain ⟨⟨o1, o2⟩, k⟩ := e
  unfold thenA stB
  generalize hSS : S.map kD = SS at *
  have hk : gNotIn (.tuple [oN o1, oN o2]) (.list SS) = some (.bool (!decide ((o1, o2) ∈ S))) := by rw [← hSS]; exact gNotIn_k (o1, o2) S
  cases o1 with
  | none => simp
  | some a =>
    have hin : (some a, o2) ∈ S := Classical.byContradiction fun z => hn ⟨rfl, z⟩
    rw [decide_eq_true hin] at hk
    simp [hk, fits_small]
theorem then_yes (h : Mach A M) {a b k : Nat} (ha : a < M.length) (hb : b < M.length) {Q : List (Pr × Nat)} {S : List Pr} (hn : (some a, some b) ∉ S) (hS : S.length ≤ 5000) (hQ : Q.length ≤ 5000) :
    thenA (stB M x y Q S ((some a, some b), k)) = some (.nx (stB M x y (Q ++ B4.map fun c => (suc (mcOf M) (some a, some b) c, k + 1)) (S ++ [(some a, some b)]) ((some a, some b), k))) := by
  have hk : gNotIn (kD (some a, some b)) (.list (S.map kD)) = some (.bool true) := by
    rw [gNotIn_k, decide_eq_false hn]
    rfl
  have happ : fAppend (S.map kD) [kD (some a, some b)] = some (.none, S.map kD ++ [kD (some a, some b)]) := if_pos (by rw [List.length_map, sizeLine_eq]; omega)
  have hq := q_a h (x := x) (y := y) (k := k) ha hb (Q := Q) (SS := S.map kD ++ [kD (some a, some b)])
  have hB : B4.length = 4 := by decide +kernel
  have hadd := gAdd_l (Q.map qD) ((B4.map fun c => (suc (mcOf M) (some a, some b) c, k + 1)).map qD) (by rw [List.length_map, List.length_map, List.length_map, hB]; exact le_line (by omega))
  have hk2 : (.tuple [oN (some a), oN (some b)] : Dt) = kD (some a, some b) := rfl
  have hfin : stB M x y (Q ++ B4.map fun c => (suc (mcOf M) (some a, some b) c, k + 1)) (S ++ [(some a, some b)]) ((some a, some b), k) = [.sh (.tuple M), .sh (.tuple M), .sh x, .sh y, .sh (.str (tx B4)), .sh (.list (Q.map qD ++ (B4.map fun c => (suc (mcOf M) (some a, some b) c, k + 1)).map qD)), .ow (S.map kD ++ [kD (some a, some b)]), .sh (oN (some a)), .sh (oN (some b)), .sh (pn k), .un] := by
    unfold stB
    rw [List.map_append, List.map_append]
    rfl
  rw [hfin]
  unfold stB at hq
  simp only [List.set_cons_succ, List.set_cons_zero] at hq
  unfold thenA stB
  generalize (B4.map fun c => (suc (mcOf M) (some a, some b) c, k + 1)).map qD = NS at *
  generalize q_l_parted_0 = QQ at *
  generalize Q.map qD = QS at *
  generalize S.map kD = SS at *
  generalize fAppend = FA at *
  generalize kD (some a, some b) = kk at *
  generalize tx B4 = TB at *
  simp [fits_small, hk2, hk, happ, hq, hadd]
def ansA (r : Option Nat) (ρ : Ev) : Option Fl := match r with
  | none => some (.nx ρ)
  | some k => some (.rt (pn k) ρ)
theorem law_search (h : Mach A M) : ∀ (n : Nat) (Q : List (Pr × Nat)) (S : List Pr) (r : Option Nat), (∀ e ∈ Q, ltO M.length e.1.1 ∧ ltO M.length e.1.2) → (∀ p ∈ S, bad (mcOf M) p = false) → Q.length + 4 * n ≤ 5000 → S.length + n ≤ 5000 → la (mcOf M) B4 n Q S = some r → ∃ ρ', sWhile [7, 8, 9, 10] condA bodyA n (stA M x y Q S) = ansA r ρ'
  | 0, Q, S, r, _, _, _, _, e => nomatch e
  | n + 1, [], S, r, _, _, _, _, e => by
    cases e
    have hc : condA (stA M x y [] S) = some (.ok false (stA M x y [] S)) := by
      have := gNe_q []
      unfold condA stA
      rw [List.map_nil] at this ⊢
      simp [this]
    exact ⟨_, sWhile_stop hc⟩
  | n + 1, e0 :: Q, S, r, hQ, hS, h1, h2, e => by
    have hc : condA (stA M x y (e0 :: Q) S) = some (.ok true (stA M x y (e0 :: Q) S)) := by
      have := gNe_q (e0 :: Q)
      unfold condA stA
      generalize (e0 :: Q).map qD = QS at *
      generalize S.map kD = SS at *
      simp [this]
    rw [List.length_cons] at h1
    have hl := hQ e0 List.mem_cons_self
    have hQ2 : ∀ e ∈ Q, ltO M.length e.1.1 ∧ ltO M.length e.1.2 := fun e he => hQ e (List.mem_cons_of_mem _ he)
    have hi := if_a h (x := x) (y := y) (Q := Q) (S := S) hl
    unfold la at e
    cases hb : bad (mcOf M) e0.1 with
    | true =>
      rw [hb] at e hi
      cases e
      have hb2 : bodyA (stA M x y (e0 :: Q) S) = some (.rt (pn e0.2) (stB M x y Q S e0)) := by
        unfold bodyA
        rw [ev_seq, head_a, sx_nx, ev_seq, tail_a, sx_nx, ev_seq, hi, if_pos rfl, sx_rt]
      exact ⟨_, sWhile_rt hc hb2⟩
    | false =>
      rw [hb] at e hi
      rw [if_neg Bool.false_ne_true] at e hi
      by_cases hn : e0.1.1.isSome ∧ e0.1 ∉ S
      · rw [if_pos hn] at e
        have hnn : e0.1 ≠ (none, none) := fun z => by rw [z] at hn; cases hn.1
        obtain ⟨a, b, eab, _⟩ := good_some hb hnn
        have he0 : e0 = ((some a, some b), e0.2) := Prod.ext eab rfl
        rw [eab] at hl hn e
        have ht := then_yes h (x := x) (y := y) (k := e0.2) hl.1 hl.2 (Q := Q) hn.2 (by omega) (by omega)
        rw [← he0] at ht
        have hb2 : bodyA (stA M x y (e0 :: Q) S) = some (.nx (stB M x y (Q ++ B4.map fun c => (suc (mcOf M) (some a, some b) c, e0.2 + 1)) (S ++ [(some a, some b)]) e0)) := by
          unfold bodyA
          rw [ev_seq, head_a, sx_nx, ev_seq, tail_a, sx_nx, ev_seq, hi, sx_nx, ht]
        rw [sWhile_step hc hb2]
        have hB : B4.length = 4 := by decide +kernel
        refine law_search h n _ _ r (fun z hz => ?_) (fun p hp => ?_) (by rw [List.length_append, List.length_map, hB]; omega) (by rw [List.length_append]; simp; omega) e
        · rcases List.mem_append.mp hz with hz | hz
          · exact hQ2 z hz
          · obtain ⟨c, _, rfl⟩ := List.mem_map.mp hz
            exact suc_lt (mc_ok h) (p := (some a, some b)) hl c
        · rcases List.mem_append.mp hp with hp | hp
          · exact hS p hp
          · rw [List.mem_singleton] at hp
            rw [hp, ← eab]; exact hb
      · rw [if_neg hn] at e
        have ht := then_no (M := M) (x := x) (y := y) (Q := Q) hn
        have hb2 : bodyA (stA M x y (e0 :: Q) S) = some (.nx (stB M x y Q S e0)) := by
          unfold bodyA
          rw [ev_seq, head_a, sx_nx, ev_seq, tail_a, sx_nx, ev_seq, hi, sx_nx, ht]
        rw [sWhile_step hc hb2]
        exact law_search h n Q S r hQ2 hS (by omega) (by omega) e
def ansI (r : Option Nat) : Int := match r with
  | none => -1
  | some k => (k : Int)
theorem parted_ok (h : Mach A M) {i j : Nat} (hi : i < M.length) (hj : j < M.length) {r : Option Nat} (e : la (mcOf M) B4 300 [((some i, some j), 0)] [] = some r) :
    l_parted [.sh (.tuple M), .sh (.tuple M), .sh (pn i), .sh (pn j), .sh (.str "abc~")] = some (.ok (.val (.int (ansI r))) [.sh (.tuple M), .sh (.tuple M), .sh (pn i), .sh (pn j), .sh (.str "abc~")]) := by
  obtain ⟨ρ', hw⟩ := law_search (x := pn i) (y := pn j) h 300 _ [] r (fun z hz => by
    rw [List.mem_singleton] at hz
    rw [hz]; exact ⟨hi, hj⟩) (fun p hp => nomatch hp) (by simp) (by simp) e
  have hw1 : w_l_parted_0 (stA M (pn i) (pn j) [((some i, some j), 0)] []) = ansA r ρ' := hw
  have hB : ("abc~" : Str) = tx B4 := (tx_of _).symm
  rw [hB]
  have hp : sPar [5, 6] (mPd (mFrz (mLst (mCons (mTup (mCons (mVar 2) (mCons (mVar 3) (mCons (mC (.int 0)) mNil)))) mNil))) (mPo (mLst mNil) mPn)) [.sh (.tuple M), .sh (.tuple M), .sh (pn i), .sh (pn j), .sh (.str (tx B4)), .un, .un, .un, .un, .un, .un] = some (.nx (stA M (pn i) (pn j) [((some i, some j), 0)] [])) := by
    have hs : stA M (pn i) (pn j) [((some i, some j), 0)] [] = [.sh (.tuple M), .sh (.tuple M), .sh (pn i), .sh (pn j), .sh (.str (tx B4)), .sh (.list [.tuple [pn i, pn j, .int 0]]), .ow [], .un, .un, .un, .un] := rfl
    rw [hs]
    generalize tx B4 = TB at *
    simp [fits_small]
  unfold l_parted
  rw [run_if, if_pos ⟨rfl, rfl⟩]
  show fx _ (b_l_parted [.sh (.tuple M), .sh (.tuple M), .sh (pn i), .sh (pn j), .sh (.str (tx B4)), .un, .un, .un, .un, .un, .un]) = _
  unfold b_l_parted
  rw [ev_seq, hp, sx_nx, ev_seq, hw1]
  cases r with
  | none =>
    show fx _ (sx (some (.nx ρ')) _) = _
    rw [sx_nx]
    show fx _ (some (.rt (.int (-1)) ρ')) = _
    rw [fx_rt, bkS_bk]
    simp [ansI]
  | some k =>
    show fx _ (sx (some (.rt (pn k) ρ')) _) = _
    rw [sx_rt, fx_rt, bkS_bk]
    simp [ansI, pn]
end
end K27
/-! K27AJ: what is told; the law's parts. -/
namespace K27
open PySem L2 PD
theorem pr_len {M : Mc} {cs : List Nat} : ∀ (N n : Nat) (L : List En) (w : Wd), (∀ e ∈ L, e.2.length ≤ n) → pr M cs N n L = some (some w) → w.length ≤ n + N
  | 0, n, L, w, _, h => nomatch h
  | N + 1, n, L, w, hl, h => by
    unfold pr at h
    cases hx : L[n]? with
    | none => rw [hx] at h; cases h
    | some e =>
      rw [hx] at h
      dsimp only at h
      have he := hl e (List.mem_of_getElem? hx)
      cases hb : bad M e.1 with
      | true =>
        rw [hb] at h
        cases h
        omega
      | false =>
        rw [hb, if_neg Bool.false_ne_true] at h
        obtain ⟨X, x1, _, x3⟩ := addS_dd (M := M) (p := e.1) (w := e.2) cs L
        have := pr_len N (n + 1) _ w (fun z hz => by
          rw [x1] at hz
          rcases List.mem_append.mp hz with hz | hz
          · have := hl z hz; omega
          · obtain ⟨c, _, rfl, _⟩ := x3 z hz
            show (e.2 ++ [c]).length ≤ n + 1
            rw [List.length_append]
            show e.2.length + 1 ≤ n + 1
            omega) h
        omega
theorem pick_t {hit : Str → Option Bool} {h : F} {l : List ((Str → Option Bool) × F)} {c : Str} {ρ : Ev} (e : hit c = some true) : pick ((hit, h) :: l) c ρ = noEx (h ρ) := by
  conv => lhs; unfold pick
  rw [e]
theorem pick_f {hit : Str → Option Bool} {h : F} {l : List ((Str → Option Bool) × F)} {c : Str} {ρ : Ev} (e : hit c = some false) : pick ((hit, h) :: l) c ρ = pick l c ρ := by
  conv => lhs; unfold pick
  rw [e]
@[simp] theorem noEx_rt (d : Dt) (ρ : Ev) : noEx (some (.rt d ρ)) = some (.rt d ρ) := rfl
def err (w : Str) : Dt := .tuple [.str "error", .str w]
theorem told_ex {x y z : Dt} {c w : Str} (h : f_parting_word [.sh x, .sh y, .sh z] = some (.ex c [.sh x, .sh y, .sh z])) (hc : c = "InvalidMachine" ∧ w = "machine" ∨ c = "InvalidNumber" ∧ w = "number") :
    l_told [.sh x, .sh y, .sh z] = some (.ok (.val (err w)) [.sh x, .sh y, .sh z]) := by
  unfold l_told b_l_told err
  generalize f_parting_word = R at *
  rw [run_if, if_pos ⟨rfl, rfl⟩, ev_try]
  have e : sRet (mCall R (mCons (mVar 0) (mCons (mVar 1) (mCons (mVar 2) mNil)))) [.sh x, .sh y, .sh z] = some (.ex c [.sh x, .sh y, .sh z]) := by simp [h]
  rw [show ([.sh x, .sh y, .sh z] : Ev) ++ List.replicate (3 - 3) .un = [.sh x, .sh y, .sh z] from rfl, e, yx_ex]
  rcases hc with ⟨rfl, rfl⟩ | ⟨rfl, rfl⟩
  · rw [pick_t (by decide +kernel)]
    simp [fits_small]
  · rw [pick_f (by decide +kernel), pick_t (by decide +kernel)]
    simp [fits_small]
theorem told_yes {x y z d : Dt} (h : f_parting_word [.sh x, .sh y, .sh z] = some (.ok (.val d) [.sh x, .sh y, .sh z])) : l_told [.sh x, .sh y, .sh z] = some (.ok (.val d) [.sh x, .sh y, .sh z]) := by
  unfold l_told b_l_told
  generalize f_parting_word = R at *
  simp [h]
section
variable {M : List Dt}
theorem part_noM {d x y : Dt} (ht : tame d = true) (hb : machB d = false) : f_parting_word [.sh d, .sh x, .sh y] = some (.ex "InvalidMachine" [.sh d, .sh x, .sh y]) := by
  have n1 := need_mach ht
  rw [hb, if_neg Bool.false_ne_true] at n1
  unfold f_parting_word b_f_parting_word
  generalize w_f_parting_word_1 = W at *
  simp [n1]
theorem part_no1 {x y : Dt} (ht : tame (.tuple M) = true) (hb : machB (.tuple M) = true) (hd : noDc x = true) (hx : wholeB x 0 ((M.length : Int) - 1) = false) : f_parting_word [.sh (.tuple M), .sh x, .sh y] = some (.ex "InvalidNumber" [.sh (.tuple M), .sh x, .sh y]) := by
  have n1 := need_mach ht
  rw [hb, if_pos rfl] at n1
  have n2 := need_st (M := M) hd
  rw [hx, if_neg Bool.false_ne_true] at n2
  unfold f_parting_word b_f_parting_word
  generalize w_f_parting_word_1 = W at *
  simp [n1, n2]
theorem part_no2 {x y : Dt} (ht : tame (.tuple M) = true) (hb : machB (.tuple M) = true) (hd : noDc x = true) (hx : wholeB x 0 ((M.length : Int) - 1) = true) (hd2 : noDc y = true) (hy : wholeB y 0 ((M.length : Int) - 1) = false) : f_parting_word [.sh (.tuple M), .sh x, .sh y] = some (.ex "InvalidNumber" [.sh (.tuple M), .sh x, .sh y]) := by
  have n1 := need_mach ht
  rw [hb, if_pos rfl] at n1
  have n2 := need_st (M := M) hd
  rw [hx, if_pos rfl] at n2
  have n3 := need_st (M := M) hd2
  rw [hy, if_neg Bool.false_ne_true] at n3
  unfold f_parting_word b_f_parting_word
  generalize w_f_parting_word_1 = W at *
  simp [n1, n2, n3]
theorem eq_err (w : Str) (h : PyData.strOk w = true) : gEqB (err w) (err w) = some true := by
  have h0 : PyData.strOk "error" = true := by decide +kernel
  have h1 : (err w).canLay0 = true := by
    unfold err PyData.canLay0 PyData.canLayAll0 PyData.canLay0 PyData.canLayAll0 PyData.canLay0 PyData.canLayAll0
    rw [h0, h]
    rfl
  have h2 : SeqAt.shaped (err w) = true := lay_shaped h1 (by
    unfold err PyData.depth PyData.depthAll PyData.depth PyData.depthAll PyData.depth PyData.depthAll
    decide)
  show (if (SeqAt.shaped (err w) && SeqAt.shaped (err w)) = true then some (PyData.eqv (err w) (err w)) else none) = _
  rw [h2, SeqAt.eqv_refl _ h1]
  rfl
theorem ne_err (w : Str) (h : PyData.strOk w = true) : gNe (err w) (err w) = some (.bool false) := by
  unfold gNe
  rw [eq_err w h]
  rfl
theorem eq_err' (w : Str) (h : PyData.strOk w = true) : gEq (err w) (err w) = some (.bool true) := by
  unfold gEq
  rw [eq_err w h]
  rfl
end
def placeL (M : List Dt) : List Dt := [.int (-1), .int (M.length : Int), .bool true, .none, .str "0"]
theorem place_ok {M : List Dt} : ∀ x ∈ placeL M, noDc x = true ∧ wholeB x 0 ((M.length : Int) - 1) = false := by
  intro x hx
  unfold placeL at hx
  simp only [List.mem_cons, List.not_mem_nil, or_false] at hx
  rcases hx with rfl | rfl | rfl | rfl | rfl
  · exact ⟨rfl, rfl⟩
  · refine ⟨rfl, ?_⟩
    show (decide ((0 : Int) ≤ M.length) && decide ((M.length : Int) ≤ M.length - 1)) = false
    rw [decide_eq_false (show ¬ ((M.length : Int) ≤ M.length - 1) by omega), Bool.and_false]
  · exact ⟨rfl, rfl⟩
  · exact ⟨rfl, rfl⟩
  · exact ⟨rfl, rfl⟩
theorem alpha_a : Alpha ("a~" : Str).cps.toList := ⟨by decide +kernel, by decide +kernel, by decide +kernel⟩
theorem st_mach {s : Dt} {c : Sl} (hc : Cup c) {r : Ev} (hr : r.length = 5) : ∃ (A : List Nat) (M : List Dt) (c' : Sl), Cup c' ∧ Mach A M ∧ (∀ k ∈ A, k ∈ B4) ∧ machB (.tuple M) = true ∧ tame (.tuple M) = true ∧
    sSet 2 (mCall l_machine (mCons (mVar 1) (mCons (mIf (mTst (mOp2 gEq (mCall l_roll (mCons (mVar 1) (mCons (mC (.int 2)) mNil))) (mC (.int 0)))) (mC (.str "abc")) (mC (.str "a~"))) mNil))) (.sh s :: c :: .un :: r) = some (.nx (.sh s :: c' :: .sh (.tuple M) :: r)) := by
  obtain ⟨t, c1, t0, t1, hc1, e1⟩ := roll_made hc (m := 2) (by decide) (by decide)
  by_cases ht : t = 0
  · obtain ⟨M, c2, hc2, ⟨m1, m2, m3⟩, hb, htm, _, e2⟩ := machine_made alpha_abc hc1
    rw [tx_of] at e2
    obtain ⟨a, b, rfl⟩ := hc.ex
    obtain ⟨a1, b1, rfl⟩ := hc1.ex
    obtain ⟨a2, b2, rfl⟩ := hc2.ex
    refine ⟨_, M, _, hc2, ⟨m1, m2, m3⟩, by decide +kernel, hb, htm, ?_⟩
    generalize l_machine = L at *
    generalize l_roll = RO at *
    simp [e1, ht, e2]
  · obtain ⟨M, c2, hc2, ⟨m1, m2, m3⟩, hb, htm, _, e2⟩ := machine_made alpha_a hc1
    rw [tx_of] at e2
    obtain ⟨a, b, rfl⟩ := hc.ex
    obtain ⟨a1, b1, rfl⟩ := hc1.ex
    obtain ⟨a2, b2, rfl⟩ := hc2.ex
    refine ⟨_, M, _, hc2, ⟨m1, m2, m3⟩, by decide +kernel, hb, htm, ?_⟩
    generalize l_machine = L at *
    generalize l_roll = RO at *
    simp [e1, ht, e2]
end K27
/-! K27AK: the law answers True. -/
namespace K27
open PySem L2 PD
theorem pn_nat {r : Int} (h : 0 ≤ r) : .int r = pn r.toNat := by
  unfold pn
  rw [Int.toNat_of_nonneg h]
theorem law_ok (ns : List Int) (hn : ns.length ≤ 1000) : ∃ ρ', f_law [.sh (.list (ns.map .int))] = some (.ok (.val (.bool true)) ρ') := by
  obtain ⟨ca, cb, e0⟩ := cup_made ns hn
  have hc0 : Cup (.ow [.int ca, .int cb]) := ⟨_, _, rfl⟩
  generalize PyData.list (ns.map .int) = s at *
  obtain ⟨A, M, c1, hc1, hM, hA, hb, ht, e1⟩ := st_mach (s := s) hc0 (r := List.replicate 5 .un) rfl
  have hpos := hM.pos
  have hfew := hM.few
  obtain ⟨r1, c2, r10, r11, hc2, e2⟩ := roll_made hc1 (m := (M.length : Int)) (by omega) (by omega)
  obtain ⟨r2, c3, r20, r21, hc3, e3⟩ := roll_made hc2 (m := (M.length : Int)) (by omega) (by omega)
  obtain ⟨i, rfl⟩ : ∃ i : Nat, r1 = (i : Int) := ⟨r1.toNat, by omega⟩
  obtain ⟨j, rfl⟩ : ∃ j : Nat, r2 = (j : Int) := ⟨r2.toNat, by omega⟩
  have hi : i < M.length := by omega
  have hj : j < M.length := by omega
  have hB : B4.length = 4 := by decide +kernel
  obtain ⟨r, p1, p2, p3, _⟩ := both (mc_ok hM) hfew hB (one := i) (other := j) hi hj
  obtain ⟨q, q1, _, _, q4⟩ := both (mc_ok hM) hfew hB (one := i) (other := i) hi hi
  have q5 := q4 rfl
  subst q5
  have em := lmachine_ok ht
  rw [hb] at em
  have ep := parted_ok hM hi hj p2
  have et := told_yes (part_ok hM hA hb ht hi hj p1)
  have ed := told_yes (part_ok hM hA hb ht hi hi q1)
  have hwl : ∀ w, r = some w → w.length ≤ 60 := fun w z => by
    rw [z] at p1
    have := pr_len 60 0 _ w (fun e he => by
      rw [List.mem_singleton] at he
      rw [he]; exact Nat.le_refl _) p1
    omega
  have pp : ∀ w : Wd, l_parts [.sh (.tuple M), .sh (pn i), .sh (pn j), .sh (.str (tx w))] = some (.ok (.val (.bool (bad (mcOf M) (wk (mcOf M) (some i) w, wk (mcOf M) (some j) w)))) [.sh (.tuple M), .sh (pn i), .sh (pn j), .sh (.str (tx w))]) := fun w => parts_ok hM hi hj
  have en := told_ex (x := .none) (y := .int (-1)) (z := .int 0) (part_noM (by decide +kernel) rfl) (.inl ⟨rfl, rfl⟩)
  obtain ⟨bd, c4, hbd, hc4, e7⟩ := some_list hc3 (xs := placeL M) (by unfold placeL; simp) (by unfold placeL; simp)
  obtain ⟨b1, b2⟩ := place_ok bd hbd
  have f1 := told_ex (x := .tuple M) (y := bd) (z := .int 0) (part_no1 ht hb b1 b2) (.inr ⟨rfl, rfl⟩)
  have f2 := told_ex (x := .tuple M) (y := pn j) (z := bd) (part_no2 ht hb rfl (whole_pn hj) b1 b2) (.inr ⟨rfl, rfl⟩)
  have n1 : gNe (.tuple [.str "error", .str "machine"]) (.tuple [.str "error", .str "machine"]) = some (.bool false) := ne_err "machine" (by decide +kernel)
  have n2 : gEq (.tuple [.str "error", .str "number"]) (.tuple [.str "error", .str "number"]) = some (.bool true) := eq_err' "number" (by decide +kernel)
  unfold err at en f1 f2
  unfold placeL at e7
  unfold pn at ep et ed f2 pp
  obtain ⟨a1, b1', rfl⟩ := hc1.ex
  obtain ⟨a2, b2', rfl⟩ := hc2.ex
  obtain ⟨a3, b3', rfl⟩ := hc3.ex
  obtain ⟨a4, b4', rfl⟩ := hc4.ex
  refine ⟨[.sh s], ?_⟩
  unfold f_law
  rw [run_if, if_pos ⟨rfl, by simp⟩]
  show fx [.sh s] (b_f_law [.sh s, .un, .un, .un, .un, .un, .un, .un]) = _
  unfold b_f_law
  generalize l_cup = F1 at *
  generalize l_machine = F2 at *
  generalize l_roll = F3 at *
  generalize l_is_machine = F4 at *
  generalize l_parted = F5 at *
  generalize l_told = F6 at *
  generalize l_parts = F7 at *
  generalize l_some = F8 at *
  have s1 : sSetO 1 (mCallO F1 (mCons (mVar 0) mNil)) [.sh s, .un, .un, .un, .un, .un, .un, .un] = some (.nx [.sh s, .ow [.int ca, .int cb], .un, .un, .un, .un, .un, .un]) := by
    simp [e0]
  rw [ev_seq, s1, sx_nx, ev_seq]
  rw [show (List.replicate 5 Sl.un) = [.un, .un, .un, .un, .un] from rfl] at e1
  rw [e1, sx_nx]
  have s3 : sPar [3, 4] (mPd (mCall F3 (mCons (mVar 1) (mCons (mOpN gLen (mCons (mVar 2) mNil)) mNil))) (mPd (mCall F3 (mCons (mVar 1) (mCons (mOpN gLen (mCons (mVar 2) mNil)) mNil))) mPn)) [.sh s, .ow [.int a1, .int b1'], .sh (.tuple M), .un, .un, .un, .un, .un] = some (.nx [.sh s, .ow [.int a3, .int b3'], .sh (.tuple M), .sh (.int (i : Int)), .sh (.int (j : Int)), .un, .un, .un]) := by
    simp [e2, e3]
  rw [ev_seq, s3, sx_nx]
  have s4 : sIf (mNotT (mTst (mCall F4 (mCons (mVar 2) mNil)))) (sRet (mC (.bool false))) sNil [.sh s, .ow [.int a3, .int b3'], .sh (.tuple M), .sh (.int (i : Int)), .sh (.int (j : Int)), .un, .un, .un] = some (.nx [.sh s, .ow [.int a3, .int b3'], .sh (.tuple M), .sh (.int (i : Int)), .sh (.int (j : Int)), .un, .un, .un]) := by
    simp [em]
  rw [ev_seq, s4, sx_nx]
  have s5 : sPar [5, 6] (mPd (mCall F5 (mCons (mVar 2) (mCons (mVar 2) (mCons (mVar 3) (mCons (mVar 4) (mCons (mC (.str "abc~")) mNil)))))) (mPd (mCall F6 (mCons (mVar 2) (mCons (mVar 3) (mCons (mVar 4) mNil)))) mPn)) [.sh s, .ow [.int a3, .int b3'], .sh (.tuple M), .sh (.int (i : Int)), .sh (.int (j : Int)), .un, .un, .un] = some (.nx [.sh s, .ow [.int a3, .int b3'], .sh (.tuple M), .sh (.int (i : Int)), .sh (.int (j : Int)), .sh (.int (ansI (r.map (·.length)))), .sh (ansD r), .un]) := by
    simp [ep, et]
  rw [ev_seq, s5, sx_nx]
  have s6 : sIf (mTst (mOp2 gLtA (mVar 5) (mC (.int 0))))
      (sIf (mTst (mOp2 gNotN (mVar 6) (mC .none)))
      (sRet (mC (.bool false)))
      sNil)
      (sIf (mOrT (mNotT (mTst (mOp1 (gIsi "str") (mVar 6)))) (mOrT (mTst (mOp2 gNe (mOpN gLen (mCons (mVar 6) mNil)) (mVar 5))) (mNotT (mTst (mCall F7 (mCons (mVar 2) (mCons (mVar 3) (mCons (mVar 4) (mCons (mVar 6) mNil)))))))))
      (sRet (mC (.bool false)))
      sNil) [.sh s, .ow [.int a3, .int b3'], .sh (.tuple M), .sh (.int (i : Int)), .sh (.int (j : Int)), .sh (.int (ansI (r.map (·.length)))), .sh (ansD r), .un] = some (.nx [.sh s, .ow [.int a3, .int b3'], .sh (.tuple M), .sh (.int (i : Int)), .sh (.int (j : Int)), .sh (.int (ansI (r.map (·.length)))), .sh (ansD r), .un]) := by
    cases r with
    | none => simp [ansI, ansD, gNotN]
    | some w =>
      have h1 := pp w
      rw [p3 w rfl] at h1
      have h2 := hwl w rfl
      have h3 := gLen_tx (T := w) (by omega)
      have h4 : ¬ ((w.length : Int) < 0) := by omega
      simp [ansI, ansD, isi_str (d := .str (tx w)) rfl, isStr, h1, h3, h4]
  rw [ev_seq, s6, sx_nx]
  generalize ansI (r.map (·.length)) = ai at *
  generalize ansD r = ad at *
  have s7 : sIf (mOrT (mTst (mOp2 gNotN (mCall F6 (mCons (mVar 2) (mCons (mVar 3) (mCons (mVar 3) mNil)))) (mC .none))) (mTst (mOp2 gNe (mCall F6 (mCons (mC .none) (mCons (mC (.int (-1))) (mCons (mC (.int 0)) mNil)))) (mTup (mCons (mC (.str "error")) (mCons (mC (.str "machine")) mNil)))))) (sRet (mC (.bool false))) sNil [.sh s, .ow [.int a3, .int b3'], .sh (.tuple M), .sh (.int (i : Int)), .sh (.int (j : Int)), .sh (.int ai), .sh ad, .un] = some (.nx [.sh s, .ow [.int a3, .int b3'], .sh (.tuple M), .sh (.int (i : Int)), .sh (.int (j : Int)), .sh (.int ai), .sh ad, .un]) := by
    simp [ed, ansD, gNotN, en, n1, fits_small]
  rw [ev_seq, s7, sx_nx]
  have s8 : sSet 7 (mCall F8 (mCons (mVar 1) (mCons (mFrz (mLst (mCons (mC (.int (-1))) (mCons (mOpN gLen (mCons (mVar 2) mNil)) (mCons (mC (.bool true)) (mCons (mC .none) (mCons (mC (.str "0")) mNil))))))) mNil))) [.sh s, .ow [.int a3, .int b3'], .sh (.tuple M), .sh (.int (i : Int)), .sh (.int (j : Int)), .sh (.int ai), .sh ad, .un] = some (.nx [.sh s, .ow [.int a4, .int b4'], .sh (.tuple M), .sh (.int (i : Int)), .sh (.int (j : Int)), .sh (.int ai), .sh ad, .sh bd]) := by
    simp [fits_small, e7]
  rw [ev_seq, s8, sx_nx]
  simp [fits_small, f1, f2, n2]
end K27
/-! Printed by gen.py: what the written part says, and the end. -/
namespace K27
open PySem L2 PD
theorem fin {P : Program} {w : World} {K : PySem.W.Frag} {mg : Str → Option Value} {base : Heap} {f : Addr} {fd : FuncData} (T : Txt K mg) (F : Fun K "law" "law" s_f_law f fd) : FnOk P w K mg base (L2.CX P w) 8 f fd ["_law_script"] (spLaw K) :=
  (d_def F sc_f_law (fun cdv A outer s H E hr tk => pr_f_law T f cdv A outer s H E hr tk)).imp fun vs H Q E h => law_start h fun ns hn => law_ok ns (Nat.le_trans hn (by decide))
theorem all_mk {l : PySem.W.OpenLaw} {w : World} {K : PySem.W.Frag} {h : Heap} {mg : Str → Option Value} {fa : Addr} (X : K.In h) (G : h.Ns mainGlobals mg) (hfa : mg "law" = some (.ref fa))
    {fa0 : Addr} {od0 an0 : Option Addr} {sl0 : Array (Option Value)} {oc0 kV0 dc0 pm0 cd0 ct0 : Value}
    (a0 : PySem.W.nsIn K mainGlobals "is_whole" = some (some (.ref fa0))) (l0 : K.lookup fa0 = some ⟨oc0, od0, .func (PySem.W.fnOf "is_whole" "is_whole" (defArgs s_f_is_whole) (defBody s_f_is_whole) (defScope s_f_is_whole) .none kV0 dc0 pm0 an0 cd0 ct0), sl0⟩) (c0 : PySem.W.codeIn K cd0 "is_whole" = true) (k0 : PySem.W.keepIn K (.ref fa0) = true)
    {fa1 : Addr} {od1 an1 : Option Addr} {sl1 : Array (Option Value)} {oc1 kV1 dc1 pm1 cd1 ct1 : Value}
    (a1 : PySem.W.nsIn K mainGlobals "is_tuple_of" = some (some (.ref fa1))) (l1 : K.lookup fa1 = some ⟨oc1, od1, .func (PySem.W.fnOf "is_tuple_of" "is_tuple_of" (defArgs s_f_is_tuple_of) (defBody s_f_is_tuple_of) (defScope s_f_is_tuple_of) .none kV1 dc1 pm1 an1 cd1 ct1), sl1⟩) (c1 : PySem.W.codeIn K cd1 "is_tuple_of" = true) (k1 : PySem.W.keepIn K (.ref fa1) = true)
    {fa2 : Addr} {od2 an2 : Option Addr} {sl2 : Array (Option Value)} {oc2 kV2 dc2 pm2 cd2 ct2 : Value}
    (a2 : PySem.W.nsIn K mainGlobals "ascends" = some (some (.ref fa2))) (l2 : K.lookup fa2 = some ⟨oc2, od2, .func (PySem.W.fnOf "ascends" "ascends" (defArgs s_f_ascends) (defBody s_f_ascends) (defScope s_f_ascends) .none kV2 dc2 pm2 an2 cd2 ct2), sl2⟩) (c2 : PySem.W.codeIn K cd2 "ascends" = true) (k2 : PySem.W.keepIn K (.ref fa2) = true)
    {fa3 : Addr} {od3 an3 : Option Addr} {sl3 : Array (Option Value)} {oc3 kV3 dc3 pm3 cd3 ct3 : Value}
    (a3 : PySem.W.nsIn K mainGlobals "is_text" = some (some (.ref fa3))) (l3 : K.lookup fa3 = some ⟨oc3, od3, .func (PySem.W.fnOf "is_text" "is_text" (defArgs s_f_is_text) (defBody s_f_is_text) (defScope s_f_is_text) .none kV3 dc3 pm3 an3 cd3 ct3), sl3⟩) (c3 : PySem.W.codeIn K cd3 "is_text" = true) (k3 : PySem.W.keepIn K (.ref fa3) = true)
    {fa4 : Addr} {od4 an4 : Option Addr} {sl4 : Array (Option Value)} {oc4 kV4 dc4 pm4 cd4 ct4 : Value}
    (a4 : PySem.W.nsIn K mainGlobals "ascending" = some (some (.ref fa4))) (l4 : K.lookup fa4 = some ⟨oc4, od4, .func (PySem.W.fnOf "ascending" "ascending" (defArgs s_f_ascending) (defBody s_f_ascending) (defScope s_f_ascending) .none kV4 dc4 pm4 an4 cd4 ct4), sl4⟩) (c4 : PySem.W.codeIn K cd4 "ascending" = true) (k4 : PySem.W.keepIn K (.ref fa4) = true)
    {fa5 : Addr} {od5 an5 : Option Addr} {sl5 : Array (Option Value)} {oc5 kV5 dc5 pm5 cd5 ct5 : Value}
    (a5 : PySem.W.nsIn K mainGlobals "fits_letters" = some (some (.ref fa5))) (l5 : K.lookup fa5 = some ⟨oc5, od5, .func (PySem.W.fnOf "fits_letters" "fits_letters" (defArgs s_f_fits_letters) (defBody s_f_fits_letters) (defScope s_f_fits_letters) .none kV5 dc5 pm5 an5 cd5 ct5), sl5⟩) (c5 : PySem.W.codeIn K cd5 "fits_letters" = true) (k5 : PySem.W.keepIn K (.ref fa5) = true)
    {fa6 : Addr} {od6 an6 : Option Addr} {sl6 : Array (Option Value)} {oc6 kV6 dc6 pm6 cd6 ct6 : Value}
    (a6 : PySem.W.nsIn K mainGlobals "fits_state" = some (some (.ref fa6))) (l6 : K.lookup fa6 = some ⟨oc6, od6, .func (PySem.W.fnOf "fits_state" "fits_state" (defArgs s_f_fits_state) (defBody s_f_fits_state) (defScope s_f_fits_state) .none kV6 dc6 pm6 an6 cd6 ct6), sl6⟩) (c6 : PySem.W.codeIn K cd6 "fits_state" = true) (k6 : PySem.W.keepIn K (.ref fa6) = true)
    {fa7 : Addr} {od7 an7 : Option Addr} {sl7 : Array (Option Value)} {oc7 kV7 dc7 pm7 cd7 ct7 : Value}
    (a7 : PySem.W.nsIn K mainGlobals "is_word_machine" = some (some (.ref fa7))) (l7 : K.lookup fa7 = some ⟨oc7, od7, .func (PySem.W.fnOf "is_word_machine" "is_word_machine" (defArgs s_f_is_word_machine) (defBody s_f_is_word_machine) (defScope s_f_is_word_machine) .none kV7 dc7 pm7 an7 cd7 ct7), sl7⟩) (c7 : PySem.W.codeIn K cd7 "is_word_machine" = true) (k7 : PySem.W.keepIn K (.ref fa7) = true)
    {fa8 : Addr} {od8 an8 : Option Addr} {sl8 : Array (Option Value)} {oc8 kV8 dc8 pm8 cd8 ct8 : Value}
    (a8 : PySem.W.nsIn K mainGlobals "need_machine" = some (some (.ref fa8))) (l8 : K.lookup fa8 = some ⟨oc8, od8, .func (PySem.W.fnOf "need_machine" "need_machine" (defArgs s_f_need_machine) (defBody s_f_need_machine) (defScope s_f_need_machine) .none kV8 dc8 pm8 an8 cd8 ct8), sl8⟩) (c8 : PySem.W.codeIn K cd8 "need_machine" = true) (k8 : PySem.W.keepIn K (.ref fa8) = true)
    {fa9 : Addr} {od9 an9 : Option Addr} {sl9 : Array (Option Value)} {oc9 kV9 dc9 pm9 cd9 ct9 : Value}
    (a9 : PySem.W.nsIn K mainGlobals "need_state" = some (some (.ref fa9))) (l9 : K.lookup fa9 = some ⟨oc9, od9, .func (PySem.W.fnOf "need_state" "need_state" (defArgs s_f_need_state) (defBody s_f_need_state) (defScope s_f_need_state) .none kV9 dc9 pm9 an9 cd9 ct9), sl9⟩) (c9 : PySem.W.codeIn K cd9 "need_state" = true) (k9 : PySem.W.keepIn K (.ref fa9) = true)
    {fa10 : Addr} {od10 an10 : Option Addr} {sl10 : Array (Option Value)} {oc10 kV10 dc10 pm10 cd10 ct10 : Value}
    (a10 : PySem.W.nsIn K mainGlobals "way_of" = some (some (.ref fa10))) (l10 : K.lookup fa10 = some ⟨oc10, od10, .func (PySem.W.fnOf "way_of" "way_of" (defArgs s_f_way_of) (defBody s_f_way_of) (defScope s_f_way_of) .none kV10 dc10 pm10 an10 cd10 ct10), sl10⟩) (c10 : PySem.W.codeIn K cd10 "way_of" = true) (k10 : PySem.W.keepIn K (.ref fa10) = true)
    {fa11 : Addr} {od11 an11 : Option Addr} {sl11 : Array (Option Value)} {oc11 kV11 dc11 pm11 cd11 ct11 : Value}
    (a11 : PySem.W.nsIn K mainGlobals "parting_word" = some (some (.ref fa11))) (l11 : K.lookup fa11 = some ⟨oc11, od11, .func (PySem.W.fnOf "parting_word" "parting_word" (defArgs s_f_parting_word) (defBody s_f_parting_word) (defScope s_f_parting_word) .none kV11 dc11 pm11 an11 cd11 ct11), sl11⟩) (c11 : PySem.W.codeIn K cd11 "parting_word" = true) (k11 : PySem.W.keepIn K (.ref fa11) = true)
    {fa12 : Addr} {od12 an12 : Option Addr} {sl12 : Array (Option Value)} {oc12 kV12 dc12 pm12 cd12 ct12 : Value}
    (a12 : PySem.W.nsIn K mainGlobals "_law_cup" = some (some (.ref fa12))) (l12 : K.lookup fa12 = some ⟨oc12, od12, .func (PySem.W.fnOf "_law_cup" "_law_cup" (defArgs s_l_cup) (defBody s_l_cup) (defScope s_l_cup) .none kV12 dc12 pm12 an12 cd12 ct12), sl12⟩) (c12 : PySem.W.codeIn K cd12 "_law_cup" = true) (k12 : PySem.W.keepIn K (.ref fa12) = true)
    {fa13 : Addr} {od13 an13 : Option Addr} {sl13 : Array (Option Value)} {oc13 kV13 dc13 pm13 cd13 ct13 : Value}
    (a13 : PySem.W.nsIn K mainGlobals "_law_roll" = some (some (.ref fa13))) (l13 : K.lookup fa13 = some ⟨oc13, od13, .func (PySem.W.fnOf "_law_roll" "_law_roll" (defArgs s_l_roll) (defBody s_l_roll) (defScope s_l_roll) .none kV13 dc13 pm13 an13 cd13 ct13), sl13⟩) (c13 : PySem.W.codeIn K cd13 "_law_roll" = true) (k13 : PySem.W.keepIn K (.ref fa13) = true)
    {fa14 : Addr} {od14 an14 : Option Addr} {sl14 : Array (Option Value)} {oc14 kV14 dc14 pm14 cd14 ct14 : Value}
    (a14 : PySem.W.nsIn K mainGlobals "_law_some" = some (some (.ref fa14))) (l14 : K.lookup fa14 = some ⟨oc14, od14, .func (PySem.W.fnOf "_law_some" "_law_some" (defArgs s_l_some) (defBody s_l_some) (defScope s_l_some) .none kV14 dc14 pm14 an14 cd14 ct14), sl14⟩) (c14 : PySem.W.codeIn K cd14 "_law_some" = true) (k14 : PySem.W.keepIn K (.ref fa14) = true)
    {fa15 : Addr} {od15 an15 : Option Addr} {sl15 : Array (Option Value)} {oc15 kV15 dc15 pm15 cd15 ct15 : Value}
    (a15 : PySem.W.nsIn K mainGlobals "_law_chars" = some (some (.ref fa15))) (l15 : K.lookup fa15 = some ⟨oc15, od15, .func (PySem.W.fnOf "_law_chars" "_law_chars" (defArgs s_l_chars) (defBody s_l_chars) (defScope s_l_chars) .none kV15 dc15 pm15 an15 cd15 ct15), sl15⟩) (c15 : PySem.W.codeIn K cd15 "_law_chars" = true) (k15 : PySem.W.keepIn K (.ref fa15) = true)
    {fa16 : Addr} {od16 an16 : Option Addr} {sl16 : Array (Option Value)} {oc16 kV16 dc16 pm16 cd16 ct16 : Value}
    (a16 : PySem.W.nsIn K mainGlobals "_law_is_whole" = some (some (.ref fa16))) (l16 : K.lookup fa16 = some ⟨oc16, od16, .func (PySem.W.fnOf "_law_is_whole" "_law_is_whole" (defArgs s_l_is_whole) (defBody s_l_is_whole) (defScope s_l_is_whole) .none kV16 dc16 pm16 an16 cd16 ct16), sl16⟩) (c16 : PySem.W.codeIn K cd16 "_law_is_whole" = true) (k16 : PySem.W.keepIn K (.ref fa16) = true)
    {fa17 : Addr} {od17 an17 : Option Addr} {sl17 : Array (Option Value)} {oc17 kV17 dc17 pm17 cd17 ct17 : Value}
    (a17 : PySem.W.nsIn K mainGlobals "_law_is_state" = some (some (.ref fa17))) (l17 : K.lookup fa17 = some ⟨oc17, od17, .func (PySem.W.fnOf "_law_is_state" "_law_is_state" (defArgs s_l_is_state) (defBody s_l_is_state) (defScope s_l_is_state) .none kV17 dc17 pm17 an17 cd17 ct17), sl17⟩) (c17 : PySem.W.codeIn K cd17 "_law_is_state" = true) (k17 : PySem.W.keepIn K (.ref fa17) = true)
    {fa18 : Addr} {od18 an18 : Option Addr} {sl18 : Array (Option Value)} {oc18 kV18 dc18 pm18 cd18 ct18 : Value}
    (a18 : PySem.W.nsIn K mainGlobals "_law_is_machine" = some (some (.ref fa18))) (l18 : K.lookup fa18 = some ⟨oc18, od18, .func (PySem.W.fnOf "_law_is_machine" "_law_is_machine" (defArgs s_l_is_machine) (defBody s_l_is_machine) (defScope s_l_is_machine) .none kV18 dc18 pm18 an18 cd18 ct18), sl18⟩) (c18 : PySem.W.codeIn K cd18 "_law_is_machine" = true) (k18 : PySem.W.keepIn K (.ref fa18) = true)
    {fa19 : Addr} {od19 an19 : Option Addr} {sl19 : Array (Option Value)} {oc19 kV19 dc19 pm19 cd19 ct19 : Value}
    (a19 : PySem.W.nsIn K mainGlobals "_law_way" = some (some (.ref fa19))) (l19 : K.lookup fa19 = some ⟨oc19, od19, .func (PySem.W.fnOf "_law_way" "_law_way" (defArgs s_l_way) (defBody s_l_way) (defScope s_l_way) .none kV19 dc19 pm19 an19 cd19 ct19), sl19⟩) (c19 : PySem.W.codeIn K cd19 "_law_way" = true) (k19 : PySem.W.keepIn K (.ref fa19) = true)
    {fa20 : Addr} {od20 an20 : Option Addr} {sl20 : Array (Option Value)} {oc20 kV20 dc20 pm20 cd20 ct20 : Value}
    (a20 : PySem.W.nsIn K mainGlobals "_law_walk" = some (some (.ref fa20))) (l20 : K.lookup fa20 = some ⟨oc20, od20, .func (PySem.W.fnOf "_law_walk" "_law_walk" (defArgs s_l_walk) (defBody s_l_walk) (defScope s_l_walk) .none kV20 dc20 pm20 an20 cd20 ct20), sl20⟩) (c20 : PySem.W.codeIn K cd20 "_law_walk" = true) (k20 : PySem.W.keepIn K (.ref fa20) = true)
    {fa21 : Addr} {od21 an21 : Option Addr} {sl21 : Array (Option Value)} {oc21 kV21 dc21 pm21 cd21 ct21 : Value}
    (a21 : PySem.W.nsIn K mainGlobals "_law_machine" = some (some (.ref fa21))) (l21 : K.lookup fa21 = some ⟨oc21, od21, .func (PySem.W.fnOf "_law_machine" "_law_machine" (defArgs s_l_machine) (defBody s_l_machine) (defScope s_l_machine) .none kV21 dc21 pm21 an21 cd21 ct21), sl21⟩) (c21 : PySem.W.codeIn K cd21 "_law_machine" = true) (k21 : PySem.W.keepIn K (.ref fa21) = true)
    {fa22 : Addr} {od22 an22 : Option Addr} {sl22 : Array (Option Value)} {oc22 kV22 dc22 pm22 cd22 ct22 : Value}
    (a22 : PySem.W.nsIn K mainGlobals "_law_parted" = some (some (.ref fa22))) (l22 : K.lookup fa22 = some ⟨oc22, od22, .func (PySem.W.fnOf "_law_parted" "_law_parted" (defArgs s_l_parted) (defBody s_l_parted) (defScope s_l_parted) .none kV22 dc22 pm22 an22 cd22 ct22), sl22⟩) (c22 : PySem.W.codeIn K cd22 "_law_parted" = true) (k22 : PySem.W.keepIn K (.ref fa22) = true)
    {fa23 : Addr} {od23 an23 : Option Addr} {sl23 : Array (Option Value)} {oc23 kV23 dc23 pm23 cd23 ct23 : Value}
    (a23 : PySem.W.nsIn K mainGlobals "_law_told" = some (some (.ref fa23))) (l23 : K.lookup fa23 = some ⟨oc23, od23, .func (PySem.W.fnOf "_law_told" "_law_told" (defArgs s_l_told) (defBody s_l_told) (defScope s_l_told) .none kV23 dc23 pm23 an23 cd23 ct23), sl23⟩) (c23 : PySem.W.codeIn K cd23 "_law_told" = true) (k23 : PySem.W.keepIn K (.ref fa23) = true)
    {fa24 : Addr} {od24 an24 : Option Addr} {sl24 : Array (Option Value)} {oc24 kV24 dc24 pm24 cd24 ct24 : Value}
    (a24 : PySem.W.nsIn K mainGlobals "_law_parts" = some (some (.ref fa24))) (l24 : K.lookup fa24 = some ⟨oc24, od24, .func (PySem.W.fnOf "_law_parts" "_law_parts" (defArgs s_l_parts) (defBody s_l_parts) (defScope s_l_parts) .none kV24 dc24 pm24 an24 cd24 ct24), sl24⟩) (c24 : PySem.W.codeIn K cd24 "_law_parts" = true) (k24 : PySem.W.keepIn K (.ref fa24) = true)
    {fa25 : Addr} {od25 an25 : Option Addr} {sl25 : Array (Option Value)} {oc25 kV25 dc25 pm25 cd25 ct25 : Value}
    (a25 : PySem.W.nsIn K mainGlobals "law" = some (some (.ref fa25))) (l25 : K.lookup fa25 = some ⟨oc25, od25, .func (PySem.W.fnOf "law" "law" (defArgs s_f_law) (defBody s_f_law) (defScope s_f_law) .none kV25 dc25 pm25 an25 cd25 ct25), sl25⟩) (c25 : PySem.W.codeIn K cd25 "law" = true) (k25 : PySem.W.keepIn K (.ref fa25) = true)
    {t0 : Tok} (v0 : PySem.W.nsIn K mainGlobals "CHARACTERS" = some (some (.str "\n !\"#$&'()*+,-./012\
  3456789:;<=>?@ABCDEF\
  GHIJKLMNOPQRSTUVWXYZ\
  [\\]^_`abcdefghijklmn\
  opqrstuvwxyz{|}~" t0)))
    {t1 : Tok} (v1 : PySem.W.nsIn K mainGlobals "RULES" = some (some (.int 40 t1)))
    {t2 : Tok} (v2 : PySem.W.nsIn K mainGlobals "STATES" = some (some (.int 400 t2)))
    (z0 : PySem.W.nsIn K mainGlobals "abs" = some none)
    (z1 : PySem.W.nsIn K mainGlobals "all" = some none)
    (z2 : PySem.W.nsIn K mainGlobals "bool" = some none)
    (z3 : PySem.W.nsIn K mainGlobals "enumerate" = some none)
    (z4 : PySem.W.nsIn K mainGlobals "int" = some none)
    (z5 : PySem.W.nsIn K mainGlobals "isinstance" = some none)
    (z6 : PySem.W.nsIn K mainGlobals "len" = some none)
    (z7 : PySem.W.nsIn K mainGlobals "list" = some none)
    (z8 : PySem.W.nsIn K mainGlobals "range" = some none)
    (z9 : PySem.W.nsIn K mainGlobals "set" = some none)
    (z10 : PySem.W.nsIn K mainGlobals "sorted" = some none)
    (z11 : PySem.W.nsIn K mainGlobals "str" = some none)
    (z12 : PySem.W.nsIn K mainGlobals "tuple" = some none)
    (z13 : PySem.W.nsIn K mainGlobals "zip" = some none)
    {xC0 : Addr} (gx0 : PySem.W.nsIn K mainGlobals "InvalidMachine" = some (some (.ref xC0))) (qx0 : PySem.W.excIn K xC0 [.type "ValueError", .type "Exception", .type "BaseException", .type "object"] "ValueError.__new__" = true) (kx0 : PySem.W.keepIn K (.ref xC0) = true) (bx0 : PySem.W.subIn K (.ref xC0) (.type "BaseException") = some true) (tx0 : PySem.W.typeIn K (.ref xC0) = some (.type "type"))
    {xC1 : Addr} (gx1 : PySem.W.nsIn K mainGlobals "InvalidNumber" = some (some (.ref xC1))) (qx1 : PySem.W.excIn K xC1 [.type "ValueError", .type "Exception", .type "BaseException", .type "object"] "ValueError.__new__" = true) (kx1 : PySem.W.keepIn K (.ref xC1) = true) (bx1 : PySem.W.subIn K (.ref xC1) (.type "BaseException") = some true) (tx1 : PySem.W.typeIn K (.ref xC1) = some (.type "type"))
    (mx0 : PySem.W.exmOne K (.ref xC0) (.ref xC0) = some true)
    (mx1 : PySem.W.exmOne K (.ref xC0) (.ref xC1) = some false)
    (mx2 : PySem.W.exmOne K (.ref xC1) (.ref xC0) = some false)
    (mx3 : PySem.W.exmOne K (.ref xC1) (.ref xC1) = some true)
    : ∃ fd : FuncData, (∀ (s : Shared) (v : Value), BindsTo s fd ⟨[v], []⟩ [("_law_script", v)]) ∧ ∀ base : Heap, K.In base → base.Ns mainGlobals mg → FnOk l.prog w K mg base (L2.CX l.prog w) 8 fa fd ["_law_script"] (spLaw K) := by
  have T : Txt K mg := ⟨⟨_, _, fun_mk (st := s_f_is_whole) l0 c0 k0, PySem.W.mg_of X G a0, (fun_mk (st := s_f_is_whole) l0 c0 k0).binds (ps := ["value", "low", "high"]) (fun _ _ _ _ _ _ us hl => match us, hl with | [_, _, _], _ => rfl)⟩,
    ⟨_, _, fun_mk (st := s_f_is_tuple_of) l1 c1 k1, PySem.W.mg_of X G a1, (fun_mk (st := s_f_is_tuple_of) l1 c1 k1).binds (ps := ["value", "low", "high"]) (fun _ _ _ _ _ _ us hl => match us, hl with | [_, _, _], _ => rfl)⟩,
    ⟨_, _, fun_mk (st := s_f_ascends) l2 c2 k2, PySem.W.mg_of X G a2, (fun_mk (st := s_f_ascends) l2 c2 k2).binds (ps := ["items"]) (fun _ _ _ _ _ _ us hl => match us, hl with | [_], _ => rfl)⟩,
    ⟨_, _, fun_mk (st := s_f_is_text) l3 c3 k3, PySem.W.mg_of X G a3, (fun_mk (st := s_f_is_text) l3 c3 k3).binds (ps := ["value", "most"]) (fun _ _ _ _ _ _ us hl => match us, hl with | [_, _], _ => rfl)⟩,
    ⟨_, _, fun_mk (st := s_f_ascending) l4 c4 k4, PySem.W.mg_of X G a4, (fun_mk (st := s_f_ascending) l4 c4 k4).binds (ps := ["letters"]) (fun _ _ _ _ _ _ us hl => match us, hl with | [_], _ => rfl)⟩,
    ⟨_, _, fun_mk (st := s_f_fits_letters) l5 c5 k5, PySem.W.mg_of X G a5, (fun_mk (st := s_f_fits_letters) l5 c5 k5).binds (ps := ["value"]) (fun _ _ _ _ _ _ us hl => match us, hl with | [_], _ => rfl)⟩,
    ⟨_, _, fun_mk (st := s_f_fits_state) l6 c6 k6, PySem.W.mg_of X G a6, (fun_mk (st := s_f_fits_state) l6 c6 k6).binds (ps := ["value", "many"]) (fun _ _ _ _ _ _ us hl => match us, hl with | [_, _], _ => rfl)⟩,
    ⟨_, _, fun_mk (st := s_f_is_word_machine) l7 c7 k7, PySem.W.mg_of X G a7, (fun_mk (st := s_f_is_word_machine) l7 c7 k7).binds (ps := ["value"]) (fun _ _ _ _ _ _ us hl => match us, hl with | [_], _ => rfl)⟩,
    ⟨_, _, fun_mk (st := s_f_need_machine) l8 c8 k8, PySem.W.mg_of X G a8, (fun_mk (st := s_f_need_machine) l8 c8 k8).binds (ps := ["value"]) (fun _ _ _ _ _ _ us hl => match us, hl with | [_], _ => rfl)⟩,
    ⟨_, _, fun_mk (st := s_f_need_state) l9 c9 k9, PySem.W.mg_of X G a9, (fun_mk (st := s_f_need_state) l9 c9 k9).binds (ps := ["machine", "value"]) (fun _ _ _ _ _ _ us hl => match us, hl with | [_, _], _ => rfl)⟩,
    ⟨_, _, fun_mk (st := s_f_way_of) l10 c10 k10, PySem.W.mg_of X G a10, (fun_mk (st := s_f_way_of) l10 c10 k10).binds (ps := ["machine", "state", "sign"]) (fun _ _ _ _ _ _ us hl => match us, hl with | [_, _, _], _ => rfl)⟩,
    ⟨_, _, fun_mk (st := s_f_parting_word) l11 c11 k11, PySem.W.mg_of X G a11, (fun_mk (st := s_f_parting_word) l11 c11 k11).binds (ps := ["machine", "one", "other"]) (fun _ _ _ _ _ _ us hl => match us, hl with | [_, _, _], _ => rfl)⟩,
    ⟨_, _, fun_mk (st := s_l_cup) l12 c12 k12, PySem.W.mg_of X G a12, (fun_mk (st := s_l_cup) l12 c12 k12).binds (ps := ["_law_script"]) (fun _ _ _ _ _ _ us hl => match us, hl with | [_], _ => rfl)⟩,
    ⟨_, _, fun_mk (st := s_l_roll) l13 c13 k13, PySem.W.mg_of X G a13, (fun_mk (st := s_l_roll) l13 c13 k13).binds (ps := ["_law_cup_here", "_law_many"]) (fun _ _ _ _ _ _ us hl => match us, hl with | [_, _], _ => rfl)⟩,
    ⟨_, _, fun_mk (st := s_l_some) l14 c14 k14, PySem.W.mg_of X G a14, (fun_mk (st := s_l_some) l14 c14 k14).binds (ps := ["_law_cup_here", "_law_things"]) (fun _ _ _ _ _ _ us hl => match us, hl with | [_, _], _ => rfl)⟩,
    ⟨_, _, fun_mk (st := s_l_chars) l15 c15 k15, PySem.W.mg_of X G a15, (fun_mk (st := s_l_chars) l15 c15 k15).binds (ps := []) (fun _ _ _ _ _ _ us hl => match us, hl with | [], _ => rfl)⟩,
    ⟨_, _, fun_mk (st := s_l_is_whole) l16 c16 k16, PySem.W.mg_of X G a16, (fun_mk (st := s_l_is_whole) l16 c16 k16).binds (ps := ["_law_value"]) (fun _ _ _ _ _ _ us hl => match us, hl with | [_], _ => rfl)⟩,
    ⟨_, _, fun_mk (st := s_l_is_state) l17 c17 k17, PySem.W.mg_of X G a17, (fun_mk (st := s_l_is_state) l17 c17 k17).binds (ps := ["_law_value", "_law_many"]) (fun _ _ _ _ _ _ us hl => match us, hl with | [_, _], _ => rfl)⟩,
    ⟨_, _, fun_mk (st := s_l_is_machine) l18 c18 k18, PySem.W.mg_of X G a18, (fun_mk (st := s_l_is_machine) l18 c18 k18).binds (ps := ["_law_value"]) (fun _ _ _ _ _ _ us hl => match us, hl with | [_], _ => rfl)⟩,
    ⟨_, _, fun_mk (st := s_l_way) l19 c19 k19, PySem.W.mg_of X G a19, (fun_mk (st := s_l_way) l19 c19 k19).binds (ps := ["_law_machine_here", "_law_state", "_law_sign"]) (fun _ _ _ _ _ _ us hl => match us, hl with | [_, _, _], _ => rfl)⟩,
    ⟨_, _, fun_mk (st := s_l_walk) l20 c20 k20, PySem.W.mg_of X G a20, (fun_mk (st := s_l_walk) l20 c20 k20).binds (ps := ["_law_machine_here", "_law_state", "_law_word"]) (fun _ _ _ _ _ _ us hl => match us, hl with | [_, _, _], _ => rfl)⟩,
    ⟨_, _, fun_mk (st := s_l_machine) l21 c21 k21, PySem.W.mg_of X G a21, (fun_mk (st := s_l_machine) l21 c21 k21).binds (ps := ["_law_cup_here", "_law_chars_here"]) (fun _ _ _ _ _ _ us hl => match us, hl with | [_, _], _ => rfl)⟩,
    ⟨_, _, fun_mk (st := s_l_parted) l22 c22 k22, PySem.W.mg_of X G a22, (fun_mk (st := s_l_parted) l22 c22 k22).binds (ps := ["_law_machine_here", "_law_other", "_law_one", "_law_two", "_law_chars_here"]) (fun _ _ _ _ _ _ us hl => match us, hl with | [_, _, _, _, _], _ => rfl)⟩,
    ⟨_, _, fun_mk (st := s_l_told) l23 c23 k23, PySem.W.mg_of X G a23, (fun_mk (st := s_l_told) l23 c23 k23).binds (ps := ["_law_machine_here", "_law_one", "_law_other"]) (fun _ _ _ _ _ _ us hl => match us, hl with | [_, _, _], _ => rfl)⟩,
    ⟨_, _, fun_mk (st := s_l_parts) l24 c24 k24, PySem.W.mg_of X G a24, (fun_mk (st := s_l_parts) l24 c24 k24).binds (ps := ["_law_machine_here", "_law_one", "_law_other", "_law_word"]) (fun _ _ _ _ _ _ us hl => match us, hl with | [_, _, _, _], _ => rfl)⟩,
    ⟨_, _, fun_mk (st := s_f_law) l25 c25 k25, PySem.W.mg_of X G a25, (fun_mk (st := s_f_law) l25 c25 k25).binds (ps := ["_law_script"]) (fun _ _ _ _ _ _ us hl => match us, hl with | [_], _ => rfl)⟩,
    ⟨_, PySem.W.mg_of X G v0⟩,
    ⟨_, PySem.W.mg_of X G v1⟩,
    ⟨_, PySem.W.mg_of X G v2⟩,
    PySem.W.mg_none_of X G z0,
    PySem.W.mg_none_of X G z1,
    PySem.W.mg_none_of X G z2,
    PySem.W.mg_none_of X G z3,
    PySem.W.mg_none_of X G z4,
    PySem.W.mg_none_of X G z5,
    PySem.W.mg_none_of X G z6,
    PySem.W.mg_none_of X G z7,
    PySem.W.mg_none_of X G z8,
    PySem.W.mg_none_of X G z9,
    PySem.W.mg_none_of X G z10,
    PySem.W.mg_none_of X G z11,
    PySem.W.mg_none_of X G z12,
    PySem.W.mg_none_of X G z13,
    ⟨_, PySem.W.mg_of X G gx0, qx0, kx0, bx0, tx0⟩,
    ⟨_, PySem.W.mg_of X G gx1, qx1, kx1, bx1, tx1⟩,
    ⟨_, _, PySem.W.mg_of X G gx0, PySem.W.mg_of X G gx0, mx0⟩,
    ⟨_, _, PySem.W.mg_of X G gx0, PySem.W.mg_of X G gx1, mx1⟩,
    ⟨_, _, PySem.W.mg_of X G gx1, PySem.W.mg_of X G gx0, mx2⟩,
    ⟨_, _, PySem.W.mg_of X G gx1, PySem.W.mg_of X G gx1, mx3⟩⟩
  have e := hfa.symm.trans (PySem.W.mg_of X G a25)
  cases e
  exact ⟨PySem.W.fnOf "law" "law" (defArgs s_f_law) (defBody s_f_law) (defScope s_f_law) .none kV25 dc25 pm25 an25 cd25 ct25, fun s v => .of_eq rfl, fun base _ _ => fin T (fun_mk (st := s_f_law) l25 c25 k25)⟩
end K27
open PySem PySem.W PyProof.Rows
set_option maxHeartbeats 0 in
theorem PySem.Challenge.cw_shiftroads_k27_parting_words_holds : PySem.Challenge.rw_shiftroads_k27_parting_words.Holds := by
  w_on; o_law; k_head; (case hw => w_witness2)
  k_fill
  refine L2.walk_of (l := PySem.Challenge.rw_shiftroads_k27_parting_words) (n := 63) (k := 8) (x := "_law_script") (CX := fun w => L2.CX PySem.Challenge.rw_shiftroads_k27_parting_words.prog w) (sp := fun w => PD.spLaw _) rfl (by decide) rfl ⟨rfl, by decide, by decide⟩ (fun w h Y => PySem.W.kIn_of Y) ?F (fun _ _ a ns hl _ hS => ⟨a, ns, rfl, hS, hl, fun _ => rfl⟩) (fun _ _ _ _ _ ⟨_, _, _, _, _, _, _, _, _, _, _, _, h⟩ => h)
  case F =>
    intro w mg fa h KX G hmg
    refine' K27.all_mk KX G hmg ?a0 ?l0 ?c0 ?k0 ?a1 ?l1 ?c1 ?k1 ?a2 ?l2 ?c2 ?k2 ?a3 ?l3 ?c3 ?k3 ?a4 ?l4 ?c4 ?k4 ?a5 ?l5 ?c5 ?k5 ?a6 ?l6 ?c6 ?k6 ?a7 ?l7 ?c7 ?k7 ?a8 ?l8 ?c8 ?k8 ?a9 ?l9 ?c9 ?k9 ?a10 ?l10 ?c10 ?k10 ?a11 ?l11 ?c11 ?k11 ?a12 ?l12 ?c12 ?k12 ?a13 ?l13 ?c13 ?k13 ?a14 ?l14 ?c14 ?k14 ?a15 ?l15 ?c15 ?k15 ?a16 ?l16 ?c16 ?k16 ?a17 ?l17 ?c17 ?k17 ?a18 ?l18 ?c18 ?k18 ?a19 ?l19 ?c19 ?k19 ?a20 ?l20 ?c20 ?k20 ?a21 ?l21 ?c21 ?k21 ?a22 ?l22 ?c22 ?k22 ?a23 ?l23 ?c23 ?k23 ?a24 ?l24 ?c24 ?k24 ?a25 ?l25 ?c25 ?k25 ?v0 ?v1 ?v2 ?z0 ?z1 ?z2 ?z3 ?z4 ?z5 ?z6 ?z7 ?z8 ?z9 ?z10 ?z11 ?z12 ?z13 ?gx0 ?qx0 ?kx0 ?bx0 ?tx0 ?gx1 ?qx1 ?kx1 ?bx1 ?tx1 ?mx0 ?mx1 ?mx2 ?mx3
    (case a0 => k_is); (case l0 => k_is); (case c0 => k_is); (case k0 => k_is); (case a1 => k_is); (case l1 => k_is); (case c1 => k_is); (case k1 => k_is); (case a2 => k_is); (case l2 => k_is); (case c2 => k_is); (case k2 => k_is); (case a3 => k_is); (case l3 => k_is); (case c3 => k_is); (case k3 => k_is); (case a4 => k_is); (case l4 => k_is); (case c4 => k_is); (case k4 => k_is); (case a5 => k_is); (case l5 => k_is); (case c5 => k_is); (case k5 => k_is); (case a6 => k_is); (case l6 => k_is); (case c6 => k_is); (case k6 => k_is); (case a7 => k_is); (case l7 => k_is); (case c7 => k_is); (case k7 => k_is); (case a8 => k_is); (case l8 => k_is); (case c8 => k_is); (case k8 => k_is); (case a9 => k_is); (case l9 => k_is); (case c9 => k_is); (case k9 => k_is); (case a10 => k_is); (case l10 => k_is); (case c10 => k_is); (case k10 => k_is); (case a11 => k_is); (case l11 => k_is); (case c11 => k_is); (case k11 => k_is); (case a12 => k_is); (case l12 => k_is); (case c12 => k_is); (case k12 => k_is); (case a13 => k_is); (case l13 => k_is); (case c13 => k_is); (case k13 => k_is); (case a14 => k_is); (case l14 => k_is); (case c14 => k_is); (case k14 => k_is); (case a15 => k_is); (case l15 => k_is); (case c15 => k_is); (case k15 => k_is); (case a16 => k_is); (case l16 => k_is); (case c16 => k_is); (case k16 => k_is); (case a17 => k_is); (case l17 => k_is); (case c17 => k_is); (case k17 => k_is); (case a18 => k_is); (case l18 => k_is); (case c18 => k_is); (case k18 => k_is); (case a19 => k_is); (case l19 => k_is); (case c19 => k_is); (case k19 => k_is); (case a20 => k_is); (case l20 => k_is); (case c20 => k_is); (case k20 => k_is); (case a21 => k_is); (case l21 => k_is); (case c21 => k_is); (case k21 => k_is); (case a22 => k_is); (case l22 => k_is); (case c22 => k_is); (case k22 => k_is); (case a23 => k_is); (case l23 => k_is); (case c23 => k_is); (case k23 => k_is); (case a24 => k_is); (case l24 => k_is); (case c24 => k_is); (case k24 => k_is); (case a25 => k_is); (case l25 => k_is); (case c25 => k_is); (case k25 => k_is); (case v0 => k_is); (case v1 => k_is); (case v2 => k_is); (case z0 => k_is); (case z1 => k_is); (case z2 => k_is); (case z3 => k_is); (case z4 => k_is); (case z5 => k_is); (case z6 => k_is); (case z7 => k_is); (case z8 => k_is); (case z9 => k_is); (case z10 => k_is); (case z11 => k_is); (case z12 => k_is); (case z13 => k_is); (case gx0 => k_is); (case qx0 => k_exc); (case kx0 => k_is); (case bx0 => k_is); (case tx0 => k_is); (case gx1 => k_is); (case qx1 => k_exc); (case kx1 => k_is); (case bx1 => k_is); (case tx1 => k_is); (case mx0 => kts_exm); (case mx1 => kts_exm); (case mx2 => kts_exm); (case mx3 => kts_exm)
