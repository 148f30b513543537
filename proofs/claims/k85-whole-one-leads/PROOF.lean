import PyProof.Rows.All
import Wide.All
import OpenK.AllK
import Wide.FinOn
import HandS.ForMost
import HandS.SortKw
import HandS.TupAny
import HandS.Lambda
import HandS.EndTab
import HandS.Walk
import HandS.Flow
import HandS.ListItems
import KE.DataMinKey
import KE.KDictList
import KE.SortData
import KE.DataEq
import PySem.Challenge.RW_farshelf_k85_whole_one_leads_a_term
set_option Elab.async false
set_option maxRecDepth 100000
set_option maxHeartbeats 4000000
set_option autoImplicit false
/-! The law's mathematics: masters, messages, ghosts, the invariant; no program here. -/
namespace K85

inductive Role where
  | hears | stands | leads
  deriving DecidableEq

structure Ms where
  term : Nat
  of : Nat
  log : List Int
  done : Nat
  role : Role
  voices : List (Nat × Nat × List Int)
  sizes : List (Nat × Nat)

inductive Msg where
  | stand (src dst term : Nat)
  | voice (src dst term of : Nat) (log : List Int)
  | keep (src dst term : Nat) (rows : List Int) (done : Nat)
  | kept (src dst term size : Nat)

def Msg.dst : Msg → Nat
  | .stand _ d _ => d
  | .voice _ d _ _ _ => d
  | .keep _ d _ _ _ => d
  | .kept _ d _ _ => d

/-- a dict's store, a dict's look -/
def put {α : Type} (k : Nat) (v : α) (l : List (Nat × α)) : List (Nat × α) :=
  if (l.any fun p => decide (p.1 = k)) = true then l.map fun p => if p.1 = k then (p.1, v) else p else l ++ [(k, v)]
def look {α : Type} (k : Nat) (l : List (Nat × α)) : Option α := (l.find? fun p => decide (p.1 = k)).map (·.2)
theorem put_nodup {α : Type} {k : Nat} {v : α} {l : List (Nat × α)} (h : (l.map (·.1)).Nodup) : ((put k v l).map (·.1)).Nodup := by
  unfold put
  split
  · have e : (l.map fun p => if p.1 = k then (p.1, v) else p).map (·.1) = l.map (·.1) := by
      rw [List.map_map]
      congr 1
      funext p
      show (if p.1 = k then (p.1, v) else p).1 = p.1
      split <;> rfl
    rw [e]
    exact h
  · rename_i hn
    rw [List.map_append, List.nodup_append]
    refine ⟨h, by simp, fun a ha b hb e => hn ?_⟩
    obtain ⟨p, hp, ea⟩ := List.mem_map.mp ha
    have hb : b = k := by simpa using hb
    exact List.any_eq_true.mpr ⟨p, hp, decide_eq_true (by rw [ea, e, hb])⟩
theorem put_mem {α : Type} {k : Nat} {v : α} {l : List (Nat × α)} {p : Nat × α} (h : p ∈ put k v l) : p = (k, v) ∨ p ∈ l := by
  unfold put at h
  split at h
  · obtain ⟨q, hq, e⟩ := List.mem_map.mp h
    split at e
    · rename_i z
      rw [z] at e
      exact .inl e.symm
    · rw [← e]
      exact .inr hq
  · rcases List.mem_append.mp h with q | q
    · exact .inr q
    · exact .inl (by simpa using q)
theorem look_mem {α : Type} {k : Nat} {v : α} {l : List (Nat × α)} (h : look k l = some v) : (k, v) ∈ l := by
  unfold look at h
  obtain ⟨p, hp, e⟩ := Option.map_eq_some_iff.mp h
  have h1 := List.find?_some hp
  have h1 : p.1 = k := of_decide_eq_true h1
  have h2 := List.mem_of_find?_eq_some hp
  rw [← h1, ← e]
  exact h2
theorem put_len {α : Type} {k : Nat} {v : α} {l : List (Nat × α)} : (put k v l).length ≤ l.length + 1 := by
  unfold put
  split
  · rw [List.length_map]
    omega
  · rw [List.length_append]
    exact Nat.le_refl _

/-! ### counting -/
/-- a list of unlike numbers below n has at most n -/
theorem nodup_le : ∀ (n : Nat) (l : List Nat), l.Nodup → (∀ j ∈ l, j < n) → l.length ≤ n := by
  intro n
  induction n with
  | zero =>
    intro l _ h
    cases l with
    | nil => exact Nat.le_refl _
    | cons a r => exact absurd (h a List.mem_cons_self) (Nat.not_lt_zero _)
  | succ n ih =>
    intro l hd h
    have e1 : (l.filter (fun j => decide (j ≠ n))).length ≤ n := by
      refine ih _ (hd.filter _) fun j hj => ?_
      obtain ⟨h1, h2⟩ := List.mem_filter.mp hj
      have h2 : j ≠ n := of_decide_eq_true h2
      have := h j h1
      omega
    have e2 : (l.filter (fun j => !decide (j ≠ n))).length ≤ 1 := by
      have hd2 : (l.filter (fun j => !decide (j ≠ n))).Nodup := hd.filter _
      have hall : ∀ j ∈ l.filter (fun j => !decide (j ≠ n)), j = n := fun j hj => by
        obtain ⟨_, h2⟩ := List.mem_filter.mp hj
        simpa using h2
      generalize l.filter (fun j => !decide (j ≠ n)) = z at hd2 hall
      match z, hd2, hall with
      | [], _, _ => exact Nat.zero_le _
      | [a], _, _ => exact Nat.le_refl _
      | a :: b :: r, hd2, hall =>
        exfalso
        have ha := hall a (by simp)
        have hb := hall b (by simp)
        rw [List.nodup_cons] at hd2
        exact hd2.1 (by rw [ha, ← hb]; simp)
    have e3 : l.length = (l.filter (fun j => decide (j ≠ n))).length + (l.filter (fun j => !decide (j ≠ n))).length := by
      clear e1 e2 hd h
      induction l with
      | nil => rfl
      | cons a r ih =>
        by_cases h : a = n <;> simp [h] at ih ⊢ <;> omega
    omega

/-- two majorities meet -/
theorem maj_meet {n : Nat} {q v : List Nat} (hq : q.Nodup) (hv : v.Nodup) (lq : ∀ j ∈ q, j < n) (lv : ∀ j ∈ v, j < n) (mq : n < 2 * q.length) (mv : n < 2 * v.length) : ∃ j, j ∈ q ∧ j ∈ v := by
  refine Classical.byContradiction fun h => ?_
  have hd : (q ++ v).Nodup := by
    rw [List.nodup_append]
    exact ⟨hq, hv, fun a ha b hb e => h ⟨a, ha, by rw [e]; exact hb⟩⟩
  have hl : (q ++ v).length ≤ n := nodup_le n _ hd fun j hj => by
    rcases List.mem_append.mp hj with z | z
    · exact lq j z
    · exact lv j z
  rw [List.length_append] at hl
  omega

/-! ### ghosts -/
structure Gh where
  el : Nat → Prop
  iL : Nat → Nat
  L : Nat → List Int
  acc : Nat → Nat → Nat
  tm : Nat → Nat

structure Ext (n k : Nat) (g g' : Gh) : Prop where
  tm : ∀ j, g.tm j ≤ g'.tm j
  tmo : ∀ j, j ≠ k → g'.tm j = g.tm j
  el : ∀ t, g.el t → g'.el t
  iL : ∀ t, g.el t → g'.iL t = g.iL t
  L : ∀ t, g.L t <+: g'.L t
  Lo : ∀ t, t % n ≠ k → g'.L t = g.L t
  elo : ∀ t, t % n ≠ k → g'.el t → g.el t
  acc : ∀ j t, g.acc j t ≤ g'.acc j t
  acco : ∀ j, j ≠ k → g'.acc j = g.acc j
  accf : ∀ j t, t < g.tm j → g'.acc j t = g.acc j t

theorem Ext.refl (n k : Nat) (g : Gh) : Ext n k g g :=
  ⟨fun _ => Nat.le_refl _, fun _ _ => rfl, fun _ h => h, fun _ _ => rfl, fun _ => List.prefix_refl _, fun _ _ => rfl, fun _ _ h => h, fun _ _ => Nat.le_refl _, fun _ _ => rfl, fun _ _ _ => rfl⟩

/-- what a voice says stays true -/
structure VF (g : Gh) (n j t of : Nat) (lg : List Int) : Prop where
  lt : j < n
  tm : t ≤ g.tm j
  of_lt : of < t
  el : g.el of
  iL : g.iL of ≤ lg.length
  L : lg <+: g.L of
  acc : g.acc j of ≤ lg.length
  none : ∀ t', of < t' → t' < t → g.acc j t' = 0

theorem VF.ext {n k : Nat} {g g' : Gh} (x : Ext n k g g') {j t of : Nat} {lg : List Int} (h : VF g n j t of lg) : VF g' n j t of lg where
  lt := h.lt
  tm := Nat.le_trans h.tm (x.tm j)
  of_lt := h.of_lt
  el := x.el _ h.el
  iL := by rw [x.iL _ h.el]; exact h.iL
  L := h.L.trans (x.L _)
  acc := by rw [x.accf j of (Nat.lt_of_lt_of_le h.of_lt h.tm)]; exact h.acc
  none := fun t' h1 h2 => by rw [x.accf j t' (Nat.lt_of_lt_of_le h2 h.tm)]; exact h.none t' h1 h2

/-- a majority has d rows in term t -/
def Ch (g : Gh) (n t d : Nat) : Prop := ∃ q : List Nat, q.Nodup ∧ (∀ j ∈ q, j < n) ∧ n < 2 * q.length ∧ ∀ j ∈ q, d ≤ g.acc j t
theorem Ch.ext {n k : Nat} {g g' : Gh} (x : Ext n k g g') {t d : Nat} (h : Ch g n t d) : Ch g' n t d := by
  obtain ⟨q, h1, h2, h3, h4⟩ := h
  exact ⟨q, h1, h2, h3, fun j hj => Nat.le_trans (h4 j hj) (x.acc j t)⟩
theorem Ch.mono {n : Nat} {g : Gh} {t d d' : Nat} (h : Ch g n t d) (hd : d' ≤ d) : Ch g n t d' := by
  obtain ⟨q, h1, h2, h3, h4⟩ := h
  exact ⟨q, h1, h2, h3, fun j hj => Nat.le_trans hd (h4 j hj)⟩

/-- how a term's leader was elected -/
structure Quo (g : Gh) (n t : Nat) (v : List Nat) (o : Nat) : Prop where
  nd : v.Nodup
  lt : ∀ j ∈ v, j < n
  maj : n < 2 * v.length
  o_lt : o < t
  el : g.el o
  iL : g.iL o ≤ g.iL t
  tm : ∀ j ∈ v, t ≤ g.tm j
  acc : ∀ j ∈ v, g.acc j o ≤ g.iL t
  none : ∀ j ∈ v, ∀ t', o < t' → t' < t → g.acc j t' = 0
theorem Quo.ext {n k : Nat} {g g' : Gh} (x : Ext n k g g') {t o : Nat} {v : List Nat} (ht : g.el t) (h : Quo g n t v o) : Quo g' n t v o where
  nd := h.nd
  lt := h.lt
  maj := h.maj
  o_lt := h.o_lt
  el := x.el _ h.el
  iL := by rw [x.iL _ h.el, x.iL _ ht]; exact h.iL
  tm := fun j hj => Nat.le_trans (h.tm j hj) (x.tm j)
  acc := fun j hj => by rw [x.accf j o (Nat.lt_of_lt_of_le h.o_lt (h.tm j hj)), x.iL _ ht]; exact h.acc j hj
  none := fun j hj t' h1 h2 => by rw [x.accf j t' (Nat.lt_of_lt_of_le h2 (h.tm j hj))]; exact h.none j hj t' h1 h2

/-- what holds of the masters' common past -/
structure GI (g : Gh) (n : Nat) : Prop where
  el0 : g.el 0
  L0 : g.L 0 = []
  iLL : ∀ t, g.el t → g.iL t ≤ (g.L t).length
  elt : ∀ t, g.el t → t ≤ g.tm (t % n)
  quo : ∀ t, g.el t → t ≠ 0 → ∃ v o, Quo g n t v o
  accEl : ∀ j t, 0 < g.acc j t → g.el t
  accL : ∀ j t, g.acc j t ≤ (g.L t).length
  Lne : ∀ t, ¬ g.el t → g.L t = []

/-- what is written stays in the logs of later terms -/
theorem GI.kept {g : Gh} {n : Nat} (G : GI g n) {t d : Nat} (hd : 0 < d) (h : Ch g n t d) : ∀ (t' : Nat), t < t' → g.el t' → d ≤ g.iL t' := by
  intro t'
  induction t' using Nat.strongRecOn with
  | _ t' ih =>
    intro hlt hel
    obtain ⟨v, o, q⟩ := G.quo t' hel (by omega)
    obtain ⟨w, w1, w2, w3, w4⟩ := h
    obtain ⟨j, j1, j2⟩ := maj_meet w1 q.nd w2 q.lt w3 q.maj
    have hj := w4 j j1
    rcases Nat.lt_trichotomy t o with z | z | z
    · exact Nat.le_trans (ih o q.o_lt z q.el) q.iL
    · subst z
      exact Nat.le_trans hj (q.acc j j2)
    · have := q.none j j2 t z hlt
      omega

/-- the invariant of one master -/
structure MI (g : Gh) (n k : Nat) (m : Ms) : Prop where
  tm : g.tm k = m.term
  of_le : m.of ≤ m.term
  el : g.el m.of
  iL : g.iL m.of ≤ m.log.length
  L : m.log <+: g.L m.of
  acc : g.acc k m.of = m.log.length
  none : ∀ t, m.of < t → g.acc k t = 0
  lead : m.role = .leads → m.term % n = k ∧ m.of = m.term ∧ m.log = g.L m.term ∧ 0 < m.term
  size : m.role = .leads → (m.sizes.map (·.1)).Nodup ∧ ∀ p ∈ m.sizes, p.1 < n ∧ p.1 ≠ k ∧ p.2 ≤ g.acc p.1 m.term
  stand : m.role = .stands → m.term % n = k ∧ ¬ g.el m.term ∧ m.of < m.term
  voice : m.role = .stands → (m.voices.map (·.1)).Nodup ∧ ∀ p ∈ m.voices, VF g n p.1 m.term p.2.1 p.2.2
  done : m.done = 0 ∨ ∃ t, t ≤ m.of ∧ Ch g n t m.done ∧ (t = m.of → m.done ≤ m.log.length)

theorem MI.done_le {g : Gh} {n k : Nat} {m : Ms} (G : GI g n) (h : MI g n k m) : m.done ≤ m.log.length := by
  rcases h.done with e | ⟨t, h1, h2, h3⟩
  · omega
  · by_cases e : t = m.of
    · exact h3 e
    · by_cases z : m.done = 0
      · omega
      · exact Nat.le_trans (G.kept (by omega) h2 m.of (by omega) h.el) h.iL

theorem MI.ext {n k j : Nat} {g g' : Gh} (x : Ext n k g g') (hj : j ≠ k) {m : Ms} (h : MI g n j m) : MI g' n j m where
  tm := by rw [x.tmo j hj]; exact h.tm
  of_le := h.of_le
  el := x.el _ h.el
  iL := by rw [x.iL _ h.el]; exact h.iL
  L := h.L.trans (x.L _)
  acc := by rw [x.acco j hj]; exact h.acc
  none := fun t ht => by rw [x.acco j hj]; exact h.none t ht
  lead := fun e => by
    obtain ⟨h1, h2, h3, h4⟩ := h.lead e
    exact ⟨h1, h2, by rw [x.Lo _ (by rw [h1]; exact hj)]; exact h3, h4⟩
  size := fun e => ⟨(h.size e).1, fun p hp => ⟨((h.size e).2 p hp).1, ((h.size e).2 p hp).2.1, Nat.le_trans ((h.size e).2 p hp).2.2 (x.acc _ _)⟩⟩
  stand := fun e => by
    obtain ⟨h1, h2, h3⟩ := h.stand e
    exact ⟨h1, fun z => h2 (x.elo _ (by rw [h1]; exact hj) z), h3⟩
  voice := fun e => ⟨(h.voice e).1, fun p hp => ((h.voice e).2 p hp).ext x⟩
  done := by
    rcases h.done with e | ⟨t, h1, h2, h3⟩
    · exact .inl e
    · exact .inr ⟨t, h1, h2.ext x, h3⟩

/-- what holds of every message that was ever told -/
def MsgOk (g : Gh) (n : Nat) : Msg → Prop
  | .stand src dst t => src < n ∧ dst < n ∧ src ≠ dst ∧ t % n = src
  | .voice src dst t o lg => dst < n ∧ src ≠ dst ∧ t % n = dst ∧ VF g n src t o lg
  | .keep src dst t rows sure => src < n ∧ dst < n ∧ src ≠ dst ∧ t % n = src ∧ t ≠ 0 ∧ g.el t ∧ g.iL t ≤ rows.length ∧ rows <+: g.L t ∧ (sure = 0 ∨ ∃ t0, t0 ≤ t ∧ Ch g n t0 sure)
  | .kept src dst t size => src < n ∧ dst < n ∧ src ≠ dst ∧ size ≤ g.acc src t
theorem MsgOk.ext {n k : Nat} {g g' : Gh} (x : Ext n k g g') {m : Msg} (h : MsgOk g n m) : MsgOk g' n m := by
  cases m with
  | stand src dst t => exact h
  | voice src dst t o lg => exact ⟨h.1, h.2.1, h.2.2.1, h.2.2.2.ext x⟩
  | keep src dst t rows sure =>
    obtain ⟨h1, h2, h3, h4, h5, h6, h7, h8, h9⟩ := h
    refine ⟨h1, h2, h3, h4, h5, x.el _ h6, by rw [x.iL _ h6]; exact h7, h8.trans (x.L _), ?_⟩
    rcases h9 with e | ⟨t0, e1, e2⟩
    · exact .inl e
    · exact .inr ⟨t0, e1, e2.ext x⟩
  | kept src dst t size =>
    obtain ⟨h1, h2, h3, h4⟩ := h
    exact ⟨h1, h2, h3, Nat.le_trans h4 (x.acc _ _)⟩

/-! ### what the masters do -/
/-- count_voices -/
def CV (n : Nat) (m m' : Ms) : Prop :=
  (¬ n < 2 * m.voices.length ∧ m' = m) ∨
  (n < 2 * m.voices.length ∧ ∃ v ∈ m.voices.map (·.2), (∀ u ∈ m.voices.map (·.2), u.1 < v.1 ∨ (u.1 = v.1 ∧ u.2.length ≤ v.2.length)) ∧ m' = { m with log := v.2, of := m.term, role := .leads, sizes := [] })
/-- count_sizes -/
def sizesOf (m : Ms) : List Nat := m.sizes.map (·.2) ++ [m.log.length]
def CS (n : Nat) (m m' : Ms) : Prop :=
  m' = m ∨ ∃ s, s ∈ sizesOf m ∧ n < 2 * ((sizesOf m).filter (fun x => decide (s ≤ x))).length ∧ m' = { m with done := max m.done s }
def others (n k : Nat) : List Nat := (List.range n).filter fun i => decide (i ≠ k)
theorem mem_others {n k o : Nat} : o ∈ others n k ↔ o < n ∧ o ≠ k := by
  unfold others
  rw [List.mem_filter, List.mem_range]
  simp
def keeps (n k : Nat) (m : Ms) : List Msg := (others n k).map fun o => .keep k o m.term m.log m.done

def keepM (m : Ms) (t : Nat) (rows : List Int) (sure : Nat) : Ms :=
  if m.of < t ∨ m.log.length < rows.length then { m with term := t, role := .hears, log := rows, of := t, done := max m.done (min sure rows.length) }
  else { m with term := t, role := .hears, done := max m.done (min sure m.log.length) }

def HearRel (n k : Nat) (m : Ms) : Msg → Ms → List Msg → Prop
  | .stand src _ t, m', told =>
    (m.term < t ∧ m' = { m with term := t, role := .hears } ∧ told = [.voice k src t m.of m.log]) ∨ (¬ m.term < t ∧ m' = m ∧ told = [])
  | .voice src _ t o lg, m', told =>
    told = [] ∧ ((m.role = .stands ∧ t = m.term ∧ CV n { m with voices := put src (o, lg) m.voices } m') ∨ (¬ (m.role = .stands ∧ t = m.term) ∧ m' = m))
  | .keep src _ t rows sure, m', told =>
    (m.term ≤ t ∧ m' = keepM m t rows sure ∧ told = [.kept k src t m'.log.length]) ∨ (¬ m.term ≤ t ∧ m' = m ∧ told = [])
  | .kept src _ t size, m', told =>
    told = [] ∧ ((m.role = .leads ∧ t = m.term ∧ CS n { m with sizes := put src (max ((look src m.sizes).getD 0) size) m.sizes } m') ∨ (¬ (m.role = .leads ∧ t = m.term) ∧ m' = m))

theorem Ext.trans {n k : Nat} {a b c : Gh} (x : Ext n k a b) (y : Ext n k b c) : Ext n k a c where
  tm := fun j => Nat.le_trans (x.tm j) (y.tm j)
  tmo := fun j h => (y.tmo j h).trans (x.tmo j h)
  el := fun t h => y.el t (x.el t h)
  iL := fun t h => (y.iL t (x.el t h)).trans (x.iL t h)
  L := fun t => (x.L t).trans (y.L t)
  Lo := fun t h => (y.Lo t h).trans (x.Lo t h)
  elo := fun t h z => x.elo t h (y.elo t h z)
  acc := fun j t => Nat.le_trans (x.acc j t) (y.acc j t)
  acco := fun j h => (y.acco j h).trans (x.acco j h)
  accf := fun j t h => (y.accf j t (Nat.lt_of_lt_of_le h (x.tm j))).trans (x.accf j t h)

/-! ### the ghosts' steps -/
def tmG (g : Gh) (k t : Nat) : Gh := { g with tm := fun j => if j = k then t else g.tm j }
theorem tmG_at (g : Gh) (k t : Nat) : (tmG g k t).tm k = t := if_pos rfl
theorem tm_ext {g : Gh} {n k t : Nat} (h : g.tm k ≤ t) : Ext n k g (tmG g k t) where
  tm := fun j => by
    show g.tm j ≤ if j = k then t else g.tm j
    split
    · rename_i e
      rw [e]
      exact h
    · exact Nat.le_refl _
  tmo := fun j hj => if_neg hj
  el := fun _ h => h
  iL := fun _ _ => rfl
  L := fun _ => List.prefix_refl _
  Lo := fun _ _ => rfl
  elo := fun _ _ h => h
  acc := fun _ _ => Nat.le_refl _
  acco := fun _ _ => rfl
  accf := fun _ _ _ => rfl
theorem tm_gi {g : Gh} {n k t : Nat} (G : GI g n) (h : g.tm k ≤ t) : GI (tmG g k t) n where
  el0 := G.el0
  L0 := G.L0
  iLL := G.iLL
  elt := fun t' e => Nat.le_trans (G.elt t' e) ((tm_ext (n := n) h).tm _)
  quo := fun t' e z => let ⟨v, o, q⟩ := G.quo t' e z; ⟨v, o, q.ext (tm_ext h) e⟩
  accEl := G.accEl
  accL := G.accL
  Lne := G.Lne

def winG (g : Gh) (k T : Nat) (lg : List Int) : Gh :=
  { g with el := fun t => g.el t ∨ t = T, iL := fun t => if t = T then lg.length else g.iL t, L := fun t => if t = T then lg else g.L t, acc := fun j t => if j = k ∧ t = T then lg.length else g.acc j t }

/-- behind count_voices -/
theorem cv_step {g : Gh} {n k : Nat} {m m' : Ms} (hk : k < n) (G : GI g n) (h : MI g n k m) (hs : m.role = .stands) (c : CV n m m') :
    ∃ g', Ext n k g g' ∧ GI g' n ∧ MI g' n k m' ∧ g'.tm = g.tm ∧ (∀ B, (∀ t, (g.L t).length ≤ B) → ∀ t, (g'.L t).length ≤ B) := by
  rcases c with ⟨_, e⟩ | ⟨hmaj, v, hv, hmax, e⟩
  · rw [e]
    exact ⟨g, Ext.refl n k g, G, h, rfl, fun B hB => hB⟩
  · obtain ⟨s1, s2, s3⟩ := h.stand hs
    obtain ⟨v1, v2⟩ := h.voice hs
    obtain ⟨pv, hpv, epv⟩ := List.mem_map.mp hv
    have F := v2 pv hpv
    rw [epv] at F
    have T0 : m.term ≠ 0 := by omega
    have hacc0 : g.acc k m.term = 0 := h.none _ s3
    have ltT : v.1 < m.term := F.of_lt
    have x : Ext n k g (winG g k m.term v.2) := by
      refine ⟨fun j => Nat.le_refl _, fun _ _ => rfl, fun t e => .inl e, fun t e => ?_, fun t => ?_, fun t ht => ?_, fun t ht e => ?_, fun j t => ?_, fun j hj => ?_, fun j t ht => ?_⟩
      · exact if_neg fun z => s2 (by rw [← z]; exact e)
      · show g.L t <+: if t = m.term then v.2 else g.L t
        split
        · rename_i z
          rw [z, G.Lne _ s2]
          exact List.nil_prefix
        · exact List.prefix_refl _
      · exact if_neg fun z => ht (by rw [z]; exact s1)
      · rcases e with e | e
        · exact e
        · exact absurd (by rw [e]; exact s1) ht
      · show g.acc j t ≤ if j = k ∧ t = m.term then v.2.length else g.acc j t
        split
        · rename_i z
          rw [z.1, z.2, hacc0]
          exact Nat.zero_le _
        · exact Nat.le_refl _
      · funext t
        exact if_neg fun z => hj z.1
      · refine if_neg fun z => ?_
        rw [z.1, z.2, h.tm] at ht
        exact Nat.lt_irrefl _ ht
    have accO : ∀ j t, t ≠ m.term → (winG g k m.term v.2).acc j t = g.acc j t := fun j t ht => if_neg fun z => ht z.2
    have iLT : (winG g k m.term v.2).iL m.term = v.2.length := if_pos rfl
    have LT : (winG g k m.term v.2).L m.term = v.2 := if_pos rfl
    have elT : (winG g k m.term v.2).el m.term := .inr rfl
    have accT : (winG g k m.term v.2).acc k m.term = v.2.length := if_pos ⟨rfl, rfl⟩
    have oneq : v.1 ≠ m.term := by omega
    have G' : GI (winG g k m.term v.2) n := by
      refine ⟨.inl G.el0, ?_, fun t e => ?_, fun t e => ?_, fun t e t0 => ?_, fun j t e => ?_, fun j t => ?_, fun t e => ?_⟩
      · exact (if_neg (fun z => T0 z.symm)).trans G.L0
      · by_cases z : t = m.term
        · rw [z, iLT, LT]
          exact Nat.le_refl _
        · have a1 : (winG g k m.term v.2).iL t = g.iL t := if_neg z
          have a2 : (winG g k m.term v.2).L t = g.L t := if_neg z
          rw [a1, a2]
          rcases e with e | e
          · exact G.iLL t e
          · exact absurd e z
      · rcases e with e | e
        · exact G.elt t e
        · rw [e, s1]
          show m.term ≤ g.tm k
          rw [h.tm]
          exact Nat.le_refl _
      · by_cases z : t = m.term
        · subst z
          refine ⟨m.voices.map (·.1), v.1, v1, fun j hj => ?_, by rw [List.length_map]; exact hmaj, ltT, .inl F.el, ?_, fun j hj => ?_, fun j hj => ?_, fun j hj t' t1 t2 => ?_⟩
          · obtain ⟨p, hp, e⟩ := List.mem_map.mp hj
            rw [← e]
            exact (v2 p hp).lt
          · rw [iLT, show (winG g k m.term v.2).iL v.1 = g.iL v.1 from if_neg oneq]
            exact F.iL
          · obtain ⟨p, hp, e⟩ := List.mem_map.mp hj
            rw [← e]
            exact (v2 p hp).tm
          · obtain ⟨p, hp, e⟩ := List.mem_map.mp hj
            rw [← e, iLT, accO _ _ oneq]
            have V := v2 p hp
            rcases hmax p.2 (List.mem_map.mpr ⟨p, hp, rfl⟩) with z | ⟨z1, z2⟩
            · rw [V.none v.1 z ltT]
              exact Nat.zero_le _
            · have := V.acc
              rw [z1] at this
              exact Nat.le_trans this z2
          · obtain ⟨p, hp, e⟩ := List.mem_map.mp hj
            rw [← e, accO _ _ (by omega)]
            have V := v2 p hp
            refine V.none t' ?_ t2
            rcases hmax p.2 (List.mem_map.mpr ⟨p, hp, rfl⟩) with z | ⟨z1, z2⟩ <;> omega
        · rcases e with e | e
          · obtain ⟨w, o, q⟩ := G.quo t e t0
            exact ⟨w, o, q.ext x e⟩
          · exact absurd e z
      · by_cases z : t = m.term
        · exact .inr z
        · rw [accO j t z] at e
          exact .inl (G.accEl j t e)
      · by_cases z : t = m.term
        · by_cases zj : j = k
          · rw [z, zj, accT, LT]
            exact Nat.le_refl _
          · rw [show (winG g k m.term v.2).acc j t = g.acc j t from if_neg fun q => zj q.1, z]
            by_cases q : 0 < g.acc j m.term
            · exact absurd (G.accEl j _ q) s2
            · omega
        · rw [accO j t z, show (winG g k m.term v.2).L t = g.L t from if_neg z]
          exact G.accL j t
      · have z : t ≠ m.term := fun z => e (.inr z)
        rw [show (winG g k m.term v.2).L t = g.L t from if_neg z]
        exact G.Lne t fun q => e (.inl q)
    refine ⟨_, x, G', ?_, rfl, fun B hB t => ?_⟩
    · rw [e]
      refine ⟨h.tm, Nat.le_refl _, elT, by rw [iLT]; exact Nat.le_refl _, by rw [LT]; exact List.prefix_refl _, accT, fun t ht => ?_, fun _ => ⟨s1, rfl, LT.symm, by show 0 < m.term; omega⟩, fun _ => ⟨List.nodup_nil, fun p hp => absurd hp (by simp)⟩, fun z => (by cases z), fun z => (by cases z), ?_⟩
      · have ht : m.term < t := ht
        rw [accO k t (by omega)]
        exact h.none t (by omega)
      · rcases h.done with z | ⟨t, t1, t2, t3⟩
        · exact .inl z
        · exact .inr ⟨t, by show t ≤ m.term; omega, t2.ext x, fun z => by
            have z : t = m.term := z
            omega⟩
    · show (if t = m.term then v.2 else g.L t).length ≤ B
      split
      · exact Nat.le_trans F.L.length_le (hB _)
      · exact hB t

/-- behind count_sizes -/
theorem cs_step {g : Gh} {n k : Nat} {m m' : Ms} (hk : k < n) (G : GI g n) (h : MI g n k m) (hs : m.role = .leads) (c : CS n m m') : MI g n k m' := by
  rcases c with e | ⟨s, hs1, hs2, e⟩
  · rw [e]
    exact h
  · obtain ⟨l1, l2, l3, l4⟩ := h.lead hs
    obtain ⟨z1, z2⟩ := h.size hs
    have hle : s ≤ m.log.length := by
      unfold sizesOf at hs1
      rcases List.mem_append.mp hs1 with q | q
      · obtain ⟨p, hp, e⟩ := List.mem_map.mp q
        rw [← e, l3]
        exact Nat.le_trans (z2 p hp).2.2 (G.accL _ _)
      · rw [List.mem_singleton] at q
        rw [q]
        exact Nat.le_refl _
    have hch : Ch g n m.term s := by
      refine ⟨k :: (m.sizes.filter (fun p => decide (s ≤ p.2))).map (·.1), ?_, ?_, ?_, ?_⟩
      · rw [List.nodup_cons]
        refine ⟨fun hm => ?_, ?_⟩
        · obtain ⟨p, hp, e⟩ := List.mem_map.mp hm
          exact (z2 p (List.mem_filter.mp hp).1).2.1 e
        · exact z1.sublist (List.filter_sublist.map _)
      · intro j hj
        rcases List.mem_cons.mp hj with q | q
        · rw [q]
          exact hk
        · obtain ⟨p, hp, e⟩ := List.mem_map.mp q
          rw [← e]
          exact (z2 p (List.mem_filter.mp hp).1).1
      · have e1 : ((sizesOf m).filter (fun x => decide (s ≤ x))).length = ((m.sizes.filter (fun p => decide (s ≤ p.2))).map (·.1)).length + 1 := by
          unfold sizesOf
          rw [List.filter_append, List.length_append, List.length_map]
          congr 1
          · rw [List.filter_map, List.length_map]
            rfl
          · simp [hle]
        rw [e1] at hs2
        rw [List.length_cons]
        exact hs2
      · intro j hj
        rcases List.mem_cons.mp hj with q | q
        · have := h.acc
          rw [l2] at this
          rw [q, this]
          exact hle
        · obtain ⟨p, hp, e⟩ := List.mem_map.mp q
          obtain ⟨q1, q2⟩ := List.mem_filter.mp hp
          have q2 : s ≤ p.2 := of_decide_eq_true q2
          rw [← e]
          exact Nat.le_trans q2 (z2 p q1).2.2
    rw [e]
    refine ⟨h.tm, h.of_le, h.el, h.iL, h.L, h.acc, h.none, h.lead, h.size, h.stand, h.voice, ?_⟩
    show max m.done s = 0 ∨ ∃ t, t ≤ m.of ∧ Ch g n t (max m.done s) ∧ (t = m.of → max m.done s ≤ m.log.length)
    by_cases q : s ≤ m.done
    · rw [Nat.max_eq_left q]
      exact h.done
    · rw [Nat.max_eq_right (by omega)]
      exact .inr ⟨m.term, by omega, hch, fun _ => hle⟩

def addG (g : Gh) (k T : Nat) (lg : List Int) : Gh :=
  { g with L := fun t => if t = T then lg else g.L t, acc := fun j t => if j = k ∧ t = T then lg.length else g.acc j t }

/-- a row is put behind the log of one that leads -/
theorem add_step {g : Gh} {n k : Nat} {m : Ms} (G : GI g n) (h : MI g n k m) (hs : m.role = .leads) (r : Int) :
    ∃ g', Ext n k g g' ∧ GI g' n ∧ MI g' n k { m with log := m.log ++ [r] } ∧ g'.tm = g.tm ∧ (∀ B, (∀ t, (g.L t).length ≤ B) → ∀ t, (g'.L t).length ≤ B + 1) := by
  obtain ⟨l1, l2, l3, l4⟩ := h.lead hs
  have hA := h.acc
  rw [l2] at hA
  have x : Ext n k g (addG g k m.term (m.log ++ [r])) := by
    refine ⟨fun j => Nat.le_refl _, fun _ _ => rfl, fun t e => e, fun t e => rfl, fun t => ?_, fun t ht => ?_, fun t ht e => e, fun j t => ?_, fun j hj => ?_, fun j t ht => ?_⟩
    · show g.L t <+: if t = m.term then m.log ++ [r] else g.L t
      split
      · rename_i z
        rw [z, ← l3]
        exact List.prefix_append _ _
      · exact List.prefix_refl _
    · exact if_neg fun z => ht (by rw [z]; exact l1)
    · show g.acc j t ≤ if j = k ∧ t = m.term then (m.log ++ [r]).length else g.acc j t
      split
      · rename_i z
        rw [z.1, z.2, hA, List.length_append]
        omega
      · exact Nat.le_refl _
    · funext t
      exact if_neg fun z => hj z.1
    · refine if_neg fun z => ?_
      rw [z.1, z.2, h.tm] at ht
      exact Nat.lt_irrefl _ ht
  have LT : (addG g k m.term (m.log ++ [r])).L m.term = m.log ++ [r] := if_pos rfl
  have accT : (addG g k m.term (m.log ++ [r])).acc k m.term = (m.log ++ [r]).length := if_pos ⟨rfl, rfl⟩
  have hel : g.el m.term := by
    have := h.el
    rw [l2] at this
    exact this
  have G' : GI (addG g k m.term (m.log ++ [r])) n := by
    refine ⟨G.el0, ?_, fun t e => ?_, fun t e => G.elt t e, fun t e t0 => ?_, fun j t e => ?_, fun j t => ?_, fun t e => ?_⟩
    · exact (if_neg (by omega)).trans G.L0
    · exact Nat.le_trans (G.iLL t e) (x.L t).length_le
    · obtain ⟨w, o, q⟩ := G.quo t e t0
      exact ⟨w, o, q.ext x e⟩
    · by_cases z : t = m.term
      · rw [z]
        exact hel
      · rw [show (addG g k m.term (m.log ++ [r])).acc j t = g.acc j t from if_neg fun q => z q.2] at e
        exact G.accEl j t e
    · by_cases z : j = k ∧ t = m.term
      · rw [z.1, z.2, accT, LT]
        exact Nat.le_refl _
      · rw [show (addG g k m.term (m.log ++ [r])).acc j t = g.acc j t from if_neg z]
        exact Nat.le_trans (G.accL j t) (x.L t).length_le
    · have z : t ≠ m.term := fun z => e (by rw [z]; exact hel)
      rw [show (addG g k m.term (m.log ++ [r])).L t = g.L t from if_neg z]
      exact G.Lne t e
  refine ⟨_, x, G', ?_, rfl, fun B hB t => ?_⟩
  · refine ⟨h.tm, h.of_le, h.el, ?_, ?_, ?_, fun t ht => ?_, fun _ => ⟨l1, l2, LT.symm, l4⟩, fun e => ⟨(h.size e).1, fun p hp => ?_⟩, fun e => ?_, fun e => ?_, ?_⟩
    · show g.iL m.of ≤ (m.log ++ [r]).length
      rw [List.length_append]
      exact Nat.le_trans h.iL (Nat.le_add_right _ _)
    · show m.log ++ [r] <+: (addG g k m.term (m.log ++ [r])).L m.of
      rw [l2, LT]
      exact List.prefix_refl _
    · show (addG g k m.term (m.log ++ [r])).acc k m.of = (m.log ++ [r]).length
      rw [l2]
      exact accT
    · have ht : m.of < t := ht
      rw [show (addG g k m.term (m.log ++ [r])).acc k t = g.acc k t from if_neg fun q => by omega]
      exact h.none t ht
    · have q := (h.size e).2 p hp
      exact ⟨q.1, q.2.1, Nat.le_trans q.2.2 (x.acc _ _)⟩
    · rw [show m.role = Role.stands from e] at hs
      cases hs
    · rw [show m.role = Role.stands from e] at hs
      cases hs
    · rcases h.done with z | ⟨t, t1, t2, t3⟩
      · exact .inl z
      · exact .inr ⟨t, t1, t2.ext x, fun z => by
          show m.done ≤ (m.log ++ [r]).length
          rw [List.length_append]
          exact Nat.le_trans (t3 z) (Nat.le_add_right _ _)⟩
  · show (if t = m.term then m.log ++ [r] else g.L t).length ≤ B + 1
    split
    · have := hB m.term
      rw [← l3] at this
      rw [List.length_append]
      exact Nat.add_le_add_right this 1
    · exact Nat.le_succ_of_le (hB t)

/-- a voice is given -/
theorem voice_step {g : Gh} {n k : Nat} {m : Ms} (hk : k < n) (G : GI g n) (h : MI g n k m) {t : Nat} (ht : m.term < t) :
    Ext n k g (tmG g k t) ∧ GI (tmG g k t) n ∧ MI (tmG g k t) n k { m with term := t, role := .hears } ∧ VF (tmG g k t) n k t m.of m.log := by
  have hle : g.tm k ≤ t := by
    rw [h.tm]
    omega
  have hof := h.of_le
  refine ⟨tm_ext hle, tm_gi G hle, ⟨tmG_at g k t, by show m.of ≤ t; omega, h.el, h.iL, h.L, h.acc, h.none, fun z => (by cases z), fun z => (by cases z), fun z => (by cases z), fun z => (by cases z), ?_⟩, ?_⟩
  · rcases h.done with z | ⟨t, t1, t2, t3⟩
    · exact .inl z
    · exact .inr ⟨t, t1, t2.ext (tm_ext hle), t3⟩
  · refine ⟨hk, by rw [tmG_at]; exact Nat.le_refl _, by omega, h.el, h.iL, h.L, ?_, fun t' h1 _ => h.none t' h1⟩
    show g.acc k m.of ≤ m.log.length
    rw [h.acc]
    exact Nat.le_refl _

def keepG (g : Gh) (k t : Nat) (len : Nat) : Gh := { tmG g k t with acc := fun j t' => if j = k ∧ t' = t then len else g.acc j t' }

/-- behind hear_keep -/
theorem keep_step {g : Gh} {n k : Nat} {m : Ms} (hk : k < n) (G : GI g n) (h : MI g n k m) {src dst t : Nat} {rows : List Int} {sure : Nat} (M : MsgOk g n (.keep src dst t rows sure)) (hd : dst = k) (ht : m.term ≤ t) :
    ∃ g', Ext n k g g' ∧ GI g' n ∧ MI g' n k (keepM m t rows sure) ∧ g'.tm = (tmG g k t).tm ∧ g'.L = g.L ∧ MsgOk g' n (.kept k src t (keepM m t rows sure).log.length) := by
  subst hd
  obtain ⟨m1, m2, m3, m4, m5, m6, m7, m8, m9⟩ := M
  have hle : g.tm dst ≤ t := by
    rw [h.tm]
    exact ht
  have hof := h.of_le
  have dn : ∀ (g' : Gh) (lg : List Int), Ext n dst g g' → (m.of = t → m.log.length ≤ lg.length) → (max m.done (min sure lg.length) = 0 ∨ ∃ t0, t0 ≤ t ∧ Ch g' n t0 (max m.done (min sure lg.length)) ∧ (t0 = t → max m.done (min sure lg.length) ≤ lg.length)) := by
    intro g' lg x hlg
    by_cases q : min sure lg.length ≤ m.done
    · rw [Nat.max_eq_left q]
      rcases h.done with z | ⟨t0, t1, t2, t3⟩
      · exact .inl z
      · refine .inr ⟨t0, by omega, t2.ext x, fun z => ?_⟩
        have e : m.of = t := by omega
        exact Nat.le_trans (t3 (by omega)) (hlg e)
    · rw [Nat.max_eq_right (by omega)]
      rcases m9 with z | ⟨t0, t1, t2⟩
      · omega
      · exact .inr ⟨t0, t1, (t2.ext x).mono (Nat.min_le_left _ _), fun _ => Nat.min_le_right _ _⟩
  by_cases hc : m.of < t ∨ m.log.length < rows.length
  · have e : keepM m t rows sure = { m with term := t, role := .hears, log := rows, of := t, done := max m.done (min sure rows.length) } := if_pos hc
    have ha : g.acc dst t ≤ rows.length := by
      by_cases q : m.of < t
      · rw [h.none t q]
        exact Nat.zero_le _
      · have e2 : m.of = t := by omega
        rw [← e2, h.acc]
        omega
    have x : Ext n dst g (keepG g dst t rows.length) := by
      refine ⟨(tm_ext (n := n) hle).tm, (tm_ext (n := n) hle).tmo, fun _ h => h, fun _ _ => rfl, fun _ => List.prefix_refl _, fun _ _ => rfl, fun _ _ h => h, fun j t' => ?_, fun j hj => ?_, fun j t' h' => ?_⟩
      · show g.acc j t' ≤ if j = dst ∧ t' = t then rows.length else g.acc j t'
        split
        · rename_i z
          rw [z.1, z.2]
          exact ha
        · exact Nat.le_refl _
      · funext t'
        exact if_neg fun z => hj z.1
      · refine if_neg fun z => ?_
        rw [z.1, z.2] at h'
        omega
    have accT : (keepG g dst t rows.length).acc dst t = rows.length := if_pos ⟨rfl, rfl⟩
    refine ⟨_, x, ⟨G.el0, G.L0, G.iLL, fun t' z => Nat.le_trans (G.elt t' z) (x.tm _), fun t' z z0 => ?_, fun j t' z => ?_, fun j t' => ?_, G.Lne⟩, ?_, rfl, rfl, m2, m1, fun z => m3 z.symm, ?_⟩
    · obtain ⟨v, o, q⟩ := G.quo t' z z0
      exact ⟨v, o, q.ext x z⟩
    · by_cases q : j = dst ∧ t' = t
      · rw [q.2]
        exact m6
      · rw [show (keepG g dst t rows.length).acc j t' = g.acc j t' from if_neg q] at z
        exact G.accEl j t' z
    · by_cases q : j = dst ∧ t' = t
      · rw [q.1, q.2, accT]
        exact m8.length_le
      · rw [show (keepG g dst t rows.length).acc j t' = g.acc j t' from if_neg q]
        exact G.accL j t'
    · rw [e]
      refine ⟨tmG_at g dst t, Nat.le_refl _, m6, m7, m8, accT, fun t' z => ?_, fun z => (by cases z), fun z => (by cases z), fun z => (by cases z), fun z => (by cases z), dn _ rows x fun z => ?_⟩
      · have z : t < t' := z
        rw [show (keepG g dst t rows.length).acc dst t' = g.acc dst t' from if_neg fun q => by omega]
        exact h.none t' (by omega)
      · rcases hc with q | q <;> omega
    · rw [e]
      exact Nat.le_of_eq accT.symm
  · have e : keepM m t rows sure = { m with term := t, role := .hears, done := max m.done (min sure m.log.length) } := if_neg hc
    have x : Ext n dst g (tmG g dst t) := tm_ext hle
    have et : m.of = t := by omega
    refine ⟨_, x, tm_gi G hle, ?_, rfl, rfl, m2, m1, fun z => m3 z.symm, ?_⟩
    · rw [e]
      refine ⟨tmG_at g dst t, by show m.of ≤ t; omega, h.el, h.iL, h.L, h.acc, h.none, fun z => (by cases z), fun z => (by cases z), fun z => (by cases z), fun z => (by cases z), ?_⟩
      have := dn _ m.log x fun _ => Nat.le_refl _
      rw [← et] at this ⊢
      exact this
    · rw [e]
      have := h.acc
      rw [et] at this
      exact Nat.le_of_eq this.symm

theorem keeps_ok {g : Gh} {n k : Nat} {m : Ms} (hk : k < n) (h : MI g n k m) (hs : m.role = .leads) : ∀ x ∈ keeps n k m, MsgOk g n x := by
  intro x hx
  obtain ⟨o, ho, e⟩ := List.mem_map.mp hx
  obtain ⟨o1, o2⟩ := mem_others.mp ho
  obtain ⟨l1, l2, l3, l4⟩ := h.lead hs
  have a1 := h.el
  have a2 := h.iL
  have a3 := h.L
  rw [l2] at a1 a2 a3
  subst e
  refine ⟨hk, o1, fun z => o2 z.symm, l1, by omega, a1, a2, a3, ?_⟩
  rcases h.done with z | ⟨t, t1, t2, _⟩
  · exact .inl z
  · exact .inr ⟨t, by omega, t2⟩

theorem cv_role {n : Nat} {m m' : Ms} (c : CV n m m') : m'.term = m.term := by
  rcases c with ⟨_, e⟩ | ⟨_, v, _, _, e⟩ <;> rw [e]
theorem cs_term {n : Nat} {m m' : Ms} (c : CS n m m') : m'.term = m.term ∧ m'.role = m.role ∧ m'.log = m.log ∧ m'.of = m.of := by
  rcases c with e | ⟨s, _, _, e⟩ <;> rw [e] <;> exact ⟨rfl, rfl, rfl, rfl⟩

/-- a deed whose heard message is one of ev -/
inductive DeedE (n k : Nat) (ev : Msg → Prop) (m : Ms) : Ms → Option (List Msg) → Prop where
  | rise (t : Nat) (m' : Ms) : m.term < t → t % n = k → CV n { m with term := t, role := .stands, voices := [(k, m.of, m.log)] } m' → DeedE n k ev m m' (some ((others n k).map fun o => .stand k o t))
  | addNo : m.role ≠ .leads → DeedE n k ev m m none
  | add (r : Int) (m' : Ms) : m.role = .leads → CS n { m with log := m.log ++ [r] } m' → DeedE n k ev m m' (some (keeps n k m'))
  | send : m.role = .leads → DeedE n k ev m m (some (keeps n k m))
  | sendNo : m.role ≠ .leads → DeedE n k ev m m (some [])
  | fall : DeedE n k ev m { m with role := .hears, done := 0 } (some [])
  | hear (msg : Msg) (m' : Ms) (told : List Msg) : ev msg → msg.dst = k → HearRel n k m msg m' told → DeedE n k ev m m' (some told)

/-- what the looker has seen so far -/
structure Seen where
  terms : Nat → Nat
  voices : Nat → Nat → Bool
  logs : Nat → List Int

def vcount (n : Nat) (V : Nat → Nat → Bool) (t : Nat) : Nat := ((List.range n).filter fun j => V j t).length

/-- what the story's row tells -/
structure Row where
  m : Nat
  told : Option (List Msg)
  term : Nat
  of : Nat
  log : List Int
  done : Nat
  role : Role

/-- the voices told, one behind the other -/
def vset (V : Nat → Nat → Bool) (k t : Nat) : Nat → Nat → Bool := fun j u => if j = k ∧ u = t then true else V j u
inductive Voiced (n k : Nat) : (Nat → Nat → Bool) → List Msg → (Nat → Nat → Bool) → Prop where
  | nil (V : Nat → Nat → Bool) : Voiced n k V [] V
  | voice (V W : Nat → Nat → Bool) (src dst t o : Nat) (lg : List Int) (r : List Msg) : V k t = false → t % n = dst → Voiced n k (vset V k t) r W → Voiced n k V (.voice src dst t o lg :: r) W
  | other (V W : Nat → Nat → Bool) (x : Msg) (r : List Msg) : (∀ src dst t o lg, x ≠ .voice src dst t o lg) → Voiced n k V r W → Voiced n k V (x :: r) W

def lset (S : Nat → List Int) (o : Nat) (lg : List Int) : Nat → List Int := fun t => if t = o ∧ (S o).length < lg.length then lg else S t
def tset (S : Nat → Nat) (k t : Nat) : Nat → Nat := fun j => if j = k then t else S j

/-- a row that passes the look -/
structure Lawf (n : Nat) (S : Seen) (r : Row) (V : Nat → Nat → Bool) : Prop where
  term : S.terms r.m ≤ r.term
  of : r.of ≤ r.term
  done : r.done ≤ r.log.length
  voiced : Voiced n r.m S.voices (r.told.getD []) V
  lead : r.role = .leads → r.term % n = r.m ∧ n < 2 * (vcount n V r.term + 1) ∧ r.of = r.term
  begins : r.log.take (min r.log.length (S.logs r.of).length) = (S.logs r.of).take (min r.log.length (S.logs r.of).length)
def Seen.next (S : Seen) (r : Row) (V : Nat → Nat → Bool) : Seen := ⟨tset S.terms r.m r.term, V, lset S.logs r.of r.log⟩

inductive Runs (n : Nat) : Seen → List Row → Seen → Prop where
  | nil (S : Seen) : Runs n S [] S
  | cons (S S' : Seen) (r : Row) (rs : List Row) (V : Nat → Nat → Bool) : Lawf n S r V → Runs n (S.next r V) rs S' → Runs n S (r :: rs) S'
theorem Runs.snoc {n : Nat} {S S' : Seen} {rs : List Row} {r : Row} {V : Nat → Nat → Bool} (h : Runs n S rs S') (l : Lawf n S' r V) : Runs n S (rs ++ [r]) (S'.next r V) := by
  induction h with
  | nil S => exact .cons _ _ _ _ V l (.nil _)
  | cons S S' r' rs V' l' _ ih => exact .cons _ _ _ _ V' l' (ih l)

/-- the looker's knowledge against the ghosts -/
structure SI (g : Gh) (n : Nat) (ms : Nat → Ms) (ev : Msg → Prop) (S : Seen) : Prop where
  terms : ∀ k, k < n → S.terms k ≤ (ms k).term
  vt : ∀ j t, S.voices j t = true → t ≤ g.tm j
  vs : ∀ src dst t o lg, ev (.voice src dst t o lg) → S.voices src t = true
  vk : ∀ k, k < n → (ms k).role = .stands → ∀ p ∈ (ms k).voices, p.1 = k ∨ S.voices p.1 (ms k).term = true
  ld : ∀ k, k < n → (ms k).role = .leads → n < 2 * (vcount n S.voices (ms k).term + 1)
  logs : ∀ t, S.logs t <+: g.L t

/-- all that holds of the world -/
structure WI (n : Nat) (ms : Nat → Ms) (ev : Msg → Prop) (S : Seen) (B : Nat) : Prop where
  ex : ∃ g, GI g n ∧ (∀ j, j < n → MI g n j (ms j)) ∧ (∀ x, ev x → MsgOk g n x) ∧ SI g n ms ev S ∧ ∀ t, (g.L t).length ≤ B

def NotVoice (x : Msg) : Prop := ∀ src dst t o lg, x ≠ .voice src dst t o lg
theorem Voiced.plain {n k : Nat} {V : Nat → Nat → Bool} : ∀ {l : List Msg}, (∀ x ∈ l, NotVoice x) → Voiced n k V l V := by
  intro l
  induction l with
  | nil => intro _; exact .nil V
  | cons x r ih => intro h; exact .other V V x r (h x List.mem_cons_self) (ih fun y hy => h y (List.mem_cons_of_mem _ hy))

theorem vcount_mono {n : Nat} {V W : Nat → Nat → Bool} {t : Nat} (h : ∀ j t, V j t = true → W j t = true) : vcount n V t ≤ vcount n W t := by
  unfold vcount
  generalize List.range n = l
  induction l with
  | nil => exact Nat.le_refl _
  | cons a r ih =>
    by_cases e : V a t = true
    · rw [List.filter_cons_of_pos (p := fun j => V j t) e, List.filter_cons_of_pos (p := fun j => W j t) (h _ _ e)]
      exact Nat.succ_le_succ ih
    · rw [List.filter_cons_of_neg (p := fun j => V j t) e]
      by_cases e2 : W a t = true
      · rw [List.filter_cons_of_pos (p := fun j => W j t) e2]
        exact Nat.le_succ_of_le ih
      · rw [List.filter_cons_of_neg (p := fun j => W j t) e2]
        exact ih

/-- unlike numbers below n, all of p: no more than p has -/
theorem nodup_count {n : Nat} {p : Nat → Bool} : ∀ {l : List Nat}, l.Nodup → (∀ j ∈ l, j < n ∧ p j = true) → l.length ≤ ((List.range n).filter p).length := by
  intro l
  generalize hr : (List.range n).filter p = r
  have hsub : (∀ j ∈ l, j < n ∧ p j = true) → ∀ j ∈ l, j ∈ r := fun h j hj => by
    rw [← hr, List.mem_filter, List.mem_range]
    exact h j hj
  intro hd h
  have h' := hsub h
  clear hsub h hr
  induction l generalizing r with
  | nil => exact Nat.zero_le _
  | cons a l ih =>
    rw [List.nodup_cons] at hd
    have ha := h' a List.mem_cons_self
    have := ih (r.erase a) hd.2 fun j hj => by
      have hne : j ≠ a := fun z => hd.1 (by rw [← z]; exact hj)
      exact (List.mem_erase_of_ne hne).mpr (h' j (List.mem_cons_of_mem _ hj))
    rw [List.length_erase_of_mem ha] at this
    have hpos : 0 < r.length := List.length_pos_of_mem ha
    rw [List.length_cons]
    omega

theorem maj_count {n k : Nat} {V : Nat → Nat → Bool} {t : Nat} {α : Type} {l : List (Nat × α)} (hd : (l.map (·.1)).Nodup) (hl : ∀ p ∈ l, p.1 < n) (hv : ∀ p ∈ l, p.1 = k ∨ V p.1 t = true) (hm : n < 2 * l.length) : n < 2 * (vcount n V t + 1) := by
  have e : ((l.map (·.1)).erase k).length ≤ vcount n V t := by
    refine nodup_count (p := fun j => V j t) (hd.erase k) fun j hj => ?_
    obtain ⟨h1, h2⟩ := (hd.mem_erase_iff).mp hj
    obtain ⟨p, hp, e⟩ := List.mem_map.mp h2
    subst e
    exact ⟨hl p hp, (hv p hp).resolve_left h1⟩
  have e2 : l.length ≤ ((l.map (·.1)).erase k).length + 1 := by
    have := List.length_erase (l := l.map (·.1)) (a := k)
    rw [List.length_map] at this
    split at this <;> omega
  omega

/-- what a deed comes to -/
structure After (g : Gh) (n k : Nat) (m m' : Ms) (told : List Msg) (S : Seen) (B : Nat) (g' : Gh) (V : Nat → Nat → Bool) : Prop where
  ext : Ext n k g g'
  gi : GI g' n
  mi : MI g' n k m'
  ok : ∀ x ∈ told, MsgOk g' n x
  bnd : ∀ t, (g'.L t).length ≤ B + 1
  voiced : Voiced n k S.voices told V
  up : ∀ j t, S.voices j t = true → V j t = true
  only : ∀ j t, V j t = true → S.voices j t = true ∨ (j = k ∧ t = m'.term)
  new : ∀ src dst t o lg, Msg.voice src dst t o lg ∈ told → V src t = true
  stand : m'.role = .stands → ∀ p ∈ m'.voices, p.1 = k ∨ V p.1 m'.term = true
  lead : m'.role = .leads → n < 2 * (vcount n V m'.term + 1)
  le : m.term ≤ m'.term

theorem keeps_plain {n k : Nat} {m : Ms} : ∀ x ∈ keeps n k m, NotVoice x := by
  intro x hx src dst t o lg e
  obtain ⟨o, _, z⟩ := List.mem_map.mp hx
  rw [e] at z
  cases z

theorem after {g : Gh} {n k B : Nat} {ms : Nat → Ms} {ev : Msg → Prop} {S : Seen} {m' : Ms} {told : Option (List Msg)} (hk : k < n) (G : GI g n) (hM : ∀ j, j < n → MI g n j (ms j)) (hE : ∀ x, ev x → MsgOk g n x) (hS : SI g n ms ev S) (hB : ∀ t, (g.L t).length ≤ B)
    (D : DeedE n k ev (ms k) m' told) : ∃ g' V, After g n k (ms k) m' (told.getD []) S B g' V := by
  have h := hM k hk
  have hB1 : ∀ t, (g.L t).length ≤ B + 1 := fun t => Nat.le_succ_of_le (hB t)
  have same : ∀ l : List Msg, (∀ x ∈ l, NotVoice x) → (∀ x ∈ l, MsgOk g n x) → After g n k (ms k) (ms k) l S B g S.voices := fun l h1 h2 =>
    ⟨Ext.refl n k g, G, h, h2, hB1, .plain h1, fun _ _ z => z, fun _ _ z => .inl z, fun src dst t o lg z => absurd rfl (h1 _ z src dst t o lg), hS.vk k hk, hS.ld k hk, Nat.le_refl _⟩
  cases D with
  | addNo hr => exact ⟨_, _, same [] (fun x hx => by cases hx) fun x hx => by cases hx⟩
  | sendNo hr => exact ⟨_, _, same [] (fun x hx => by cases hx) fun x hx => by cases hx⟩
  | send hr => exact ⟨_, _, same _ keeps_plain (keeps_ok hk h hr)⟩
  | fall =>
    refine ⟨g, S.voices, Ext.refl n k g, G, ⟨h.tm, h.of_le, h.el, h.iL, h.L, h.acc, h.none, fun z => (by cases z), fun z => (by cases z), fun z => (by cases z), fun z => (by cases z), .inl rfl⟩, fun x hx => (by cases hx), hB1, .nil _, fun _ _ z => z, fun _ _ z => .inl z, fun src dst t o lg z => (by cases z), fun z => (by cases z), fun z => (by cases z), Nat.le_refl _⟩
  | add r m' hr c =>
    obtain ⟨g', x, G', h', _, hB'⟩ := add_step G h hr r
    have h2 := cs_step hk G' h' hr c
    obtain ⟨c1, c2, c3, c4⟩ := cs_term c
    have hr2 : m'.role = .leads := c2.trans hr
    refine ⟨g', S.voices, x, G', h2, keeps_ok hk h2 hr2, hB' B hB, .plain keeps_plain, fun _ _ z => z, fun _ _ z => .inl z, fun src dst t o lg z => absurd rfl (keeps_plain _ z src dst t o lg), fun z => ?_, fun z => ?_, Nat.le_of_eq c1.symm⟩
    · rw [hr2] at z
      cases z
    · rw [c1]
      exact hS.ld k hk hr
  | rise t m' ht hmod c =>
    have hle : g.tm k ≤ t := by
      rw [h.tm]
      omega
    have x1 : Ext n k g (tmG g k t) := tm_ext hle
    have G1 : GI (tmG g k t) n := tm_gi G hle
    have hof := h.of_le
    have h1 : MI (tmG g k t) n k { ms k with term := t, role := .stands, voices := [(k, (ms k).of, (ms k).log)] } := by
      refine ⟨tmG_at g k t, by show (ms k).of ≤ t; omega, h.el, h.iL, h.L, h.acc, h.none, fun z => (by cases z), fun z => (by cases z), fun _ => ⟨hmod, fun z => ?_, by show (ms k).of < t; omega⟩, fun _ => ⟨by simp, fun p hp => ?_⟩, ?_⟩
      · have z1 := G.elt t z
        rw [hmod, h.tm] at z1
        omega
      · have hp : p ∈ [(k, (ms k).of, (ms k).log)] := hp
        rw [List.mem_singleton] at hp
        subst hp
        exact (voice_step hk G h ht).2.2.2
      · rcases h.done with z | ⟨t, t1, t2, t3⟩
        · exact .inl z
        · exact .inr ⟨t, t1, t2.ext x1, t3⟩
    obtain ⟨g', x2, G2, h2, _, hB2⟩ := cv_step hk G1 h1 rfl c
    have et : m'.term = t := cv_role c
    refine ⟨g', S.voices, x1.trans x2, G2, h2, fun y hy => ?_, fun t => Nat.le_succ_of_le (hB2 B hB t), .plain fun y hy => ?_, fun _ _ z => z, fun _ _ z => .inl z, fun src dst t o lg z => ?_, fun z p hp => ?_, fun z => ?_, by omega⟩
    · obtain ⟨o, ho, e⟩ := List.mem_map.mp hy
      obtain ⟨o1, o2⟩ := mem_others.mp ho
      subst e
      exact ⟨hk, o1, fun z => o2 z.symm, hmod⟩
    · intro src dst t o lg e
      obtain ⟨o, _, z⟩ := List.mem_map.mp hy
      rw [e] at z
      cases z
    · obtain ⟨o, _, z⟩ := List.mem_map.mp z
      cases z
    · rcases c with ⟨_, e⟩ | ⟨_, v, _, _, e⟩
      · rw [e] at hp
        have hp : p ∈ [(k, (ms k).of, (ms k).log)] := hp
        rw [List.mem_singleton] at hp
        subst hp
        exact .inl rfl
      · rw [e] at z
        cases z
    · rcases c with ⟨_, e⟩ | ⟨hl, v, _, _, e⟩
      · rw [e] at z
        cases z
      · have hl : n < 2 * 1 := hl
        omega
  | hear msg m' told he hd hr =>
    have hok := hE msg he
    cases msg with
    | stand src dst t =>
      rcases hr with ⟨ht, e1, e2⟩ | ⟨_, e1, e2⟩
      · subst e2
        obtain ⟨x, G', h', hv⟩ := voice_step hk G h ht
        obtain ⟨o1, o2, o3, o4⟩ := hok
        have o3 : src ≠ k := by
          have hd : dst = k := hd
          rw [← hd]
          exact o3
        rw [e1]
        have nv : S.voices k t = false := by
          cases q : S.voices k t with
          | false => rfl
          | true =>
            have := hS.vt k t q
            rw [h.tm] at this
            omega
        refine ⟨_, vset S.voices k t, x, G', h', fun y hy => ?_, fun t => hB1 t, .voice _ _ _ _ _ _ _ _ nv o4 (.nil _), fun j u z => ?_, fun j u z => ?_, fun src' dst' u o lg z => ?_, fun z => (by cases z), fun z => (by cases z), by show (ms k).term ≤ t; omega⟩
        · have hy : y ∈ [Msg.voice k src t (ms k).of (ms k).log] := hy
          rw [List.mem_singleton] at hy
          subst hy
          exact ⟨o1, fun z => o3 z.symm, o4, hv⟩
        · unfold vset
          split
          · rfl
          · exact z
        · unfold vset at z
          split at z
          · rename_i q
            exact .inr ⟨q.1, q.2⟩
          · exact .inl z
        · have z : Msg.voice src' dst' u o lg ∈ [Msg.voice k src t (ms k).of (ms k).log] := z
          rw [List.mem_singleton] at z
          cases z
          unfold vset
          rw [if_pos ⟨rfl, rfl⟩]
      · subst e2
        rw [e1]
        exact ⟨_, _, same [] (fun x hx => by cases hx) fun x hx => by cases hx⟩
    | voice src dst t o lg =>
      obtain ⟨e2, hr⟩ := hr
      subst e2
      rcases hr with ⟨hs, et, c⟩ | ⟨_, e1⟩
      · obtain ⟨k1, k2, k3, k4⟩ := hok
        have hd : dst = k := hd
        subst hd
        subst et
        obtain ⟨s1, s2, s3⟩ := h.stand hs
        obtain ⟨v1, v2⟩ := h.voice hs
        have h1 : MI g n dst { ms dst with voices := put src (o, lg) (ms dst).voices } := by
          refine ⟨h.tm, h.of_le, h.el, h.iL, h.L, h.acc, h.none, h.lead, h.size, h.stand, fun _ => ⟨put_nodup v1, fun p hp => ?_⟩, h.done⟩
          rcases put_mem hp with z | z
          · rw [z]
            exact k4
          · exact v2 p z
        have hvk : ∀ p ∈ put src (o, lg) (ms dst).voices, p.1 = dst ∨ S.voices p.1 (ms dst).term = true := fun p hp => by
          rcases put_mem hp with z | z
          · rw [z]
            exact .inr (hS.vs _ _ _ _ _ he)
          · exact hS.vk dst hk hs p z
        obtain ⟨g', x2, G2, h2, _, hB2⟩ := cv_step hk G h1 hs c
        have et : m'.term = (ms dst).term := cv_role (m := { ms dst with voices := put src (o, lg) (ms dst).voices }) c
        refine ⟨g', S.voices, x2, G2, h2, fun y hy => (by cases hy), fun t => Nat.le_succ_of_le (hB2 B hB t), .nil _, fun _ _ z => z, fun _ _ z => .inl z, fun src dst t o lg z => (by cases z), fun z p hp => ?_, fun z => ?_, Nat.le_of_eq et.symm⟩
        · rw [et]
          rcases c with ⟨_, e⟩ | ⟨_, v, _, _, e⟩
          · rw [e] at hp
            exact hvk p hp
          · rw [e] at z
            cases z
        · rw [et]
          rcases c with ⟨_, e⟩ | ⟨hl, v, _, _, e⟩
          · rw [e] at z
            have z : (ms dst).role = .leads := z
            rw [hs] at z
            cases z
          · exact maj_count (put_nodup v1) (fun p hp => ((h1.voice hs).2 p hp).lt) hvk hl
      · rw [e1]
        exact ⟨_, _, same [] (fun x hx => by cases hx) fun x hx => by cases hx⟩
    | keep src dst t rows sure =>
      rcases hr with ⟨ht, e1, e2⟩ | ⟨_, e1, e2⟩
      · subst e2
        obtain ⟨g', x, G', h', _, eL, hM'⟩ := keep_step hk G h hok hd ht
        have hrole : (keepM (ms k) t rows sure).role = .hears := by
          unfold keepM
          split <;> rfl
        have hterm : (keepM (ms k) t rows sure).term = t := by
          unfold keepM
          split <;> rfl
        rw [e1]
        refine ⟨g', S.voices, x, G', h', fun y hy => ?_, fun u => by rw [eL]; exact hB1 u, .plain fun y hy => ?_, fun _ _ z => z, fun _ _ z => .inl z, fun src dst u o lg z => ?_, fun z => ?_, fun z => ?_, by rw [hterm]; exact ht⟩
        · have hy : y ∈ [Msg.kept k src t (keepM (ms k) t rows sure).log.length] := hy
          rw [List.mem_singleton] at hy
          subst hy
          exact hM'
        · have hy : y ∈ [Msg.kept k src t (keepM (ms k) t rows sure).log.length] := hy
          rw [List.mem_singleton] at hy
          subst hy
          intro _ _ _ _ _ e
          cases e
        · simp at z
        · rw [hrole] at z
          cases z
        · rw [hrole] at z
          cases z
      · subst e2
        rw [e1]
        exact ⟨_, _, same [] (fun x hx => by cases hx) fun x hx => by cases hx⟩
    | kept src dst t size =>
      obtain ⟨e2, hr⟩ := hr
      subst e2
      rcases hr with ⟨hs, et, c⟩ | ⟨_, e1⟩
      · obtain ⟨k1, k2, k3, k4⟩ := hok
        have hd : dst = k := hd
        subst hd
        subst et
        obtain ⟨z1, z2⟩ := h.size hs
        have h1 : MI g n dst { ms dst with sizes := put src (max ((look src (ms dst).sizes).getD 0) size) (ms dst).sizes } := by
          refine ⟨h.tm, h.of_le, h.el, h.iL, h.L, h.acc, h.none, h.lead, fun _ => ⟨put_nodup z1, fun p hp => ?_⟩, h.stand, h.voice, h.done⟩
          rcases put_mem hp with z | z
          · rw [z]
            refine ⟨k1, k3, Nat.max_le.mpr ⟨?_, k4⟩⟩
            cases q : look src (ms dst).sizes with
            | none => exact Nat.zero_le _
            | some u => exact (z2 _ (look_mem q)).2.2
          · exact z2 p z
        have h2 := cs_step hk G h1 hs c
        obtain ⟨c1, c2, c3, c4⟩ := cs_term c
        have hr2 : m'.role = .leads := c2.trans hs
        refine ⟨g, S.voices, Ext.refl n dst g, G, h2, fun y hy => (by cases hy), hB1, .nil _, fun _ _ z => z, fun _ _ z => .inl z, fun src dst t o lg z => (by cases z), fun z => ?_, fun z => ?_, Nat.le_of_eq c1.symm⟩
        · rw [hr2] at z
          cases z
        · rw [c1]
          exact hS.ld dst hk hs
      · rw [e1]
        exact ⟨_, _, same [] (fun x hx => by cases hx) fun x hx => by cases hx⟩

theorem begins_of {a b l : List Int} (ha : a <+: l) (hb : b <+: l) : a.take (min a.length b.length) = b.take (min a.length b.length) := by
  obtain ⟨x, rfl⟩ := ha
  obtain ⟨y, hy⟩ := hb
  have e : (b ++ y).take (min a.length b.length) = (a ++ x).take (min a.length b.length) := by rw [hy]
  rw [List.take_append_of_le_length (Nat.min_le_right _ _), List.take_append_of_le_length (Nat.min_le_left _ _)] at e
  exact e.symm

def rowOf (k : Nat) (told : Option (List Msg)) (m : Ms) : Row := ⟨k, told, m.term, m.of, m.log, m.done, m.role⟩

/-- THE STEP of the world: the row passes the look, and all holds behind it -/
theorem WI.step {n k B : Nat} {ms : Nat → Ms} {ev : Msg → Prop} {S : Seen} {m' : Ms} {told : Option (List Msg)} (hk : k < n) (W : WI n ms ev S B) (D : DeedE n k ev (ms k) m' told) :
    ∃ V, Lawf n S (rowOf k told m') V ∧ WI n (fun j => if j = k then m' else ms j) (fun x => ev x ∨ x ∈ told.getD []) (S.next (rowOf k told m') V) (B + 1) := by
  obtain ⟨g, G, hM, hE, hS, hB⟩ := W.ex
  obtain ⟨g', V, A⟩ := after hk G hM hE hS hB D
  have hM' := A.mi
  refine ⟨V, ⟨Nat.le_trans (hS.terms k hk) A.le, hM'.of_le, hM'.done_le A.gi, A.voiced, fun z => ⟨(hM'.lead z).1, A.lead z, (hM'.lead z).2.1⟩, ?_⟩, ⟨g', A.gi, fun j hj => ?_, fun x hx => ?_, ⟨fun j hj => ?_, fun j t z => ?_, fun src dst t o lg z => ?_, fun j hj z p hp => ?_, fun j hj z => ?_, fun t => ?_⟩, A.bnd⟩⟩
  · exact begins_of hM'.L ((hS.logs m'.of).trans (A.ext.L _))
  · by_cases e : j = k
    · rw [if_pos e, e]
      exact hM'
    · rw [if_neg e]
      exact (hM j hj).ext A.ext e
  · rcases hx with z | z
    · exact (hE x z).ext A.ext
    · exact A.ok x z
  · show (if j = k then m'.term else S.terms j) ≤ (if j = k then m' else ms j).term
    by_cases e : j = k
    · rw [if_pos e, if_pos e]
      exact Nat.le_refl _
    · rw [if_neg e, if_neg e]
      exact hS.terms j hj
  · rcases A.only j t z with q | ⟨q1, q2⟩
    · exact Nat.le_trans (hS.vt j t q) (A.ext.tm j)
    · rw [q1, q2, hM'.tm]
      exact Nat.le_refl _
  · rcases z with z | z
    · exact A.up _ _ (hS.vs _ _ _ _ _ z)
    · exact A.new _ _ _ _ _ z
  · by_cases e : j = k
    · rw [if_pos e] at z hp ⊢
      rw [e]
      exact A.stand z p hp
    · rw [if_neg e] at z hp ⊢
      exact (hS.vk j hj z p hp).imp id (A.up _ _)
  · show n < 2 * (vcount n V (if j = k then m' else ms j).term + 1)
    by_cases e : j = k
    · rw [if_pos e] at z ⊢
      exact A.lead z
    · rw [if_neg e] at z ⊢
      have := hS.ld j hj z
      have q := vcount_mono (n := n) (t := (ms j).term) A.up
      omega
  · show (if t = m'.of ∧ (S.logs m'.of).length < m'.log.length then m'.log else S.logs t) <+: g'.L t
    split
    · rename_i q
      rw [q.1]
      exact hM'.L
    · exact (hS.logs t).trans (A.ext.L t)

def ms0 : Ms := ⟨0, 0, [], 0, .hears, [], []⟩
def seen0 : Seen := ⟨fun _ => 0, fun _ _ => false, fun _ => []⟩
theorem WI.start (n : Nat) : WI n (fun _ => ms0) (fun _ => False) seen0 0 := by
  refine ⟨⟨fun t => t = 0, fun _ => 0, fun _ => [], fun _ _ => 0, fun _ => 0⟩, ⟨rfl, rfl, fun _ _ => Nat.le_refl _, fun t e => Nat.le_of_eq e, fun t e z => absurd e z, fun _ _ z => absurd z (Nat.lt_irrefl _), fun _ _ => Nat.le_refl _, fun _ _ => rfl⟩, fun j hj => ?_, fun _ z => z.elim, ⟨fun _ _ => Nat.le_refl _, fun _ _ z => (by cases z), fun _ _ _ _ _ z => z.elim, fun _ _ z => (by cases z), fun _ _ z => (by cases z), fun _ => List.nil_prefix⟩, fun _ => Nat.le_refl _⟩
  exact ⟨rfl, Nat.le_refl _, rfl, Nat.le_refl _, List.nil_prefix, rfl, fun _ _ => rfl, fun z => (by cases z), fun z => (by cases z), fun z => (by cases z), fun z => (by cases z), .inl rfl⟩

end K85
namespace K85
open PySem L2
def top (i : Nat) : Stmt := PySem.Challenge.pw_farshelf_k85_whole_one_leads_a_term.main.body.getD i (.Pass ⟨0, 0, 0, 0⟩)
end K85
namespace K85
open PySem L2
/-! ### the law's draws -/
theorem ixN0 {n : Nat} (h : 0 < n) : ixN n 0 = some 0 := by
  unfold ixN
  rw [if_pos (by decide), if_pos (by omega)]
  rfl
theorem upd_id {H : Hp} {a : Addr} {o : HO} (h : H a = some o) : upd H a o = H := by
  funext b
  unfold upd
  split
  · rename_i e
    rw [e, h]
  · rfl
abbrev sIsMore : Stmt := top 1
abbrev sCellAt : Stmt := top 5
abbrev sMix : Stmt := top 6
abbrev sRich : Stmt := top 7
abbrev sLeft : Stmt := top 8
abbrev sPick : Stmt := top 9
def spIsMore : Sp := fun vs H Q _ => ∃ a b : Int, vs = [.int a, .int b] ∧ Q (.bl (decide (b < 2 * a))) H
def spCellAt (K : PySem.W.Frag) : Sp := fun vs H Q _ => ∃ (a : Addr) (ns : List Int) (k : Int), vs = [.ref a, .int k] ∧ SqL K H a (ns.map V.int) ∧ 0 ≤ k ∧ ∀ c : Int, Q (.int c) H
def spMix : Sp := fun vs H Q _ => ∃ c k : Int, vs = [.int c, .int k] ∧ 0 ≤ k ∧ k < 1000000 ∧ ∀ r : Int, 0 ≤ r → r < 1999999973 → Q (.int r) H
def spRich : Sp := fun vs H Q _ => ∃ c k : Int, vs = [.int c, .int k] ∧ 0 ≤ k ∧ k < 10000 ∧ ∀ r : Int, 0 ≤ r → Q (.int r) H
/-- a list of draws -/
structure Dr (zs : List Int) : Prop where
  ne : zs ≠ []
  nn : ∀ z ∈ zs, 0 ≤ z
  len : zs.length ≤ 2
def spLeft (K : PySem.W.Frag) : Sp := fun vs H Q _ => ∃ (a : Addr) (ns : List Int) (k : Int), vs = [.ref a, .int k] ∧ SqL K H a (ns.map V.int) ∧ 0 ≤ k ∧ k < 10000 ∧ ∀ (p : Addr) (zs : List Int), H p = none → Dr zs → Q (.ref p) (upd H p (.lst (zs.map V.int)))
def spPick : Sp := fun vs H Q _ => ∃ (l : Addr) (zs : List Int) (n : Int), vs = [.ref l, .int n] ∧ H l = some (.lst (zs.map V.int)) ∧ Dr zs ∧ 0 < n ∧ n < 1000000 ∧ ∀ (d : Int) (zs' : List Int), 0 ≤ d → d < n → Dr zs' → Q (.int d) (upd H l (.lst (zs'.map V.int)))
section
variable {P : Program} {w : World} {K : PySem.W.Frag} {mg : Str → Option Value} {base : Heap}
theorem scIsMore : FnScope ["some", "many"] ["some", "many"] (defScope sIsMore) := ⟨rfl, rfl, rfl, by decide +kernel, rfl, by decide +kernel, by decide +kernel⟩
theorem ok_isMore {f : Addr} {fd : FuncData} (F : Fun K "is_more" "is_more" sIsMore f fd) : FnOk P w K mg base CX0 1 f fd ["some", "many"] spIsMore := by
  refine F.ok scIsMore (fun vs H Q E h => ?_) (fun cdv A outer s H vs Q E hr h => ?_)
  · obtain ⟨a, b, rfl, _⟩ := h
    rfl
  · obtain ⟨a, b, rfl, k⟩ := h
    refine ⟨_, pss_one (ps_ret (pe_cmpR op_gt (pe_op op_mul pe_int (pv 0)) (pv 1) (nomark _))), ?_⟩
    exact ⟨_, rfl, _, _, rfl, rfl, .inl ⟨by decide, by decide⟩, _, rfl, _, _, rfl, rfl, k⟩
theorem scCellAt : FnScope ["_law_script", "_law_k"] ["_law_script", "_law_k"] (defScope sCellAt) := ⟨rfl, rfl, rfl, by decide +kernel, rfl, by decide +kernel, by decide +kernel⟩
theorem ok_cellAt {f : Addr} {fd : FuncData} (F : Fun K "_law_cell_at" "_law_cell_at" sCellAt f fd) (zL : mg "len" = none) : FnOk P w K mg base CX0 1 f fd ["_law_script", "_law_k"] (spCellAt K) := by
  refine F.ok scCellAt (fun vs H Q E h => ?_) (fun cdv A outer s H vs Q E hr h => ?_)
  · obtain ⟨a, ns, k, rfl, _⟩ := h
    rfl
  · obtain ⟨a, ns, k, rfl, hS, hk, hq⟩ := h
    refine ⟨_, pss_cons (ps_if (pt_cmpR op_lt (pv 1) (pe_callB call_len_seq (by rfl) zL PySem.boot_len (pa_cons (pv 0) pa_nil)) (nomark _)) (pss_one (ps_ret (pe_ix ix_list (pv 0) (pv 1) (fun _ _ => rfl)))) pss_nil)
      (pss_one (ps_ret pe_int)), ?_⟩
    refine ⟨_, rfl, _, rfl, a, _, rfl, .inl hS, _, _, rfl, rfl, _, rfl, ?_⟩
    refine ite2 (fun hlt => ?_) (fun hlt => ?_)
    · have hlt := of_decide_eq_true hlt
      rw [List.length_map] at hlt
      obtain ⟨j, rfl⟩ : ∃ j : Nat, k = (j : Int) := ⟨k.toNat, by omega⟩
      have hj : j < ns.length := by omega
      exact ⟨_, rfl, _, rfl, a, _, _, V.int ns[j], rfl, rfl, hS, atI_nat (by rw [List.getElem?_map, List.getElem?_eq_getElem hj]; rfl), hq _⟩
    · exact hq _
theorem scMix : FnScope ["_law_cell", "_law_k", "_law_m"] ["_law_cell", "_law_k"] (defScope sMix) := ⟨rfl, rfl, rfl, by decide +kernel, rfl, by decide +kernel, by decide +kernel⟩
theorem ok_mix {f : Addr} {fd : FuncData} (F : Fun K "_law_mix" "_law_mix" sMix f fd) : FnOk P w K mg base CX0 1 f fd ["_law_cell", "_law_k"] spMix := by
  refine F.ok scMix (fun vs H Q E h => ?_) (fun cdv A outer s H vs Q E hr h => ?_)
  · obtain ⟨c, k, rfl, _⟩ := h
    rfl
  · obtain ⟨c, k, rfl, hk0, hk1, hq⟩ := h
    refine ⟨_, pss_cons (ps_set (i := 2) scMix.nd rfl (.inl rfl) (pe_op op_mod (pe_op op_mul (pe_op op_add (pe_op op_add (pe_op op_mod (pv 0) pe_int) (pe_op op_mul (pe_op op_mul (pv 1) (pv 1)) pe_int)) pe_int) pe_int) pe_int))
      (pss_one (ps_ret (pe_op op_mod (pe_op op_mul (pv 2) (pv 2)) pe_int))), ?_⟩
    refine ⟨_, rfl, _, _, rfl, rfl, (by show (0 : Int) < 2147483629; decide), _, rfl, _, rfl, _, _, rfl, rfl, .inl ⟨by omega, by omega⟩, _, _, rfl, rfl, .inr ⟨by decide, by decide⟩, _, _, rfl, rfl, _, _, rfl, rfl, _, _, rfl, rfl, .inr ⟨by decide, by decide⟩, _, _, rfl, rfl, (by show (0 : Int) < 2147483647; decide), ?_⟩
    generalize (c % 2147483629 + k * k * 7919 + 11) * 48271 = y
    have h0 : 0 ≤ y % 2147483647 := Int.emod_nonneg _ (by decide)
    have h1 : y % 2147483647 < 2147483647 := Int.emod_lt_of_pos _ (by decide)
    refine ⟨_, rfl, _, rfl, _, _, rfl, rfl, .inl ⟨by omega, by omega⟩, _, _, rfl, rfl, (by show (0 : Int) < 1999999973; decide), hq _ (Int.emod_nonneg _ (by decide)) (Int.emod_lt_of_pos _ (by decide))⟩
theorem scRich : FnScope ["_law_cell", "_law_k", "_law_number", "_law_j"] ["_law_cell", "_law_k"] (defScope sRich) := ⟨rfl, rfl, rfl, by decide +kernel, rfl, by decide +kernel, by decide +kernel⟩
theorem ok_rich {f f1 : Addr} {fd fd1 : FuncData} (F : Fun K "_law_rich" "_law_rich" sRich f fd) (zR : mg "range" = none) (F1 : Fun K "_law_mix" "_law_mix" sMix f1 fd1) (m1 : mg "_law_mix" = some (.ref f1)) (b1 : Binds K fd1 ["_law_cell", "_law_k"] []) :
    FnOk P w K mg base CX0 2 f fd ["_law_cell", "_law_k"] spRich := by
  have G1 : FnOk P w K mg base CX0 1 f1 fd1 ["_law_cell", "_law_k"] spMix := ok_mix F1
  refine F.ok scRich (fun vs H Q E h => ?_) (fun cdv A outer s H vs Q E hr h => ?_)
  · obtain ⟨c, k, rfl, _⟩ := h
    rfl
  · obtain ⟨c, k, rfl, hk0, hk1, hq⟩ := h
    refine ⟨_, pss_cons (ps_set (i := 2) scRich.nd rfl (.inl rfl) pe_int)
      (pss_cons (ps_for PassesOwn.never rfl (pi_range1 rfl zR (pa_cons pe_int pa_nil)) (pg_name (i := 3) scRich.nd rfl (.inl rfl))
        (pss_one (ps_set (i := 2) scRich.nd rfl (.inl rfl) (pe_op op_add (pe_op op_mul (pv 2) pe_int)
          (pe_call G1 hr rfl m1 F1.kp b1 .nil pass0 (pa_cons (pe_call G1 hr rfl m1 F1.kp b1 .nil pass0 (pa_cons (pv 0) (pa_cons (pe_op op_add (pv 1) (pe_op op_mul pe_int (pv 3))) pa_nil))) (pa_cons (pv 3) pa_nil)))))))
      (pss_one (ps_ret (pv 2)))), ?_⟩
    refine ⟨12, rfl, by decide, by decide, for_range (n := 12) (fun i σ H' => ∃ (z : Int) (v : Option V), σ = [some (.int c), some (.int k), some (.int z), v] ∧ 0 ≤ z ∧ H' = H) ⟨0, none, rfl, by decide, rfl⟩ ?_ ?_⟩
    · rintro i σ H' hi ⟨z, v, rfl, hz, rfl⟩
      refine ⟨_, rfl, _, _, rfl, rfl, .inr ⟨by decide, by decide⟩, _, rfl, _, rfl, _, rfl, _, _, rfl, rfl, .inl ⟨by decide, by decide⟩, _, _, rfl, rfl, _, _, rfl, by omega, by omega, fun r r0 r1 => ?_⟩
      refine ⟨_, rfl, _, _, rfl, by omega, by omega, fun r' r0' r1' => ?_⟩
      refine ⟨_, _, rfl, rfl, _, _, rfl, ?_, rfl⟩
      omega
    · rintro σ H' ⟨z, v, rfl, hz, rfl⟩
      exact ⟨_, rfl, hq z hz⟩
theorem scLeft : FnScope ["_law_script", "_law_k", "_law_cell"] ["_law_script", "_law_k"] (defScope sLeft) := ⟨rfl, rfl, rfl, by decide +kernel, rfl, by decide +kernel, by decide +kernel⟩
theorem ok_left {f f1 f2 f3 : Addr} {fd fd1 fd2 fd3 : FuncData} (F : Fun K "_law_left" "_law_left" sLeft f fd) (zL : mg "len" = none) (zR : mg "range" = none) (F1 : Fun K "_law_cell_at" "_law_cell_at" sCellAt f1 fd1) (m1 : mg "_law_cell_at" = some (.ref f1)) (b1 : Binds K fd1 ["_law_script", "_law_k"] [])
    (F2 : Fun K "_law_rich" "_law_rich" sRich f2 fd2) (m2 : mg "_law_rich" = some (.ref f2)) (b2 : Binds K fd2 ["_law_cell", "_law_k"] []) (F3 : Fun K "_law_mix" "_law_mix" sMix f3 fd3) (m3 : mg "_law_mix" = some (.ref f3)) (b3 : Binds K fd3 ["_law_cell", "_law_k"] []) :
    FnOk P w K mg base CX0 3 f fd ["_law_script", "_law_k"] (spLeft K) := by
  have G1 : FnOk P w K mg base CX0 1 f1 fd1 ["_law_script", "_law_k"] (spCellAt K) := ok_cellAt F1 zL
  have G2 : FnOk P w K mg base CX0 2 f2 fd2 ["_law_cell", "_law_k"] spRich := ok_rich F2 zR F3 m3 b3
  refine F.ok scLeft (fun vs H Q E h => ?_) (fun cdv A outer s H vs Q E hr h => ?_)
  · obtain ⟨a, ns, k, rfl, _⟩ := h
    rfl
  · obtain ⟨a, ns, k, rfl, hS, hk0, hk1, hq⟩ := h
    refine ⟨_, pss_cons (ps_set (i := 2) scLeft.nd rfl (.inl rfl) (pe_call G1 (hr.mono (by decide)) rfl m1 F1.kp b1 .nil pass0 (pa_cons (pv 0) (pa_cons (pv 1) pa_nil))))
      (pss_cons (ps_if (pt_cmpR op_ge (pv 2) (pe_op op_pow pe_int pe_int) (nomark _)) (pss_one (ps_ret (pe_lst (pa_cons (pv 2) (pa_cons (pe_call G2 hr rfl m2 F2.kp b2 .nil pass0 (pa_cons (pv 2) (pa_cons (pv 1) pa_nil))) pa_nil))))) pss_nil)
      (pss_one (ps_ret (pe_lst (pa_cons (pe_call G2 hr rfl m2 F2.kp b2 .nil pass0 (pa_cons (pv 2) (pa_cons (pv 1) pa_nil))) pa_nil))))), ?_⟩
    refine ⟨_, rfl, _, rfl, a, ns, k, rfl, hS, hk0, fun c => ?_⟩
    refine ⟨_, rfl, _, _, rfl, rfl, ⟨by decide, by decide, by decide⟩, _, _, rfl, rfl, _, rfl, ?_⟩
    refine ite2 (fun hlt => ?_) (fun hlt => ?_)
    · have hlt := of_decide_eq_true hlt
      have hc : (0 : Int) ≤ c := Int.le_trans (by decide) hlt
      refine ⟨_, rfl, _, rfl, _, rfl, c, k, rfl, hk0, hk1, fun r hr0 => ⟨(by show 2 ≤ sizeLine; decide), fun p np => hq p [c, r] np ⟨by simp, fun z hz => ?_, by show 2 ≤ 2; decide⟩⟩⟩
      rcases List.mem_cons.mp hz with e | hz
      · rw [e]; exact hc
      · rw [List.mem_singleton.mp hz]; exact hr0
    · refine ⟨_, rfl, _, rfl, c, k, rfl, hk0, hk1, fun r hr0 => ⟨(by show 1 ≤ sizeLine; decide), fun p np => hq p [r] np ⟨by simp, fun z hz => ?_, by show 1 ≤ 2; decide⟩⟩⟩
      rw [List.mem_singleton.mp hz]; exact hr0
theorem scPick : FnScope ["_law_left_here", "_law_many", "_law_digit"] ["_law_left_here", "_law_many"] (defScope sPick) := ⟨rfl, rfl, rfl, by decide +kernel, rfl, by decide +kernel, by decide +kernel⟩
theorem ok_pick {f : Addr} {fd : FuncData} (F : Fun K "_law_pick" "_law_pick" sPick f fd) (zL : mg "len" = none) : FnOk P w K mg base CX0 1 f fd ["_law_left_here", "_law_many"] spPick := by
  refine F.ok scPick (fun vs H Q E h => ?_) (fun cdv A outer s H vs Q E hr h => ?_)
  · obtain ⟨l, zs, n, rfl, _⟩ := h
    rfl
  · obtain ⟨l, zs, n, rfl, hL, D, n0, n1, hq⟩ := h
    refine ⟨_, C8.pss_cut (ps_if (PW.pt (pw_and (pt_cmpR op_eq (pe_ix ix_list (pv 0) pe_int (fun _ _ => rfl)) pe_int (nomark _)) (pw_and1 (pt_cmpR op_gt (pe_callB call_len_seq (by rfl) zL PySem.boot_len (pa_cons (pv 0) pa_nil)) pe_int (nomark _)))))
        (pss_one (ps_asg (pe_bm0 PySem.F.plainAttrs_list PySem.F.slot_list_pop PySem.F.type_list_pop mt_pop (pv 0)) (pg_sub (pv 0) pe_int set_list))) pss_nil)
      (pss_cons (ps_set (i := 2) scPick.nd rfl (.inl rfl) (pe_op op_mod (pe_ix ix_list (pv 0) pe_int (fun _ _ => rfl)) (pv 1)))
      (pss_cons (ps_asg (pe_op op_fdiv (pe_ix ix_list (pv 0) pe_int (fun _ _ => rfl)) (pv 1)) (pg_sub (pv 0) pe_int set_list))
      (pss_one (ps_ret (pv 2))))), ?_⟩
    refine ⟨fun σ H' => ∃ zs' : List Int, σ = [some (.ref l), some (.int n), none] ∧ H' = upd H l (.lst (zs'.map V.int)) ∧ Dr zs', ?_, ?_⟩
    · obtain ⟨z, r, rfl⟩ : ∃ z r, zs = z :: r := by
        cases zs with
        | nil => exact absurd rfl D.ne
        | cons z r => exact ⟨z, r, rfl⟩
      refine ⟨_, rfl, _, _, _, V.int z, rfl, rfl, SqL.of hL, atI_nat (j := 0) rfl, rfl, _, rfl, ?_⟩
      have same : ∃ zs' : List Int, ([some (V.ref l), some (V.int n), none] : L2.St) = [some (.ref l), some (.int n), none] ∧ H = upd H l (.lst (zs'.map V.int)) ∧ Dr zs' := ⟨z :: r, rfl, (upd_id hL).symm, D⟩
      refine ite2 (fun _ => ?_) (fun _ => iteF same)
      refine ⟨_, rfl, _, _, rfl, .inl (SqL.of hL), _, _, rfl, rfl, _, rfl, ?_⟩
      refine ite2 (fun hlt => ?_) (fun _ => same)
      have hlt := of_decide_eq_true hlt
      rw [List.length_map] at hlt
      obtain ⟨y, rfl⟩ : ∃ y, r = [y] := by
        match r, hlt, D.len with
        | [], h, _ => exact absurd h (by show ¬ ((1 : Int) < (1 : Nat)); decide)
        | [y], _, _ => exact ⟨y, rfl⟩
        | _ :: _ :: _, _, h => exact absurd h (by simp)
      refine ⟨_, rfl, .inl ⟨rfl, _, SqL.of hL⟩, l, _, V.int y, rfl, rfl, hL, rfl, ?_⟩
      refine ⟨_, rfl, l, _, _, 0, rfl, rfl, upd_same, ixN0 (by simp), ?_⟩
      refine ⟨[y], rfl, upd_upd, ⟨by simp, fun u hu => D.nn u ?_, by show 1 ≤ 2; decide⟩⟩
      rw [List.mem_singleton.mp hu]
      simp
    · rintro σ H' ⟨zs', rfl, rfl, D'⟩
      obtain ⟨z, r, rfl⟩ : ∃ z r, zs' = z :: r := by
        cases zs' with
        | nil => exact absurd rfl D'.ne
        | cons z r => exact ⟨z, r, rfl⟩
      have z0 : 0 ≤ z := D'.nn z List.mem_cons_self
      refine ⟨_, rfl, _, _, _, V.int z, rfl, rfl, SqL.of upd_same, atI_nat (j := 0) rfl, _, rfl, _, _, rfl, rfl, n0, ?_⟩
      refine ⟨_, rfl, _, _, _, V.int z, rfl, rfl, SqL.of upd_same, atI_nat (j := 0) rfl, _, rfl, _, _, rfl, rfl, ⟨n0, by omega⟩, ?_⟩
      refine ⟨_, rfl, l, _, _, 0, rfl, rfl, upd_same, ixN0 (by simp), ?_⟩
      refine ⟨_, rfl, ?_⟩
      rw [upd_upd]
      refine hq _ (z / n :: r) (Int.emod_nonneg _ (by omega)) (Int.emod_lt_of_pos _ n0) ⟨by simp, fun u hu => ?_, D'.len⟩
      rcases List.mem_cons.mp hu with e | hu
      · rw [e]; exact Int.ediv_nonneg z0 (by omega)
      · exact D'.nn u (List.mem_cons_of_mem _ hu)
end
end K85
namespace K85
open PySem PySem.Spec PyProof.Rows L2
/-! ### list(d.values()) -/
def tListVals (te : TE) : TE := fun σ H Q => te σ H fun x H1 => ∃ (d : Addr) (kvs : List (Key × V)), x = .ref d ∧ H1 d = some (.dK kvs) ∧ ∀ p, H1 p = none → Q (.ref p) (upd H1 p (.lst (kvs.map (·.2))))
theorem lv_get {kvs : List (Key × V)} {vs : List (Key × Value)} (kv : KV kvs vs) : ∀ {acc : List Value}, acc.length = vs.length → (∀ (j : Nat) (v : Value), acc[j]? = some v → ∃ k : Key, vs[j]? = some (k, v)) → Vals (kvs.map (·.2)) acc := by
  induction kv with
  | nil =>
    intro acc hl _
    cases acc with
    | nil => exact .nil
    | cons a r => simp at hl
  | cons r t ih =>
    intro acc hl h
    cases acc with
    | nil => simp at hl
    | cons a r' =>
      refine .cons ?_ (ih (by simpa using hl) fun j v hj => ?_)
      · obtain ⟨k, e⟩ := h 0 a rfl
        have e := Option.some.inj e
        have := r.2
        rw [e] at this
        exact this
      · obtain ⟨k, e⟩ := h (j + 1) v (by simpa using hj)
        exact ⟨k, by simpa using e⟩
section
variable {X : Cx} {e : Expr} {te : TE} {p apos cpos pos : Pos}
theorem pe_listVals (hc : X.calm = true) (he : PE X e te) (hg : Gl X "list") (hm : X.mg "list" = none) (hv : bootBuiltins "list" = some (.type "list")) (hbase : attributeBase e "values" X.env (eval e X.env) = eval e X.env := by rfl) (hline : (apos.endLine == cpos.line) = true := by rfl)
    (hs : starEach [.Call (.Attribute e "values" apos) [] [] cpos] X.env = (false, eval (.Call (.Attribute e "values" apos) [] [] cpos) X.env) :: starEach [] X.env := by rfl) :
    PE X (.Call (.Name "list" p) [.Call (.Attribute e "values" apos) [] [] cpos] [] pos) (tListVals te) := by
  refine ⟨fun pins s σ H Q I hq => ?_⟩
  refine wpAny_Call_Name_kw (ld_blt I hg hm hv ?_)
  refine PyProof.Rows.callWith_type1 ?_ hs rfl
  rw [hs]
  show wpAny _ _ (spliced ((false, eval (.Call (.Attribute e "values" apos) [] [] cpos) X.env) :: backTo pos (starEach [] X.env))) _ _ s
  refine Calls.spliced_cons ?_
  refine wpAny_Call_method (T := "dict") (id := "dict.values") hbase rfl hline F.plainAttrs_dict F.slot_dict_values F.type_dict_values (thn (he.run pins s σ H _ I hq) fun u s1 ⟨x, H1, I1, rx, d, kvs, ex, hd, q⟩ => ?_)
  subst ex
  obtain rfl : u = Value.ref d := rx
  obtain ⟨hz, hs0, vs, kv, hdo⟩ := I1.hok d _ hd
  obtain ⟨ep, hat⟩ := hdo.dictAt
  have lk : kvs.length = vs.length := Paired.length kv
  refine ⟨hdo.typeIs, hdo.mapOf.noDict, ?_⟩
  show wpAny _ _ (callWith cpos (.builtin "dict.values") [.ref d] [] []) _ X.xe s1
  refine method_meetsIn F.slot_dict_values F.entry_dict_values rfl (PySem.evalArgs_none ⟨rfl, hdo.typeIs, F.args_dict_values_1 _, _, meets_dict_values (mixKind X.prog X.w) d hs0, ⟨vs, hdo⟩, ?_⟩)
  refine Calls.spliced_nil ?_
  refine PySem.W.kdl_call (PySem.W.kdl_values (knd := mixKind X.prog X.w) (kvs := vs) (ep := ep)) (I1.ok.hd hc) ⟨⟨_, Heap.get?_push_size _ rfl, rfl, rfl⟩, hat.push _⟩ (by omega) fun h' tk acc c hk hS hacc => ?_
  have k2 : ∀ b o, s1.heap.get? b = some o → h'.get? b = some o := fun b o q => hk b o (Heap.get?_push_of_some _ q)
  have rv : Vals (kvs.map (·.2)) acc.toList := lv_get kv (by rw [Array.length_toList]; exact hacc.1) fun j v hj => hacc.2 j v (by rw [← Array.getElem?_toList]; exact hj)
  have hge : s1.heap.objs.size ≤ (s1.heap.push { cls := .type "dict_values", data := .fields #[.ref d] }).objs.size := by rw [Heap.size_push]; exact Nat.le_succ _
  refine ⟨.ref _, upd H1 _ (.lst (kvs.map (·.2))), I1.laid (t' := tk) (o := .lst (kvs.map (·.2))) k2 hge ⟨by rw [List.length_map]; exact hz, acc.toList, c, rv, by rw [Array.toArray_toList]; exact hS⟩, rfl, q _ (I1.hok.fresh hge)⟩
end
end K85
namespace K85
open PySem PySem.Spec PyProof.Rows L2
/-! ### max(xs, key=lambda v: ..) -/
/-- (of, number of rows), by size -/
def gtP (a b : Int × Int) : Bool := decide (b.1 < a.1 ∨ (b.1 = a.1 ∧ b.2 < a.2))
theorem best_top (key : Nat → Int × Int) : ∀ k, argBest (fun i j => gtP (key i) (key j)) k ≤ k ∧ ∀ j, j ≤ k → gtP (key j) (key (argBest (fun i j => gtP (key i) (key j)) k)) = false := by
  intro k
  induction k with
  | zero =>
    refine ⟨Nat.le_refl _, fun j hj => ?_⟩
    have e : j = 0 := by omega
    subst e
    show gtP (key 0) (key 0) = false
    unfold gtP
    simp
  | succ k ih =>
    obtain ⟨i1, i2⟩ := ih
    unfold argBest
    by_cases hb : gtP (key (k + 1)) (key (argBest (fun i j => gtP (key i) (key j)) k)) = true
    · rw [if_pos hb]
      refine ⟨Nat.le_refl _, fun j hj => ?_⟩
      by_cases e : j = k + 1
      · subst e
        unfold gtP
        simp
      · have h := i2 j (by omega)
        unfold gtP at hb h ⊢
        have hb := of_decide_eq_true hb
        have h := of_decide_eq_false h
        refine decide_eq_false fun q => ?_
        omega
    · rw [if_neg hb]
      refine ⟨by omega, fun j hj => ?_⟩
      by_cases e : j = k + 1
      · rw [e]
        exact Bool.eq_false_iff.mpr hb
      · exact i2 j (by omega)
/-- a lambda's call that gives a new pair of ints -/
def PairAt (h : Heap) (t : Addr) (a : Int × Int) : Prop := ∃ τ τ' : Tok, IsTup h t #[.int a.1 τ, .int a.2 τ']
section
variable {P : Program} {w : World} {K : PySem.W.Frag} {mg : Str → Option Value} {base : Heap}
theorem lam_run {k : Nat} {f c' : Addr} {qual : Str} {params : Arguments} {es : List Expr} {tx : Nat} {tpos : Pos} {scope : Scope} {pm ctv : Value} {N ps : List Str} {A : Around} {outer : List Env} {s : Shared} {H : Hp} {us : List Value} {vs : List V} {a : Int × Int} {t : TA}
    {R : Result → Shared → Prop}
    (S : FnScope N ps scope) (hr : Room (k + 1) A) (e0 : Env0 P w K mg base A outer s H) (hf : s.heap.get? f = some (PySem.W.kla_obj "<lambda>" qual params (.Tuple es tx tpos) scope [] pm c' ctv)) (hc : H c' = some (LamX.CodeO c' qual))
    (hbind : bindArgs (PySem.W.kla_fn "<lambda>" qual params (.Tuple es tx tpos) scope [] pm (.ref c') ctv) ⟨us, []⟩ = pure (ps.zip us)) (r : Vals vs us) (hl : vs.length = ps.length)
    (hbody : Room k (A.deeper (envOfC qual scope s.heap.objs.size f (.ref c'))) → PA (cxOf CX0 P w K mg base N qual scope f (.ref c') A outer s H E0) es t) (ht : t (L2.start N vs) H (fun ws H' => H' = H ∧ ws = [.int a.1, .int a.2]))
    (hR : ∀ (u : Addr) (s' : Shared), s'.os = s.os → AllBare s'.gens → Un (frs outer) [] H H s.heap s'.heap → HOk P w H s'.heap → s.heap.objs.size ≤ u → PairAt s'.heap u a → R (.ok (.ret (.ref u))) s') :
    codeAny (model P w) A (.call (.ref f) ⟨us, []⟩) R s := by
  have lim : s.heap.NoLimit := e0.mod.nolimit.keeps fun b o e => (e0.bs b o e).1
  obtain ⟨⟨oc, vs', t', hoc, hdc, hvc⟩, _, _⟩ := e0.hok c' _ hc
  have hkind : ∀ y ∈ ps.zip us, scope.names.lookup y.1 = some .local ∨ (scope.names.lookup y.1 = some .cell ∧ ((cellsFrom (s.heap.objs.size + 1) scope.names []).lookup y.1).isSome = true) := fun ⟨n, v⟩ hy => by
    rcases S.par n (List.of_mem_zip hy).1 with q | q
    · exact .inl q
    · exact .inr ⟨q, PySem.W.cellsFrom_some _ _ _ (.inl q)⟩
  refine PySem.W.kla_callFunE hr.depth hf rfl S.co S.gen rfl ⟨c', oc, vs', t', rfl, hoc, hdc, hvc⟩ ?_
  rw [hbind]
  refine wpAny_pure ?_
  refine wpAny_newFunctionEnv_cells S.kind hkind fun env he s1 x => ?_
  subst he
  refine ⟨lim.keeps x.toInCall.keep, ?_⟩
  have I : Inv (cxOf CX0 P w K mg base N qual scope f (.ref c') A outer s H E0) [] (L2.start N vs) H s1 := inv_start S hr.hd e0 hl r x
  refine PySem.W.kla_codeExpr (wpAny_mono (Q := fun v s' => R (.ok (.ret v)) s') ?_ (fun v s' hs => hs) fun e s' hs => wpAny_mono hs (fun _ _ z => False.elim z) (fun _ _ z => False.elim z))
  · show wpAny _ _ (eval (.Tuple es tx tpos) _) _ _ s1
    refine wpAny_Tuple_spliced (thn ((hbody (hr.deeper _)).run tpos [] s1 (L2.start N vs) H _ I ht) fun us s2 ⟨xs, H1, I1, r1, eH, ex⟩ => ?_)
    subst eH
    subst ex
    refine ⟨by rw [← r1.length]; show 2 ≤ sizeLine; decide, ?_⟩
    obtain ⟨u1, u2, rfl, ⟨τ, rfl⟩, ⟨τ', rfl⟩⟩ := vals2 r1
    have I2 : Inv (cxOf CX0 P w K mg base N qual scope f (.ref c') A outer s H1 E0) [] (L2.start N vs) H1 { s2 with heap := s2.heap.push { cls := .type "tuple", data := .seq #[.int a.1 τ, .int a.2 τ'] } } := I1.kept (t' := s2.toks) fun b o e => Heap.get?_push_of_some _ e
    exact hR _ _ I2.os I2.bare I2.base I2.hok I1.sz ⟨τ, τ', _, Heap.get?_push_size _ rfl, rfl, _, rfl⟩
end
def maxLamB (P : Addr) (q : Str) (N : List Str) (te : TA) (Q : VK) (x : V) (H1 : Hp) : Prop := ∃ (l : Addr) (o : Obj) (xs : List V) (key : Nat → Int × Int), x = .ref l ∧ H1 l = some (.frz o (.lst xs)) ∧ 0 < xs.length ∧ LamX.TabS H1 P q ∧
  (∀ i y H', xs[i]? = some y → LamX.ExtN H1 H' → te (L2.start N [y]) H' fun ws H'' => H'' = H' ∧ ws = [.int (key i).1, .int (key i).2]) ∧
  ∀ i y H2, xs[i]? = some y → (∀ j, j < xs.length → gtP (key j) (key i) = false) → LamX.TabS H2 P q → LamX.ExtN H1 H2 → Q y H2
def tMaxLam (P : Addr) (q : Str) (N : List Str) (ta : TE) (te : TA) : TE := fun σ H Q => ta σ H fun x H1 => maxLamB P q N te Q x H1
section
variable {X : Cx}
theorem pair_cmp {A : Around} {s : Shared} {t t' : Addr} {a b : Int × Int} {Q : Value → Shared → Prop} {E : Value → Shared → Prop} (hu : A.units + 2 < cLine) (ha : PairAt s.heap t a) (hb : PairAt s.heap t' b) (h : Q (.bool (gtP a b)) s) :
    wpAny (model X.prog X.w) A (richCompare .Gt (.ref t) (.ref t')) Q E s := by
  obtain ⟨τ, τ', o, e1, e2, n, e3⟩ := ha
  obtain ⟨τ2, τ2', o2, f1, f2, n2, f3⟩ := hb
  have r1 : Reads s.heap (.ref t) (.tuple [.int a.1, .int a.2]) _ := Reads.tuple e1 e2 e3 (ReadsAll.cons (Reads.int _ _) (ReadsAll.cons (Reads.int _ _) ReadsAll.nil))
  have r2 : Reads s.heap (.ref t') (.tuple [.int b.1, .int b.2]) _ := Reads.tuple f1 f2 f3 (ReadsAll.cons (Reads.int _ _) (ReadsAll.cons (Reads.int _ _) ReadsAll.nil))
  have e : gtP a b = PySem.W.dataLt (.tuple [.int b.1, .int b.2]) (.tuple [.int a.1, .int a.2]) := by
    rw [PySem.W.dataLt_ii]
    rfl
  rw [e] at h
  refine PySem.W.rcGt_alike _ _ A s _ _ _ _ r1 r2 (by simp [PySem.W.alike, PySem.W.alikeAll]) (fun z => by cases z) ?_ _ _ E Q h
  have d : (PyData.tuple [.int a.1, .int a.2]).depth ≤ 2 := by simp [PyData.depth, PyData.depthAll]
  have := Nat.min_le_left (PyData.tuple [.int a.1, .int a.2]).depth (PyData.tuple [.int b.1, .int b.2]).depth
  omega
theorem inv_moved {pins : List (Addr × Obj)} {σ : L2.St} {H : Hp} {s s' : Shared} {ch : List Addr} (I : Inv X pins σ H s) (m : Moved ch (fun a b => b = a) s s') (hch : ∀ b ∈ ch, FpOk X pins H b) : Inv X pins σ H s' := by
  obtain ⟨h', g', d', t', o'⟩ := s'
  have eg : g' = s.gens := m.gens
  have ed : d' = s.drawn := m.drawn
  have eo : o' = s.os := m.os
  subst eg
  subst ed
  subst eo
  have nt : ∀ b u, H b = some u → b ∉ ch := fun b u e z => by
    rw [(hch b z).1] at e
    cases e
  refine I.step (ch := ch) (fun b hb => ⟨(hch b hb).2.2.2.1, (hch b hb).2.1, (hch b hb).2.2.2.2.1, (hch b hb).2.2.2.2.2⟩) (fun b o _ _ hc e _ => m.heap b o hc e) (fun b o _ _ hc e _ => ⟨o.slots, m.heap b o hc e⟩) (fun b o _ _ n => n) (fun b o hc e => ⟨o, m.heap b o hc e⟩) (fun _ _ e => e) (fun _ _ _ e => e)
    (fun b ps e => ⟨#[], by rw [e]; simp⟩) (fun m' hn => ?_) (fun b u e => ?_) I.bare
  · obtain ⟨o, es, ep, ho, r⟩ := hn
    exact ⟨o, es, ep, m.heap _ o (fun z => (hch _ z).2.1 rfl) ho, r⟩
  · refine (I.hok b u e).stay (fun c v hc q => m.heap c v ?_ q) (fun _ q => q) fun _ _ q => q
    rcases hc with z | z
    · rw [z]
      exact nt b u e
    · exact nt c _ z
theorem pe_maxLam {P c : Addr} {k : Nat} {v : Str} {N : List Str} {params : Arguments} {es : List Expr} {tx : Nat} {tpos lpos kpos p pos : Pos} {scope : Scope} {e : Expr} {ta : TE} {te : TA} (hc : X.calm = true) (ha : PE X e ta) (hg : Gl X "max") (hm : X.mg "max" = none)
    (TB : LamX.TabB X.base X.mg c P) (hcode : X.env.code = .ref c) (hr : Room (k + 2) X.A) (S : FnScope N [v] scope) (hdef : defaultsOf params X.env = ([], [])) (hcl : cloFrom X.env.cells scope.names [] = [])
    (hbind : ∀ (q : Str) (pm cv ctv u : Value), bindArgs (PySem.W.kla_fn "<lambda>" q params (.Tuple es tx tpos) scope [] pm cv ctv) ⟨[u], []⟩ = pure [(v, u)])
    (hbody : ∀ (A : Around) (outer : List Env) (s : Shared) (H : Hp) (f c' : Addr), Room k (A.deeper (envOfC (X.env.qual ++ "<lambda>") scope s.heap.objs.size f (.ref c'))) →
      PA (cxOf CX0 X.prog X.w X.K X.mg X.base N (X.env.qual ++ "<lambda>") scope f (.ref c') A outer s H E0) es te)
    (hs1 : starEach [e] X.env = (false, eval e X.env) :: starEach [] X.env := by rfl)
    (he : backTo pos (starEach [e] X.env) = (false, eval e X.env) :: backTo pos (starEach [] X.env) := by rfl) (hpl : (backTo pos (starEach [e] X.env)).any (·.1) = false := by rfl)
    (hall : (backToKw pos (keywordEach [⟨some "key", .Lambda params (.Tuple es tx tpos) scope lpos, kpos⟩] X.env)).all (·.1.isSome) = true := by rfl) (hnone : (backToKw pos (keywordEach [⟨some "key", .Lambda params (.Tuple es tx tpos) scope lpos, kpos⟩] X.env)).any (·.1.isNone) = false := by rfl)
    (hks : (backToKw pos (keywordEach [⟨some "key", .Lambda params (.Tuple es tx tpos) scope lpos, kpos⟩] X.env)).filterMap (·.1) = [Str.ofString "key"] := by rfl) :
    PE X (.Call (.Name "max" p) [e] [⟨some "key", .Lambda params (.Tuple es tx tpos) scope lpos, kpos⟩] pos) (tMaxLam P (X.env.qual ++ "<lambda>") N ta te) := by
  refine ⟨fun pins s σ H Q I h => ?_⟩
  refine wpAny_Call_Name_kw (ld_blt (u := .builtin "max") I hg hm (by decide +kernel) ?_)
  refine PyProof.Rows.callWith_kw (thn ((pa_cons ha pa_nil hs1).run pos pins s σ H (fun vs H1 => match vs with | [x] => maxLamB P (X.env.qual ++ "<lambda>") N te Q x H1 | _ => False) I h) fun us s1 ⟨vs, H1, I1, r1, q1⟩ => ?_) he hpl hall hnone
  rw [hks]
  obtain ⟨x, rfl⟩ : ∃ x, vs = [x] := by
    match vs, q1 with
    | [x], _ => exact ⟨x, rfl⟩
  obtain ⟨u, rfl, ru⟩ := vals1 r1
  obtain ⟨l, o, xs, key, rfl, hl, hpos, hT, hte, hq⟩ := (q1 : maxLamB P (X.env.qual ++ "<lambda>") N te Q x H1)
  obtain rfl : u = Value.ref l := ru
  show wpAny _ _ (evalAll [do let v ← eval (.Lambda params (.Tuple es tx tpos) scope lpos) X.env; standAt pos; pure v]) _ _ s1
  have hTs : LamX.Tabs [(P, X.env.qual ++ "<lambda>")] H1 := fun p hp => by
    rw [List.mem_singleton.mp hp]
    exact hT
  refine wpAny_evalAll_cons (wpAny_bind (LamX.lam_make2 (T := [(P, X.env.qual ++ "<lambda>")]) I1 TB hcode List.mem_cons_self (fun p hp _ => by rw [List.mem_singleton.mp hp]) hTs hdef (fun y hy e => absurd e (S.nofree y hy)) fun f c' pm ctv H2 s2 I2 eN T2 hf hfn hfr hco => wpAny_bind (wpAny_standAt (wpAny_pure (wpAny_evalAll_nil ?_)))))
  rw [hcl] at hf
  show wpAny _ _ (call (.builtin "max") [.ref l] [(Str.ofString "key", .ref f)]) _ _ s2
  have h2l : H2 l = some (.frz o (.lst xs)) := eN l _ hl fun ps z => by cases z
  obtain ⟨ho, hz, its, nn, rv, hob⟩ := I2.hok l _ h2l
  have eo : o = { cls := .type "list", data := .seq its.toArray nn } := Option.some.inj (ho.symm.trans hob)
  have hlen : its.toArray.size = xs.length := by
    rw [List.size_toArray]
    exact rv.length.symm
  have item : ∀ (i : Nat) (v : Value), its.toArray[i]? = some v → ∃ y, xs[i]? = some y ∧ RelV y v := fun i v hv => by
    have hlt : i < its.toArray.size := by
      rcases Nat.lt_or_ge i its.toArray.size with q | q
      · exact q
      · rw [Array.getElem?_eq_none q] at hv
        cases hv
    have hx : xs[i]? = some (xs[i]'(by omega)) := List.getElem?_eq_getElem _
    obtain ⟨u, hu, ru⟩ := rv.get hx
    have e : its.toArray[i]? = its[i]? := by simp
    rw [e, hu] at hv
    cases hv
    exact ⟨_, hx, ru⟩
  have fresh_frs : ∀ (s : Shared) (b : Addr), Inv X pins σ H2 s → s.heap.objs.size ≤ b → b ∉ frs X.stack := fun s b I hb z => by
    rcases List.mem_cons.mp (I.stkSub b z) with q | q
    · have := I.lt
      rw [← q] at this
      exact Nat.lt_irrefl _ (Nat.lt_of_lt_of_le this hb)
    · exact I.nofs hb q
  refine call_max_walkK (PySem.W.iter_listW (A := X.A.in1) (vs := its.toArray) (I2.ok.hd hc) ⟨_, hob, rfl, nn, rfl⟩ fun s3 e3 W st hfp hw hk => ?_)
  have hsz : s3.heap.objs.size = s2.heap.objs.size + 1 := by
    rw [e3]
    exact Heap.size_push _ _
  have I3 : Inv X pins σ H2 s3 := by
    rw [e3]
    exact I2.kept (t' := s2.toks) fun b ob q => Heap.get?_push_of_some _ q
  have itN : H2 s2.heap.objs.size = none := I2.hok.fresh (Nat.le_refl _)
  have SN : H2 s3.heap.objs.size = none := I3.hok.fresh (Nat.le_refl _)
  have fp1 : FpOk X pins H2 s2.heap.objs.size := I2.fpOk (Nat.le_refl _) itN
  have fp2 : FpOk X pins H2 s3.heap.objs.size := I3.fpOk (Nat.le_refl _) SN
  have hch : ∀ b ∈ [s3.heap.objs.size, s2.heap.objs.size], FpOk X pins H2 b := fun b hb => by
    rcases List.mem_cons.mp hb with q | q
    · rw [q]
      exact fp2
    · rw [List.mem_singleton.mp q]
      exact fp1
  have fr1 : s2.heap.objs.size ∉ frs X.stack := fresh_frs s2 _ I2 (Nat.le_refl _)
  have fr2 : s3.heap.objs.size ∉ frs X.stack := fresh_frs s3 _ I3 (Nat.le_refl _)
  have flt : f < s2.heap.objs.size := Heap.lt_size hf
  have fch : f ∉ [s3.heap.objs.size, s2.heap.objs.size] := fun hb => by
    rcases List.mem_cons.mp hb with q | q
    · rw [hsz] at q
      have q : f = s2.heap.objs.size + 1 := q
      exact Nat.lt_irrefl _ (Nat.lt_trans (Nat.lt_succ_self _) (q ▸ flt))
    · have q := List.mem_singleton.mp q
      rw [q] at flt
      exact Nat.lt_irrefl _ flt
  refine ⟨_, _, _, _, _, _, _, fun s' => Inv X pins σ H2 s' ∧ s'.heap.get? f = some (PySem.W.kla_obj "<lambda>" (X.env.qual ++ "<lambda>") params (.Tuple es tx tpos) scope [] pm c' ctv),
    fun i k s' => ∃ t, k = .ref t ∧ H2 t = none ∧ t ∉ frs X.stack ∧ t ∉ [s3.heap.objs.size, s2.heap.objs.size] ∧ PairAt s'.heap t (key i), fun i j => gtP (key i) (key j), rfl, W, st, hfp, by rw [hlen]; exact hpos, ⟨?_, ?_, ?_, ?_⟩, ⟨I3, by rw [e3]; exact Heap.get?_push_of_some _ hf⟩, ?_⟩
  · rintro s s' ⟨I, hfs⟩ m
    exact ⟨inv_moved I m hch, m.heap f _ fch hfs⟩
  · rintro i k' s s' ⟨t, e, h1, h2, h3, τ, τ', ob, e1, e2⟩ m
    exact ⟨t, e, h1, h2, h3, τ, τ', ob, m.heap t _ h3 e1, e2⟩
  · rintro i v s ob Q' E' hi hv ⟨I, hfs⟩ hst hS hcont
    obtain ⟨y, hy, ry⟩ := item i v hv
    obtain ⟨⟨oi, i1, i2, i3⟩, _⟩ := hst
    refine wpAny_call (lam_run (k := k) (N := N) (us := [v]) (vs := [y]) (a := key i) S hr.in1 I.env0.in1 hfs hco (hbind _ _ _ _ _) (.cons ry .nil) rfl (fun hr' => hbody _ _ _ _ _ _ hr') (hte i y H2 hy eN) fun u s' os bare un hok hge pr => ?_)
    have I' : Inv X pins σ H2 s' := I.call' os un hok bare fun b z => absurd z (by simp)
    have kp : ∀ b q, s.heap.get? b = some q → H2 b = none → b ∉ frs X.stack → s'.heap.get? b = some q := fun b q e1 e2 e3 => un.keep b q e1 e2 e3 (by simp)
    have nu : u ∉ [s3.heap.objs.size, s2.heap.objs.size] := fun hb => by
      rcases List.mem_cons.mp hb with q | q
      · have := Heap.lt_size hS
        rw [← q] at this
        exact Nat.lt_irrefl _ (Nat.lt_of_lt_of_le this hge)
      · have := Heap.lt_size i1
        rw [← List.mem_singleton.mp q] at this
        exact Nat.lt_irrefl _ (Nat.lt_of_lt_of_le this hge)
    refine hcont _ s' ⟨I', kp f _ hfs hfn hfr⟩ ⟨⟨oi, kp _ _ i1 itN fr1, i2, i3⟩, ?_⟩ (kp _ _ hS SN fr2) ⟨u, rfl, I.hok.fresh hge, fresh_frs s u I hge, nu, pr⟩ ?_
    · obtain ⟨ho', _⟩ := I'.hok l _ h2l
      rw [eo] at ho'
      exact ⟨_, ho', rfl, nn, rfl⟩
    · rintro j k' ⟨t, e, h1, h2, h3, τ, τ', ob', e1, e2⟩
      exact ⟨t, e, h1, h2, h3, τ, τ', ob', kp _ _ e1 h1 h2, e2⟩
  · rintro i j ki kj s Q' E' ⟨I, _⟩ ⟨t, rfl, _, _, _, pr⟩ ⟨t', rfl, _, _, _, pr'⟩ hq'
    refine pair_cmp ?_ pr pr' hq'
    have := hr.units
    show X.A.units + 1 + 2 < cLine
    omega
  · rintro v s' hv ⟨I', _⟩
    obtain ⟨y, hy, ry⟩ := item _ v hv
    have bt := (best_top key (its.toArray.size - 1)).2
    exact ⟨y, H2, I', ry, hq _ y H2 hy (fun j hj => bt j (by omega)) (T2 _ List.mem_cons_self) eN⟩
end
end K85
namespace K85
open PySem PySem.Spec PyProof.Rows L2
/-! ### max(xs), xs a list of pairs of ints -/
def IsPD (d : PyData) : Prop := ∃ i j : Int, d = .tuple [.int i, .int j]
theorem pds_depth : ∀ ds : List PyData, (∀ d ∈ ds, IsPD d) → PyData.depthAll ds ≤ 3
  | [], _ => by simp [PyData.depthAll]
  | d :: ds, h => by
    obtain ⟨i, j, e⟩ := h d List.mem_cons_self
    have ih := pds_depth ds fun x hx => h x (List.mem_cons_of_mem _ hx)
    subst e
    simp [PyData.depthAll, PyData.depth]
    omega
section
variable {X : Cx}
theorem reads_pairs {pins : List (Addr × Obj)} {σ : L2.St} {H : Hp} {s : Shared} (I : Inv X pins σ H s) : ∀ {xs : List V} {its : List Value}, Vals xs its → (∀ x ∈ xs, ∃ (t : Addr) (i j : Int), x = .ref t ∧ H t = some (.tup [.int i, .int j])) → ∃ ds as, ReadsAll s.heap its ds as ∧ (∀ d ∈ ds, IsPD d) ∧ ds.length = its.length := by
  intro xs its r
  induction r with
  | nil => intro _; exact ⟨[], [], .nil, fun d hd => absurd hd (by simp), rfl⟩
  | @cons x u xs its rx t ih =>
    intro h
    obtain ⟨ds, as, h1, h2, h3⟩ := ih fun y hy => h y (List.mem_cons_of_mem _ hy)
    obtain ⟨b, i, j, e, hb⟩ := h x List.mem_cons_self
    subst e
    obtain rfl : u = Value.ref b := rx
    obtain ⟨its', rv, ⟨o, e1, e2, n, e3⟩, _⟩ := I.tuple (SqT.of hb)
    obtain ⟨u1, u2, rfl, ⟨τ, rfl⟩, ⟨τ', rfl⟩⟩ := vals2 rv
    refine ⟨.tuple [.int i, .int j] :: ds, _, .cons (Reads.tuple e1 e2 e3 (ReadsAll.cons (Reads.int _ _) (ReadsAll.cons (Reads.int _ _) ReadsAll.nil))) h1, fun d hd => ?_, by rw [List.length_cons, List.length_cons, h3]⟩
    rcases List.mem_cons.mp hd with q | q
    · exact ⟨i, j, q⟩
    · exact h2 d q
theorem cr_maxP (hc : X.calm = true) (hr : X.A.units + 64 < cLine) : CallR X (.builtin "max") (fun vs H Q => ∃ (a : Addr) (xs : List V), vs = [V.ref a] ∧ SqL X.K H a xs ∧ 0 < xs.length ∧ (∀ x ∈ xs, ∃ (t : Addr) (i j : Int), x = .ref t ∧ H t = some (.tup [.int i, .int j])) ∧ ∀ y ∈ xs, Q y H) := by
  intro pins s σ H xs us Q I r h
  obtain ⟨a, xs, rfl, hs, hpos, hx, q⟩ := h
  obtain rfl := Vals.ref1 r
  obtain ⟨its, rv, hl, hz⟩ := I.list hs
  obtain ⟨ds, as, h1, h2, h3⟩ := reads_pairs I rv hx
  have hlen := rv.length
  obtain ⟨d, ds, rfl⟩ : ∃ d r, ds = d :: r := by
    cases ds with
    | nil => rw [List.length_nil] at h3; omega
    | cons d r => exact ⟨d, r, rfl⟩
  have al : PySem.W.AlikeAll (d :: ds) := ⟨fun x hx y hy => by
    obtain ⟨i, j, e⟩ := h2 x hx
    obtain ⟨i', j', e'⟩ := h2 y hy
    rw [e, e']
    simp [PySem.W.alike, PySem.W.alikeAll], fun x hx e => by
    obtain ⟨i, j, e'⟩ := h2 x hx
    rw [e'] at e
    cases e⟩
  have dp := pds_depth (d :: ds) h2
  refine PySem.W.max_list_data (vs := its.toArray) (as := as) (x := d) (xs := ds) (I.ok.hd hc) hl.isList (by simpa using h1) al (by omega) fun i v h' tk bs hv _ kp => ?_
  have hlt : i < its.length := by
    rcases Nat.lt_or_ge i its.length with z | z
    · exact z
    · rw [Array.getElem?_eq_none (by simpa using z)] at hv
      cases hv
  have hxi : xs[i]? = some (xs[i]'(by omega)) := List.getElem?_eq_getElem _
  obtain ⟨u, hu, ru⟩ := rv.get hxi
  have e : its.toArray[i]? = its[i]? := by simp
  rw [e, hu] at hv
  cases hv
  exact ⟨_, H, I.kept (t' := tk) kp, ru, q _ (List.mem_of_getElem? hxi)⟩
end
end K85
namespace K85
open PySem L2
/-! ### how the data stand in the heap -/
theorem Paired.get {α β : Type} {F : α → β → Prop} : ∀ {xs : List α} {ys : List β}, Paired F xs ys → ∀ {i : Nat} {x : α}, xs[i]? = some x → ∃ y, ys[i]? = some y ∧ F x y
  | _, _, .nil, i, x, h => by cases h
  | _, _, .cons r t, 0, x, h => ⟨_, rfl, by cases h; exact r⟩
  | _, _, .cons r t, i + 1, x, h => Paired.get t (by simpa using h)
theorem Paired.get2 {α β : Type} {F : α → β → Prop} : ∀ {xs : List α} {ys : List β}, Paired F xs ys → ∀ {i : Nat} {y : β}, ys[i]? = some y → ∃ x, xs[i]? = some x ∧ F x y
  | _, _, .nil, i, x, h => by cases h
  | _, _, .cons r t, 0, x, h => ⟨_, rfl, by cases h; exact r⟩
  | _, _, .cons r t, i + 1, x, h => Paired.get2 t (by simpa using h)
theorem Paired.app {α β : Type} {F : α → β → Prop} : ∀ {xs : List α} {ys : List β} {xs' : List α} {ys' : List β}, Paired F xs ys → Paired F xs' ys' → Paired F (xs ++ xs') (ys ++ ys')
  | _, _, _, _, .nil, h => h
  | _, _, _, _, .cons r t, h => .cons r (Paired.app t h)
theorem Paired.snoc {α β : Type} {F : α → β → Prop} {xs : List α} {ys : List β} {x : α} {y : β} (h : Paired F xs ys) (r : F x y) : Paired F (xs ++ [x]) (ys ++ [y]) := Paired.app h (.cons r .nil)
theorem Paired.take {α β : Type} {F : α → β → Prop} : ∀ (n : Nat) {xs : List α} {ys : List β}, Paired F xs ys → Paired F (xs.take n) (ys.take n)
  | 0, _, _, _ => .nil
  | _ + 1, _, _, .nil => .nil
  | n + 1, _, _, .cons r t => .cons r (Paired.take n t)
theorem Paired.drop {α β : Type} {F : α → β → Prop} : ∀ (n : Nat) {xs : List α} {ys : List β}, Paired F xs ys → Paired F (xs.drop n) (ys.drop n)
  | 0, _, _, h => h
  | _ + 1, _, _, .nil => .nil
  | n + 1, _, _, .cons _ t => Paired.drop n t
theorem Paired.len {α β : Type} {F : α → β → Prop} {xs : List α} {ys : List β} (h : Paired F xs ys) : xs.length = ys.length := Paired.length h

/-- what never changes -/
def Per : HO → Prop
  | .tup _ => True
  | .ext _ => True
  | .frz _ _ => True
  | .own _ => True
  | _ => False
def Kp (H H' : Hp) : Prop := ∀ b o, H b = some o → Per o → H' b = some o
theorem Kp.refl (H : Hp) : Kp H H := fun _ _ h _ => h
theorem Kp.trans {H H1 H2 : Hp} (a : Kp H H1) (b : Kp H1 H2) : Kp H H2 := fun c o h p => b c o (a c o h p) p
theorem Kp.new {H : Hp} {a : Addr} {o : HO} (h : H a = none) : Kp H (upd H a o) := fun b u e _ => by
  rw [upd_ne (ne_of_none e h)]
  exact e
theorem Kp.mut {H : Hp} {a : Addr} {o o' : HO} (h : H a = some o) (n : ¬ Per o) : Kp H (upd H a o') := fun b u e p => by
  rw [upd_ne (ne_of e h fun z => n (by rw [← z]; exact p))]
  exact e
theorem Kp.same {H H' : Hp} (h : Same H H') : Kp H H' := fun b o e _ => h b o e
theorem Same.new {H : Hp} {a : Addr} {o : HO} (h : H a = none) : Same H (upd H a o) := fun b u e => by
  rw [upd_ne (ne_of_none e h)]
  exact e
/-- no table of code objects -/
def NT (o : HO) : Prop := ∀ ps, o ≠ .tbl ps
theorem nt_ins {C dx : Addr} {fs : List (Str × V)} : NT (.ins C dx fs) := fun ps z => by cases z
theorem nt_lst {xs : List V} : NT (.lst xs) := fun ps z => by cases z
theorem nt_dK {xs : List (Key × V)} : NT (.dK xs) := fun ps z => by cases z
theorem nt_dT {xs : List (List Key × V)} : NT (.dT xs) := fun ps z => by cases z
theorem nt_tup {xs : List V} : NT (.tup xs) := fun ps z => by cases z
theorem nt_own {a : Addr} : NT (.own a) := fun ps z => by cases z
/-- nothing that we know stands there -/
def Fre (H : Hp) (b : Addr) : Prop := ∀ o, H b = some o → ¬ NT o
theorem Fre.of {H : Hp} {b : Addr} (h : H b = none) : Fre H b := fun o e => by
  rw [h] at e
  cases e
theorem ne_fre {H : Hp} {a b : Addr} {o : HO} (h : H a = some o) (n : NT o) (f : Fre H b) : a ≠ b := fun e => by
  subst e
  exact f o h n
/-- nothing is forgotten -/
def Dom (H H' : Hp) : Prop := ∀ b, Fre H' b → Fre H b
theorem Dom.refl (H : Hp) : Dom H H := fun _ h => h
theorem Dom.trans {H H1 H2 : Hp} (a : Dom H H1) (b : Dom H1 H2) : Dom H H2 := fun c h => a c (b c h)
theorem Dom.upd (H : Hp) (a : Addr) (o : HO) (n : NT o) : Dom H (upd H a o) := fun b h => by
  by_cases e : b = a
  · rw [e] at h
    exact absurd n (h o upd_same)
  · intro u hu
    exact h u (by rw [upd_ne e]; exact hu)
theorem Dom.ext {H H' : Hp} (h : LamX.ExtN H H') : Dom H H' := fun b f o e n => f o (h b o e n) n
theorem Dom.same {H H' : Hp} (h : Same H H') : Dom H H' := Dom.ext (LamX.ExtN.of h)
theorem ext_same {H H' : Hp} (h : Same H H') : LamX.ExtN H H' := LamX.ExtN.of h
theorem Kp.ext {H H' : Hp} (h : LamX.ExtN H H') : Kp H H' := fun b o e p => h b o e fun ps z => by
  rw [z] at p
  exact p

def RowV (H : Hp) (x : V) (z : Int) : Prop := ∃ a, x = .ref a ∧ H a = some (.tup [.str "row", .int z])
abbrev RowsAt (H : Hp) (xs : List V) (zs : List Int) : Prop := Paired (RowV H) xs zs
theorem RowV.kp {H H' : Hp} (k : Kp H H') {x : V} {z : Int} (h : RowV H x z) : RowV H' x z := by
  obtain ⟨a, e, h⟩ := h
  exact ⟨a, e, k _ _ h trivial⟩
theorem RowsAt.kp {H H' : Hp} (k : Kp H H') {xs : List V} {zs : List Int} (h : RowsAt H xs zs) : RowsAt H' xs zs := Paired.mapP h fun _ _ => RowV.kp k
def MsgAt (H : Hp) (x : V) : Msg → Prop
  | .stand s d t => ∃ a, x = .ref a ∧ H a = some (.tup [.str "stand", .int s, .int d, .int t])
  | .voice s d t o lg => ∃ a b xs, x = .ref a ∧ H a = some (.tup [.str "voice", .int s, .int d, .int t, .int o, .ref b]) ∧ H b = some (.tup xs) ∧ RowsAt H xs lg
  | .keep s d t rows sure => ∃ a b xs, x = .ref a ∧ H a = some (.tup [.str "keep", .int s, .int d, .int t, .ref b, .int sure]) ∧ H b = some (.tup xs) ∧ RowsAt H xs rows
  | .kept s d t size => ∃ a, x = .ref a ∧ H a = some (.tup [.str "kept", .int s, .int d, .int t, .int size])
theorem MsgAt.kp {H H' : Hp} (k : Kp H H') {x : V} {m : Msg} (h : MsgAt H x m) : MsgAt H' x m := by
  cases m with
  | stand s d t =>
    obtain ⟨a, e, h⟩ := h
    exact ⟨a, e, k _ _ h trivial⟩
  | voice s d t o lg =>
    obtain ⟨a, b, xs, e, h, h2, r⟩ := h
    exact ⟨a, b, xs, e, k _ _ h trivial, k _ _ h2 trivial, r.kp k⟩
  | keep s d t rows sure =>
    obtain ⟨a, b, xs, e, h, h2, r⟩ := h
    exact ⟨a, b, xs, e, k _ _ h trivial, k _ _ h2 trivial, r.kp k⟩
  | kept s d t size =>
    obtain ⟨a, e, h⟩ := h
    exact ⟨a, e, k _ _ h trivial⟩
abbrev MsgsAt (H : Hp) (xs : List V) (ms : List Msg) : Prop := Paired (MsgAt H) xs ms
theorem MsgsAt.kp {H H' : Hp} (k : Kp H H') {xs : List V} {ms : List Msg} (h : MsgsAt H xs ms) : MsgsAt H' xs ms := Paired.mapP h fun _ _ => MsgAt.kp k
/-- a voice as the dict keeps it: (of, rows) -/
def VoAt (H : Hp) (x : V) (v : Nat × List Int) : Prop := ∃ a b xs, x = .ref a ∧ H a = some (.tup [.int v.1, .ref b]) ∧ H b = some (.tup xs) ∧ RowsAt H xs v.2
theorem VoAt.kp {H H' : Hp} (k : Kp H H') {x : V} {v : Nat × List Int} (h : VoAt H x v) : VoAt H' x v := by
  obtain ⟨a, b, xs, e, h, h2, r⟩ := h
  exact ⟨a, b, xs, e, k _ _ h trivial, k _ _ h2 trivial, r.kp k⟩
abbrev VosAt (H : Hp) (kvs : List (Key × V)) (vs : List (Nat × Nat × List Int)) : Prop := Paired (fun (p : Key × V) (q : Nat × Nat × List Int) => p.1 = Sum.inl (q.1 : Int) ∧ VoAt H p.2 q.2) kvs vs
theorem VosAt.kp {H H' : Hp} (k : Kp H H') {kvs : List (Key × V)} {vs : List (Nat × Nat × List Int)} (h : VosAt H kvs vs) : VosAt H' kvs vs := Paired.mapP h fun _ _ z => ⟨z.1, z.2.kp k⟩
def szs (l : List (Nat × Nat)) : List (Key × V) := l.map fun q => (Sum.inl (q.1 : Int), V.int q.2)
def roleS : Role → Str
  | .hears => "hears"
  | .stands => "stands"
  | .leads => "leads"
def mf (n k : Nat) (t o : Nat) (l : Addr) (d : Nat) (r : Str) (v s : Addr) : List (Str × V) :=
  [("number", .int k), ("many", .int n), ("term", .int t), ("of", .int o), ("log", .ref l), ("done", .int d), ("role", .str r), ("voices", .ref v), ("sizes", .ref s)]
/-- a Master stands at p -/
structure MAt (C : Addr) (n k : Nat) (H : Hp) (p l v s : Addr) (m : Ms) : Prop where
  ob : ∃ dx, H p = some (.ins C dx (mf n k m.term m.of l m.done (roleS m.role) v s))
  log : ∃ xs, H l = some (.lst xs) ∧ RowsAt H xs m.log
  vo : ∃ kvs, H v = some (.dK kvs) ∧ VosAt H kvs m.voices
  si : H s = some (.dK (szs m.sizes))
  vs : v ≠ s
abbrev lamQ : Str := "best_of" ++ ".<locals>." ++ "<lambda>"
abbrev Tab (H : Hp) (P : Addr) : Prop := LamX.TabS H P lamQ
theorem Tab.kp {H H' : Hp} {P : Addr} (h : Tab H P) (k : Kp H H') (hP : ∀ o, H P = some o → H' P = some o) : Tab H' P := by
  obtain ⟨ps, h1, h2, h3⟩ := h
  refine ⟨ps, hP _ h1, h2, fun pos cv hc => ?_⟩
  obtain ⟨c, e1, e2⟩ := h3 pos cv hc
  exact ⟨c, e1, k _ _ e2 trivial⟩
/-- behind a deed of the master at p -/
structure Aft (C P : Addr) (n k : Nat) (H : Hp) (p l v s : Addr) (H' : Hp) (m' : Ms) (l' v' s' : Addr) : Prop where
  at_ : MAt C n k H' p l' v' s' m'
  tab : Tab H' P
  l_ : l' = l ∨ Fre H l'
  v_ : v' = v ∨ Fre H v'
  s_ : s' = s ∨ Fre H s'
  fr : ∀ b o, H b = some o → b ≠ p → b ≠ l → b ≠ v → b ≠ s → NT o → H' b = some o
  dom : Dom H H'
section
variable {C P : Addr} {n k : Nat} {H H' H1 H2 : Hp} {p l v s l' v' s' l1 v1 s1 l2 v2 s2 : Addr} {m m' m1 m2 : Ms}
theorem MAt.np (M : MAt C n k H p l v s m) {b : Addr} {o : HO} (h : H b = some o) (hp : Per o) : b ≠ p ∧ b ≠ l ∧ b ≠ v ∧ b ≠ s := by
  obtain ⟨dx, h1⟩ := M.ob
  obtain ⟨xs, h2, _⟩ := M.log
  obtain ⟨kvs, h3, _⟩ := M.vo
  have h4 := M.si
  refine ⟨ne_of h h1 fun z => ?_, ne_of h h2 fun z => ?_, ne_of h h3 fun z => ?_, ne_of h h4 fun z => ?_⟩ <;> (rw [z] at hp; exact hp)
theorem MAt.pl (M : MAt C n k H p l v s m) : p ≠ l := by
  obtain ⟨dx, h1⟩ := M.ob
  obtain ⟨xs, h2, _⟩ := M.log
  exact ne_of h1 h2 fun z => by cases z
theorem MAt.pv (M : MAt C n k H p l v s m) : p ≠ v := by
  obtain ⟨dx, h1⟩ := M.ob
  obtain ⟨xs, h2, _⟩ := M.vo
  exact ne_of h1 h2 fun z => by cases z
theorem MAt.ps (M : MAt C n k H p l v s m) : p ≠ s := by
  obtain ⟨dx, h1⟩ := M.ob
  exact ne_of h1 M.si fun z => by cases z
theorem MAt.lv (M : MAt C n k H p l v s m) : l ≠ v := by
  obtain ⟨dx, h1, _⟩ := M.log
  obtain ⟨xs, h2, _⟩ := M.vo
  exact ne_of h1 h2 fun z => by cases z
theorem MAt.ls (M : MAt C n k H p l v s m) : l ≠ s := by
  obtain ⟨dx, h1, _⟩ := M.log
  exact ne_of h1 M.si fun z => by cases z
theorem Tab.ne {b : Addr} {o : HO} (T : Tab H P) (h : H b = some o) (hn : ∀ ps, o ≠ .tbl ps) : b ≠ P := by
  obtain ⟨ps, h1, _⟩ := T
  exact ne_of h h1 (hn ps)
theorem Aft.kp (M : MAt C n k H p l v s m) (A : Aft C P n k H p l v s H' m' l' v' s') : Kp H H' := fun b o h hp => by
  obtain ⟨h1, h2, h3, h4⟩ := M.np h hp
  exact A.fr b o h h1 h2 h3 h4 fun ps z => by rw [z] at hp; exact hp
theorem Aft.trans (A : Aft C P n k H p l v s H1 m1 l1 v1 s1) (B : Aft C P n k H1 p l1 v1 s1 H2 m2 l2 v2 s2) : Aft C P n k H p l v s H2 m2 l2 v2 s2 where
  at_ := B.at_
  tab := B.tab
  l_ := by
    rcases B.l_ with e | e
    · rw [e]; exact A.l_
    · exact .inr (A.dom _ e)
  v_ := by
    rcases B.v_ with e | e
    · rw [e]; exact A.v_
    · exact .inr (A.dom _ e)
  s_ := by
    rcases B.s_ with e | e
    · rw [e]; exact A.s_
    · exact .inr (A.dom _ e)
  fr := fun b o h h1 h2 h3 h4 h5 => by
    have ne : ∀ {x y : Addr}, b ≠ x → (y = x ∨ Fre H y) → b ≠ y := fun {x y} hx hy z => by
      rcases hy with e | e
      · exact hx (z.trans e)
      · rw [z] at h
        exact e o h h5
    exact B.fr b o (A.fr b o h h1 h2 h3 h4 h5) h1 (ne h2 A.l_) (ne h3 A.v_) (ne h4 A.s_) h5
  dom := A.dom.trans B.dom
/-- nothing has changed -/
theorem Aft.refl (M : MAt C n k H p l v s m) (T : Tab H P) : Aft C P n k H p l v s H m l v s := ⟨M, T, .inl rfl, .inl rfl, .inl rfl, fun _ _ h _ _ _ _ _ => h, Dom.refl H⟩
/-- only new things were made -/
theorem MAt.same (M : MAt C n k H p l v s m) (S : Same H H') : MAt C n k H' p l v s m := by
  obtain ⟨dx, h1⟩ := M.ob
  obtain ⟨xs, h2, r2⟩ := M.log
  obtain ⟨kvs, h3, r3⟩ := M.vo
  have K : Kp H H' := Kp.same S
  exact ⟨⟨dx, S _ _ h1⟩, ⟨xs, S _ _ h2, r2.kp K⟩, ⟨kvs, S _ _ h3, r3.kp K⟩, S _ _ M.si, M.vs⟩
theorem Tab.same (T : Tab H P) (S : Same H H') : Tab H' P := T.ext S
theorem Aft.same (M : MAt C n k H p l v s m) (T : Tab H P) (S : Same H H') : Aft C P n k H p l v s H' m l v s := ⟨M.same S, T.same S, .inl rfl, .inl rfl, .inl rfl, fun b o h _ _ _ _ _ => S b o h, Dom.same S⟩
/-- .. behind a deed -/
theorem Aft.then (A : Aft C P n k H p l v s H1 m1 l1 v1 s1) (S : Same H1 H2) : Aft C P n k H p l v s H2 m1 l1 v1 s1 := A.trans (Aft.same A.at_ A.tab S)
/-- a field is stored -/
theorem Aft.fld (M : MAt C n k H p l v s m) (T : Tab H P) {dx : Addr} {fs : List (Str × V)} (m' : Ms) (h : H p = some (.ins C dx (mf n k m.term m.of l m.done (roleS m.role) v s))) (e : fs = mf n k m'.term m'.of l m'.done (roleS m'.role) v s) (el : m'.log = m.log) (ev : m'.voices = m.voices) (es : m'.sizes = m.sizes) :
    Aft C P n k H p l v s (upd H p (.ins C dx fs)) m' l v s := by
  obtain ⟨xs, h2, r2⟩ := M.log
  obtain ⟨kvs, h3, r3⟩ := M.vo
  have K : Kp H (upd H p (.ins C dx fs)) := Kp.mut h fun z => z
  refine ⟨⟨⟨dx, by rw [upd_same, e]⟩, ⟨xs, by rw [upd_ne M.pl.symm]; exact h2, by rw [el]; exact r2.kp K⟩, ⟨kvs, by rw [upd_ne M.pv.symm]; exact h3, by rw [ev]; exact r3.kp K⟩, by rw [upd_ne M.ps.symm, es]; exact M.si, M.vs⟩,
    T.kp K fun o ho => by rw [upd_ne (T.ne h fun ps z => by cases z).symm]; exact ho, .inl rfl, .inl rfl, .inl rfl, fun b o hb h1 _ _ _ _ => by rw [upd_ne h1]; exact hb, Dom.upd _ _ _ fun ps z => by cases z⟩
end
theorem roleS_inj {a b : Role} (h : roleS a = roleS b) : a = b := by
  cases a <;> cases b <;> first | rfl | exact absurd h (by decide +kernel)
theorem roleS_dec (a b : Role) : decide (V.str (roleS a) = V.str (roleS b)) = decide (a = b) := by
  by_cases e : a = b
  · subst e
    simp
  · rw [decide_eq_false e, decide_eq_false fun z => e (roleS_inj (by injection z))]
def natVs (l : List Nat) : List V := l.map fun i : Nat => V.int (i : Int)
end K85
namespace K85
open PySem L2
/-! ### the masters' methods -/
abbrev inM (j : Nat) : Stmt := inClass (top 3) j
abbrev sInit : Stmt := inM 0
abbrev sOthers : Stmt := inM 1
abbrev sRise : Stmt := inM 2
abbrev sCntV : Stmt := inM 3
abbrev sAdd : Stmt := inM 4
abbrev sSend : Stmt := inM 5
abbrev sFall : Stmt := inM 6
abbrev sCntS : Stmt := inM 7
abbrev sHear : Stmt := inM 8
abbrev sKeep : Stmt := inM 9
/-- what the walk asks of the class and of the built-ins' names -/
structure Txt (K : PySem.W.Frag) (mg : Str → Option Value) (C : Addr) : Prop where
  cl : Cls K C
  nNu : NoAttr K C "number"
  nMa : NoAttr K C "many"
  nTe : NoAttr K C "term"
  nOf : NoAttr K C "of"
  nLo : NoAttr K C "log"
  nDo : NoAttr K C "done"
  nRo : NoAttr K C "role"
  nVo : NoAttr K C "voices"
  nSi : NoAttr K C "sizes"
  mgC : mg "Master" = some (.ref C)
  len : mg "len" = none
  list : mg "list" = none
  tuple : mg "tuple" = none
  max : mg "max" = none
  min : mg "min" = none
  range : mg "range" = none
  sorted : mg "sorted" = none
  enumerate : mg "enumerate" = none
  all : mg "all" = none
/-- a def of the text, its promise -/
structure DefT (P : Program) (w : World) (K : PySem.W.Frag) (mg : Str → Option Value) (base : Heap) (k : Nat) (x : Str) (ps : List Str) (sp : Sp) : Prop where
  ex : ∃ (f : Addr) (fd : FuncData), FnOk P w K mg base CX0 k f fd ps sp ∧ mg x = some (.ref f) ∧ PySem.W.keepIn K (.ref f) = true ∧ Binds K fd ps []
/-- a method of the class -/
structure MetT (P : Program) (w : World) (K : PySem.W.Frag) (mg : Str → Option Value) (base : Heap) (C : Addr) (k : Nat) (x : Str) (ps : List Str) (sp : Sp) : Prop where
  ex : ∃ (f : Addr) (fd : FuncData), FnOk P w K mg base CX0 k f fd ps sp ∧ Meth K C x f ∧ Binds K fd ps []
/-- e.f within a comprehension's block -/
theorem pe_fldB {X : Cx} {e : Expr} {f : Str} {pos : Pos} {ta : TE} (K : PySem.W.Frag) (hK : X.K = K) (ha : PE X e ta) (hb : attributeBase e f X.env (eval e X.env) = eval e X.env) : PE X (.Attribute e f pos) (tFld K ta f) := by
  subst hK
  exact pe_fld ha hb
def spInit (C : Addr) : Sp := fun vs H Q _ => ∃ (p dx : Addr) (k n : Nat), vs = [.ref p, .int k, .int n] ∧ H p = some (.ins C dx []) ∧
  ∀ (H' : Hp) (l v s : Addr), MAt C n k H' p l v s ms0 → H l = none → H v = none → H s = none → (∀ b o, H b = some o → b ≠ p → H' b = some o) → Dom H H' → Q .non H'
def spOthers (C : Addr) : Sp := fun vs H Q _ => ∃ (n k : Nat) (p l v s : Addr) (m : Ms), vs = [.ref p] ∧ MAt C n k H p l v s m ∧ n ≤ 1000 ∧ ∀ q, H q = none → Q (.ref q) (upd H q (.lst (natVs (others n k))))
def spFall (C P : Addr) : Sp := fun vs H Q _ => ∃ (n k : Nat) (p l v s : Addr) (m : Ms), vs = [.ref p] ∧ MAt C n k H p l v s m ∧ Tab H P ∧
  ∀ (H' : Hp) (q : Addr), Aft C P n k H p l v s H' { m with role := .hears, done := 0 } l v s → H q = none → H' q = some (.lst []) → Q (.ref q) H'
section
variable {P : Program} {w : World} {K : PySem.W.Frag} {mg : Str → Option Value} {base : Heap} {C PT : Addr}
theorem scInit : FnScope ["self", "number", "many"] ["self", "number", "many"] (defScope sInit) := ⟨rfl, rfl, rfl, by decide +kernel, rfl, by decide +kernel, by decide +kernel⟩
theorem ok_init {f : Addr} {fd : FuncData} (F : Fun K "__init__" "Master.__init__" sInit f fd) (T : Txt K mg C) : FnOk P w K mg base CX0 1 f fd ["self", "number", "many"] (spInit C) := by
  refine F.ok scInit (fun vs H Q E h => ?_) (fun cdv A outer s H vs Q E hr h => ?_)
  · obtain ⟨p, dx, k, n, rfl, _⟩ := h
    rfl
  · obtain ⟨p, dx, k, n, rfl, hp, hq⟩ := h
    refine ⟨_, pss_cons (ps_fld (pv 0) (pv 1) rfl) (pss_cons (ps_fld (pv 0) (pv 2) rfl) (pss_cons (ps_fld (pv 0) pe_int rfl) (pss_cons (ps_fld (pv 0) pe_int rfl) (pss_cons (ps_fld (pv 0) (pe_lst pa_nil) rfl)
      (pss_cons (ps_fld (pv 0) pe_int rfl) (pss_cons (ps_fld (pv 0) pe_str rfl) (pss_cons (ps_fld (pv 0) pe_dnewK rfl) (pss_one (ps_fld (pv 0) pe_dnewK rfl))))))))), ?_⟩
    refine ⟨_, rfl, _, rfl, p, C, dx, _, rfl, hp, T.cl, T.nNu, (by show 0 < 1000; decide), ?_⟩
    refine ⟨_, rfl, _, rfl, p, C, dx, _, rfl, upd_same, T.cl, T.nMa, (by show 1 < 1000; decide), ?_⟩
    refine ⟨_, rfl, p, C, dx, _, rfl, upd_same, T.cl, T.nTe, (by show 2 < 1000; decide), ?_⟩
    refine ⟨_, rfl, p, C, dx, _, rfl, upd_same, T.cl, T.nOf, (by show 3 < 1000; decide), ?_⟩
    rw [upd_upd, upd_upd, upd_upd]
    refine ⟨(by show 0 ≤ sizeLine; exact Nat.zero_le _), fun l hl => ?_⟩
    have npl : p ≠ l := ne_of_none upd_same hl
    refine ⟨_, rfl, p, C, dx, _, rfl, by rw [upd_ne npl]; exact upd_same, T.cl, T.nLo, (by show 4 < 1000; decide), ?_⟩
    refine ⟨_, rfl, p, C, dx, _, rfl, upd_same, T.cl, T.nDo, (by show 5 < 1000; decide), ?_⟩
    refine ⟨_, rfl, p, C, dx, _, rfl, upd_same, T.cl, T.nRo, (by show 6 < 1000; decide), ?_⟩
    rw [upd_upd, upd_upd]
    intro v hv
    have npv : p ≠ v := ne_of_none upd_same hv
    rw [upd_ne npv.symm] at hv
    have nlv : l ≠ v := ne_of_none upd_same hv
    rw [upd_ne nlv.symm, upd_ne npv.symm] at hv
    refine ⟨_, rfl, p, C, dx, _, rfl, by rw [upd_ne npv]; exact upd_same, T.cl, T.nVo, (by show 7 < 1000; decide), ?_⟩
    intro s hs
    have nps : p ≠ s := ne_of_none upd_same hs
    rw [upd_ne nps.symm] at hs
    have nvs : v ≠ s := ne_of_none upd_same hs
    rw [upd_ne nvs.symm, upd_ne nps.symm] at hs
    have nls : l ≠ s := ne_of_none upd_same hs
    rw [upd_ne nls.symm, upd_ne nps.symm] at hs
    refine ⟨_, rfl, p, C, dx, _, rfl, by rw [upd_ne nps]; exact upd_same, T.cl, T.nSi, (by show 8 < 1000; decide), ?_⟩
    rw [upd_ne npl.symm] at hl
    refine hq _ l v s ⟨⟨dx, upd_same⟩, ⟨[], ?_, .nil⟩, ⟨[], ?_, .nil⟩, ?_, nvs⟩ hl hv hs (fun b o hb hbp => ?_) ?_
    · rw [upd_ne npl.symm, upd_ne nls, upd_ne npl.symm, upd_ne nlv, upd_ne npl.symm]
      exact upd_same
    · rw [upd_ne npv.symm, upd_ne nvs, upd_ne npv.symm]
      exact upd_same
    · rw [upd_ne nps.symm]
      exact upd_same
    · rw [upd_ne hbp, upd_ne (ne_of_none hb hs), upd_ne hbp, upd_ne (ne_of_none hb hv), upd_ne hbp, upd_ne (ne_of_none hb hl), upd_ne hbp]
      exact hb
    · exact (((((((Dom.upd _ _ _ nt_ins).trans (Dom.upd _ _ _ nt_lst)).trans (Dom.upd _ _ _ nt_ins)).trans (Dom.upd _ _ _ nt_dK)).trans (Dom.upd _ _ _ nt_ins)).trans (Dom.upd _ _ _ nt_dK)).trans (Dom.upd _ _ _ nt_ins))
theorem scOthers : FnScope ["self", "number"] ["self"] (defScope sOthers) := ⟨rfl, rfl, rfl, by decide +kernel, rfl, by decide +kernel, by decide +kernel⟩
theorem natVs_app (a b : List Nat) : natVs (a ++ b) = natVs a ++ natVs b := List.map_append
theorem ok_others {f : Addr} {fd : FuncData} (F : Fun K "others" "Master.others" sOthers f fd) (T : Txt K mg C) : FnOk P w K mg base CX0 1 f fd ["self"] (spOthers C) := by
  refine F.ok scOthers (fun vs H Q E h => ?_) (fun cdv A outer s H vs Q E hr h => ?_)
  · obtain ⟨n, k, p, l, v, s, m, rfl, _⟩ := h
    rfl
  · obtain ⟨n, k, p, l, v, s, m, rfl, M, hn, hq⟩ := h
    obtain ⟨dx, hp⟩ := M.ob
    refine ⟨_, pss_one (ps_ret (pe_lc (own := [("number", 1)]) (g := gName 1) rfl scOthers.nd (pi_range1 rfl T.range (pa_cons (pe_fld (pv 0) rfl) pa_nil)) (blkOk_by (N := ["self", "number"]) (sc := defScope sOthers) (by decide +kernel))
      (fun _ _ _ _ _ => pg_name (i := 1) scOthers.nd rfl (Or.inl rfl)) (fun _ _ _ _ _ => pts_one (pt_cmpR op_ne (pv 1) (pe_fldB K rfl (pv 0) rfl) (nomark _))) (fun _ _ _ _ _ => pv 1))), ?_⟩
    refine ⟨_, rfl, p, C, dx, _, _, rfl, hp, T.cl, T.nMa, rfl, _, rfl, by omega, by omega, fun D hD => ?_⟩
    have npD : p ≠ D := ne_of_none hp hD
    refine lc_range (lo := 0) (n := ((n : Int)).toNat) (fun i H' => H' = upd H D (.lst (natVs ((List.range i).filter fun j => decide (j ≠ k))))) rfl ?_ ?_
    · rintro i H' hi rfl
      refine ⟨rfl, _, rfl, _, rfl, p, C, dx, _, _, rfl, by rw [upd_ne npD]; exact hp, T.cl, T.nNu, rfl, rfl, _, rfl, ?_⟩
      refine ite2 (fun hne => ?_) (fun hne => ?_)
      · have hne : i ≠ k := by
          intro z
          subst z
          simp at hne
        refine ⟨_, rfl, _, upd_same, ?_, ?_⟩
        · show (natVs _).length < sizeLine
          unfold natVs
          rw [List.length_map]
          have := List.length_filter_le (fun j => decide (j ≠ k)) (List.range i)
          rw [List.length_range] at this
          exact Nat.lt_of_le_of_lt (show _ ≤ 1000 by omega) (by decide)
        · rw [upd_upd, List.range_succ, List.filter_append, natVs_app]
          congr 2
          rw [show List.filter (fun j => decide (j ≠ k)) [i] = [i] by simp [hne]]
          show natVs _ ++ [V.int (0 + (i : Int))] = natVs _ ++ [V.int (i : Int)]
          rw [Int.zero_add]
      · have hne : i = k := by
          refine Classical.byContradiction fun z => hne ?_
          simp
          omega
        rw [List.range_succ, List.filter_append, natVs_app]
        rw [show List.filter (fun j => decide (j ≠ k)) [i] = [] by simp [hne]]
        rw [show natVs [] = [] from rfl, List.append_nil]
    · rintro H' rfl
      rw [Int.toNat_natCast]
      exact hq D hD
theorem scFall : FnScope ["self"] ["self"] (defScope sFall) := ⟨rfl, rfl, rfl, by decide +kernel, rfl, by decide +kernel, by decide +kernel⟩
theorem ok_fall {f : Addr} {fd : FuncData} (F : Fun K "fall" "Master.fall" sFall f fd) (T : Txt K mg C) : FnOk P w K mg base CX0 1 f fd ["self"] (spFall C PT) := by
  refine F.ok scFall (fun vs H Q E h => ?_) (fun cdv A outer s H vs Q E hr h => ?_)
  · obtain ⟨n, k, p, l, v, s, m, rfl, _⟩ := h
    rfl
  · obtain ⟨n, k, p, l, v, s, m, rfl, M, TB, hq⟩ := h
    obtain ⟨dx, hp⟩ := M.ob
    refine ⟨_, pss_cons (ps_fld (pv 0) pe_str rfl) (pss_cons (ps_fld (pv 0) pe_int rfl) (pss_one (ps_ret (pe_lst pa_nil)))), ?_⟩
    refine ⟨_, rfl, p, C, dx, _, rfl, hp, T.cl, T.nRo, (by show 9 < 1000; decide), ?_⟩
    refine ⟨_, rfl, p, C, dx, _, rfl, upd_same, T.cl, T.nDo, (by show 9 < 1000; decide), ?_⟩
    refine ⟨(by show 0 ≤ sizeLine; exact Nat.zero_le _), fun q hn => ?_⟩
    rw [upd_upd] at hn ⊢
    have A := Aft.fld M TB { m with role := .hears, done := 0 } hp (fs := _) rfl rfl rfl rfl
    have hn0 : H q = none := by
      by_cases e : q = p
      · rw [e, upd_same] at hn
        cases hn
      · rw [upd_ne e] at hn
        exact hn
    exact hq _ q (A.then (Same.new hn)) hn0 upd_same
end
end K85
namespace K85
open PySem L2
def spSend (C : Addr) : Sp := fun vs H Q _ => ∃ (n k : Nat) (p l v s : Addr) (m : Ms), vs = [.ref p] ∧ MAt C n k H p l v s m ∧ n ≤ 1000 ∧
  (m.role = .leads → ∀ (H' : Hp) (q : Addr) (xs : List V), Same H H' → H q = none → H' q = some (.lst xs) → MsgsAt H' xs (keeps n k m) → Q (.ref q) H') ∧
  (m.role ≠ .leads → ∀ q, H q = none → Q (.ref q) (upd H q (.lst [])))
theorem yesT {σ : L2.St} {H : Hp} {A B : Hp → Prop} (h : A H) : tYes σ H fun b H3 => if b = true then A H3 else B H3 := by
  unfold tYes
  show if true = true then A H else B H
  rw [if_pos rfl]
  exact h
theorem natVs_get {l : List Nat} {i : Nat} {x : V} (h : (natVs l)[i]? = some x) : ∃ o : Nat, l[i]? = some o ∧ x = .int (o : Int) := by
  unfold natVs at h
  rw [List.getElem?_map] at h
  cases e : l[i]? with
  | none =>
    rw [e] at h
    cases h
  | some o =>
    rw [e] at h
    exact ⟨o, rfl, (Option.some.inj h).symm⟩
theorem natVs_len (l : List Nat) : (natVs l).length = l.length := List.length_map _
theorem take_succ_of {α : Type} {l : List α} {i : Nat} {x : α} (h : l[i]? = some x) : l.take (i + 1) = l.take i ++ [x] := by
  rw [List.take_add_one, h]
  rfl
theorem others_le (n k : Nat) : (others n k).length ≤ n := by
  unfold others
  have := List.length_filter_le (fun i => decide (i ≠ k)) (List.range n)
  rw [List.length_range] at this
  exact this
section
variable {P : Program} {w : World} {K : PySem.W.Frag} {mg : Str → Option Value} {base : Heap} {C PT : Addr}
theorem scSend : FnScope ["self", "rows", "other"] ["self"] (defScope sSend) := ⟨rfl, rfl, rfl, by decide +kernel, rfl, by decide +kernel, by decide +kernel⟩
theorem ok_send {f : Addr} {fd : FuncData} (F : Fun K "send" "Master.send" sSend f fd) (T : Txt K mg C) (MO : MetT P w K mg base C 1 "others" ["self"] (spOthers C)) : FnOk P w K mg base CX0 2 f fd ["self"] (spSend C) := by
  obtain ⟨fO, fdO, GO, mO, bO⟩ := MO.ex
  refine F.ok scSend (fun vs H Q E h => ?_) (fun cdv A outer s H vs Q E hr h => ?_)
  · obtain ⟨n, k, p, l, v, s, m, rfl, _⟩ := h
    rfl
  · obtain ⟨n, k, p, l, v, s, m, rfl, M, hn, hq1, hq2⟩ := h
    obtain ⟨dx, hp⟩ := M.ob
    obtain ⟨xs, hl, hrows⟩ := M.log
    refine ⟨_, pss_cons (ps_if (pt_cmpR op_ne (pe_fld (pv 0) rfl) pe_str (nomark _)) (pss_one (ps_ret (pe_lst pa_nil))) pss_nil)
      (pss_cons (ps_set (i := 1) scSend.nd rfl (.inr rfl) (pe_callTy call_tuple_of (by rfl) T.tuple (by decide +kernel) (pa_cons (pe_fld (pv 0) rfl) pa_nil)))
      (pss_one (ps_ret (pe_lc (own := [("other", 2)]) (g := gName 2) rfl scSend.nd (pi_list (pe_meth0 (pv 0) T.cl mO GO hr bO .nil pass0)) (blkOk_by (N := ["self", "rows", "other"]) (sc := defScope sSend) (by decide +kernel))
        (fun _ _ _ _ _ => pg_name (i := 2) scSend.nd rfl (Or.inl rfl)) (fun _ _ _ _ _ => pts_nil)
        (fun _ _ _ _ _ => pe_tup (pa_cons pe_str (pa_cons (pe_fldB K rfl (pv 0) rfl) (pa_cons (pv 2) (pa_cons (pe_fldB K rfl (pv 0) rfl) (pa_cons (pv 1) (pa_cons (pe_fldB K rfl (pv 0) rfl) pa_nil)))))))))) ), ?_⟩
    refine ⟨_, rfl, p, C, dx, _, _, rfl, hp, T.cl, T.nRo, rfl, rfl, _, rfl, ?_⟩
    have er : (!decide (V.str (roleS m.role) = V.str "leads")) = !decide (m.role = .leads) := by rw [← roleS_dec m.role .leads]; rfl
    refine ite2 (fun hne => ?_) (fun hne => ?_)
    · have hne : m.role ≠ .leads := fun z => by
        have hne : (!decide (V.str (roleS m.role) = V.str "leads")) = true := hne
        rw [er, z] at hne
        simp at hne
      exact ⟨Nat.zero_le _, fun q hn => hq2 hne q hn⟩
    · have hle : m.role = .leads := Classical.byContradiction fun z => hne (by
        show (!decide (V.str (roleS m.role) = V.str "leads")) = true
        rw [er, decide_eq_false z]
        rfl)
      refine ⟨_, rfl, p, C, dx, _, _, rfl, hp, T.cl, T.nLo, rfl, l, xs, rfl, .inl ⟨SqL.of hl, fun b hb => ?_⟩⟩
      have npb : p ≠ b := ne_of_none hp hb
      have hp1 : (upd H b (.tup xs)) p = some (.ins C dx (mf n k m.term m.of l m.done (roleS m.role) v s)) := by rw [upd_ne npb]; exact hp
      refine ⟨_, rfl, p, dx, _, rfl, hp1, rfl, n, k, p, l, v, s, m, rfl, M.same (Same.new hb), hn, fun q0 hq0 => ?_⟩
      have hp2 : (upd (upd H b (.tup xs)) q0 (.lst (natVs (others n k)))) p = some (.ins C dx (mf n k m.term m.of l m.done (roleS m.role) v s)) := by rw [upd_ne (ne_of_none hp1 hq0)]; exact hp1
      have hb2 : (upd (upd H b (.tup xs)) q0 (.lst (natVs (others n k)))) b = some (.tup xs) := by rw [upd_ne (ne_of_none upd_same hq0)]; exact upd_same
      have S2 : Same H (upd (upd H b (.tup xs)) q0 (.lst (natVs (others n k)))) := (Same.new hb).trans (Same.new hq0)
      have hl0 : (upd (upd H b (.tup xs)) q0 (.lst (natVs (others n k)))) q0 = some (.lst (natVs (others n k))) := upd_same
      generalize upd (upd H b (.tup xs)) q0 (.lst (natVs (others n k))) = H2 at hp2 hb2 S2 hl0
      refine ⟨q0, rfl, ⟨_, SqL.of hl0⟩, fun D hD => ?_⟩
      have hHD : H D = none := S2.free hD
      refine lc_list (K := K) (a := q0) (xs := natVs (others n k)) (fun i H' => Same H2 H' ∧ ∃ ys, H' D = some (.lst ys) ∧ MsgsAt H' ys (((others n k).take i).map fun o => .keep k o m.term m.log m.done))
        ⟨Same.new hD, [], upd_same, .nil⟩ (fun i H' _ ⟨S, _⟩ => S.seq (SqL.of hl0)) ?_ ?_
      · rintro i x H' hi ⟨S, ys, hys, hms⟩
        obtain ⟨o, ho, rfl⟩ := natVs_get hi
        have hp3 := S _ _ hp2
        refine ⟨rfl, yesT ?_⟩
        refine ⟨_, rfl, p, C, dx, _, _, rfl, hp3, T.cl, T.nNu, rfl, _, rfl, _, rfl, p, C, dx, _, _, rfl, hp3, T.cl, T.nTe, rfl, _, rfl, _, rfl, p, C, dx, _, _, rfl, hp3, T.cl, T.nDo, rfl, (by show 6 ≤ sizeLine; decide), fun t ht => ?_⟩
        have nDt : D ≠ t := ne_of_none hys ht
        have hlen : ys.length < sizeLine := by
          have e := hms.length
          rw [List.length_map, List.length_take] at e
          have := others_le n k
          exact Nat.lt_of_le_of_lt (show _ ≤ 1000 by omega) (by decide)
        have hyt : (upd H' t (.tup [.str "keep", .int k, .int o, .int m.term, .ref b, .int m.done])) D = some (.lst ys) := by rw [upd_ne nDt]; exact hys
        have S' : Same H' (upd H' t (.tup [.str "keep", .int k, .int o, .int m.term, .ref b, .int m.done])) := Same.new ht
        refine ⟨ys, hyt, hlen, ?_, ys ++ [.ref t], upd_same, ?_⟩
        · intro c u hc
          rw [upd_ne (ne_of_none hc hD)]
          exact S' _ _ (S _ _ hc)
        · rw [take_succ_of ho, List.map_append]
          have K1 : Kp H' (upd (upd H' t (.tup [.str "keep", .int k, .int o, .int m.term, .ref b, .int m.done])) D (.lst (ys ++ [.ref t]))) := (Kp.same S').trans (Kp.mut hyt fun z => z)
          refine Paired.snoc (hms.kp K1) ⟨t, b, xs, rfl, by rw [upd_ne nDt.symm]; exact upd_same, K1 _ _ (S _ _ hb2) trivial, hrows.kp ((Kp.same (S2.trans S)).trans K1)⟩
      · rintro H' ⟨S, ys, hys, hms⟩
        refine hq1 hle H' D ys (S2.trans S) hHD hys ?_
        rw [natVs_len, List.take_length] at hms
        exact hms
end
end K85
namespace K85
open PySem L2
theorem ix_tupB {X : Cx} (K : PySem.W.Frag) (hK : X.K = K) : IxR X (rIxT K) := by
  subst hK
  exact ix_tup
theorem ix_listB {X : Cx} (K : PySem.W.Frag) (hK : X.K = K) : IxR X (rIxL K) := by
  subst hK
  exact ix_list
theorem call_lenB {X : Cx} (K : PySem.W.Frag) (hK : X.K = K) : CallR X (.builtin "len") (fun xs H Q => ∃ x n, xs = [x] ∧ LenV K x H n ∧ Q (.int n) H) := by
  subst hK
  exact call_len
abbrev sBest : Stmt := top 2
/-- the greatest of all voices -/
def Top (vos : List (Nat × List Int)) (v : Nat × List Int) : Prop := v ∈ vos ∧ ∀ u ∈ vos, u.1 < v.1 ∨ (u.1 = v.1 ∧ u.2.length ≤ v.2.length)
def spBest (P : Addr) : Sp := fun vs H Q _ => ∃ (a : Addr) (xs : List V) (vos : List (Nat × List Int)), vs = [.ref a] ∧ H a = some (.lst xs) ∧ Paired (VoAt H) xs vos ∧ vos ≠ [] ∧ Tab H P ∧
  ∀ (H' : Hp) (p : Addr) (ys : List V) (v : Nat × List Int), Top vos v → LamX.ExtN H H' → Tab H' P → Fre H p → H' p = some (.lst ys) → RowsAt H' ys v.2 → Q (.ref p) H'
section
variable {P : Program} {w : World} {K : PySem.W.Frag} {mg : Str → Option Value} {base : Heap} {C PT c : Addr}
theorem scBest : FnScope ["voices", "greatest"] ["voices"] (defScope sBest) := ⟨rfl, rfl, rfl, by decide +kernel, rfl, by decide +kernel, by decide +kernel⟩
def lamScope : Scope := match defBody sBest with
  | .Assign _ (.Call _ _ [⟨_, .Lambda _ _ sc _, _⟩] _) _ :: _ => sc
  | _ => { kind := .function, names := [], isGenerator := false, isCoroutine := false }
theorem scLam : FnScope ["voice"] ["voice"] lamScope := ⟨rfl, rfl, rfl, by decide +kernel, rfl, by decide +kernel, by decide +kernel⟩
theorem ok_best {f : Addr} {kV doc pm ct oc : Value} {an od : Option Addr} {osl : Array (Option Value)} (lk : K.lookup f = some ⟨oc, od, .func (PySem.W.fnOf "best_of" "best_of" (defArgs sBest) (defBody sBest) (defScope sBest) .none kV doc pm an (.ref c) ct), osl⟩)
    (hcd : PySem.W.codeIn K (.ref c) "best_of" = true) (TB : LamX.TabB base mg c PT) (T : Txt K mg C) :
    FnOk P w K mg base CX0 3 f (PySem.W.fnOf "best_of" "best_of" (defArgs sBest) (defBody sBest) (defScope sBest) .none kV doc pm an (.ref c) ct) ["voices"] (spBest PT) := by
  refine fn_of lk hcd scBest (fun vs H Q E h => ?_) fun A outer s H vs Q E hr h => ?_
  · obtain ⟨a, xs, vos, rfl, _⟩ := h
    rfl
  · obtain ⟨a, xs, vos, rfl, ha, hv, hne, hT, hq⟩ := h
    suffices hs : ∃ t, PSs (cxOf CX0 P w K mg base ["voices", "greatest"] "best_of" (defScope sBest) f (.ref c) A outer s H E).nox (defBody sBest) t ∧ t { nx := fun _ H' => Q .non H', rt := Q } (L2.start ["voices", "greatest"] [.ref a]) H by
      obtain ⟨t, h1, h2⟩ := hs
      exact ⟨t, h1.nox, h2⟩
    refine ⟨_, pss_cons (ps_set (i := 1) scBest.nd rfl (.inl rfl) (pe_lock (pe_maxLam (N := ["voice"]) (P := PT) (k := 0) (te := tCons (tOp (rIxT K) (tVar 0) (tC (.int 0))) (tCons (tCB (fun xs H Q => ∃ x n, xs = [x] ∧ LenV K x H n ∧ Q (.int n) H) (tCons (tOp (rIxT K) (tVar 0) (tC (.int 1))) tNil)) tNil)) rfl (pv 0) rfl T.max TB rfl hr scLam rfl rfl
        (fun _ _ _ _ _ => rfl) (fun _ _ _ _ _ _ _ => pa_cons (pe_ix (ix_tupB K rfl) (pv 0) pe_int (fun _ _ => rfl)) (pa_cons (pe_callB (call_lenB K rfl) (by rfl) T.len PySem.boot_len (pa_cons (pe_ix (ix_tupB K rfl) (pv 0) pe_int (fun _ _ => rfl)) pa_nil)) pa_nil)))))
      (pss_one (ps_ret (pe_callTy call_list_of (by rfl) T.list (by decide +kernel) (pa_cons (pe_ix ix_tup (pv 1) pe_int (fun _ _ => rfl)) pa_nil)))), ?_⟩
    have kf : ∀ od, Kp H (upd H a (.frz od (.lst xs))) := fun od => Kp.mut ha fun z => z
    have hT' : ∀ od, Tab (upd H a (.frz od (.lst xs))) PT := fun od => hT.kp (kf od) fun o ho => by
      rw [upd_ne (hT.ne ha nt_lst).symm]
      exact ho
    have hlen := hv.length
    refine ⟨a, .lst xs, ha, trivial, fun od => ⟨.ref a, rfl, a, od, xs, fun i => match vos[i]? with | some v => ((v.1 : Int), (v.2.length : Int)) | none => (0, 0), rfl, upd_same, ?_, hT' od, ?_, ?_⟩⟩
    · rw [hlen]
      exact List.length_pos_iff.mpr hne
    · intro i y H' hy eN
      obtain ⟨v, hvi, t, b, ys, rfl, h1, h2, hr2⟩ := Paired.get hv hy
      have h1' : H' t = some (.tup [.int v.1, .ref b]) := eN _ _ (kf od _ _ h1 trivial) nt_tup
      have h2' : H' b = some (.tup ys) := eN _ _ (kf od _ _ h2 trivial) nt_tup
      refine ⟨_, rfl, t, _, _, .int v.1, rfl, rfl, SqT.of h1', atI_nat (j := 0) rfl, _, rfl, t, _, _, .ref b, rfl, rfl, SqT.of h1', atI_nat (j := 1) rfl, _, ys.length, rfl, .inr ⟨ys, SqT.of h2', rfl⟩, rfl, ?_⟩
      show [V.int v.1, V.int ys.length] = [V.int (match vos[i]? with | some v => ((v.1 : Int), (v.2.length : Int)) | none => (0, 0)).1, V.int (match vos[i]? with | some v => ((v.1 : Int), (v.2.length : Int)) | none => (0, 0)).2]
      rw [hvi]
      show [V.int v.1, V.int ys.length] = [V.int v.1, V.int v.2.length]
      rw [hr2.length]
    · intro i y H2 hy hmax hT2 eN
      have hT2 : Tab H2 PT := hT2
      obtain ⟨v, hvi, t, b, ys, rfl, h1, h2, hr2⟩ := Paired.get hv hy
      have ha2 : H2 a = some (.frz od (.lst xs)) := eN _ _ upd_same fun ps z => by cases z
      refine ⟨ha2, ?_⟩
      have e3 : ∀ c o, H c = some o → NT o → upd H2 a (.lst xs) c = some o := fun c o hc n => by
        by_cases e : c = a
        · subst e
          rw [ha] at hc
          rw [upd_same]
          exact hc
        · rw [upd_ne e]
          exact eN c o (by rw [upd_ne e]; exact hc) n
      have h1' := e3 t _ h1 nt_tup
      have h2' := e3 b _ h2 nt_tup
      refine ⟨_, rfl, t, _, _, .ref b, rfl, rfl, SqT.of h1', atI_nat (j := 1) rfl, b, ys, rfl, .inr (SqT.of h2'), fun l hl => ?_⟩
      have hal : a ≠ l := ne_of_none upd_same hl
      have hHl : Fre H l := fun o q n => by
        rw [e3 l o q n] at hl
        cases hl
      have K3 : Kp H (upd H2 a (.lst xs)) := fun c o hc n => e3 c o hc fun ps z => by
        rw [z] at n
        exact n
      have hT3 : Tab (upd H2 a (.lst xs)) PT := by
        obtain ⟨ps, t1, t2, t3⟩ := id hT2
        refine ⟨ps, by rw [upd_ne (hT2.ne ha2 fun ps z => by cases z).symm]; exact t1, t2, fun pos cv hc => ?_⟩
        obtain ⟨d, d1, d2⟩ := t3 pos cv hc
        exact ⟨d, d1, by rw [upd_ne (ne_of d2 ha2 fun z => by unfold LamX.CodeO at z; cases z)]; exact d2⟩
      have S4 : Same (upd H2 a (.lst xs)) (upd (upd H2 a (.lst xs)) l (.lst ys)) := Same.new hl
      refine hq _ l ys v ⟨List.mem_of_getElem? hvi, fun u hu => ?_⟩ (fun c o hc n => S4 _ _ (e3 c o hc n)) (hT3.same S4) hHl upd_same (hr2.kp (K3.trans (Kp.same S4)))
      obtain ⟨j, hj, ej⟩ := List.getElem_of_mem hu
      have hj? : vos[j]? = some u := by rw [List.getElem?_eq_getElem hj, ej]
      have hm := hmax j (by omega)
      have hm : gtP (match vos[j]? with | some v => ((v.1 : Int), (v.2.length : Int)) | none => (0, 0)) (match vos[i]? with | some v => ((v.1 : Int), (v.2.length : Int)) | none => (0, 0)) = false := hm
      rw [hvi, hj?] at hm
      have hm : gtP ((u.1 : Int), (u.2.length : Int)) ((v.1 : Int), (v.2.length : Int)) = false := hm
      unfold gtP at hm
      have hm := of_decide_eq_false hm
      omega
end
end K85
namespace K85
open PySem L2
def spCV (C P : Addr) : Sp := fun vs H Q _ => ∃ (n k : Nat) (p l v s : Addr) (m : Ms), vs = [.ref p] ∧ MAt C n k H p l v s m ∧ Tab H P ∧
  ∀ (H' : Hp) (m' : Ms) (l' v' s' : Addr), CV n m m' → Aft C P n k H p l v s H' m' l' v' s' → Q .non H'
theorem vos_vals {H : Hp} {kvs : List (Key × V)} {vs : List (Nat × Nat × List Int)} (h : VosAt H kvs vs) : Paired (VoAt H) (kvs.map (·.2)) (vs.map (·.2)) := by
  induction h with
  | nil => exact .nil
  | cons r t ih => exact .cons r.2 ih
section
variable {P : Program} {w : World} {K : PySem.W.Frag} {mg : Str → Option Value} {base : Heap} {C PT c : Addr}
theorem scCntV : FnScope ["self"] ["self"] (defScope sCntV) := ⟨rfl, rfl, rfl, by decide +kernel, rfl, by decide +kernel, by decide +kernel⟩
theorem ok_cntV {f : Addr} {fd : FuncData} (F : Fun K "count_voices" "Master.count_voices" sCntV f fd) (T : Txt K mg C) (DM : DefT P w K mg base 1 "is_more" ["some", "many"] spIsMore) (DB : DefT P w K mg base 3 "best_of" ["voices"] (spBest PT)) :
    FnOk P w K mg base CX0 4 f fd ["self"] (spCV C PT) := by
  obtain ⟨fM, fdM, GM, mM, kM, bM⟩ := DM.ex
  obtain ⟨fB, fdB, GB, mB, kB, bB⟩ := DB.ex
  refine F.ok scCntV (fun vs H Q E h => ?_) (fun cdv A outer st H vs Q E hr h => ?_)
  · obtain ⟨n, k, p, l, v, s, m, rfl, _⟩ := h
    rfl
  · obtain ⟨n, k, p, l, v, s, m, rfl, M, hT, hq⟩ := h
    obtain ⟨dx, hp⟩ := id M.ob
    obtain ⟨kvs, hv, hvo⟩ := id M.vo
    have hlen : kvs.length = m.voices.length := hvo.length
    refine ⟨_, pss_one (ps_if (pt_val (pe_call GM (hr.mono (by decide)) rfl mM kM bM .nil pass0 (pa_cons (pe_callB call_lenD (by rfl) T.len PySem.boot_len (pa_cons (pe_fld (pv 0) rfl) pa_nil)) (pa_cons (pe_fld (pv 0) rfl) pa_nil))))
      (pss_cons (ps_fld (pv 0) (pe_call GB hr rfl mB kB bB .nil pass0 (pa_cons (pe_listVals rfl (pe_fld (pv 0) rfl) (by rfl) T.list (by decide +kernel)) pa_nil)) rfl)
      (pss_cons (ps_fld (pv 0) (pe_fld (pv 0) rfl) rfl) (pss_cons (ps_fld (pv 0) pe_str rfl) (pss_one (ps_fld (pv 0) pe_dnewK rfl))))) pss_nil), ?_⟩
    refine ⟨_, rfl, p, C, dx, _, _, rfl, hp, T.cl, T.nVo, rfl, v, kvs, rfl, hv, _, rfl, p, C, dx, _, _, rfl, hp, T.cl, T.nMa, rfl, _, _, rfl, _, rfl, ?_⟩
    refine ite2 (fun hm => ?_) (fun hm => ?_)
    · have hm := of_decide_eq_true hm
      have hmaj : n < 2 * m.voices.length := by omega
      refine ⟨_, rfl, p, C, dx, _, _, rfl, hp, T.cl, T.nVo, rfl, v, kvs, rfl, hv, fun q hq0 => ?_⟩
      have S1 : Same H (upd H q (.lst (kvs.map (·.2)))) := Same.new hq0
      have vne : m.voices.map (·.2) ≠ [] := by
        intro z
        have : (m.voices.map (·.2)).length = 0 := by rw [z]; rfl
        rw [List.length_map] at this
        omega
      refine ⟨q, _, m.voices.map (·.2), rfl, upd_same, Paired.mapP (vos_vals hvo) fun _ _ => VoAt.kp (Kp.same S1), vne, hT.same S1, fun H2 l' ys u htop eN hT2 hfre hl' hrows => ?_⟩
      have e02 : ∀ b o, H b = some o → NT o → H2 b = some o := fun b o hb n => eN b o (S1 b o hb) n
      have hp2 := e02 _ _ hp nt_ins
      have K02 : Kp H H2 := (Kp.same S1).trans (Kp.ext eN)
      have D02 : Dom H H2 := (Dom.same S1).trans (Dom.ext eN)
      refine ⟨_, rfl, p, C, dx, _, rfl, hp2, T.cl, T.nLo, (by show 9 < 1000; decide), ?_⟩
      refine ⟨_, rfl, p, C, dx, _, _, rfl, upd_same, T.cl, T.nTe, rfl, _, rfl, p, C, dx, _, rfl, upd_same, T.cl, T.nOf, (by show 9 < 1000; decide), ?_⟩
      refine ⟨_, rfl, p, C, dx, _, rfl, upd_same, T.cl, T.nRo, (by show 9 < 1000; decide), ?_⟩
      rw [upd_upd, upd_upd]
      intro s' hs'
      have nps : p ≠ s' := ne_of_none upd_same hs'
      rw [upd_ne nps.symm] at hs'
      refine ⟨_, rfl, p, C, dx, _, rfl, by rw [upd_ne nps]; exact upd_same, T.cl, T.nSi, (by show 9 < 1000; decide), ?_⟩
      have npl : p ≠ l' := ne_of hp2 hl' fun z => by cases z
      have hv2 := e02 _ _ hv nt_dK
      have nvs : v ≠ s' := ne_of_none hv2 hs'
      have nls : l' ≠ s' := ne_of_none hl' hs'
      have K2 : ∀ fs fs' : List (Str × V), Kp H2 (upd (upd (upd H2 p (.ins C dx fs)) s' (.dK [])) p (.ins C dx fs')) := fun fs fs' =>
        ((Kp.mut hp2 fun z => z).trans (Kp.new (by rw [upd_ne nps.symm]; exact hs'))).trans (Kp.mut (o := .ins C dx fs) (by rw [upd_ne nps]; exact upd_same) fun z => z)
      refine hq _ { m with log := u.2, of := m.term, role := .leads, sizes := [] } l' v s' (.inr ⟨hmaj, u, htop.1, htop.2, rfl⟩) ⟨⟨⟨dx, upd_same⟩, ⟨ys, ?_, hrows.kp (K2 _ _)⟩, ⟨kvs, ?_, hvo.kp (K02.trans (K2 _ _))⟩, ?_, nvs⟩, hT2.kp (K2 _ _) fun o ho => ?_, .inr ?_, .inl rfl, .inr ?_, fun b o hb h1 h2 h3 h4 hn => ?_, ?_⟩
      · rw [upd_ne npl.symm, upd_ne nls, upd_ne npl.symm]
        exact hl'
      · rw [upd_ne M.pv.symm, upd_ne nvs, upd_ne M.pv.symm]
        exact hv2
      · rw [upd_ne nps.symm, upd_same]
        rfl
      · have z : PT ≠ p := (hT2.ne hp2 nt_ins).symm
        have z2 : PT ≠ s' := ne_of_none ho hs'
        rw [upd_ne z, upd_ne z2, upd_ne z]
        exact ho
      · exact (Dom.same S1) _ hfre
      · exact D02 _ (Fre.of hs')
      · rw [upd_ne h1, upd_ne (ne_of_none (e02 b o hb hn) hs'), upd_ne h1]
        exact e02 b o hb hn
      · exact ((D02.trans (Dom.upd _ _ _ nt_ins)).trans (Dom.upd _ _ _ nt_dK)).trans (Dom.upd _ _ _ nt_ins)
    · have hmaj : ¬ n < 2 * m.voices.length := fun z => hm (decide_eq_true (by omega))
      exact hq H m l v s (.inl ⟨hmaj, rfl⟩) (Aft.refl M hT)
end
end K85
namespace K85
open PySem L2
theorem desc_count {l : List Int} (h : l.Pairwise (· ≥ ·)) {i : Nat} {z : Int} (hi : l[i]? = some z) : i + 1 ≤ (l.filter (fun x => decide (z ≤ x))).length := by
  induction l generalizing i with
  | nil => cases hi
  | cons a r ih =>
    rw [List.pairwise_cons] at h
    cases i with
    | zero =>
      have e : a = z := Option.some.inj hi
      subst e
      rw [List.filter_cons_of_pos (by simp), List.length_cons]
      omega
    | succ i =>
      have hi : r[i]? = some z := by simpa using hi
      have ha : z ≤ a := h.1 z (List.mem_of_getElem? hi)
      rw [List.filter_cons_of_pos (by simpa using ha), List.length_cons]
      have := ih h.2 hi
      omega
def spCS (C P : Addr) : Sp := fun vs H Q _ => ∃ (n k : Nat) (p l v s : Addr) (m : Ms), vs = [.ref p] ∧ MAt C n k H p l v s m ∧ Tab H P ∧ m.sizes.length ≤ 1000 ∧
  ∀ (H' : Hp) (m' : Ms), CS n m m' → Aft C P n k H p l v s H' m' l v s → Q .non H'
section
variable {P : Program} {w : World} {K : PySem.W.Frag} {mg : Str → Option Value} {base : Heap} {C PT c : Addr}
theorem scCntS : FnScope ["self", "sizes", "place", "size"] ["self"] (defScope sCntS) := ⟨rfl, rfl, rfl, by decide +kernel, rfl, by decide +kernel, by decide +kernel⟩
theorem ok_cntS {f : Addr} {fd : FuncData} (F : Fun K "count_sizes" "Master.count_sizes" sCntS f fd) (T : Txt K mg C) (DM : DefT P w K mg base 1 "is_more" ["some", "many"] spIsMore) : FnOk P w K mg base CX0 2 f fd ["self"] (spCS C PT) := by
  obtain ⟨fM, fdM, GM, mM, kM, bM⟩ := DM.ex
  refine F.ok scCntS (fun vs H Q E h => ?_) (fun cdv A outer st H vs Q E hr h => ?_)
  · obtain ⟨n, k, p, l, v, s, m, rfl, _⟩ := h
    rfl
  · obtain ⟨n, k, p, l, v, s, m, rfl, M, hT, hsz, hq⟩ := h
    obtain ⟨dx, hp⟩ := id M.ob
    obtain ⟨xs, hl, hrows⟩ := id M.log
    have hs := M.si
    refine ⟨_, pss_cons (ps_set (i := 1) scCntS.nd rfl (.inl rfl) (pe_callBK (cr_sortedRev (b := true)) (by rfl) T.sorted (by decide +kernel) (pa_cons (pe_op op_cat (pe_listVals rfl (pe_fld (pv 0) rfl) (by rfl) T.list (by decide +kernel))
        (pe_lst (pa_cons (pe_callB call_len_seq (by rfl) T.len PySem.boot_len (pa_cons (pe_fld (pv 0) rfl) pa_nil)) pa_nil))) pa_nil) (pk_cons pe_bl pk_nil)))
      (pss_one (ps_for PassesOwn.never rfl (pi_enum (by rfl) T.enumerate (pa_cons (pv 1) pa_nil)) (pg_tup rfl (pgs_cons (pg_name (i := 2) scCntS.nd rfl (.inl rfl)) (pgs_cons (pg_name (i := 3) scCntS.nd rfl (.inl rfl)) pgs_nil)))
        (pss_one (ps_if (pt_val (pe_call GM hr rfl mM kM bM .nil pass0 (pa_cons (pe_op op_add (pv 2) pe_int) (pa_cons (pe_fld (pv 0) rfl) pa_nil))))
          (pss_cons (ps_fld (pv 0) (pe_callB (call_max2 rfl) (by rfl) T.max (by decide +kernel) (pa_cons (pe_fld (pv 0) rfl) (pa_cons (pv 3) pa_nil))) rfl) (pss_one ps_retN)) pss_nil)))), ?_⟩
    refine ⟨_, rfl, p, C, dx, _, _, rfl, hp, T.cl, T.nSi, rfl, s, _, rfl, hs, fun q1 n1 => ?_⟩
    have S1 : Same H (upd H q1 (.lst ((szs m.sizes).map (·.2)))) := Same.new n1
    have at1 : (upd H q1 (.lst ((szs m.sizes).map (·.2)))) q1 = some (.lst ((szs m.sizes).map (·.2))) := upd_same
    generalize upd H q1 (.lst ((szs m.sizes).map (·.2))) = H1 at S1 at1
    refine ⟨_, rfl, p, C, dx, _, _, rfl, S1 _ _ hp, T.cl, T.nLo, rfl, l, xs, rfl, .inl (SqL.of (S1 _ _ hl)), (by show 1 ≤ sizeLine; decide), fun q2 n2 => ?_⟩
    have S2 : Same H1 (upd H1 q2 (.lst [.int xs.length])) := Same.new n2
    have at2 : (upd H1 q2 (.lst [.int xs.length])) q2 = some (.lst [.int xs.length]) := upd_same
    generalize upd H1 q2 (.lst [.int xs.length]) = H2 at S2 at2
    have hxl : xs.length = m.log.length := hrows.length
    have e0 : (szs m.sizes).map (·.2) ++ [V.int xs.length] = ((sizesOf m).map fun x : Nat => (x : Int)).map V.int := by
      unfold szs sizesOf
      rw [hxl]
      simp
    have hl0 : ((szs m.sizes).map (·.2)).length + [V.int xs.length].length ≤ sizeLine := by
      have : ((szs m.sizes).map (·.2)).length = m.sizes.length := by
        unfold szs
        simp
      rw [this]
      exact Nat.le_trans (Nat.add_le_add_right hsz 1) (by decide)
    refine ⟨q1, q2, _, _, rfl, rfl, S2 _ _ at1, at2, hl0, fun q3 n3 => ?_⟩
    rw [e0]
    have S3 : Same H2 (upd H2 q3 (.lst (((sizesOf m).map fun x : Nat => (x : Int)).map V.int))) := Same.new n3
    have at3 : (upd H2 q3 (.lst (((sizesOf m).map fun x : Nat => (x : Int)).map V.int))) q3 = some (.lst (((sizesOf m).map fun x : Nat => (x : Int)).map V.int)) := upd_same
    generalize upd H2 q3 (.lst (((sizesOf m).map fun x : Nat => (x : Int)).map V.int)) = H3 at S3 at3
    refine ⟨q3, _, rfl, rfl, SqL.of at3, fun ns' p4 perm ord n4 => ?_⟩
    have ord : ns'.Pairwise (· ≥ ·) := ord
    have S4 : Same H3 (upd H3 p4 (.lst (ns'.map V.int))) := Same.new n4
    have at4 : (upd H3 p4 (.lst (ns'.map V.int))) p4 = some (.lst (ns'.map V.int)) := upd_same
    generalize upd H3 p4 (.lst (ns'.map V.int)) = H4 at S4 at4
    have S04 : Same H H4 := ((S1.trans S2).trans S3).trans S4
    refine ⟨_, rfl, p4, _, rfl, SqL.of at4, for_it (walk_enum (K := K) (a := p4) (xs := ns'.map V.int)) (fun i σ H' => ∃ v2 v3 : Option V, σ = [some (.ref p), some (.ref p4), v2, v3] ∧ Same H4 H')
      ⟨none, none, rfl, Same.refl _⟩ (fun i σ H' _ ⟨_, _, _, S⟩ => S.seq (SqL.of at4)) ?_ ?_⟩
    · rintro i x σ H5 H6 hi ⟨v2, v3, rfl, S5⟩ ⟨t, x1, y1, rfl, nt, rfl, e1, e2⟩
      cases e1
      obtain ⟨z, hz, rfl⟩ : ∃ z, ns'[i]? = some z ∧ y1 = V.int z := by
        have e2 : (ns'.map V.int)[i]? = some y1 := e2
        rw [List.getElem?_map] at e2
        cases q : ns'[i]? with
        | none => rw [q] at e2; cases e2
        | some z => rw [q] at e2; exact ⟨z, rfl, (Option.some.inj e2).symm⟩
      have S6 : Same H (upd H5 t (.tup [.int (i : Nat), .int z])) := (S04.trans S5).trans (Same.new nt)
      have S46 : Same H4 (upd H5 t (.tup [.int (i : Nat), .int z])) := S5.trans (Same.new nt)
      refine ⟨t, _, rfl, SqT.of upd_same, rfl, _, _, rfl, _, _, rfl, rfl, ?_⟩
      refine ⟨_, rfl, _, _, rfl, rfl, _, rfl, p, C, dx, _, _, rfl, S6 _ _ hp, T.cl, T.nMa, rfl, _, _, rfl, _, rfl, ?_⟩
      refine ite2 (fun hm => ?_) (fun hm => ?_)
      · have hm := of_decide_eq_true hm
        refine ⟨_, rfl, p, C, dx, _, _, rfl, S6 _ _ hp, T.cl, T.nDo, rfl, _, rfl, _, _, rfl, _, rfl, p, C, dx, _, rfl, S6 _ _ hp, T.cl, T.nDo, (by show 9 < 1000; decide), ?_⟩
        have hzm : z ∈ (sizesOf m).map fun x : Nat => (x : Int) := perm.mem_iff.mp (List.mem_of_getElem? hz)
        obtain ⟨sz, hsz1, rfl⟩ := List.mem_map.mp hzm
        have M6 := M.same S6
        have T6 := hT.same S6
        refine hq _ { m with done := max m.done sz } (.inr ⟨sz, hsz1, ?_, rfl⟩) ((Aft.same M hT S6).trans (Aft.fld M6 T6 { m with done := max m.done sz } (S6 _ _ hp) ?_ rfl rfl rfl))
        · have h1 := desc_count ord hz
          have h2 : (ns'.filter (fun x => decide ((sz : Int) ≤ x))).length = ((sizesOf m).filter (fun x => decide (sz ≤ x))).length := by
            rw [(perm.filter _).length_eq, List.filter_map, List.length_map]
            congr 2
            funext x
            simp
          rw [h2] at h1
          omega
        · have e : (if (sz : Int) > (m.done : Int) then (sz : Int) else (m.done : Int)) = ((max m.done sz : Nat) : Int) := by
            split <;> omega
          rw [e]
          rfl
      · exact ⟨_, _, rfl, S46⟩
    · rintro σ H' ⟨v2, v3, rfl, S5⟩
      exact hq H' m (.inl rfl) (Aft.same M hT (S04.trans S5))
end
end K85
namespace K85
open PySem L2
def spAdd (C P : Addr) : Sp := fun vs H Q _ => ∃ (n k : Nat) (p l v s : Addr) (m : Ms) (x : V) (z : Int), vs = [.ref p, x] ∧ RowV H x z ∧ MAt C n k H p l v s m ∧ Tab H P ∧ n ≤ 1000 ∧ m.log.length ≤ 100000 ∧ (m.role = .leads → m.sizes.length ≤ 1000) ∧
  (m.role ≠ .leads → Q .non H) ∧
  (m.role = .leads → ∀ (H' : Hp) (m' : Ms) (q : Addr) (xs : List V), CS n { m with log := m.log ++ [z] } m' → Aft C P n k H p l v s H' m' l v s → Fre H q → H' q = some (.lst xs) → MsgsAt H' xs (keeps n k m') → Q (.ref q) H')
def riseM (k : Nat) (m : Ms) (t : Nat) : Ms := { m with term := t, role := .stands, voices := [(k, m.of, m.log)] }
def spRise (C P : Addr) : Sp := fun vs H Q _ => ∃ (n k : Nat) (p l v s : Addr) (m : Ms), vs = [.ref p] ∧ MAt C n k H p l v s m ∧ Tab H P ∧ n ≤ 1000 ∧ k < n ∧
  ∀ (t : Nat) (H' : Hp) (m' : Ms) (l' v' s' q : Addr) (xs : List V), m.term < t → t % n = k → CV n (riseM k m t) m' → Aft C P n k H p l v s H' m' l' v' s' → Fre H q → q ≠ l' → H' q = some (.lst xs) → MsgsAt H' xs ((others n k).map fun o => .stand k o t) → Q (.ref q) H'
section
variable {P : Program} {w : World} {K : PySem.W.Frag} {mg : Str → Option Value} {base : Heap} {C PT c : Addr}
theorem role_ne (m : Ms) : (!decide (V.str (roleS m.role) = V.str "leads")) = !decide (m.role = .leads) := by rw [← roleS_dec m.role .leads]; rfl
theorem scAdd : FnScope ["self", "row"] ["self", "row"] (defScope sAdd) := ⟨rfl, rfl, rfl, by decide +kernel, rfl, by decide +kernel, by decide +kernel⟩
theorem ok_add {f : Addr} {fd : FuncData} (F : Fun K "add" "Master.add" sAdd f fd) (T : Txt K mg C) (MS : MetT P w K mg base C 2 "count_sizes" ["self"] (spCS C PT)) (MN : MetT P w K mg base C 2 "send" ["self"] (spSend C)) : FnOk P w K mg base CX0 3 f fd ["self", "row"] (spAdd C PT) := by
  obtain ⟨fS, fdS, GS, mS, bS⟩ := MS.ex
  obtain ⟨fN, fdN, GN, mN, bN⟩ := MN.ex
  refine F.ok scAdd (fun vs H Q E h => ?_) (fun cdv A outer st H vs Q E hr h => ?_)
  · obtain ⟨n, k, p, l, v, s, m, x, z, rfl, _⟩ := h
    rfl
  · obtain ⟨n, k, p, l, v, s, m, x, z, rfl, hx, M, hT, hn, hlog, hsz, hq1, hq2⟩ := h
    obtain ⟨dx, hp⟩ := id M.ob
    obtain ⟨xs, hl, hrows⟩ := id M.log
    refine ⟨_, pss_cons (ps_if (pt_cmpR op_ne (pe_fld (pv 0) rfl) pe_str (nomark _)) (pss_one (ps_ret pe_non)) pss_nil)
      (pss_cons (ps_expr (pe_bm PySem.F.plainAttrs_list PySem.F.slot_list_append PySem.F.type_list_append mt_append (pe_fld (pv 0) rfl) (pa_cons (pv 1) pa_nil)))
      (pss_cons (ps_expr (pe_meth0 (pv 0) T.cl mS GS hr bS .nil pass0)) (pss_one (ps_ret (pe_meth0 (pv 0) T.cl mN GN hr bN .nil pass0))))), ?_⟩
    refine ⟨_, rfl, p, C, dx, _, _, rfl, hp, T.cl, T.nRo, rfl, rfl, _, rfl, ?_⟩
    refine ite2 (fun hne => ?_) (fun hne => ?_)
    · have hne : m.role ≠ .leads := fun z => by
        have hne : (!decide (V.str (roleS m.role) = V.str "leads")) = true := hne
        rw [role_ne, z] at hne
        simp at hne
      exact hq1 hne
    · have hle : m.role = .leads := Classical.byContradiction fun z => hne (by
        show (!decide (V.str (roleS m.role) = V.str "leads")) = true
        rw [role_ne, decide_eq_false z]
        rfl)
      have hlen : xs.length < sizeLine := by
        rw [hrows.length]
        exact Nat.lt_of_le_of_lt hlog (by decide)
      refine ⟨_, rfl, p, C, dx, _, _, rfl, hp, T.cl, T.nLo, rfl, .inl ⟨rfl, _, SqL.of hl⟩, _, rfl, l, xs, x, rfl, rfl, hl, hlen, ?_⟩
      have K1 : Kp H (upd H l (.lst (xs ++ [x]))) := Kp.mut hl fun z => z
      have hp1 : upd H l (.lst (xs ++ [x])) p = some (.ins C dx (mf n k m.term m.of l m.done (roleS m.role) v s)) := by rw [upd_ne M.pl]; exact hp
      have A1 : Aft C PT n k H p l v s (upd H l (.lst (xs ++ [x]))) { m with log := m.log ++ [z] } l v s := by
        obtain ⟨kvs, hv, hvo⟩ := id M.vo
        refine ⟨⟨⟨dx, hp1⟩, ⟨_, upd_same, Paired.snoc (hrows.kp K1) (hx.kp K1)⟩, ⟨kvs, by rw [upd_ne M.lv.symm]; exact hv, hvo.kp K1⟩, by rw [upd_ne M.ls.symm]; exact M.si, M.vs⟩, hT.kp K1 fun o ho => ?_, .inl rfl, .inl rfl, .inl rfl, fun b o hb _ h2 _ _ _ => by rw [upd_ne h2]; exact hb, Dom.upd _ _ _ nt_lst⟩
        rw [upd_ne (hT.ne hl nt_lst).symm]
        exact ho
      refine ⟨_, rfl, p, dx, _, rfl, hp1, rfl, n, k, p, l, v, s, _, rfl, A1.at_, A1.tab, hsz hle, fun H2 m2 cs A2 => ?_⟩
      obtain ⟨dx2, hp2⟩ := A2.at_.ob
      have hr2 : m2.role = .leads := (cs_term cs).2.1.trans hle
      refine ⟨_, rfl, p, dx2, _, rfl, hp2, rfl, n, k, p, l, v, s, m2, rfl, A2.at_, hn, fun _ H3 q ys S hq0 hqs hms => ?_, fun z => absurd hr2 z⟩
      exact hq2 hle H3 m2 q ys cs ((A1.trans A2).then S) ((A1.trans A2).dom _ (Fre.of hq0)) hqs hms
theorem scRise : FnScope ["self", "other"] ["self"] (defScope sRise) := ⟨rfl, rfl, rfl, by decide +kernel, rfl, by decide +kernel, by decide +kernel⟩
theorem ok_rise {f : Addr} {fd : FuncData} (F : Fun K "rise" "Master.rise" sRise f fd) (T : Txt K mg C) (MO : MetT P w K mg base C 1 "others" ["self"] (spOthers C)) (MV : MetT P w K mg base C 4 "count_voices" ["self"] (spCV C PT)) : FnOk P w K mg base CX0 5 f fd ["self"] (spRise C PT) := by
  obtain ⟨fO, fdO, GO, mO, bO⟩ := MO.ex
  obtain ⟨fV, fdV, GV, mV, bV⟩ := MV.ex
  refine F.ok scRise (fun vs H Q E h => ?_) (fun cdv A outer st H vs Q E hr h => ?_)
  · obtain ⟨n, k, p, l, v, s, m, rfl, _⟩ := h
    rfl
  · obtain ⟨n, k, p, l, v, s, m, rfl, M, hT, hn, hkn, hq⟩ := h
    obtain ⟨dx, hp⟩ := id M.ob
    obtain ⟨xs, hl, hrows⟩ := id M.log
    obtain ⟨kvs0, hv, hvo⟩ := id M.vo
    refine ⟨_, pss_cons (ps_fldaug (pv 0) pe_int in_add)
      (pss_cons (ps_while PassesOwn.never (pt_cmpR op_ne (pe_op op_mod (pe_fld (pv 0) rfl) (pe_fld (pv 0) rfl)) (pe_fld (pv 0) rfl) (nomark _)) (pss_one (ps_fldaug (pv 0) pe_int in_add)))
      (pss_cons (ps_fld (pv 0) pe_str rfl)
      (pss_cons (ps_fld (pv 0) (pe_disp (pps_cons (pe_fld (pv 0) rfl) (pe_tup (pa_cons (pe_fld (pv 0) rfl) (pa_cons (pe_callTy call_tuple_of (by rfl) T.tuple (by decide +kernel) (pa_cons (pe_fld (pv 0) rfl) pa_nil)) pa_nil))) pps_nil) (by rfl) (by rfl) (fun z => by cases z) (by decide)) rfl)
      (pss_cons (ps_expr (pe_meth0 (pv 0) T.cl mV GV hr bV .nil pass0))
      (pss_one (ps_ret (pe_lc (own := [("other", 1)]) (g := gName 1) rfl scRise.nd (pi_list (pe_meth0 (pv 0) T.cl mO GO (hr.mono (by decide)) bO .nil pass0)) (blkOk_by (N := ["self", "other"]) (sc := defScope sRise) (by decide +kernel))
        (fun _ _ _ _ _ => pg_name (i := 1) scRise.nd rfl (Or.inl rfl)) (fun _ _ _ _ _ => pts_nil)
        (fun _ _ _ _ _ => pe_tup (pa_cons pe_str (pa_cons (pe_fldB K rfl (pv 0) rfl) (pa_cons (pv 1) (pa_cons (pe_fldB K rfl (pv 0) rfl) pa_nil))))))))))))
      , ?_⟩
    refine ⟨_, rfl, p, C, dx, _, _, rfl, hp, T.cl, T.nTe, rfl, _, _, rfl, rfl, dx, _, hp, (by show 9 < 1000; decide), ?_⟩
    have n0 : 0 < n := by omega
    -- the terms that are passed over
    refine ⟨fun mm σ H' => ∃ t : Nat, mm = (m.term + 1) * n + k - t ∧ σ = [some (.ref p), none] ∧ H' = upd H p (.ins C dx (mf n k t m.of l m.done (roleS m.role) v s)) ∧ m.term + 1 ≤ t ∧ t ≤ (m.term + 1) * n + k, ⟨_, m.term + 1, rfl, rfl, rfl, Nat.le_refl _, ?_⟩, ?_⟩
    · exact Nat.le_trans (Nat.le_mul_of_pos_right _ n0) (Nat.le_add_right _ _)
    rintro mm σ H1 ⟨t, rfl, rfl, rfl, ht1, ht2⟩
    refine ⟨_, rfl, p, C, dx, _, _, rfl, upd_same, T.cl, T.nTe, rfl, _, rfl, p, C, dx, _, _, rfl, upd_same, T.cl, T.nMa, rfl, _, _, rfl, rfl, (by show (0 : Int) < (n : Int); omega), _, rfl, p, C, dx, _, _, rfl, upd_same, T.cl, T.nNu, rfl, rfl, _, rfl, ?_⟩
    refine ite2 (fun hne => ?_) (fun hne => ?_)
    · have hne : t % n ≠ k := fun z => by
        have e : ((t : Int) % (n : Int)) = (k : Int) := by rw [← z]; rfl
        simp [e] at hne
      have hlt : t < (m.term + 1) * n + k := by
        rcases Nat.lt_or_ge t ((m.term + 1) * n + k) with q | q
        · exact q
        · exfalso
          have e : t = (m.term + 1) * n + k := by omega
          apply hne
          rw [e, Nat.add_comm, Nat.add_mul_mod_self_right, Nat.mod_eq_of_lt hkn]
      refine ⟨fun σ' H' => σ' = [some (.ref p), none] ∧ H' = upd H p (.ins C dx (mf n k (t + 1) m.of l m.done (roleS m.role) v s)), ?_, ?_⟩
      · rintro σ' H' ⟨rfl, rfl⟩
        exact ⟨_, by omega, t + 1, rfl, rfl, rfl, by omega, by omega⟩
      · refine ⟨_, rfl, p, C, dx, _, _, rfl, upd_same, T.cl, T.nTe, rfl, _, _, rfl, rfl, dx, _, upd_same, (by show 9 < 1000; decide), rfl, ?_⟩
        rw [upd_upd]
        rfl
    · have hmod : t % n = k := by
        refine Classical.byContradiction fun z => hne ?_
        have e : ¬ ((t : Int) % (n : Int)) = (k : Int) := fun q => z (by omega)
        simp [e]
      refine ⟨_, rfl, p, C, dx, _, rfl, upd_same, T.cl, T.nRo, (by show 9 < 1000; decide), ?_⟩
      have A0 := Aft.fld M hT { m with term := t } hp (fs := _) rfl rfl rfl rfl
      have A1 : Aft C PT n k H p l v s (upd (upd H p (.ins C dx (mf n k t m.of l m.done (roleS m.role) v s))) p (.ins C dx (putF "role" (.str "stands") (mf n k t m.of l m.done (roleS m.role) v s)))) { m with term := t, role := .stands } l v s := A0.trans (Aft.fld A0.at_ A0.tab { m with term := t, role := .stands } upd_same rfl rfl rfl rfl)
      intro d hd
      generalize upd (upd H p (.ins C dx (mf n k t m.of l m.done (roleS m.role) v s))) p (.ins C dx (putF "role" (.str "stands") (mf n k t m.of l m.done (roleS m.role) v s))) = H1 at A1 hd ⊢
      obtain ⟨dx1, hp1⟩ := A1.at_.ob
      obtain ⟨xs1, hl1, hrows1⟩ := A1.at_.log
      have hs1 := A1.at_.si
      have Sd : Same H1 (upd H1 d (.dK [])) := Same.new hd
      have atd : upd H1 d (.dK []) d = some (.dK []) := upd_same
      generalize upd H1 d (.dK []) = Hd at Sd atd ⊢
      refine ⟨_, rfl, p, C, dx1, _, _, rfl, Sd _ _ hp1, T.cl, T.nNu, rfl, _, rfl, p, C, dx1, _, _, rfl, Sd _ _ hp1, T.cl, T.nOf, rfl, _, rfl, p, C, dx1, _, _, rfl, Sd _ _ hp1, T.cl, T.nLo, rfl, l, xs1, rfl, .inl ⟨SqL.of (Sd _ _ hl1), fun b hb => ?_⟩⟩
      have Sb : Same Hd (upd Hd b (.tup xs1)) := Same.new hb
      have atb : upd Hd b (.tup xs1) b = some (.tup xs1) := upd_same
      generalize upd Hd b (.tup xs1) = Hb at Sb atb ⊢
      refine ⟨(by show 2 ≤ sizeLine; decide), fun tt htt => ?_⟩
      have St : Same Hb (upd Hb tt (.tup [.int m.of, .ref b])) := Same.new htt
      have att : upd Hb tt (.tup [.int m.of, .ref b]) tt = some (.tup [.int m.of, .ref b]) := upd_same
      generalize upd Hb tt (.tup [.int m.of, .ref b]) = Ht at St att
      have atd' := St _ _ (Sb _ _ atd)
      have atb' := St _ _ atb
      have S12 : Same H1 Ht := (Sd.trans Sb).trans St
      refine ⟨atd', [(Sum.inl (k : Int), .ref tt)], rfl, (by show 1 ≤ 15; decide), ?_⟩
      have S13 : Same H1 (upd Ht d (.dK (mergeK [] [(Sum.inl (k : Int), .ref tt)]))) := fun b0 o h => by
        rw [upd_ne (ne_of_none h hd)]
        exact S12 _ _ h
      have at3 : upd Ht d (.dK (mergeK [] [(Sum.inl (k : Int), .ref tt)])) d = some (.dK [(Sum.inl (k : Int), .ref tt)]) := upd_same
      have att3 : upd Ht d (.dK (mergeK [] [(Sum.inl (k : Int), .ref tt)])) tt = some (.tup [.int m.of, .ref b]) := by
        rw [upd_ne (ne_of att atd' fun z => by cases z)]
        exact att
      have atb3 : upd Ht d (.dK (mergeK [] [(Sum.inl (k : Int), .ref tt)])) b = some (.tup xs1) := by
        rw [upd_ne (ne_of atb' atd' fun z => by cases z)]
        exact atb'
      generalize upd Ht d (.dK (mergeK [] [(Sum.inl (k : Int), .ref tt)])) = H3 at S13 at3 att3 atb3 ⊢
      have npd : p ≠ d := ne_of_none hp1 hd
      have nld : l ≠ d := ne_of_none hl1 hd
      have nsd : s ≠ d := ne_of_none hs1 hd
      have hp3 := S13 _ _ hp1
      refine ⟨_, rfl, p, C, dx1, _, rfl, hp3, T.cl, T.nVo, (by show 9 < 1000; decide), ?_⟩
      have A2 : Aft C PT n k H1 p l v s (upd H3 p (.ins C dx1 (mf n k t m.of l m.done "stands" d s))) (riseM k m t) l d s := by
        have K13 : Kp H1 H3 := Kp.same S13
        have K34 : Kp H3 (upd H3 p (.ins C dx1 (mf n k t m.of l m.done "stands" d s))) := Kp.mut hp3 fun z => z
        refine ⟨⟨⟨dx1, upd_same⟩, ⟨xs1, by rw [upd_ne (M.pl).symm]; exact S13 _ _ hl1, hrows1.kp (K13.trans K34)⟩, ⟨_, by rw [upd_ne npd.symm]; exact at3, .cons ⟨rfl, tt, b, xs1, rfl, K34 _ _ att3 trivial, K34 _ _ atb3 trivial, hrows1.kp (K13.trans K34)⟩ .nil⟩, by rw [upd_ne M.ps.symm]; exact S13 _ _ hs1, nsd.symm⟩,
          A1.tab.kp (K13.trans K34) fun o ho => ?_, .inl rfl, .inr (Fre.of hd), .inl rfl, fun b0 o hb0 h1 _ _ _ _ => by rw [upd_ne h1]; exact S13 _ _ hb0, (Dom.same S13).trans (Dom.upd _ _ _ nt_ins)⟩
        rw [upd_ne (A1.tab.ne hp1 nt_ins).symm]
        exact S13 _ _ ho
      have A02 := A1.trans A2
      have e4 : putF "voices" (V.ref d) (mf n k t m.of l m.done (roleS .stands) v s) = mf n k t m.of l m.done "stands" d s := rfl
      rw [e4]
      generalize upd H3 p (.ins C dx1 (mf n k t m.of l m.done "stands" d s)) = H4 at A2 A02 ⊢
      obtain ⟨dx4, hp4⟩ := A02.at_.ob
      refine ⟨_, rfl, p, dx4, _, rfl, hp4, rfl, n, k, p, l, d, s, _, rfl, A02.at_, A02.tab, fun H5 m5 l5 v5 s5 cv A5 => ?_⟩
      have A05 := A02.trans A5
      have et : m5.term = t := cv_role cv
      obtain ⟨dx5, hp5⟩ := A05.at_.ob
      obtain ⟨xs5, hl5, _⟩ := A05.at_.log
      rw [et] at hp5
      refine ⟨_, rfl, p, dx5, _, rfl, hp5, rfl, n, k, p, l5, v5, s5, m5, rfl, A05.at_, hn, fun q0 hq0 => ⟨q0, rfl, ⟨_, SqL.of upd_same⟩, fun D hD => ?_⟩⟩
      have S56 : Same H5 (upd H5 q0 (.lst (natVs (others n k)))) := Same.new hq0
      have at6 : upd H5 q0 (.lst (natVs (others n k))) q0 = some (.lst (natVs (others n k))) := upd_same
      generalize upd H5 q0 (.lst (natVs (others n k))) = H6 at S56 at6 hD ⊢
      have hp6 := S56 _ _ hp5
      have hHD : H5 D = none := S56.free hD
      refine lc_list (K := K) (a := q0) (xs := natVs (others n k)) (fun i H' => Same H6 H' ∧ ∃ ys, H' D = some (.lst ys) ∧ MsgsAt H' ys (((others n k).take i).map fun o => .stand k o t))
        ⟨Same.new hD, [], upd_same, .nil⟩ (fun i H' _ ⟨S, _⟩ => S.seq (SqL.of at6)) ?_ ?_
      · rintro i x H' hi ⟨S, ys, hys, hms⟩
        obtain ⟨o, ho, rfl⟩ := natVs_get hi
        have hp7 := S _ _ hp6
        refine ⟨rfl, yesT ?_⟩
        refine ⟨_, rfl, p, C, dx5, _, _, rfl, hp7, T.cl, T.nNu, rfl, _, rfl, _, rfl, p, C, dx5, _, _, rfl, hp7, T.cl, T.nTe, rfl, (by show 4 ≤ sizeLine; decide), fun t4 ht4 => ?_⟩
        have nDt : D ≠ t4 := ne_of_none hys ht4
        have hlen : ys.length < sizeLine := by
          have e := hms.length
          rw [List.length_map, List.length_take] at e
          have := others_le n k
          exact Nat.lt_of_le_of_lt (show _ ≤ 1000 by omega) (by decide)
        have hyt : (upd H' t4 (.tup [.str "stand", .int k, .int o, .int t])) D = some (.lst ys) := by rw [upd_ne nDt]; exact hys
        have S' : Same H' (upd H' t4 (.tup [.str "stand", .int k, .int o, .int t])) := Same.new ht4
        refine ⟨ys, hyt, hlen, ?_, ys ++ [.ref t4], upd_same, ?_⟩
        · intro c u hc
          rw [upd_ne (ne_of_none hc hD)]
          exact S' _ _ (S _ _ hc)
        · rw [take_succ_of ho, List.map_append]
          have K1 : Kp H' (upd (upd H' t4 (.tup [.str "stand", .int k, .int o, .int t])) D (.lst (ys ++ [.ref t4]))) := (Kp.same S').trans (Kp.mut hyt fun z => z)
          refine Paired.snoc (hms.kp K1) ⟨t4, rfl, by rw [upd_ne nDt.symm]; exact upd_same⟩
      · rintro H' ⟨S, ys, hys, hms⟩
        rw [natVs_len, List.take_length] at hms
        exact hq t H' m5 l5 v5 s5 D ys (by omega) hmod cv (A05.then (S56.trans S)) (A05.dom _ (Fre.of hHD)) (ne_of_none (S56 _ _ hl5) hD).symm hys hms
end
end K85
namespace K85
open PySem L2
def kM (m : Ms) (t : Nat) (rows : List Int) : Ms := if m.of < t ∨ m.log.length < rows.length then { m with term := t, role := .hears, log := rows, of := t } else { m with term := t, role := .hears }
theorem keepM_eq (m : Ms) (t : Nat) (rows : List Int) (sure : Nat) : keepM m t rows sure = { kM m t rows with done := max m.done (min sure (kM m t rows).log.length) } := by
  unfold keepM kM
  split <;> rfl
theorem kM_done (m : Ms) (t : Nat) (rows : List Int) : (kM m t rows).done = m.done ∧ (kM m t rows).term = t := by
  unfold kM
  split <;> exact ⟨rfl, rfl⟩
def spKeep (C P : Addr) : Sp := fun vs H Q _ => ∃ (n k : Nat) (p l v s : Addr) (m : Ms) (x : V) (src dst t : Nat) (rows : List Int) (sure : Nat), vs = [.ref p, x] ∧ MsgAt H x (.keep src dst t rows sure) ∧ MAt C n k H p l v s m ∧ Tab H P ∧
  ∀ (H' : Hp) (l' q : Addr) (xs : List V), Aft C P n k H p l v s H' (keepM m t rows sure) l' v s → Fre H q → q ≠ l' → H' q = some (.lst xs) → MsgsAt H' xs [.kept k src t (keepM m t rows sure).log.length] → Q (.ref q) H'
theorem iteD {b : Bool} {A B : Prop} (e : b = false) (h : B) : if b = true then A else B := by
  subst e
  exact iteF h
theorem iteE {b : Bool} {A B : Prop} (e : b = true) (h : A) : if b = true then A else B := by
  subst e
  exact iteT h
section
variable {P : Program} {w : World} {K : PySem.W.Frag} {mg : Str → Option Value} {base : Heap} {C PT c : Addr}
theorem scKeep : FnScope ["self", "message", "term", "rows", "sure"] ["self", "message"] (defScope sKeep) := ⟨rfl, rfl, rfl, by decide +kernel, rfl, by decide +kernel, by decide +kernel⟩
theorem ok_keep {f : Addr} {fd : FuncData} (F : Fun K "hear_keep" "Master.hear_keep" sKeep f fd) (T : Txt K mg C) : FnOk P w K mg base CX0 1 f fd ["self", "message"] (spKeep C PT) := by
  refine F.ok scKeep (fun vs H Q E h => ?_) (fun cdv A outer st H vs Q E hr h => ?_)
  · obtain ⟨n, k, p, l, v, s, m, x, src, dst, t, rows, sure, rfl, _⟩ := h
    rfl
  · obtain ⟨n, k, p, l, v, s, m, x, src, dst, t, rows, sure, rfl, hx, M, hT, hq⟩ := h
    obtain ⟨a, b, bs, rfl, ha, hb, hbr⟩ := hx
    obtain ⟨dx, hp⟩ := id M.ob
    refine ⟨_, pss_cons (ps_asg (pe_slice sl_tup (pv 1) (po_some pe_int) po_none) (pg_tup rfl (pgs_cons (pg_name (i := 2) scKeep.nd rfl (.inl rfl)) (pgs_cons (pg_name (i := 3) scKeep.nd rfl (.inl rfl)) (pgs_cons (pg_name (i := 4) scKeep.nd rfl (.inl rfl)) pgs_nil)))))
      (pss_cons (ps_fld (pv 0) (pv 2) rfl) (pss_cons (ps_fld (pv 0) pe_str rfl)
      (C8.pss_cut (ps_if (PW.pt (pw_or (pt_cmpR op_lt (pe_fld (pv 0) rfl) (pv 2) (nomark _)) (pw_or1 (pt_cmpR op_gt (pe_callB call_len_seq (by rfl) T.len PySem.boot_len (pa_cons (pv 3) pa_nil)) (pe_callB call_len_seq (by rfl) T.len PySem.boot_len (pa_cons (pe_fld (pv 0) rfl) pa_nil)) (nomark _)))))
        (pss_cons (ps_fld (pv 0) (pe_callTy call_list_of (by rfl) T.list (by decide +kernel) (pa_cons (pv 3) pa_nil)) rfl) (pss_one (ps_fld (pv 0) (pv 2) rfl))) pss_nil)
      (pss_cons (ps_fld (pv 0) (pe_callB (call_max2 rfl) (by rfl) T.max (by decide +kernel) (pa_cons (pe_fld (pv 0) rfl) (pa_cons (pe_callB (call_min2 rfl) (by rfl) T.min (by decide +kernel) (pa_cons (pv 4) (pa_cons (pe_callB call_len_seq (by rfl) T.len PySem.boot_len (pa_cons (pe_fld (pv 0) rfl) pa_nil)) pa_nil))) pa_nil))) rfl)
      (pss_one (ps_ret (pe_lst (pa_cons (pe_tup (pa_cons pe_str (pa_cons (pe_fld (pv 0) rfl) (pa_cons (pe_ix ix_tup (pv 1) pe_int (fun _ _ => rfl)) (pa_cons (pv 2) (pa_cons (pe_callB call_len_seq (by rfl) T.len PySem.boot_len (pa_cons (pe_fld (pv 0) rfl) pa_nil)) pa_nil)))))) pa_nil)))))))), ?_⟩
    refine ⟨_, rfl, 3, rfl, a, _, rfl, SqT.of ha, (by show ¬ (HT.sIx 6 0 (some 3) = 0 ∧ HT.sIx 6 6 none = 6); decide), fun c3 n3 => ?_⟩
    have S3 : Same H (upd H c3 (.tup (cutV [.str "keep", .int src, .int dst, .int t, .ref b, .int sure] (some 3) none))) := Same.new n3
    have at3 : upd H c3 (.tup (cutV [.str "keep", .int src, .int dst, .int t, .ref b, .int sure] (some 3) none)) c3 = some (.tup [.int t, .ref b, .int sure]) := upd_same
    generalize upd H c3 (.tup (cutV [.str "keep", .int src, .int dst, .int t, .ref b, .int sure] (some 3) none)) = H0 at S3 at3 ⊢
    refine ⟨c3, _, rfl, SqT.of at3, rfl, _, _, rfl, _, _, rfl, _, _, rfl, rfl, ?_⟩
    have A0 := Aft.same M hT S3
    refine ⟨_, rfl, _, rfl, p, C, dx, _, rfl, S3 _ _ hp, T.cl, T.nTe, (by show 9 < 1000; decide), ?_⟩
    refine ⟨_, rfl, p, C, dx, _, rfl, upd_same, T.cl, T.nRo, (by show 9 < 1000; decide), ?_⟩
    have A1 : Aft C PT n k H p l v s (upd H0 p (.ins C dx (putF "term" (.int t) (mf n k m.term m.of l m.done (roleS m.role) v s)))) { m with term := t } l v s := A0.trans (Aft.fld A0.at_ A0.tab { m with term := t } (S3 _ _ hp) rfl rfl rfl rfl)
    have A2 : Aft C PT n k H p l v s (upd (upd H0 p (.ins C dx (putF "term" (.int t) (mf n k m.term m.of l m.done (roleS m.role) v s)))) p (.ins C dx (putF "role" (.str "hears") (putF "term" (.int t) (mf n k m.term m.of l m.done (roleS m.role) v s))))) { m with term := t, role := .hears } l v s :=
      A1.trans (Aft.fld A1.at_ A1.tab { m with term := t, role := .hears } upd_same rfl rfl rfl rfl)
    generalize upd (upd H0 p (.ins C dx (putF "term" (.int t) (mf n k m.term m.of l m.done (roleS m.role) v s)))) p (.ins C dx (putF "role" (.str "hears") (putF "term" (.int t) (mf n k m.term m.of l m.done (roleS m.role) v s)))) = H2 at A2 ⊢
    refine ⟨fun σ H' => ∃ l', σ = [some (.ref p), some (.ref a), some (.int t), some (.ref b), some (.int sure)] ∧ Aft C PT n k H p l v s H' (kM m t rows) l' v s, ?_, ?_⟩
    · obtain ⟨dx2, hp2⟩ := A2.at_.ob
      obtain ⟨ls, hl2, hlr⟩ := A2.at_.log
      have K2 := A2.kp M
      have hb2 := K2 _ _ hb trivial
      have eb : bs.length = rows.length := hbr.length
      have el : ls.length = m.log.length := hlr.length
      have yes : (m.of < t ∨ m.log.length < rows.length) → ∀ l' : Addr, H2 l' = none → ∃ l'' : Addr, ([some (.ref p), some (.ref a), some (.int t), some (.ref b), some (.int sure)] : L2.St) = [some (.ref p), some (.ref a), some (.int t), some (.ref b), some (.int sure)] ∧
          Aft C PT n k H p l v s (upd (upd (upd H2 l' (.lst bs)) p (.ins C dx2 (putF "log" (.ref l') (mf n k t m.of l m.done "hears" v s)))) p (.ins C dx2 (putF "of" (.int t) (putF "log" (.ref l') (mf n k t m.of l m.done "hears" v s))))) (kM m t rows) l'' v s := by
        intro hc l' hl'
        have ek : kM m t rows = { m with term := t, role := .hears, log := rows, of := t } := if_pos hc
        have Sl : Same H2 (upd H2 l' (.lst bs)) := Same.new hl'
        have npl : p ≠ l' := ne_of_none hp2 hl'
        obtain ⟨kvs, hv2, hvo2⟩ := A2.at_.vo
        have hs2 := A2.at_.si
        rw [upd_upd, ek]
        have K3 : ∀ fs : List (Str × V), Kp H2 (upd (upd H2 l' (.lst bs)) p (.ins C dx2 fs)) := fun fs => (Kp.same Sl).trans (Kp.mut (Sl _ _ hp2) fun z => z)
        refine ⟨l', rfl, A2.trans ⟨⟨⟨dx2, upd_same⟩, ⟨bs, ?_, (hbr.kp K2).kp (K3 _)⟩, ⟨kvs, ?_, hvo2.kp (K3 _)⟩, ?_, A2.at_.vs⟩, A2.tab.kp (K3 _) fun o ho => ?_, .inr (Fre.of hl'), .inl rfl, .inl rfl, fun b0 o hb0 h1 _ _ _ _ => ?_, (Dom.same Sl).trans (Dom.upd _ _ _ nt_ins)⟩⟩
        · rw [upd_ne npl.symm]
          exact upd_same
        · rw [upd_ne A2.at_.pv.symm]
          exact Sl _ _ hv2
        · rw [upd_ne A2.at_.ps.symm]
          exact Sl _ _ hs2
        · rw [upd_ne (A2.tab.ne hp2 nt_ins).symm]
          exact Sl _ _ ho
        · rw [upd_ne h1]
          exact Sl _ _ hb0
      refine ⟨_, rfl, p, C, dx2, _, _, rfl, hp2, T.cl, T.nOf, rfl, _, rfl, _, _, rfl, rfl, _, rfl, ?_⟩
      refine ite2 (fun h1 => ?_) (fun h1 => ?_)
      · have h1 : m.of < t := by
          have h1' : (m.of : Int) < (t : Int) := of_decide_eq_true h1
          omega
        refine iteT ?_
        refine ⟨_, rfl, b, bs, rfl, .inr (SqT.of hb2), fun l' hl' => ⟨_, rfl, p, C, dx2, _, rfl, by rw [upd_ne (ne_of_none hp2 hl')]; exact hp2, T.cl, T.nLo, (by show 9 < 1000; decide), _, rfl, _, rfl, p, C, dx2, _, rfl, upd_same, T.cl, T.nOf, (by show 9 < 1000; decide), ?_⟩⟩
        exact yes (.inl h1) l' hl'
      · have h1 : ¬ m.of < t := fun z => h1 (decide_eq_true (show (m.of : Int) < (t : Int) by omega))
        refine ⟨_, rfl, b, bs, rfl, .inr (SqT.of hb2), _, rfl, p, C, dx2, _, _, rfl, hp2, T.cl, T.nLo, rfl, l, ls, rfl, .inl (SqL.of hl2), _, _, rfl, rfl, _, rfl, ?_⟩
        refine ite2 (fun h2 => ?_) (fun h2 => ?_)
        · have h2 : m.log.length < rows.length := by
            have := of_decide_eq_true h2
            omega
          refine ⟨_, rfl, b, bs, rfl, .inr (SqT.of hb2), fun l' hl' => ⟨_, rfl, p, C, dx2, _, rfl, by rw [upd_ne (ne_of_none hp2 hl')]; exact hp2, T.cl, T.nLo, (by show 9 < 1000; decide), _, rfl, _, rfl, p, C, dx2, _, rfl, upd_same, T.cl, T.nOf, (by show 9 < 1000; decide), ?_⟩⟩
          exact yes (.inr h2) l' hl'
        · have h2 : ¬ m.log.length < rows.length := fun z => h2 (decide_eq_true (by omega))
          have ek : kM m t rows = { m with term := t, role := .hears } := if_neg (fun z => z.elim h1 h2)
          refine ⟨l, rfl, ?_⟩
          rw [ek]
          exact A2
    · rintro σ H' ⟨l', rfl, A3⟩
      obtain ⟨dx3, hp3⟩ := A3.at_.ob
      obtain ⟨ls, hl3, hlr⟩ := A3.at_.log
      obtain ⟨kd, kt⟩ := kM_done m t rows
      have K3 := A3.kp M
      have ha3 := K3 _ _ ha trivial
      have el : ls.length = (kM m t rows).log.length := hlr.length
      refine ⟨_, rfl, p, C, dx3, _, _, rfl, hp3, T.cl, T.nDo, rfl, _, rfl, _, rfl, p, C, dx3, _, _, rfl, hp3, T.cl, T.nLo, rfl, l', ls, rfl, .inl (SqL.of hl3), _, _, rfl, _, _, rfl, _, rfl, p, C, dx3, _, rfl, hp3, T.cl, T.nDo, (by show 9 < 1000; decide), ?_⟩
      have ev : (if (if (ls.length : Int) < (sure : Int) then (ls.length : Int) else (sure : Int)) > ((kM m t rows).done : Int) then (if (ls.length : Int) < (sure : Int) then (ls.length : Int) else (sure : Int)) else ((kM m t rows).done : Int)) = ((max m.done (min sure (kM m t rows).log.length) : Nat) : Int) := by
        rw [el, kd]
        split <;> split <;> omega
      have A4 : Aft C PT n k H p l v s (upd H' p (.ins C dx3 (putF "done" (.int (if (if (ls.length : Int) < (sure : Int) then (ls.length : Int) else (sure : Int)) > ((kM m t rows).done : Int) then (if (ls.length : Int) < (sure : Int) then (ls.length : Int) else (sure : Int)) else ((kM m t rows).done : Int))) (mf n k (kM m t rows).term (kM m t rows).of l' (kM m t rows).done (roleS (kM m t rows).role) v s)))) (keepM m t rows sure) l' v s := by
        rw [keepM_eq]
        refine A3.trans (Aft.fld A3.at_ A3.tab { kM m t rows with done := max m.done (min sure (kM m t rows).log.length) } hp3 ?_ rfl rfl rfl)
        rw [ev]
        rfl
      have hp4 := A4.at_.ob
      obtain ⟨dx4, hp4⟩ := hp4
      obtain ⟨ls4, hl4, hlr4⟩ := A4.at_.log
      have ha4 := A4.kp M _ _ ha trivial
      have el4 : ls4.length = (keepM m t rows sure).log.length := hlr4.length
      have et : (keepM m t rows sure).term = t := by rw [keepM_eq]; exact kt
      refine ⟨_, rfl, p, C, dx4, _, _, rfl, hp4, T.cl, T.nNu, rfl, _, rfl, a, _, _, _, rfl, rfl, SqT.of ha4, atI_nat (j := 1) rfl, _, rfl, _, rfl, p, C, dx4, _, _, rfl, hp4, T.cl, T.nLo, rfl, l', ls4, rfl, .inl (SqL.of hl4), (by show 5 ≤ sizeLine; decide), fun tt htt => ⟨(by show 1 ≤ sizeLine; decide), fun q hqn => ?_⟩⟩
      have St1 := Same.new (o := .tup [.str "kept", .int k, .int src, .int t, .int ls4.length]) htt
      have St := St1.trans (Same.new (o := .lst [.ref tt]) hqn)
      refine hq _ l' q _ (A4.then St) (A4.dom _ (Fre.of (St1.free hqn))) (ne_of_none (St1 _ _ hl4) hqn).symm upd_same (.cons ⟨tt, rfl, ?_⟩ .nil)
      rw [upd_ne (ne_of_none upd_same hqn), el4.symm]
      exact upd_same
end
end K85
namespace K85
open PySem L2
theorem inl_dec (a b : Nat) : decide ((Sum.inl (a : Int) : Key) = Sum.inl (b : Int)) = decide (a = b) := by
  by_cases e : a = b
  · subst e
    simp
  · rw [decide_eq_false e, decide_eq_false fun z => e (by injection z with z; omega)]
theorem vos_any {H : Hp} {src : Nat} {kvs : List (Key × V)} {vs : List (Nat × Nat × List Int)} (h : VosAt H kvs vs) : (kvs.any fun kv => decide (kv.1 = Sum.inl (src : Int))) = vs.any fun p => decide (p.1 = src) := by
  induction h with
  | nil => rfl
  | cons r t ih => rw [List.any_cons, List.any_cons, ih, r.1, inl_dec]
theorem vos_repl {H : Hp} {src : Nat} {y : V} {u : Nat × List Int} (hy : VoAt H y u) {kvs : List (Key × V)} {vs : List (Nat × Nat × List Int)} (h : VosAt H kvs vs) :
    VosAt H (kvs.map fun kv => if kv.1 = Sum.inl (src : Int) then (kv.1, y) else kv) (vs.map fun p => if p.1 = src then (p.1, u) else p) := by
  induction h with
  | nil => exact .nil
  | @cons a b _ _ r t ih =>
    refine .cons ?_ ih
    have e := inl_dec b.1 src
    rw [← r.1] at e
    by_cases z : b.1 = src
    · rw [decide_eq_true z] at e
      dsimp only
      rw [if_pos (of_decide_eq_true e), if_pos z]
      exact ⟨r.1, hy⟩
    · rw [decide_eq_false z] at e
      dsimp only
      rw [if_neg (of_decide_eq_false e), if_neg z]
      exact r
theorem vos_put {H : Hp} {src : Nat} {y : V} {u : Nat × List Int} (hy : VoAt H y u) {kvs : List (Key × V)} {vs : List (Nat × Nat × List Int)} (h : VosAt H kvs vs) : VosAt H (putK kvs (Sum.inl (src : Int)) y) (put src u vs) := by
  unfold putK put
  rw [vos_any h]
  split
  · exact vos_repl hy h
  · exact Paired.snoc h ⟨rfl, hy⟩
theorem szs_any (src : Nat) : ∀ l : List (Nat × Nat), ((szs l).any fun kv => decide (kv.1 = Sum.inl (src : Int))) = l.any fun p => decide (p.1 = src)
  | [] => rfl
  | p :: l => by
    show (decide ((Sum.inl (p.1 : Int) : Key) = Sum.inl (src : Int)) || (szs l).any fun kv => decide (kv.1 = Sum.inl (src : Int))) = (decide (p.1 = src) || l.any fun p => decide (p.1 = src))
    rw [szs_any src l, inl_dec]
theorem szs_put (src z : Nat) (l : List (Nat × Nat)) : putK (szs l) (Sum.inl (src : Int)) (.int z) = szs (put src z l) := by
  unfold putK put
  rw [szs_any]
  split
  · unfold szs
    rw [List.map_map, List.map_map]
    congr 1
    funext p
    show (if (Sum.inl (p.1 : Int) : Key) = Sum.inl (src : Int) then ((Sum.inl (p.1 : Int) : Key), V.int z) else (Sum.inl (p.1 : Int), V.int p.2)) = (Sum.inl ((if p.1 = src then (p.1, z) else p).1 : Int), V.int (if p.1 = src then (p.1, z) else p).2)
    by_cases e : p.1 = src
    · rw [if_pos (by rw [e]), if_pos e]
    · rw [if_neg (fun q => e (by injection q with q; omega)), if_neg e]
  · unfold szs
    rw [List.map_append]
    rfl
theorem szs_look (src : Nat) : ∀ l : List (Nat × Nat), valV (szs l) (Sum.inl (src : Int)) = (look src l).map fun z : Nat => V.int (z : Int)
  | [] => rfl
  | p :: l => by
    by_cases e : p.1 = src
    · have h1 : valV (szs (p :: l)) (Sum.inl (src : Int)) = some (V.int p.2) := valV_pos (p := (Sum.inl (p.1 : Int), V.int p.2)) (r := szs l) (by rw [e])
      have h2 : look src (p :: l) = some p.2 := by
        unfold look
        rw [List.find?_cons_of_pos (by simpa using e)]
        rfl
      rw [h1, h2]
      rfl
    · have h1 : valV (szs (p :: l)) (Sum.inl (src : Int)) = valV (szs l) (Sum.inl (src : Int)) := valV_neg (p := (Sum.inl (p.1 : Int), V.int p.2)) (r := szs l) fun q => e (by injection q with q; omega)
      have h2 : look src (p :: l) = look src l := by
        unfold look
        rw [List.find?_cons_of_neg (by simpa using e)]
      rw [h1, h2, szs_look src l]
theorem szs_getD (src : Nat) (l : List (Nat × Nat)) : (valV (szs l) (Sum.inl (src : Int))).getD (.int 0) = V.int (((look src l).getD 0 : Nat) : Int) := by
  rw [szs_look]
  cases look src l <;> rfl
def spHear (C P : Addr) : Sp := fun vs H Q _ => ∃ (n k : Nat) (p l v s : Addr) (m : Ms) (x : V) (msg : Msg), vs = [.ref p, x] ∧ MsgAt H x msg ∧ MAt C n k H p l v s m ∧ Tab H P ∧ (m.role = .stands → m.voices.length ≤ 900) ∧ (m.role = .leads → m.sizes.length ≤ 900) ∧
  ∀ (m' : Ms) (told : List Msg) (H' : Hp) (l' v' s' q : Addr) (xs : List V), HearRel n k m msg m' told → Aft C P n k H p l v s H' m' l' v' s' → Fre H q → q ≠ l' → H' q = some (.lst xs) → MsgsAt H' xs told → Q (.ref q) H'
section
variable {P : Program} {w : World} {K : PySem.W.Frag} {mg : Str → Option Value} {base : Heap} {C PT c : Addr}
theorem scHear : FnScope ["self", "message", "word", "sender", "term"] ["self", "message"] (defScope sHear) := ⟨rfl, rfl, rfl, by decide +kernel, rfl, by decide +kernel, by decide +kernel⟩
theorem role_eq (m : Ms) (r : Role) : decide (V.str (roleS m.role) = V.str (roleS r)) = decide (m.role = r) := roleS_dec m.role r
theorem ok_hear {f : Addr} {fd : FuncData} (F : Fun K "hear" "Master.hear" sHear f fd) (T : Txt K mg C) (MV : MetT P w K mg base C 4 "count_voices" ["self"] (spCV C PT)) (MS : MetT P w K mg base C 2 "count_sizes" ["self"] (spCS C PT)) (MK : MetT P w K mg base C 1 "hear_keep" ["self", "message"] (spKeep C PT)) :
    FnOk P w K mg base CX0 5 f fd ["self", "message"] (spHear C PT) := by
  obtain ⟨fV, fdV, GV, mV, bV⟩ := MV.ex
  obtain ⟨fS, fdS, GS, mS, bS⟩ := MS.ex
  obtain ⟨fK, fdK, GK, mK, bK⟩ := MK.ex
  refine F.ok scHear (fun vs H Q E h => ?_) (fun cdv A outer st H vs Q E hr h => ?_)
  · obtain ⟨n, k, p, l, v, s, m, x, msg, rfl, _⟩ := h
    rfl
  · obtain ⟨n, k, p, l, v, s, m, x, msg, rfl, hx, M, hT, hvl, hsl, hq⟩ := h
    obtain ⟨dx, hp⟩ := id M.ob
    obtain ⟨ls, hl, hlr⟩ := id M.log
    obtain ⟨kvs, hv, hvo⟩ := id M.vo
    have hs := M.si
    have hu := hu_of hr
    refine ⟨_, pss_cons (ps_set (i := 2) scHear.nd rfl (.inl rfl) (pe_ix ix_tup (pv 1) pe_int (fun _ _ => rfl)))
      (pss_cons (ps_set (i := 3) scHear.nd rfl (.inl rfl) (pe_ix ix_tup (pv 1) pe_int (fun _ _ => rfl)))
      (pss_cons (ps_set (i := 4) scHear.nd rfl (.inl rfl) (pe_ix ix_tup (pv 1) pe_int (fun _ _ => rfl)))
      (pss_cons (ps_if (PW.pt (pw_and (pt_cmpR op_eq (pv 2) pe_str (nomark _)) (pw_and1 (pt_cmpR op_gt (pv 4) (pe_fld (pv 0) rfl) (nomark _)))))
        (pss_cons (ps_fld (pv 0) (pv 4) rfl) (pss_cons (ps_fld (pv 0) pe_str rfl) (pss_one (ps_ret (pe_lst (pa_cons (pe_tup (pa_cons pe_str (pa_cons (pe_fld (pv 0) rfl) (pa_cons (pv 3) (pa_cons (pv 4) (pa_cons (pe_fld (pv 0) rfl)
          (pa_cons (pe_callTy call_tuple_of (by rfl) T.tuple (by decide +kernel) (pa_cons (pe_fld (pv 0) rfl) pa_nil)) pa_nil))))))) pa_nil)))))) pss_nil)
      (pss_cons (ps_if (PW.pt (pw_and (pt_cmpR op_eq (pv 2) pe_str (nomark _)) (pw_and (pt_cmpR op_eq (pe_fld (pv 0) rfl) pe_str (nomark _)) (pw_and1 (pt_cmpR op_eq (pv 4) (pe_fld (pv 0) rfl) (nomark _))))))
        (pss_cons (ps_dput hu (pe_fld (pv 0) rfl) (pv 3) (pe_tup (pa_cons (pe_ix ix_tup (pv 1) pe_int (fun _ _ => rfl)) (pa_cons (pe_ix ix_tup (pv 1) pe_int (fun _ _ => rfl)) pa_nil))) rfl) (pss_one (ps_expr (pe_meth0 (pv 0) T.cl mV GV hr bV .nil pass0)))) pss_nil)
      (pss_cons (ps_if (PW.pt (pw_and (pt_cmpR op_eq (pv 2) pe_str (nomark _)) (pw_and1 (pt_cmpR op_ge (pv 4) (pe_fld (pv 0) rfl) (nomark _)))))
        (pss_one (ps_ret (pe_meth (pv 0) T.cl mK GK (hr.mono (by decide)) bK .nil pass0 (pa_cons (pv 1) pa_nil)))) pss_nil)
      (pss_cons (ps_if (PW.pt (pw_and (pt_cmpR op_eq (pv 2) pe_str (nomark _)) (pw_and (pt_cmpR op_eq (pe_fld (pv 0) rfl) pe_str (nomark _)) (pw_and1 (pt_cmpR op_eq (pv 4) (pe_fld (pv 0) rfl) (nomark _))))))
        (pss_cons (ps_dput hu (pe_fld (pv 0) rfl) (pv 3) (pe_callB (call_max2 rfl) (by rfl) T.max (by decide +kernel) (pa_cons (pe_dget2 hu (pe_fld (pv 0) rfl) (pv 3) pe_int ⟨rfl, rfl, rfl, rfl⟩) (pa_cons (pe_ix ix_tup (pv 1) pe_int (fun _ _ => rfl)) pa_nil))) rfl) (pss_one (ps_expr (pe_meth0 (pv 0) T.cl mS GS (hr.mono (by decide)) bS .nil pass0)))) pss_nil)
      (pss_one (ps_ret (pe_lst pa_nil)))))))))
      , ?_⟩
    -- nothing has changed: []
    have done : ∀ (H' : Hp) (m' : Ms) (l' v' s' : Addr), HearRel n k m msg m' [] → Aft C PT n k H p l v s H' m' l' v' s' → ∀ q, H' q = none → Q (.ref q) (upd H' q (.lst [])) := fun H' m' l' v' s' hr A q hqn => by
      obtain ⟨ls', hl', _⟩ := A.at_.log
      exact hq m' [] _ l' v' s' q [] hr (A.then (Same.new hqn)) (A.dom _ (Fre.of hqn)) (ne_of_none hl' hqn).symm upd_same .nil
    cases msg with
    | stand src dst t =>
      obtain ⟨a, rfl, ha⟩ := hx
      refine ⟨_, rfl, a, _, _, _, rfl, rfl, SqT.of ha, atI_nat (j := 0) rfl, _, rfl, a, _, _, _, rfl, rfl, SqT.of ha, atI_nat (j := 1) rfl, _, rfl, a, _, _, _, rfl, rfl, SqT.of ha, atI_nat (j := 3) rfl, ?_⟩
      refine ⟨_, rfl, rfl, _, rfl, iteE (by decide +kernel) ?_⟩
      refine ⟨_, rfl, _, rfl, p, C, dx, _, _, rfl, hp, T.cl, T.nTe, rfl, _, _, rfl, rfl, _, rfl, ?_⟩
      refine ite2 (fun h1 => ?_) (fun h1 => ?_)
      · have h1' : (m.term : Int) < (t : Int) := of_decide_eq_true h1
        refine ⟨_, rfl, _, rfl, p, C, dx, _, rfl, hp, T.cl, T.nTe, (by show 9 < 1000; decide), ?_⟩
        refine ⟨_, rfl, p, C, dx, _, rfl, upd_same, T.cl, T.nRo, (by show 9 < 1000; decide), ?_⟩
        have A1 : Aft C PT n k H p l v s (upd H p (.ins C dx (putF "term" (.int t) (mf n k m.term m.of l m.done (roleS m.role) v s)))) { m with term := t } l v s := Aft.fld M hT { m with term := t } hp rfl rfl rfl rfl
        have A2 : Aft C PT n k H p l v s (upd (upd H p (.ins C dx (putF "term" (.int t) (mf n k m.term m.of l m.done (roleS m.role) v s)))) p (.ins C dx (putF "role" (.str "hears") (putF "term" (.int t) (mf n k m.term m.of l m.done (roleS m.role) v s))))) { m with term := t, role := .hears } l v s :=
          A1.trans (Aft.fld A1.at_ A1.tab { m with term := t, role := .hears } upd_same rfl rfl rfl rfl)
        generalize upd (upd H p (.ins C dx (putF "term" (.int t) (mf n k m.term m.of l m.done (roleS m.role) v s)))) p (.ins C dx (putF "role" (.str "hears") (putF "term" (.int t) (mf n k m.term m.of l m.done (roleS m.role) v s)))) = H2 at A2 ⊢
        obtain ⟨dx2, hp2⟩ := A2.at_.ob
        obtain ⟨ls2, hl2, hlr2⟩ := A2.at_.log
        refine ⟨_, rfl, p, C, dx2, _, _, rfl, hp2, T.cl, T.nNu, rfl, _, rfl, _, rfl, _, rfl, p, C, dx2, _, _, rfl, hp2, T.cl, T.nOf, rfl, _, rfl, p, C, dx2, _, _, rfl, hp2, T.cl, T.nLo, rfl, l, ls2, rfl, .inl ⟨SqL.of hl2, fun b hb => ⟨(by show 6 ≤ sizeLine; decide), fun tt htt => ⟨(by show 1 ≤ sizeLine; decide), fun q hqn => ?_⟩⟩⟩⟩
        have Sb := Same.new (o := .tup ls2) hb
        have St := Same.new (o := .tup [.str "voice", .int k, .int src, .int t, .int m.of, .ref b]) htt
        have Sq := Same.new (o := .lst [.ref tt]) hqn
        have S3 := (Sb.trans St).trans Sq
        refine hq { m with term := t, role := .hears } [.voice k src t m.of m.log] _ l v s q _ (.inl ⟨by omega, rfl, rfl⟩) (A2.then S3) (A2.dom _ (Fre.of ((Sb.trans St).free hqn))) (ne_of_none (St _ _ (Sb _ _ hl2)) hqn).symm upd_same (.cons ⟨tt, b, ls2, rfl, ?_, ?_, hlr2.kp (Kp.same S3)⟩ .nil)
        · exact Sq _ _ upd_same
        · exact Sq _ _ (St _ _ upd_same)
      · have h1' : ¬ m.term < t := fun z => h1 (decide_eq_true (show (m.term : Int) < (t : Int) by omega))
        refine ⟨_, rfl, rfl, _, rfl, iteD (by decide +kernel) (iteF ?_)⟩
        refine ⟨_, rfl, rfl, _, rfl, iteD (by decide +kernel) (iteF ?_)⟩
        refine ⟨_, rfl, rfl, _, rfl, iteD (by decide +kernel) (iteF ?_)⟩
        exact ⟨Nat.zero_le _, done H m l v s (.inr ⟨h1', rfl, rfl⟩) (Aft.refl M hT)⟩
    | voice src dst t o lg =>
      obtain ⟨a, b, bs, rfl, ha, hb, hbr⟩ := hx
      refine ⟨_, rfl, a, _, _, _, rfl, rfl, SqT.of ha, atI_nat (j := 0) rfl, _, rfl, a, _, _, _, rfl, rfl, SqT.of ha, atI_nat (j := 1) rfl, _, rfl, a, _, _, _, rfl, rfl, SqT.of ha, atI_nat (j := 3) rfl, ?_⟩
      refine ⟨_, rfl, rfl, _, rfl, iteD (by decide +kernel) (iteF ?_)⟩
      refine ⟨_, rfl, rfl, _, rfl, iteE (by decide +kernel) ?_⟩
      refine ⟨_, rfl, p, C, dx, _, _, rfl, hp, T.cl, T.nRo, rfl, rfl, _, rfl, ?_⟩
      have skip : ¬ (m.role = .stands ∧ t = m.term) → HearRel n k m (.voice src dst t o lg) m [] := fun z => ⟨rfl, .inr ⟨z, rfl⟩⟩
      refine ite2 (fun hr1 => ?_) (fun hr1 => ?_)
      · have hr1' : m.role = .stands := by
          have z : decide (V.str (roleS m.role) = V.str (roleS .stands)) = true := hr1
          rw [role_eq] at z
          exact of_decide_eq_true z
        refine ⟨_, rfl, _, rfl, p, C, dx, _, _, rfl, hp, T.cl, T.nTe, rfl, rfl, _, rfl, ?_⟩
        refine ite2 (fun ht1 => ?_) (fun ht1 => ?_)
        · have ht1' : t = m.term := by
            have z : V.int (t : Int) = V.int (m.term : Int) := of_decide_eq_true ht1
            injection z with z
            omega
          refine ⟨_, rfl, a, _, _, _, rfl, rfl, SqT.of ha, atI_nat (j := 4) rfl, _, rfl, a, _, _, _, rfl, rfl, SqT.of ha, atI_nat (j := 5) rfl, (by show 2 ≤ sizeLine; decide), fun tt htt => ?_⟩
          have St := Same.new (o := .tup [.int o, .ref b]) htt
          have at1 : upd H tt (.tup [.int o, .ref b]) tt = some (.tup [.int o, .ref b]) := upd_same
          generalize upd H tt (.tup [.int o, .ref b]) = H1 at St at1 ⊢
          have hv1 := St _ _ hv
          have hlen : kvs.length < sizeLine := by
            rw [hvo.length]
            exact Nat.lt_of_le_of_lt (hvl hr1') (by decide)
          refine ⟨_, rfl, p, C, dx, _, _, rfl, St _ _ hp, T.cl, T.nVo, rfl, _, rfl, v, _, rfl, DPut.k (k := Sum.inl (src : Int)) hv1 hlen, ?_⟩
          have K2 : Kp H1 (upd H1 v (.dK (putK kvs (Sum.inl (src : Int)) (.ref tt)))) := Kp.mut hv1 fun z => z
          have A1 : Aft C PT n k H p l v s (upd H1 v (.dK (putK kvs (Sum.inl (src : Int)) (.ref tt)))) { m with voices := put src (o, lg) m.voices } l v s := by
            have K1 := (Kp.same St).trans K2
            refine ⟨⟨⟨dx, by rw [upd_ne M.pv]; exact St _ _ hp⟩, ⟨ls, by rw [upd_ne M.lv]; exact St _ _ hl, hlr.kp K1⟩, ⟨_, upd_same, vos_put (u := (o, lg)) ⟨tt, b, bs, rfl, K2 _ _ at1 trivial, K1 _ _ hb trivial, hbr.kp K1⟩ (hvo.kp K1)⟩, by rw [upd_ne M.vs.symm]; exact St _ _ hs, M.vs⟩,
              hT.kp K1 fun u hu => ?_, .inl rfl, .inl rfl, .inl rfl, fun c u hc _ _ h3 _ _ => by rw [upd_ne h3]; exact St _ _ hc, (Dom.same St).trans (Dom.upd _ _ _ nt_dK)⟩
            rw [upd_ne (hT.ne hv nt_dK).symm]
            exact St _ _ hu
          generalize upd H1 v (.dK (putK kvs (Sum.inl (src : Int)) (.ref tt))) = H2 at A1 ⊢
          obtain ⟨dx2, hp2⟩ := A1.at_.ob
          refine ⟨_, rfl, p, dx2, _, rfl, hp2, rfl, n, k, p, l, v, s, _, rfl, A1.at_, A1.tab, fun H5 m5 l5 v5 s5 cv A5 => ?_⟩
          refine ⟨_, rfl, rfl, _, rfl, iteD (by decide +kernel) (iteF ?_)⟩
          refine ⟨_, rfl, rfl, _, rfl, iteD (by decide +kernel) (iteF ?_)⟩
          exact ⟨Nat.zero_le _, done H5 m5 l5 v5 s5 ⟨rfl, .inl ⟨hr1', ht1', cv⟩⟩ (A1.trans A5)⟩
        · have ht1' : ¬ (m.role = .stands ∧ t = m.term) := fun z => ht1 (decide_eq_true (show V.int (t : Int) = V.int (m.term : Int) by rw [z.2]))
          refine ⟨_, rfl, rfl, _, rfl, iteD (by decide +kernel) (iteF ?_)⟩
          refine ⟨_, rfl, rfl, _, rfl, iteD (by decide +kernel) (iteF ?_)⟩
          exact ⟨Nat.zero_le _, done H m l v s (skip ht1') (Aft.refl M hT)⟩
      · have hr1' : ¬ (m.role = .stands ∧ t = m.term) := fun z => hr1 (by
          show decide (V.str (roleS m.role) = V.str (roleS .stands)) = true
          rw [role_eq, decide_eq_true z.1])
        refine iteF ?_
        refine ⟨_, rfl, rfl, _, rfl, iteD (by decide +kernel) (iteF ?_)⟩
        refine ⟨_, rfl, rfl, _, rfl, iteD (by decide +kernel) (iteF ?_)⟩
        exact ⟨Nat.zero_le _, done H m l v s (skip hr1') (Aft.refl M hT)⟩
    | keep src dst t rows sure =>
      obtain ⟨a, b, bs, rfl, ha, hb, hbr⟩ := id hx
      refine ⟨_, rfl, a, _, _, _, rfl, rfl, SqT.of ha, atI_nat (j := 0) rfl, _, rfl, a, _, _, _, rfl, rfl, SqT.of ha, atI_nat (j := 1) rfl, _, rfl, a, _, _, _, rfl, rfl, SqT.of ha, atI_nat (j := 3) rfl, ?_⟩
      refine ⟨_, rfl, rfl, _, rfl, iteD (by decide +kernel) (iteF ?_)⟩
      refine ⟨_, rfl, rfl, _, rfl, iteD (by decide +kernel) (iteF ?_)⟩
      refine ⟨_, rfl, rfl, _, rfl, iteE (by decide +kernel) ?_⟩
      refine ⟨_, rfl, _, rfl, p, C, dx, _, _, rfl, hp, T.cl, T.nTe, rfl, _, _, rfl, rfl, _, rfl, ?_⟩
      refine ite2 (fun h1 => ?_) (fun h1 => ?_)
      · have h1' : (m.term : Int) ≤ (t : Int) := of_decide_eq_true h1
        refine ⟨_, rfl, p, dx, _, rfl, hp, rfl, _, rfl, n, k, p, l, v, s, m, .ref a, src, dst, t, rows, sure, rfl, hx, M, hT, fun H' l' q xs A f ne at_ ms => ?_⟩
        exact hq _ _ H' l' v s q xs (.inl ⟨by omega, rfl, rfl⟩) A f ne at_ ms
      · have h1' : ¬ m.term ≤ t := fun z => h1 (decide_eq_true (show (m.term : Int) ≤ (t : Int) by omega))
        refine ⟨_, rfl, rfl, _, rfl, iteD (by decide +kernel) (iteF ?_)⟩
        exact ⟨Nat.zero_le _, done H m l v s (.inr ⟨h1', rfl, rfl⟩) (Aft.refl M hT)⟩
    | kept src dst t size =>
      obtain ⟨a, rfl, ha⟩ := hx
      refine ⟨_, rfl, a, _, _, _, rfl, rfl, SqT.of ha, atI_nat (j := 0) rfl, _, rfl, a, _, _, _, rfl, rfl, SqT.of ha, atI_nat (j := 1) rfl, _, rfl, a, _, _, _, rfl, rfl, SqT.of ha, atI_nat (j := 3) rfl, ?_⟩
      refine ⟨_, rfl, rfl, _, rfl, iteD (by decide +kernel) (iteF ?_)⟩
      refine ⟨_, rfl, rfl, _, rfl, iteD (by decide +kernel) (iteF ?_)⟩
      refine ⟨_, rfl, rfl, _, rfl, iteD (by decide +kernel) (iteF ?_)⟩
      refine ⟨_, rfl, rfl, _, rfl, iteE (by decide +kernel) ?_⟩
      refine ⟨_, rfl, p, C, dx, _, _, rfl, hp, T.cl, T.nRo, rfl, rfl, _, rfl, ?_⟩
      have skip : ¬ (m.role = .leads ∧ t = m.term) → HearRel n k m (.kept src dst t size) m [] := fun z => ⟨rfl, .inr ⟨z, rfl⟩⟩
      refine ite2 (fun hr1 => ?_) (fun hr1 => ?_)
      · have hr1' : m.role = .leads := by
          have z : decide (V.str (roleS m.role) = V.str (roleS .leads)) = true := hr1
          rw [role_eq] at z
          exact of_decide_eq_true z
        refine ⟨_, rfl, _, rfl, p, C, dx, _, _, rfl, hp, T.cl, T.nTe, rfl, rfl, _, rfl, ?_⟩
        refine ite2 (fun ht1 => ?_) (fun ht1 => ?_)
        · have ht1' : t = m.term := by
            have z : V.int (t : Int) = V.int (m.term : Int) := of_decide_eq_true ht1
            injection z with z
            omega
          have hlen : (szs m.sizes).length < sizeLine := by
            unfold szs
            rw [List.length_map]
            exact Nat.lt_of_le_of_lt (hsl hr1') (by decide)
          refine ⟨_, rfl, p, C, dx, _, _, rfl, hp, T.cl, T.nSi, rfl, s, rfl, .inl ⟨_, .inl hs⟩, _, rfl, _, DGet.k (k := Sum.inl (src : Int)) hs, _, rfl, a, _, _, _, rfl, rfl, SqT.of ha, atI_nat (j := 4) rfl, (((look src m.sizes).getD 0 : Nat) : Int), (size : Int), by rw [szs_getD], ?_⟩
          refine ⟨_, rfl, p, C, dx, _, _, rfl, hp, T.cl, T.nSi, rfl, _, rfl, s, _, rfl, DPut.k (k := Sum.inl (src : Int)) hs hlen, ?_⟩
          have ev : (if (size : Int) > (((look src m.sizes).getD 0 : Nat) : Int) then (size : Int) else (((look src m.sizes).getD 0 : Nat) : Int)) = ((max ((look src m.sizes).getD 0) size : Nat) : Int) := by
            split <;> omega
          rw [ev, szs_put]
          have K1 : Kp H (upd H s (.dK (szs (put src (max ((look src m.sizes).getD 0) size) m.sizes)))) := Kp.mut hs fun z => z
          have A1 : Aft C PT n k H p l v s (upd H s (.dK (szs (put src (max ((look src m.sizes).getD 0) size) m.sizes)))) { m with sizes := put src (max ((look src m.sizes).getD 0) size) m.sizes } l v s := by
            refine ⟨⟨⟨dx, by rw [upd_ne M.ps]; exact hp⟩, ⟨ls, by rw [upd_ne M.ls]; exact hl, hlr.kp K1⟩, ⟨kvs, by rw [upd_ne M.vs]; exact hv, hvo.kp K1⟩, upd_same, M.vs⟩,
              hT.kp K1 fun u hu => ?_, .inl rfl, .inl rfl, .inl rfl, fun c u hc _ _ _ h4 _ => by rw [upd_ne h4]; exact hc, Dom.upd _ _ _ nt_dK⟩
            rw [upd_ne (hT.ne hs nt_dK).symm]
            exact hu
          have hsz : (put src (max ((look src m.sizes).getD 0) size) m.sizes).length ≤ 1000 := by
            have h1 := put_len (k := src) (v := max ((look src m.sizes).getD 0) size) (l := m.sizes)
            have h2 := hsl hr1'
            omega
          generalize upd H s (.dK (szs (put src (max ((look src m.sizes).getD 0) size) m.sizes))) = H2 at A1 ⊢
          obtain ⟨dx2, hp2⟩ := A1.at_.ob
          refine ⟨_, rfl, p, dx2, _, rfl, hp2, rfl, n, k, p, l, v, s, _, rfl, A1.at_, A1.tab, hsz, fun H5 m5 cs A5 => ?_⟩
          exact ⟨Nat.zero_le _, done H5 m5 l v s ⟨rfl, .inl ⟨hr1', ht1', cs⟩⟩ (A1.trans A5)⟩
        · have ht1' : ¬ (m.role = .leads ∧ t = m.term) := fun z => ht1 (decide_eq_true (show V.int (t : Int) = V.int (m.term : Int) by rw [z.2]))
          exact ⟨Nat.zero_le _, done H m l v s (skip ht1') (Aft.refl M hT)⟩
      · have hr1' : ¬ (m.role = .leads ∧ t = m.term) := fun z => hr1 (by
          show decide (V.str (roleS m.role) = V.str (roleS .leads)) = true
          rw [role_eq, decide_eq_true z.1])
        refine iteF ?_
        exact ⟨Nat.zero_le _, done H m l v s (skip hr1') (Aft.refl M hT)⟩
end
end K85
namespace K85
open PySem L2
/-! ### the law's world -/
structure WS where
  ms : Nat → Ms
  way : List Msg
  story : List Row
  r : Nat
/-- all that holds of a world -/
structure Good (n : Nat) (st : WS) : Prop where
  ex : ∃ ev S, WI n st.ms ev S st.story.length ∧ (∀ x ∈ st.way, ev x) ∧ Runs n seen0 st.story S
  told : ∀ r ∈ st.story, (r.told.getD []).length ≤ n + 1
theorem deed_told {n k : Nat} {ev : Msg → Prop} {m m' : Ms} {told : Option (List Msg)} (D : DeedE n k ev m m' told) : (told.getD []).length ≤ n + 1 := by
  have ho := others_le n k
  cases D with
  | rise t m' _ _ _ =>
    show ((others n k).map _).length ≤ _
    rw [List.length_map]
    omega
  | addNo _ => exact Nat.zero_le _
  | add r m' _ _ =>
    show ((others n k).map _).length ≤ _
    rw [List.length_map]
    omega
  | send _ =>
    show ((others n k).map _).length ≤ _
    rw [List.length_map]
    omega
  | sendNo _ => exact Nat.zero_le _
  | fall => exact Nat.zero_le _
  | hear msg m' told _ _ hr =>
    show told.length ≤ _
    cases msg with
    | stand src dst t =>
      rcases hr with ⟨_, _, e⟩ | ⟨_, _, e⟩ <;> rw [e] <;> simp
    | voice src dst t o lg =>
      rw [hr.1]
      simp
    | keep src dst t rows sure =>
      rcases hr with ⟨_, _, e⟩ | ⟨_, _, e⟩ <;> rw [e] <;> simp
    | kept src dst t size =>
      rw [hr.1]
      simp
def setM (ms : Nat → Ms) (k : Nat) (m : Ms) : Nat → Ms := fun j => if j = k then m else ms j
/-- a deed and its note -/
theorem Good.deed {n k : Nat} {st : WS} {m' : Ms} {told : Option (List Msg)} {way' : List Msg} {r' : Nat} (G : Good n st) (hk : k < n) (D : ∀ ev : Msg → Prop, (∀ x ∈ st.way, ev x) → DeedE n k ev (st.ms k) m' told) (hw : ∀ x ∈ way', x ∈ st.way ∨ x ∈ told.getD []) :
    Good n ⟨setM st.ms k m', way', st.story ++ [rowOf k told m'], r'⟩ := by
  obtain ⟨ev, S, W, hev, R⟩ := G.ex
  obtain ⟨V, L, W'⟩ := W.step hk (D ev hev)
  refine ⟨⟨_, _, by rw [List.length_append]; exact W', fun x hx => ?_, R.snoc L⟩, fun r hr => ?_⟩
  · rcases hw x hx with z | z
    · exact .inl (hev x z)
    · exact .inr z
  · rcases List.mem_append.mp hr with z | z
    · exact G.told r z
    · rw [List.mem_singleton.mp z]
      exact deed_told (D ev hev)
theorem Good.way {n : Nat} {st : WS} {way' : List Msg} {r' : Nat} (G : Good n st) (hw : ∀ x ∈ way', x ∈ st.way) : Good n { st with way := way', r := r' } := by
  obtain ⟨ev, S, W, hev, R⟩ := G.ex
  exact ⟨⟨ev, S, W, fun x hx => hev x (hw x hx), R⟩, G.told⟩
/-- how much there is -/
theorem Good.sizes {n k : Nat} {st : WS} (G : Good n st) (hk : k < n) : (st.ms k).log.length ≤ st.story.length ∧ ((st.ms k).role = .stands → (st.ms k).voices.length ≤ n) ∧ ((st.ms k).role = .leads → (st.ms k).sizes.length ≤ n) := by
  obtain ⟨ev, S, W, hev, R⟩ := G.ex
  obtain ⟨g, _, hM, _, _, hB⟩ := W.ex
  have h := hM k hk
  refine ⟨Nat.le_trans h.L.length_le (hB _), fun e => ?_, fun e => ?_⟩
  · have := nodup_le n _ (h.voice e).1 fun j hj => by
      obtain ⟨p, hp, q⟩ := List.mem_map.mp hj
      rw [← q]
      exact ((h.voice e).2 p hp).lt
    rw [List.length_map] at this
    exact this
  · have := nodup_le n _ (h.size e).1 fun j hj => by
      obtain ⟨p, hp, q⟩ := List.mem_map.mp hj
      rw [← q]
      exact ((h.size e).2 p hp).1
    rw [List.length_map] at this
    exact this
theorem Good.dst {n : Nat} {st : WS} (G : Good n st) {x : Msg} (hx : x ∈ st.way) : x.dst < n := by
  obtain ⟨ev, S, W, hev, R⟩ := G.ex
  obtain ⟨g, _, _, hE, _, _⟩ := W.ex
  have h := hE x (hev x hx)
  cases x with
  | stand src dst t => exact h.2.1
  | voice src dst t o lg => exact h.1
  | keep src dst t rows sure => exact h.2.1
  | kept src dst t size => exact h.2.1

/-! ### it stands in the heap -/
structure Ad where
  wd : Addr
  ml : Addr
  wl : Addr
  sl : Addr
  ps : List Addr
def wkv (A : Ad) (r : Nat) : List (Key × V) := [(Sum.inr "masters", .ref A.ml), (Sum.inr "way", .ref A.wl), (Sum.inr "story", .ref A.sl), (Sum.inr "rows", .int r)]
def ToldAt (own : Addr → Nat) (H : Hp) (v : V) (told : Option (List Msg)) : Prop := match told with
  | none => v = .non
  | some ms => ∃ q xs, v = .ref q ∧ own q = 105 ∧ H q = some (.lst xs) ∧ MsgsAt H xs ms
structure RowAt (own : Addr → Nat) (H : Hp) (v : V) (r : Row) : Prop where
  ex : ∃ (a t b : Addr) (dv wv tv : V) (bs : List V), v = .ref a ∧ H a = some (.tup [.int r.m, dv, wv, tv, .ref t]) ∧ ToldAt own H tv r.told ∧ H t = some (.tup [.int r.term, .int r.of, .ref b, .int r.done, .str (roleS r.role)]) ∧ H b = some (.tup bs) ∧ RowsAt H bs r.log
/-- what may have changed: things of the classes below 104 -/
structure Stp (own own' : Addr → Nat) (H H' : Hp) (ch : Nat → Prop) : Prop where
  keep : ∀ b o, H b = some o → NT o → ¬ ch (own b) → H' b = some o
  own_ : ∀ b o, H b = some o → NT o → own' b = own b
  kp : Kp H H'
  dom : Dom H H'
theorem Stp.trans {own own' own2 : Addr → Nat} {H H' H2 : Hp} {ch : Nat → Prop} (a : Stp own own' H H' ch) (b : Stp own' own2 H' H2 ch) : Stp own own2 H H2 ch where
  keep := fun c o h n hc => b.keep c o (a.keep c o h n hc) n (by rw [a.own_ c o h n]; exact hc)
  own_ := fun c o h n => by
    have e := a.own_ c o h n
    cases q : H' c with
    | none => exact absurd n (a.dom c (Fre.of q) o h)
    | some u =>
      by_cases nu : NT u
      · rw [b.own_ c u q nu, e]
      · exact absurd n (a.dom c (fun w hw => by rw [q] at hw; cases hw; exact nu) o h)
  kp := a.kp.trans b.kp
  dom := a.dom.trans b.dom
theorem Stp.mono {own own' : Addr → Nat} {H H' : Hp} {ch ch' : Nat → Prop} (a : Stp own own' H H' ch) (h : ∀ c, ch c → ch' c) : Stp own own' H H' ch' := ⟨fun b o e n hc => a.keep b o e n fun z => hc (h _ z), a.own_, a.kp, a.dom⟩
theorem Stp.refl (own : Addr → Nat) (H : Hp) (ch : Nat → Prop) : Stp own own H H ch := ⟨fun _ _ h _ _ => h, fun _ _ _ _ => rfl, Kp.refl H, Dom.refl H⟩
/-- new things get a class of f -/
noncomputable def ownN (own : Addr → Nat) (H : Hp) (f : Addr → Nat) : Addr → Nat := fun b => @ite _ (∃ o, H b = some o ∧ NT o) (Classical.propDecidable _) (own b) (f b)
theorem ownN_old {own : Addr → Nat} {H : Hp} {f : Addr → Nat} {b : Addr} {o : HO} (h : H b = some o) (n : NT o) : ownN own H f b = own b := by
  unfold ownN
  exact if_pos ⟨o, h, n⟩
theorem ownN_new {own : Addr → Nat} {H : Hp} {f : Addr → Nat} {b : Addr} (h : Fre H b) : ownN own H f b = f b := by
  unfold ownN
  exact if_neg fun ⟨o, e, n⟩ => h o e n
theorem Stp.same {own : Addr → Nat} {H H' : Hp} (f : Addr → Nat) (ch : Nat → Prop) (S : Same H H') : Stp own (ownN own H f) H H' ch :=
  ⟨fun b o h _ _ => S b o h, fun b o h n => ownN_old h n, Kp.same S, Dom.same S⟩
theorem ToldAt.stp {own own' : Addr → Nat} {H H' : Hp} {ch : Nat → Prop} (a : Stp own own' H H' ch) (hc : ¬ ch 105) {v : V} {told : Option (List Msg)} (h : ToldAt own H v told) : ToldAt own' H' v told := by
  cases told with
  | none => exact h
  | some ms =>
    obtain ⟨q, xs, e, ho, hq, hm⟩ := h
    exact ⟨q, xs, e, by rw [a.own_ q _ hq nt_lst]; exact ho, a.keep q _ hq nt_lst (by rw [ho]; exact hc), hm.kp a.kp⟩
theorem RowAt.stp {own own' : Addr → Nat} {H H' : Hp} {ch : Nat → Prop} (a : Stp own own' H H' ch) (hc : ¬ ch 105) {v : V} {r : Row} (h : RowAt own H v r) : RowAt own' H' v r := by
  obtain ⟨x, t, b, dv, wv, tv, bs, e, h1, h2, h3, h4, h5⟩ := h.ex
  exact ⟨x, t, b, dv, wv, tv, bs, e, a.kp _ _ h1 trivial, h2.stp a hc, a.kp _ _ h3 trivial, a.kp _ _ h4 trivial, h5.kp a.kp⟩
structure WAt (C PT : Addr) (n : Nat) (own : Addr → Nat) (H : Hp) (A : Ad) (st : WS) : Prop where
  wd : H A.wd = some (.dK (wkv A st.r))
  owd : own A.wd = 100
  ml : H A.ml = some (.lst (A.ps.map V.ref))
  oml : own A.ml = 101
  len : A.ps.length = n
  wl : ∃ xs, H A.wl = some (.lst xs) ∧ MsgsAt H xs st.way
  owl : own A.wl = 102
  sl : ∃ ys, H A.sl = some (.lst ys) ∧ Paired (RowAt own H) ys st.story
  osl : own A.sl = 103
  ma : ∀ i p, A.ps[i]? = some p → own p = i ∧ ∃ l v s, own l = i ∧ own v = i ∧ own s = i ∧ MAt C n i H p l v s (st.ms i)
  tab : Tab H PT
section
variable {C PT : Addr} {n : Nat} {own own' : Addr → Nat} {H H' : Hp} {A : Ad} {st : WS}
theorem MAt.keep {k : Nat} {p l v s : Addr} {m : Ms} (M : MAt C n k H p l v s m) (K : Kp H H') (h : ∀ b o, b = p ∨ b = l ∨ b = v ∨ b = s → H b = some o → NT o → H' b = some o) : MAt C n k H' p l v s m := by
  obtain ⟨dx, h1⟩ := M.ob
  obtain ⟨xs, h2, r2⟩ := M.log
  obtain ⟨kvs, h3, r3⟩ := M.vo
  exact ⟨⟨dx, h _ _ (.inl rfl) h1 nt_ins⟩, ⟨xs, h _ _ (.inr (.inl rfl)) h2 nt_lst, r2.kp K⟩, ⟨kvs, h _ _ (.inr (.inr (.inl rfl))) h3 nt_dK, r3.kp K⟩, h _ _ (.inr (.inr (.inr rfl))) M.si nt_dK, M.vs⟩
/-- masters of other classes stay -/
theorem MAt.stp {k : Nat} {p l v s : Addr} {m : Ms} {ch : Nat → Prop} (a : Stp own own' H H' ch) (M : MAt C n k H p l v s m) (o1 : own p = k) (o2 : own l = k) (o3 : own v = k) (o4 : own s = k) (hc : ¬ ch k) : MAt C n k H' p l v s m ∧ own' p = k ∧ own' l = k ∧ own' v = k ∧ own' s = k := by
  obtain ⟨dx, h1⟩ := id M.ob
  obtain ⟨xs, h2, _⟩ := id M.log
  obtain ⟨kvs, h3, _⟩ := id M.vo
  refine ⟨M.keep a.kp fun b o hb h nt => a.keep b o h nt ?_, by rw [a.own_ _ _ h1 nt_ins]; exact o1, by rw [a.own_ _ _ h2 nt_lst]; exact o2, by rw [a.own_ _ _ h3 nt_dK]; exact o3, by rw [a.own_ _ _ M.si nt_dK]; exact o4⟩
  rcases hb with e | e | e | e <;> rw [e]
  · rw [o1]; exact hc
  · rw [o2]; exact hc
  · rw [o3]; exact hc
  · rw [o4]; exact hc
/-- nothing of the world changes -/
theorem WAt.stp {ch : Nat → Prop} (W : WAt C PT n own H A st) (a : Stp own own' H H' ch) (hc : ∀ c, ch c → 104 ≤ c ∧ c ≠ 105) (hn : n ≤ 100) (hT : Tab H' PT) : WAt C PT n own' H' A st := by
  obtain ⟨xs, w1, w2⟩ := W.wl
  obtain ⟨ys, s1, s2⟩ := W.sl
  have nc : ∀ c, c < 104 → ¬ ch c := fun c h z => by have := hc c z; omega
  refine ⟨a.keep _ _ W.wd nt_dK (by rw [W.owd]; exact nc _ (by decide)), by rw [a.own_ _ _ W.wd nt_dK]; exact W.owd, a.keep _ _ W.ml nt_lst (by rw [W.oml]; exact nc _ (by decide)), by rw [a.own_ _ _ W.ml nt_lst]; exact W.oml, W.len,
    ⟨xs, a.keep _ _ w1 nt_lst (by rw [W.owl]; exact nc _ (by decide)), w2.kp a.kp⟩, by rw [a.own_ _ _ w1 nt_lst]; exact W.owl, ⟨ys, a.keep _ _ s1 nt_lst (by rw [W.osl]; exact nc _ (by decide)), Paired.mapP s2 fun _ _ z => z.stp a fun z => (hc _ z).2 rfl⟩, by rw [a.own_ _ _ s1 nt_lst]; exact W.osl, fun i p hi => ?_, hT⟩
  obtain ⟨o1, l, v, s, o2, o3, o4, M⟩ := W.ma i p hi
  have hi' : i < n := by
    rw [← W.len]
    exact (List.getElem?_eq_some_iff.mp hi).1
  obtain ⟨M', q1, q2, q3, q4⟩ := M.stp a o1 o2 o3 o4 (nc i (by omega))
  exact ⟨q1, l, v, s, q2, q3, q4, M'⟩
/-- one master's deed -/
theorem WAt.deed {k : Nat} {p l v s l' v' s' : Addr} {m' : Ms} {f : Addr → Nat} (W : WAt C PT n own H A st) (hn : n ≤ 100) (hp : A.ps[k]? = some p) (o2 : own l = k) (o3 : own v = k) (o4 : own s = k) (M : MAt C n k H p l v s (st.ms k)) (B : Aft C PT n k H p l v s H' m' l' v' s')
    (f1 : Fre H l' → f l' = k) (f2 : Fre H v' → f v' = k) (f3 : Fre H s' → f s' = k) :
    WAt C PT n (ownN own H f) H' A { st with ms := setM st.ms k m' } ∧ Stp own (ownN own H f) H H' (fun c => c = k) := by
  have hk : k < n := by
    rw [← W.len]
    exact (List.getElem?_eq_some_iff.mp hp).1
  obtain ⟨o1, _⟩ := W.ma k p hp
  obtain ⟨dx, h1⟩ := id M.ob
  obtain ⟨ls, h2, _⟩ := id M.log
  obtain ⟨kvs, h3, _⟩ := id M.vo
  have a : Stp own (ownN own H f) H H' (fun c => c = k) := by
    refine ⟨fun b o h nt hc => B.fr b o h (fun e => hc (by rw [e]; exact o1)) (fun e => hc (by rw [e]; exact o2)) (fun e => hc (by rw [e]; exact o3)) (fun e => hc (by rw [e]; exact o4)) nt, fun b o h nt => ownN_old h nt, B.kp M, B.dom⟩
  obtain ⟨xs, w1, w2⟩ := W.wl
  obtain ⟨ys, s1, s2⟩ := W.sl
  have nc : ∀ c, 100 ≤ c → ¬ (fun c => c = k) c := fun c h z => by
    have z : c = k := z
    omega
  refine ⟨⟨a.keep _ _ W.wd nt_dK (by rw [W.owd]; exact nc _ (by decide)), by rw [a.own_ _ _ W.wd nt_dK]; exact W.owd, a.keep _ _ W.ml nt_lst (by rw [W.oml]; exact nc _ (by decide)), by rw [a.own_ _ _ W.ml nt_lst]; exact W.oml, W.len,
    ⟨xs, a.keep _ _ w1 nt_lst (by rw [W.owl]; exact nc _ (by decide)), w2.kp a.kp⟩, by rw [a.own_ _ _ w1 nt_lst]; exact W.owl, ⟨ys, a.keep _ _ s1 nt_lst (by rw [W.osl]; exact nc _ (by decide)), Paired.mapP s2 fun _ _ z => z.stp a (nc _ (by decide))⟩, by rw [a.own_ _ _ s1 nt_lst]; exact W.osl, fun i q hi => ?_, B.tab⟩, a⟩
  by_cases e : i = k
  · subst e
    rw [hp] at hi
    cases hi
    have cls : ∀ {x y : Addr} {o : HO}, H x = some o → NT o → own x = i → (y = x ∨ Fre H y) → (Fre H y → f y = i) → ownN own H f y = i := fun {x y o} hx nx ox hy fy => by
      rcases hy with e | e
      · rw [e, ownN_old hx nx]
        exact ox
      · rw [ownN_new e]
        exact fy e
    refine ⟨by rw [ownN_old h1 nt_ins]; exact o1, l', v', s', cls h2 nt_lst o2 B.l_ f1, cls h3 nt_dK o3 B.v_ f2, cls M.si nt_dK o4 B.s_ f3, ?_⟩
    show MAt C n i H' p l' v' s' (setM st.ms i m' i)
    unfold setM
    rw [if_pos rfl]
    exact B.at_
  · obtain ⟨q1, l2, v2, s2', q2, q3, q4, M2⟩ := W.ma i q hi
    obtain ⟨M', r1, r2, r3, r4⟩ := M2.stp a q1 q2 q3 q4 e
    refine ⟨r1, l2, v2, s2', r2, r3, r4, ?_⟩
    show MAt C n i H' q l2 v2 s2' (setM st.ms k m' i)
    unfold setM
    rw [if_neg e]
    exact M'
end
end K85
namespace K85
open PySem L2
section
variable {C PT : Addr} {n : Nat} {own own' : Addr → Nat} {H H2 H' : Hp} {A : Ad} {st : WS}
theorem WAt.ne_wd (W : WAt C PT n own H A st) {b : Addr} (h : own b ≠ 100) : b ≠ A.wd := fun e => h (by rw [e]; exact W.owd)
/-- the way is put anew (and the number of rows) -/
theorem WAt.way (W : WAt C PT n own H A st) (S : Same H H2) (hn : n ≤ 99) {q : Addr} {xs : List V} {way' : List Msg} {r' : Nat} (hq : H2 q = some (.lst xs)) (hm : MsgsAt H2 xs way') (hf : q = A.wl ∨ Fre H q) :
    WAt C PT n (ownN own H fun _ => 102) (upd H2 A.wd (.dK (wkv { A with wl := q } r'))) { A with wl := q } { st with way := way', r := r' } ∧ Stp own (ownN own H fun _ => 102) H (upd H2 A.wd (.dK (wkv { A with wl := q } r'))) (fun c => c = 100) := by
  have wd2 := S _ _ W.wd
  have K2 : Kp H2 (upd H2 A.wd (.dK (wkv { A with wl := q } r'))) := Kp.mut wd2 fun z => z
  have a : Stp own (ownN own H fun _ => 102) H (upd H2 A.wd (.dK (wkv { A with wl := q } r'))) (fun c => c = 100) := by
    refine ⟨fun b o h nt hc => ?_, fun b o h nt => ownN_old h nt, (Kp.same S).trans K2, (Dom.same S).trans (Dom.upd _ _ _ nt_dK)⟩
    rw [upd_ne (W.ne_wd hc)]
    exact S _ _ h
  obtain ⟨ws, w1, w2⟩ := W.wl
  obtain ⟨ys, s1, s2⟩ := W.sl
  have nq : q ≠ A.wd := ne_of hq wd2 fun z => by cases z
  refine ⟨⟨upd_same, by rw [a.own_ _ _ W.wd nt_dK]; exact W.owd, a.keep _ _ W.ml nt_lst (by rw [W.oml]; decide), by rw [a.own_ _ _ W.ml nt_lst]; exact W.oml, W.len, ⟨xs, by rw [upd_ne nq]; exact hq, hm.kp K2⟩, ?_, ⟨ys, a.keep _ _ s1 nt_lst (by rw [W.osl]; decide), Paired.mapP s2 fun _ _ z => z.stp a (by decide)⟩, by rw [a.own_ _ _ s1 nt_lst]; exact W.osl, fun i p hi => ?_, ?_⟩, a⟩
  · rcases hf with e | e
    · show ownN own H (fun _ => 102) q = 102
      rw [e, ownN_old w1 nt_lst]
      exact W.owl
    · exact ownN_new e
  · obtain ⟨o1, l, v, s, o2, o3, o4, M⟩ := W.ma i p hi
    have hi' : i < n := by
      rw [← W.len]
      exact (List.getElem?_eq_some_iff.mp hi).1
    obtain ⟨M', q1, q2, q3, q4⟩ := M.stp a o1 o2 o3 o4 (by show ¬ i = 100; omega)
    exact ⟨q1, l, v, s, q2, q3, q4, M'⟩
  · refine (W.tab.same S).kp K2 fun o ho => ?_
    rw [upd_ne ((W.tab.same S).ne wd2 nt_dK).symm]
    exact ho
/-- a row is put behind the story -/
theorem WAt.note (W : WAt C PT n own H A st) (S : Same H H2) (hn : n ≤ 99) {ys : List V} {v : V} {row : Row} (hs : H A.sl = some (.lst ys)) (hy : Paired (RowAt own H) ys st.story) (hr : ∀ own', (∀ b o, H b = some o → NT o → own' b = own b) → RowAt own' H2 v row) :
    WAt C PT n (ownN own H fun _ => 102) (upd H2 A.sl (.lst (ys ++ [v]))) A { st with story := st.story ++ [row] } ∧ Stp own (ownN own H fun _ => 102) H (upd H2 A.sl (.lst (ys ++ [v]))) (fun c => c = 103) := by
  have sl2 := S _ _ hs
  have K2 : Kp H2 (upd H2 A.sl (.lst (ys ++ [v]))) := Kp.mut sl2 fun z => z
  have nsl : ∀ b, own b ≠ 103 → b ≠ A.sl := fun b h e => h (by rw [e]; exact W.osl)
  have a : Stp own (ownN own H fun _ => 102) H (upd H2 A.sl (.lst (ys ++ [v]))) (fun c => c = 103) := by
    refine ⟨fun b o h nt hc => ?_, fun b o h nt => ownN_old h nt, (Kp.same S).trans K2, (Dom.same S).trans (Dom.upd _ _ _ nt_lst)⟩
    rw [upd_ne (nsl _ hc)]
    exact S _ _ h
  obtain ⟨ws, w1, w2⟩ := W.wl
  have nq : ∀ q xs, own q = 105 → H2 q = some (.lst xs) → H q = some (.lst xs) → upd H2 A.sl (.lst (ys ++ [v])) q = some (.lst xs) := fun q xs ho hq _ => by
    rw [upd_ne (nsl q (by rw [ho]; decide))]
    exact hq
  refine ⟨⟨a.keep _ _ W.wd nt_dK (by rw [W.owd]; decide), by rw [a.own_ _ _ W.wd nt_dK]; exact W.owd, a.keep _ _ W.ml nt_lst (by rw [W.oml]; decide), by rw [a.own_ _ _ W.ml nt_lst]; exact W.oml, W.len, ⟨ws, a.keep _ _ w1 nt_lst (by rw [W.owl]; decide), w2.kp a.kp⟩, by rw [a.own_ _ _ w1 nt_lst]; exact W.owl,
    ⟨ys ++ [v], upd_same, Paired.snoc (Paired.mapP hy fun _ _ z => z.stp a (by decide)) ?_⟩, by rw [a.own_ _ _ hs nt_lst]; exact W.osl, fun i p hi => ?_, ?_⟩, a⟩
  · have hr1 := hr (ownN own H fun _ => 102) fun b o h nt => ownN_old h nt
    obtain ⟨x, t, b, dv, wv, tv, bs, e, h1, h2, h3, h4, h5⟩ := hr1.ex
    refine ⟨x, t, b, dv, wv, tv, bs, e, K2 _ _ h1 trivial, ?_, K2 _ _ h3 trivial, K2 _ _ h4 trivial, h5.kp K2⟩
    cases ht : row.told with
    | none =>
      rw [ht] at h2
      exact h2
    | some ms =>
      rw [ht] at h2
      obtain ⟨q, xs, e1, ho, hq, hm⟩ := h2
      refine ⟨q, xs, e1, ho, ?_, hm.kp K2⟩
      have nqs : q ≠ A.sl := fun z => by
        rw [z, ownN_old hs nt_lst, W.osl] at ho
        exact absurd ho (by decide)
      rw [upd_ne nqs]
      exact hq
  · obtain ⟨o1, l, v, s, o2, o3, o4, M⟩ := W.ma i p hi
    have hi' : i < n := by
      rw [← W.len]
      exact (List.getElem?_eq_some_iff.mp hi).1
    obtain ⟨M', q1, q2, q3, q4⟩ := M.stp a o1 o2 o3 o4 (by show ¬ i = 103; omega)
    exact ⟨q1, l, v, s, q2, q3, q4, M'⟩
  · refine (W.tab.same S).kp K2 fun o ho => ?_
    rw [upd_ne ((W.tab.same S).ne sl2 nt_lst).symm]
    exact ho
end
def last60 {α : Type} (l : List α) : List α := l.drop (l.length - 60)
theorem cut60 (xs : List V) : cutV xs (some (-60)) none = last60 xs := by
  unfold cutV last60
  have e : HT.sIx xs.length 0 (some (-60)) = xs.length - 60 := by
    show (if (-60 : Int) < 0 then ((-60 : Int) + (xs.length : Int)).toNat else min (-60 : Int).toNat xs.length) = xs.length - 60
    rw [if_pos (by decide)]
    omega
  rw [e, HT.sIx_none, List.take_of_length_le (by rw [List.length_drop]; exact Nat.le_refl _)]
def nextWay (way : List Msg) : Option (List Msg) → List Msg
  | none => way
  | some ms => last60 (way ++ ms)
theorem nextWay_mem {way : List Msg} {told : Option (List Msg)} {x : Msg} (h : x ∈ nextWay way told) : x ∈ way ∨ x ∈ told.getD [] := by
  cases told with
  | none => exact .inl h
  | some ms => exact List.mem_append.mp (List.mem_of_mem_drop h)
theorem nextWay_len {way : List Msg} {told : Option (List Msg)} (h : way.length ≤ 60) : (nextWay way told).length ≤ 60 := by
  cases told with
  | none => exact h
  | some ms =>
    show (last60 (way ++ ms)).length ≤ 60
    unfold last60
    rw [List.length_drop]
    omega
abbrev sNote : Stmt := top 11
def spNote (C PT : Addr) : Sp := fun vs H Q _ => ∃ (n : Nat) (own : Addr → Nat) (A : Ad) (st : WS) (k : Nat) (dv wv tv : V) (told : Option (List Msg)), vs = [.ref A.wd, .int k, dv, wv, tv] ∧ WAt C PT n own H A st ∧ k < n ∧ n ≤ 99 ∧ st.story.length ≤ 10000 ∧ st.way.length ≤ 1000 ∧ ToldAt own H tv told ∧ (told.getD []).length ≤ 1000 ∧
  ∀ (own' : Addr → Nat) (H' : Hp) (A' : Ad), WAt C PT n own' H' A' { st with way := nextWay st.way told, story := st.story ++ [rowOf k told (st.ms k)] } → A'.wd = A.wd → Stp own own' H H' (fun c => c < 104) → Q .non H'
section
variable {P : Program} {w : World} {K : PySem.W.Frag} {mg : Str → Option Value} {base : Heap} {C PT c : Addr}
theorem scNote : FnScope ["_law_world", "_law_m", "_law_deed", "_law_what", "_law_told", "_law_one"] ["_law_world", "_law_m", "_law_deed", "_law_what", "_law_told"] (defScope sNote) := ⟨rfl, rfl, rfl, by decide +kernel, rfl, by decide +kernel, by decide +kernel⟩
theorem ok_note {f : Addr} {fd : FuncData} (F : Fun K "_law_note" "_law_note" sNote f fd) (T : Txt K mg C) : FnOk P w K mg base CX0 1 f fd ["_law_world", "_law_m", "_law_deed", "_law_what", "_law_told"] (spNote C PT) := by
  refine F.ok scNote (fun vs H Q E h => ?_) (fun cdv Ar outer sh H vs Q E hr h => ?_)
  · obtain ⟨n, own, A, st, k, dv, wv, tv, told, rfl, _⟩ := h
    rfl
  · obtain ⟨n, own, A, st, k, dv, wv, tv, told, rfl, W, hk, hn, hsl, hwl, hto, htl, hq⟩ := h
    have hu := hu_of hr
    have hkp : A.ps[k]? = some (A.ps[k]'(by rw [W.len]; exact hk)) := List.getElem?_eq_getElem _
    obtain ⟨o1, l, v, s, o2, o3, o4, M⟩ := W.ma k _ hkp
    generalize A.ps[k]'(by rw [W.len]; exact hk) = p at hkp o1 M
    obtain ⟨dx, hp⟩ := M.ob
    obtain ⟨ls, hl, hlr⟩ := M.log
    obtain ⟨ws, hw, hwm⟩ := W.wl
    obtain ⟨ys, hs, hys⟩ := W.sl
    refine ⟨_, pss_cons (ps_set (i := 5) scNote.nd rfl (.inl rfl) (pe_ix ix_list (pe_dget hu (pv 0) pe_str (fun _ _ => rfl)) (pv 1) (fun _ _ => rfl)))
      (pss_cons (ps_expr (pe_bm PySem.F.plainAttrs_list PySem.F.slot_list_append PySem.F.type_list_append mt_append (pe_dget hu (pv 0) pe_str (fun _ _ => rfl)) (pa_cons (pe_tup (pa_cons (pv 1) (pa_cons (pv 2) (pa_cons (pv 3) (pa_cons (pv 4)
        (pa_cons (pe_tup (pa_cons (pe_fld (pv 5) rfl) (pa_cons (pe_fld (pv 5) rfl) (pa_cons (pe_callTy call_tuple_of (by rfl) T.tuple (by decide +kernel) (pa_cons (pe_fld (pv 5) rfl) pa_nil)) (pa_cons (pe_fld (pv 5) rfl) (pa_cons (pe_fld (pv 5) rfl) pa_nil)))))) pa_nil)))))) pa_nil)))
      (pss_one (ps_if (pt_cmp (pc_notN (pv 4))) (pss_one (ps_dput hu (pv 0) pe_str (pe_slice sl_list (pe_op op_cat (pe_dget hu (pv 0) pe_str (fun _ _ => rfl)) (pv 4)) (po_some (pe_un un_neg pe_int)) po_none) rfl)) pss_nil))), ?_⟩
    refine ⟨_, rfl, A.wd, .ref A.ml, rfl, DGet.k (k := Sum.inr "masters") W.wd, _, rfl, A.ml, _, _, .ref p, rfl, rfl, SqL.of W.ml, atI_nat (by rw [List.getElem?_map, hkp]; rfl), ?_⟩
    refine ⟨_, rfl, A.wd, .ref A.sl, rfl, DGet.k (k := Sum.inr "story") W.wd, .inl ⟨rfl, _, SqL.of hs⟩, _, rfl, _, rfl, _, rfl, _, rfl, _, rfl, p, C, dx, _, _, rfl, hp, T.cl, T.nTe, rfl, _, rfl, p, C, dx, _, _, rfl, hp, T.cl, T.nOf, rfl, _, rfl, p, C, dx, _, _, rfl, hp, T.cl, T.nLo, rfl, l, ls, rfl, .inl ⟨SqL.of hl, fun b hb => ?_⟩⟩
    have Sb := Same.new (o := .tup ls) hb
    have atb : upd H b (.tup ls) b = some (.tup ls) := upd_same
    generalize upd H b (.tup ls) = H1 at Sb atb ⊢
    refine ⟨_, rfl, p, C, dx, _, _, rfl, Sb _ _ hp, T.cl, T.nDo, rfl, _, rfl, p, C, dx, _, _, rfl, Sb _ _ hp, T.cl, T.nRo, rfl, (by show 5 ≤ sizeLine; decide), fun t ht => ?_⟩
    have St := Same.new (o := .tup [.int (st.ms k).term, .int (st.ms k).of, .ref b, .int (st.ms k).done, .str (roleS (st.ms k).role)]) ht
    have att : upd H1 t (.tup [.int (st.ms k).term, .int (st.ms k).of, .ref b, .int (st.ms k).done, .str (roleS (st.ms k).role)]) t = some (.tup [.int (st.ms k).term, .int (st.ms k).of, .ref b, .int (st.ms k).done, .str (roleS (st.ms k).role)]) := upd_same
    generalize upd H1 t (.tup [.int (st.ms k).term, .int (st.ms k).of, .ref b, .int (st.ms k).done, .str (roleS (st.ms k).role)]) = H2 at St att ⊢
    refine ⟨(by show 5 ≤ sizeLine; decide), fun a ha => ?_⟩
    have Sa := Same.new (o := .tup [.int k, dv, wv, tv, .ref t]) ha
    have ata : upd H2 a (.tup [.int k, dv, wv, tv, .ref t]) a = some (.tup [.int k, dv, wv, tv, .ref t]) := upd_same
    generalize upd H2 a (.tup [.int k, dv, wv, tv, .ref t]) = H3 at Sa ata ⊢
    have S03 := (Sb.trans St).trans Sa
    have hlen : ys.length < sizeLine := by
      rw [hys.length]
      exact Nat.lt_of_le_of_lt hsl (by decide)
    refine ⟨A.sl, ys, _, rfl, rfl, S03 _ _ hs, hlen, ?_⟩
    have hrow : ∀ own', (∀ b o, H b = some o → NT o → own' b = own b) → RowAt own' H3 (.ref a) (rowOf k told (st.ms k)) := fun own' ho =>
      ⟨a, t, b, dv, wv, tv, ls, rfl, ata, (hto.stp (own' := own') (H' := H3) (ch := fun _ => False) ⟨fun b o h _ _ => S03 _ _ h, ho, Kp.same S03, Dom.same S03⟩ fun z => z), Sa _ _ att, Sa _ _ (St _ _ atb), hlr.kp (Kp.same S03)⟩
    obtain ⟨W4, P4⟩ := W.note S03 hn hs hys hrow
    generalize upd H3 A.sl (.lst (ys ++ [V.ref a])) = H4 at W4 P4 ⊢
    generalize ownN own H (fun _ => 102) = own4 at W4 P4
    refine ⟨_, rfl, _, rfl, ?_⟩
    cases told with
    | none =>
      obtain rfl : tv = .non := hto
      refine iteD (by decide +kernel) ?_
      exact hq own4 H4 A W4 rfl (P4.mono fun c z => by show c < 104; rw [show c = 103 from z]; decide)
    | some ms =>
      obtain ⟨q, zs, rfl, oq, hqz, hzm⟩ := id hto
      refine iteE (by simp) ?_
      have hq4 : H4 q = some (.lst zs) := P4.keep _ _ hqz nt_lst (by rw [oq]; decide)
      obtain ⟨ws4, hw4, hwm4⟩ := W4.wl
      have l1 : ws4.length + zs.length ≤ sizeLine := by
        rw [hwm4.length, hzm.length]
        have h1 : st.way.length ≤ 1000 := hwl
        have h2 : ms.length ≤ 1000 := htl
        exact Nat.le_trans (Nat.add_le_add h1 h2) (by decide)
      refine ⟨_, rfl, A.wd, .ref A.wl, rfl, DGet.k (k := Sum.inr "way") W4.wd, _, rfl, A.wl, q, ws4, zs, rfl, rfl, hw4, hq4, l1, fun q1 hq1 => ⟨60, rfl, _, rfl, q1, _, rfl, SqL.of upd_same, fun q2 hq2 => ?_⟩⟩
      have S5 := Same.new (o := .lst (ws4 ++ zs)) hq1
      rw [cut60]
      have S6 := Same.new (o := .lst (last60 (ws4 ++ zs))) hq2
      have at6 : upd (upd H4 q1 (.lst (ws4 ++ zs))) q2 (.lst (last60 (ws4 ++ zs))) q2 = some (.lst (last60 (ws4 ++ zs))) := upd_same
      have S46 := S5.trans S6
      generalize upd (upd H4 q1 (.lst (ws4 ++ zs))) q2 (.lst (last60 (ws4 ++ zs))) = H6 at S46 at6 ⊢
      have wd6 := S46 _ _ W4.wd
      refine ⟨_, rfl, A.wd, _, rfl, DPut.k (k := Sum.inr "way") wd6 (by show 4 < sizeLine; decide), ?_⟩
      have hcat : MsgsAt H4 (ws4 ++ zs) (st.way ++ ms) := Paired.app hwm4 (hzm.kp P4.kp)
      have hl60 : MsgsAt H6 (last60 (ws4 ++ zs)) (last60 (st.way ++ ms)) := by
        unfold last60
        rw [show (ws4 ++ zs).length = (st.way ++ ms).length from hcat.length]
        exact Paired.drop _ (hcat.kp (Kp.same S46))
      obtain ⟨W7, P7⟩ := W4.way S46 hn (r' := st.r) at6 hl60 (.inr (Fre.of (S5.free hq2)))
      refine hq _ _ { A with wl := q2 } W7 rfl ((P4.mono fun c z => by show c < 104; rw [show c = 103 from z]; decide).trans (P7.mono fun c z => by show c < 104; rw [show c = 100 from z]; decide))
end
end K85
namespace K85
open PySem L2
theorem Paired.cut {β : Type} {F : V → β → Prop} {xs : List V} {ys : List β} (h : Paired F xs ys) (lo hi : Option Int) : Paired F (cutV xs lo hi) ((ys.drop (HT.sIx ys.length 0 lo)).take (HT.sIx ys.length ys.length hi - HT.sIx ys.length 0 lo)) := by
  unfold cutV
  rw [show xs.length = ys.length from Paired.length h]
  exact Paired.take _ (Paired.drop _ h)
theorem MsgAt.head {H : Hp} {x : V} {msg : Msg} (h : MsgAt H x msg) : ∃ (a : Addr) (w : Str) (s t : Nat) (rest : List V), x = .ref a ∧ H a = some (.tup (.str w :: .int s :: .int msg.dst :: .int t :: rest)) := by
  cases msg with
  | stand s d t =>
    obtain ⟨a, e, h⟩ := h
    exact ⟨a, _, s, t, _, e, h⟩
  | voice s d t o lg =>
    obtain ⟨a, b, xs, e, h, _⟩ := h
    exact ⟨a, _, s, t, _, e, h⟩
  | keep s d t rows sure =>
    obtain ⟨a, b, xs, e, h, _⟩ := h
    exact ⟨a, _, s, t, _, e, h⟩
  | kept s d t size =>
    obtain ⟨a, e, h⟩ := h
    exact ⟨a, _, s, t, _, e, h⟩
theorem setM_at (ms : Nat → Ms) (k : Nat) (m : Ms) : setM ms k m k = m := if_pos rfl
abbrev sHeard : Stmt := top 12
def spHeard (C PT : Addr) : Sp := fun vs H Q _ => ∃ (n : Nat) (own : Addr → Nat) (A : Ad) (st : WS) (k : Nat) (stays : Bool), vs = [.ref A.wd, .int k, .bl stays] ∧ WAt C PT n own H A st ∧ Good n st ∧ n ≤ 90 ∧ k < st.way.length ∧ st.way.length ≤ 60 ∧ st.story.length ≤ 9000 ∧
  ∀ (own' : Addr → Nat) (H' : Hp) (A' : Ad) (st' : WS), WAt C PT n own' H' A' st' → A'.wd = A.wd → Stp own own' H H' (fun c => c < 104) → Good n st' → st'.story.length = st.story.length + 1 → st'.way.length ≤ 60 → Q .non H'
section
variable {P : Program} {w : World} {K : PySem.W.Frag} {mg : Str → Option Value} {base : Heap} {C PT c : Addr}
theorem scHeard : FnScope ["_law_world", "_law_k", "_law_stays", "_law_message"] ["_law_world", "_law_k", "_law_stays"] (defScope sHeard) := ⟨rfl, rfl, rfl, by decide +kernel, rfl, by decide +kernel, by decide +kernel⟩
theorem ok_heard {f : Addr} {fd : FuncData} (F : Fun K "_law_heard" "_law_heard" sHeard f fd) (T : Txt K mg C) (DN : DefT P w K mg base 1 "_law_note" ["_law_world", "_law_m", "_law_deed", "_law_what", "_law_told"] (spNote C PT))
    (MH : MetT P w K mg base C 5 "hear" ["self", "message"] (spHear C PT)) : FnOk P w K mg base CX0 6 f fd ["_law_world", "_law_k", "_law_stays"] (spHeard C PT) := by
  obtain ⟨fN, fdN, GN, mN, kN, bN⟩ := DN.ex
  obtain ⟨fH, fdH, GH, mH, bH⟩ := MH.ex
  refine F.ok scHeard (fun vs H Q E h => ?_) (fun cdv Ar outer sh H vs Q E hr h => ?_)
  · obtain ⟨n, own, A, st, k, stays, rfl, _⟩ := h
    rfl
  · obtain ⟨n, own, A, st, k, stays, rfl, W, G, hn, hk, hwl, hsl, hq⟩ := h
    have hu := hu_of hr
    obtain ⟨ws, hw, hwm⟩ := W.wl
    refine ⟨_, pss_cons (ps_set (i := 3) scHeard.nd rfl (.inl rfl) (pe_ix ix_list (pe_dget hu (pv 0) pe_str (fun _ _ => rfl)) (pv 1) (fun _ _ => rfl)))
      (C8.pss_cut (ps_if (pt_not (pt_val (pv 2))) (pss_one (ps_dput hu (pv 0) pe_str (pe_op op_cat (pe_slice sl_list (pe_dget hu (pv 0) pe_str (fun _ _ => rfl)) po_none (po_some (pv 1))) (pe_slice sl_list (pe_dget hu (pv 0) pe_str (fun _ _ => rfl)) (po_some (pe_op op_add (pv 1) pe_int)) po_none)) rfl)) pss_nil)
      (pss_one (ps_expr (pe_call GN (hr.mono (by decide)) rfl mN kN bN .nil pass0 (pa_cons (pv 0) (pa_cons (pe_ix ix_tup (pv 3) pe_int (fun _ _ => rfl)) (pa_cons pe_str (pa_cons (pv 3)
        (pa_cons (pe_meth (pe_ix ix_list (pe_dget hu (pv 0) pe_str (fun _ _ => rfl)) (pe_ix ix_tup (pv 3) pe_int (fun _ _ => rfl)) (fun _ _ => rfl)) T.cl mH GH hr bH .nil pass0 (pa_cons (pv 3) pa_nil)) pa_nil))))))))), ?_⟩
    have hmk : st.way[k]? = some st.way[k] := List.getElem?_eq_getElem hk
    obtain ⟨x, hx, hxm⟩ := Paired.get2 hwm hmk
    have hmem : st.way[k] ∈ st.way := List.getElem_mem hk
    generalize st.way[k] = msg at hmk hxm hmem
    refine ⟨_, rfl, A.wd, .ref A.wl, rfl, DGet.k (k := Sum.inr "way") W.wd, _, rfl, A.wl, _, _, x, rfl, rfl, SqL.of hw, atI_nat hx, ?_⟩
    refine ⟨fun σ H1 => ∃ (own1 : Addr → Nat) (A1 : Ad) (way1 : List Msg), σ = [some (.ref A.wd), some (.int k), some (.bl stays), some x] ∧ WAt C PT n own1 H1 A1 { st with way := way1 } ∧ A1.wd = A.wd ∧ Stp own own1 H H1 (fun c => c < 104) ∧ (∀ y ∈ way1, y ∈ st.way) ∧ way1.length ≤ 60, ?_, ?_⟩
    · refine ⟨_, rfl, stays, rfl, ?_⟩
      cases stays with
      | true => exact iteF ⟨own, A, st.way, rfl, W, rfl, Stp.refl _ _ _, fun y hy => hy, hwl⟩
      | false =>
        refine iteT ?_
        refine ⟨_, rfl, A.wd, .ref A.wl, rfl, DGet.k (k := Sum.inr "way") W.wd, _, rfl, k, rfl, A.wl, ws, rfl, SqL.of hw, fun q1 hq1 => ?_⟩
        have S1 := Same.new (o := .lst (cutV ws none (some (k : Int)))) hq1
        have at1 : upd H q1 (.lst (cutV ws none (some (k : Int)))) q1 = some (.lst (cutV ws none (some (k : Int)))) := upd_same
        generalize upd H q1 (.lst (cutV ws none (some (k : Int)))) = H1 at S1 at1 ⊢
        refine ⟨_, rfl, A.wd, .ref A.wl, rfl, DGet.k (k := Sum.inr "way") (S1 _ _ W.wd), _, rfl, _, _, rfl, rfl, _, rfl, A.wl, ws, rfl, SqL.of (S1 _ _ hw), fun q2 hq2 => ?_⟩
        have S2 := Same.new (o := .lst (cutV ws (some ((k : Int) + 1)) none)) hq2
        have at2 : upd H1 q2 (.lst (cutV ws (some ((k : Int) + 1)) none)) q2 = some (.lst (cutV ws (some ((k : Int) + 1)) none)) := upd_same
        generalize upd H1 q2 (.lst (cutV ws (some ((k : Int) + 1)) none)) = H2 at S2 at2 ⊢
        have p1 := Paired.cut hwm none (some (k : Int))
        have p2 := Paired.cut hwm (some ((k : Int) + 1)) none
        have pc := Paired.app p1 p2
        rw [show ((k : Int) + 1) = ((k + 1 : Nat) : Int) from rfl, HT.sIx_nat, HT.sIx_nat, HT.sIx_none, HT.sIx_none] at pc
        have l0 : (cutV ws none (some (k : Int))).length + (cutV ws (some ((k : Int) + 1)) none).length ≤ sizeLine := by
          have a1 := cutV_length ws none (some (k : Int))
          have a2 := cutV_length ws (some ((k : Int) + 1)) none
          have a3 : ws.length = st.way.length := hwm.length
          exact Nat.le_trans (show _ ≤ 120 by omega) (by decide)
        refine ⟨q1, q2, _, _, rfl, rfl, S2 _ _ at1, at2, l0, fun q3 hq3 => ?_⟩
        have S3 := Same.new (o := .lst (cutV ws none (some (k : Int)) ++ cutV ws (some ((k : Int) + 1)) none)) hq3
        have at3 : upd H2 q3 (.lst (cutV ws none (some (k : Int)) ++ cutV ws (some ((k : Int) + 1)) none)) q3 = some (.lst (cutV ws none (some (k : Int)) ++ cutV ws (some ((k : Int) + 1)) none)) := upd_same
        generalize upd H2 q3 (.lst (cutV ws none (some (k : Int)) ++ cutV ws (some ((k : Int) + 1)) none)) = H3 at S3 at3 ⊢
        have S03 := (S1.trans S2).trans S3
        refine ⟨_, rfl, A.wd, _, rfl, DPut.k (k := Sum.inr "way") (S03 _ _ W.wd) (by show 4 < sizeLine; decide), ?_⟩
        obtain ⟨W3, P3⟩ := W.way S03 (by omega) (r' := st.r) at3 (MsgsAt.kp (Kp.same S03) pc) (.inr (Fre.of ((S1.trans S2).free hq3)))
        refine ⟨_, { A with wl := q3 }, _, rfl, W3, rfl, P3.mono fun c z => by show c < 104; rw [show c = 100 from z]; decide, fun y hy => ?_, ?_⟩
        · rcases List.mem_append.mp hy with z | z
          · exact List.mem_of_mem_drop (List.mem_of_mem_take z)
          · exact List.mem_of_mem_drop (List.mem_of_mem_take z)
        · simp only [List.length_append, List.length_take, List.length_drop]
          omega
    · rintro σ H1 ⟨own1, A1, way1, rfl, W1, eA, P1, hway, hlen1⟩
      have hxm1 := hxm.kp P1.kp
      obtain ⟨a, wd0, s0, t0, rest, rfl, ha⟩ := hxm1.head
      have hd : msg.dst < n := G.dst hmem
      have hkp : A1.ps[msg.dst]? = some (A1.ps[msg.dst]'(by rw [W1.len]; exact hd)) := List.getElem?_eq_getElem _
      obtain ⟨o1, l, v, s, o2, o3, o4, M⟩ := W1.ma msg.dst _ hkp
      generalize A1.ps[msg.dst]'(by rw [W1.len]; exact hd) = p at hkp o1 M
      obtain ⟨dx, hp⟩ := id M.ob
      have z1 := (G.sizes hd).2.1
      have z2 := (G.sizes hd).2.2
      have wd1 := W1.wd
      rw [eA] at wd1
      refine ⟨_, rfl, _, rfl, a, _, _, _, rfl, rfl, SqT.of ha, atI_nat (j := 2) rfl, _, rfl, _, rfl, A.wd, .ref A1.ml, rfl, DGet.k (k := Sum.inr "masters") wd1, _, rfl, a, _, _, _, rfl, rfl, SqT.of ha, atI_nat (j := 2) rfl,
        A1.ml, _, _, .ref p, rfl, rfl, SqL.of W1.ml, atI_nat (by rw [List.getElem?_map, hkp]; rfl), p, dx, _, rfl, hp, rfl, _, rfl, n, msg.dst, p, l, v, s, st.ms msg.dst, .ref a, msg, rfl, hxm1, M, W1.tab, fun e => Nat.le_trans (z1 e) (by omega), fun e => Nat.le_trans (z2 e) (by omega), fun m' told H3 l' v' s' q qs hrel B fq nql atq hms => ?_⟩
      obtain ⟨ls', hl', _⟩ := B.at_.log
      obtain ⟨kvs', hv', _⟩ := B.at_.vo
      have nqv : v' ≠ q := ne_of hv' atq fun z => by cases z
      have nqs : s' ≠ q := ne_of B.at_.si atq fun z => by cases z
      obtain ⟨W3, P3⟩ := W1.deed (f := fun b => if b = q then 105 else msg.dst) (by omega) hkp o2 o3 o4 M B (fun _ => if_neg nql.symm) (fun _ => if_neg nqv) (fun _ => if_neg nqs)
      have hto : ToldAt (ownN own1 H1 fun b => if b = q then 105 else msg.dst) H3 (.ref q) (some told) := ⟨q, qs, rfl, by rw [ownN_new fq]; exact if_pos rfl, atq, hms⟩
      have D : ∀ ev : Msg → Prop, (∀ y ∈ st.way, ev y) → DeedE n msg.dst ev (st.ms msg.dst) m' (some told) := fun ev hev => .hear msg m' told (hev msg hmem) rfl hrel
      have tl := deed_told (D (fun _ => True) fun _ _ => trivial)
      refine ⟨n, _, A1, _, msg.dst, .str "hear", .ref a, .ref q, some told, by rw [eA]; rfl, W3, hd, by omega, Nat.le_trans hsl (by decide), Nat.le_trans hlen1 (by decide), hto, Nat.le_trans tl (by omega), fun own4 H4 A4 W4 e4 P4 => ?_⟩
      have W4 : WAt C PT n own4 H4 A4 ⟨setM st.ms msg.dst m', nextWay way1 (some told), st.story ++ [rowOf msg.dst (some told) (setM st.ms msg.dst m' msg.dst)], st.r⟩ := W4
      rw [setM_at] at W4
      refine hq own4 H4 A4 _ W4 (e4.trans eA) ((P1.trans (P3.mono fun c z => by show c < 104; rw [show c = msg.dst from z]; omega)).trans P4) (G.deed hd D fun y hy => ?_) ?_ (nextWay_len (told := some told) hlen1)
      · rcases nextWay_mem hy with z | z
        · exact .inl (hway y z)
        · exact .inr z
      · show (st.story ++ [_]).length = _
        rw [List.length_append]
        rfl
end
end K85
namespace K85
open PySem L2
/-- the law's world and its draws stand, since (own0, H0) -/
structure CIx (C PT : Addr) (n : Nat) (own0 : Addr → Nat) (H0 : Hp) (wd lf : Addr) (b : Nat) (own : Addr → Nat) (A : Ad) (st : WS) (zs : List Int) (H : Hp) : Prop where
  W : WAt C PT n own H A st
  wd_ : A.wd = wd
  G : Good n st
  S : Stp own0 own H0 H (fun c => c ≤ 104)
  lf_ : H lf = some (.lst (zs.map V.int))
  olf : own lf = 104
  D : Dr zs
  sl : st.story.length ≤ b
  wl : st.way.length ≤ 60
def CI (C PT : Addr) (n : Nat) (own0 : Addr → Nat) (H0 : Hp) (wd lf : Addr) (b : Nat) (H : Hp) : Prop := ∃ own A st zs, CIx C PT n own0 H0 wd lf b own A st zs H
section
variable {C PT : Addr} {n : Nat} {own0 own own' : Addr → Nat} {H0 H H' : Hp} {wd lf : Addr} {b b' : Nat} {A A' : Ad} {st st' : WS} {zs zs' : List Int}
theorem CIx.pick (c : CIx C PT n own0 H0 wd lf b own A st zs H) (hn : n ≤ 90) (D' : Dr zs') : CIx C PT n own0 H0 wd lf b own A st zs' (upd H lf (.lst (zs'.map V.int))) := by
  have a : Stp own own H (upd H lf (.lst (zs'.map V.int))) (fun c => c = 104) := by
    refine ⟨fun x o h _ hc => ?_, fun _ _ _ _ => rfl, Kp.mut c.lf_ fun z => z, Dom.upd _ _ _ nt_lst⟩
    rw [upd_ne fun e => hc (by rw [e]; exact c.olf)]
    exact h
  have hT : Tab (upd H lf (.lst (zs'.map V.int))) PT := c.W.tab.kp a.kp fun o ho => by
    rw [upd_ne (c.W.tab.ne c.lf_ nt_lst).symm]
    exact ho
  exact ⟨c.W.stp a (fun k z => by have z : k = 104 := z; omega) (by omega) hT, c.wd_, c.G, c.S.trans (a.mono fun k z => by show k ≤ 104; rw [show k = 104 from z]; decide), upd_same, c.olf, D', c.sl, c.wl⟩
theorem CIx.step (c : CIx C PT n own0 H0 wd lf b own A st zs H) (W : WAt C PT n own' H' A' st') (e : A'.wd = A.wd) (P : Stp own own' H H' (fun c => c < 104)) (G : Good n st') (hs : st'.story.length ≤ b') (hw : st'.way.length ≤ 60) : CIx C PT n own0 H0 wd lf b' own' A' st' zs H' :=
  ⟨W, e.trans c.wd_, G, c.S.trans (P.mono fun k z => Nat.le_of_lt z), P.keep _ _ c.lf_ nt_lst (by rw [c.olf]; decide), (P.own_ _ _ c.lf_ nt_lst).trans c.olf, c.D, hs, hw⟩
theorem CIx.mono (c : CIx C PT n own0 H0 wd lf b own A st zs H) (h : b ≤ b') : CIx C PT n own0 H0 wd lf b' own A st zs H := ⟨c.W, c.wd_, c.G, c.S, c.lf_, c.olf, c.D, Nat.le_trans c.sl h, c.wl⟩
theorem CI.mono (c : CI C PT n own0 H0 wd lf b H) (h : b ≤ b') : CI C PT n own0 H0 wd lf b' H := by
  obtain ⟨own, A, st, zs, c⟩ := c
  exact ⟨own, A, st, zs, c.mono h⟩
/-- new things -/
theorem CIx.same (c : CIx C PT n own0 H0 wd lf b own A st zs H) (hn : n ≤ 90) (S : Same H H') : CIx C PT n own0 H0 wd lf b (ownN own H fun _ => 105) A st zs H' := by
  have a : Stp own (ownN own H fun _ => 105) H H' (fun _ => False) := Stp.same _ _ S
  exact ⟨c.W.stp a (fun _ z => z.elim) (by omega) (c.W.tab.same S), c.wd_, c.G, c.S.trans (a.mono fun _ z => z.elim), S _ _ c.lf_, (ownN_old c.lf_ nt_lst).trans c.olf, c.D, c.sl, c.wl⟩
end
abbrev sCarried : Stmt := top 13
def spCarried (C PT : Addr) : Sp := fun vs H Q _ => ∃ (n : Nat) (own0 : Addr → Nat) (H0 : Hp) (wd lf wt : Addr) (b : Nat) (w1 w2 : Str) (whole : Bool), vs = [.ref wd, .ref lf, .ref wt, .bl whole] ∧ CI C PT n own0 H0 wd lf b H ∧ n ≤ 90 ∧ b ≤ 8000 ∧ H wt = some (.tup [.str w1, .str w2]) ∧
  ∀ H', CI C PT n own0 H0 wd lf (b + 120) H' → Q .non H'
section
variable {P : Program} {w : World} {K : PySem.W.Frag} {mg : Str → Option Value} {base : Heap} {C PT c : Addr}
theorem scCarried : FnScope ["_law_world", "_law_left_here", "_law_words", "_law_whole", "_law_turn", "_law_k", "_law_turned"] ["_law_world", "_law_left_here", "_law_words", "_law_whole"] (defScope sCarried) := ⟨rfl, rfl, rfl, by decide +kernel, rfl, by decide +kernel, by decide +kernel⟩
theorem ok_carried {f : Addr} {fd : FuncData} (F : Fun K "_law_carried" "_law_carried" sCarried f fd) (T : Txt K mg C) (DP : DefT P w K mg base 1 "_law_pick" ["_law_left_here", "_law_many"] spPick) (DH : DefT P w K mg base 6 "_law_heard" ["_law_world", "_law_k", "_law_stays"] (spHeard C PT)) :
    FnOk P w K mg base CX0 7 f fd ["_law_world", "_law_left_here", "_law_words", "_law_whole"] (spCarried C PT) := by
  obtain ⟨fP, fdP, GP, mP, kP, bP⟩ := DP.ex
  obtain ⟨fH, fdH, GH, mH, kH, bH⟩ := DH.ex
  refine F.ok scCarried (fun vs H Q E h => ?_) (fun cdv Ar outer sh H vs Q E hr h => ?_)
  · obtain ⟨n, own0, H0, wd, lf, wt, b, w1, w2, whole, rfl, _⟩ := h
    rfl
  · obtain ⟨n, own0, H0, wd, lf, wt, b, w1, w2, whole, rfl, c0, hn, hb, hwt, hq⟩ := h
    have hu := hu_of hr
    refine ⟨_, pss_one (ps_for PassesOwn.never rfl (pi_range1 rfl T.range (pa_cons pe_int pa_nil)) (pg_name (i := 4) scCarried.nd rfl (.inl rfl))
      (pss_cons (ps_set (i := 5) scCarried.nd rfl (.inl rfl) pe_int)
      (pss_one (ps_for PassesOwn.never rfl (pi_range1 rfl T.range (pa_cons (pe_callB call_len_seq (by rfl) T.len PySem.boot_len (pa_cons (pe_dget hu (pv 0) pe_str (fun _ _ => rfl)) pa_nil)) pa_nil)) (pg_name (i := 6) scCarried.nd rfl (.inl rfl))
        (pss_one (ps_if (PW.pt (pw_and (pt_cmpR op_lt (pv 5) (pe_callB call_len_seq (by rfl) T.len PySem.boot_len (pa_cons (pe_dget hu (pv 0) pe_str (fun _ _ => rfl)) pa_nil)) (nomark _))
            (pw_and (pt_cmpR op_in_seq (pe_ix ix_tup (pe_ix ix_list (pe_dget hu (pv 0) pe_str (fun _ _ => rfl)) (pv 5) (fun _ _ => rfl)) pe_int (fun _ _ => rfl)) (pv 2) (by rfl))
            (pw_and1 (PW.pt (pw_or (pt_val (pv 3)) (pw_or1 (pt_cmpR op_gt (pe_call GP (hr.mono (by decide)) rfl mP kP bP .nil pass0 (pa_cons (pv 1) (pa_cons pe_int pa_nil))) pe_int (nomark _)))))))))
          (pss_one (ps_expr (pe_call GH hr rfl mH kH bH .nil pass0 (pa_cons (pv 0) (pa_cons (pv 5) (pa_cons pe_bl pa_nil))))))
          (pss_one (ps_set (i := 5) scCarried.nd rfl (.inl rfl) (pe_op op_add (pv 5) pe_int))))))))), ?_⟩
    have wtk : ∀ H1, Kp H H1 → H1 wt = some (.tup [.str w1, .str w2]) := fun H1 k => k _ _ hwt trivial
    refine ⟨2, rfl, by decide, by decide, for_range (n := 2) (fun i σ H1 => ∃ v4 v5 v6 : Option V, σ = [some (.ref wd), some (.ref lf), some (.ref wt), some (.bl whole), v4, v5, v6] ∧ H1 wt = some (.tup [.str w1, .str w2]) ∧ CI C PT n own0 H0 wd lf (b + 60 * i) H1)
      ⟨none, none, none, rfl, hwt, c0⟩ ?_ ?_⟩
    · rintro i σ H1 hi ⟨v4, v5, v6, rfl, hwt1, c1⟩
      obtain ⟨own1, A1, st1, zs1, c1⟩ := c1
      obtain ⟨ws, hw, hwm⟩ := c1.W.wl
      have wd1 := c1.W.wd
      rw [c1.wd_] at wd1
      have hwlen : ws.length = st1.way.length := hwm.length
      have wl1 := c1.wl
      refine ⟨_, rfl, wd, .ref A1.wl, rfl, DGet.k (k := Sum.inr "way") wd1, A1.wl, ws, rfl, .inl (SqL.of hw), _, rfl, by omega, by omega, for_range (n := ((ws.length : Nat) : Int).toNat) (fun j σ H2 => ∃ (v4 v6 : Option V) (kk : Nat), σ = [some (.ref wd), some (.ref lf), some (.ref wt), some (.bl whole), v4, some (.int kk), v6] ∧ H2 wt = some (.tup [.str w1, .str w2]) ∧ CI C PT n own0 H0 wd lf (b + 60 * i + j) H2)
        ⟨_, _, 0, rfl, hwt1, own1, A1, st1, zs1, c1⟩ ?_ ?_⟩
      · rintro j σ H2 hj ⟨v4, v6, kk, rfl, hwt2, own2, A2, st2, zs2, c2⟩
        have hj60 : j < 60 := by
          have : j < ws.length := by simpa using hj
          omega
        obtain ⟨ws2, hw2, hwm2⟩ := c2.W.wl
        have wd2 := c2.W.wd
        rw [c2.wd_] at wd2
        -- k goes on
        have inc : ∀ (H3 : Hp), H3 wt = some (.tup [.str w1, .str w2]) → CI C PT n own0 H0 wd lf (b + 60 * i + j) H3 → ∀ v6' : Option V, ∃ (v4' v6'' : Option V) (kk' : Nat), ([some (.ref wd), some (.ref lf), some (.ref wt), some (.bl whole), v4, some (.int ((kk : Int) + 1)), v6'] : L2.St) = [some (.ref wd), some (.ref lf), some (.ref wt), some (.bl whole), v4', some (.int kk'), v6''] ∧
            H3 wt = some (.tup [.str w1, .str w2]) ∧ CI C PT n own0 H0 wd lf (b + 60 * i + (j + 1)) H3 := fun H3 h1 h2 v6' => ⟨v4, v6', kk + 1, rfl, h1, h2.mono (by omega)⟩
        refine ⟨_, rfl, _, rfl, wd, .ref A2.wl, rfl, DGet.k (k := Sum.inr "way") wd2, A2.wl, ws2, rfl, .inl (SqL.of hw2), _, _, rfl, rfl, _, rfl, ?_⟩
        refine ite2 (fun h1 => ?_) (fun h1 => ?_)
        · have hkk : kk < st2.way.length := by
            have z : (kk : Int) < ((ws2.length : Nat) : Int) := of_decide_eq_true h1
            rw [show ws2.length = st2.way.length from hwm2.length] at z
            omega
          obtain ⟨x, hx, hxm⟩ := Paired.get2 hwm2 (List.getElem?_eq_getElem hkk)
          obtain ⟨a, wd0, s0, t0, rest, rfl, ha⟩ := hxm.head
          refine ⟨_, rfl, wd, .ref A2.wl, rfl, DGet.k (k := Sum.inr "way") wd2, _, rfl, A2.wl, _, _, .ref a, rfl, rfl, SqL.of hw2, atI_nat hx, a, _, _, .str wd0, rfl, rfl, SqT.of ha, atI_nat (j := 0) rfl, _, rfl, wt, _, rfl, .inr (SqT.of hwt2), rfl, rfl, _, rfl, ?_⟩
          refine ite2 (fun h2 => ?_) (fun h2 => ?_)
          · refine ⟨_, rfl, whole, rfl, ?_⟩
            cases whole with
            | true =>
              refine iteT (iteT ?_)
              have s2 := c2.sl
              exact ⟨_, rfl, _, rfl, n, own2, A2, st2, kk, false, by rw [c2.wd_]; rfl, c2.W, c2.G, hn, hkk, c2.wl, by omega, fun own4 H4 A4 st4 W4 e4 P4 G4 hs4 hw4 => ⟨_, _, kk, rfl, P4.kp _ _ hwt2 trivial, own4, A4, st4, zs2, c2.step W4 e4 P4 G4 (by omega) hw4⟩⟩
            | false =>
              refine iteF ?_
              refine ⟨_, rfl, lf, zs2, 4, rfl, c2.lf_, c2.D, by decide, by decide, fun d zs3 _ _ D3 => ?_⟩
              have c3 := c2.pick hn D3
              have h3 : upd H2 lf (.lst (zs3.map V.int)) wt = some (.tup [.str w1, .str w2]) := (Kp.mut c2.lf_ fun z => z) _ _ hwt2 trivial
              refine ⟨_, _, rfl, rfl, _, rfl, ?_⟩
              refine ite2 (fun h3' => ?_) (fun h3' => ?_)
              · have s2 := c2.sl
                exact ⟨_, rfl, _, rfl, n, own2, A2, st2, kk, false, by rw [c2.wd_]; rfl, c3.W, c3.G, hn, hkk, c3.wl, by omega, fun own4 H4 A4 st4 W4 e4 P4 G4 hs4 hw4 => ⟨_, _, kk, rfl, P4.kp _ _ h3 trivial, own4, A4, st4, zs3, c3.step W4 e4 P4 G4 (by omega) hw4⟩⟩
              · exact ⟨_, rfl, _, _, rfl, rfl, inc _ h3 ⟨own2, A2, st2, zs3, c3⟩ _⟩
          · refine iteF ?_
            exact ⟨_, rfl, _, _, rfl, rfl, inc _ hwt2 ⟨own2, A2, st2, zs2, c2⟩ _⟩
        · refine iteF ?_
          exact ⟨_, rfl, _, _, rfl, rfl, inc _ hwt2 ⟨own2, A2, st2, zs2, c2⟩ _⟩
      · rintro σ H2 ⟨v4, v6, kk, rfl, hwt2, c2⟩
        refine ⟨_, _, _, rfl, hwt2, c2.mono ?_⟩
        rw [Int.toNat_natCast]
        omega
    · rintro σ H1 ⟨v4, v5, v6, rfl, hwt1, c1⟩
      exact hq H1 c1
end
end K85
namespace K85
open PySem L2
/-! ### plain data -/
def PlD (d : PyData) : Prop := d.canLay0 = true ∧ d.depth ≤ 5
theorem pld_depth : ∀ ds : List PyData, (∀ d ∈ ds, PlD d) → PyData.depthAll ds ≤ 6 ∧ PyData.canLayAll0 ds = true
  | [], _ => by simp [PyData.depthAll, PyData.canLayAll0]
  | d :: ds, h => by
    obtain ⟨h1, h2⟩ := h d List.mem_cons_self
    obtain ⟨i1, i2⟩ := pld_depth ds fun x hx => h x (List.mem_cons_of_mem _ hx)
    simp [PyData.depthAll, PyData.canLayAll0, h1, i2]
    omega
theorem shaped_list (ds : List PyData) (h : ∀ d ∈ ds, PlD d) : SeqAt.shaped (.list ds) = true := by
  obtain ⟨h1, h2⟩ := pld_depth ds h
  unfold SeqAt.shaped
  rw [Bool.and_eq_true]
  exact ⟨by simpa [PyData.canLay0] using h2, by rw [PyData.depth]; exact decide_eq_true (by omega)⟩
theorem shaped_tuple (ds : List PyData) (h : ∀ d ∈ ds, PlD d) : SeqAt.shaped (.tuple ds) = true := by
  obtain ⟨h1, h2⟩ := pld_depth ds h
  unfold SeqAt.shaped
  rw [Bool.and_eq_true]
  exact ⟨by simpa [PyData.canLay0] using h2, by rw [PyData.depth]; exact decide_eq_true (by omega)⟩
theorem pld_pair (i j : Int) : PlD (.tuple [.int i, .int j]) := by
  constructor
  · simp [PyData.canLay0, PyData.canLayAll0]
  · simp [PyData.depth, PyData.depthAll]
theorem pld_row (z : Int) : PlD (.tuple [.str "row", .int z]) := by
  constructor
  · simp [PyData.canLay0, PyData.canLayAll0]
    decide +kernel
  · simp [PyData.depth, PyData.depthAll]
abbrev sLeader : Stmt := top 14
def spLeader (C PT : Addr) : Sp := fun vs H Q _ => ∃ (n : Nat) (own0 : Addr → Nat) (H0 : Hp) (wd lf : Addr) (b : Nat), vs = [.ref wd, .ref lf] ∧ CI C PT n own0 H0 wd lf b H ∧ n ≤ 90 ∧ 0 < n ∧ ∀ (k : Nat) (H' : Hp), k < n → CI C PT n own0 H0 wd lf b H' → Q (.int k) H'
/-- a pair (term, number of a master) -/
def PairV (n : Nat) (H : Hp) (y : V) : Prop := ∃ (t : Addr) (a : Int) (k : Nat), y = .ref t ∧ H t = some (.tup [.int a, .int k]) ∧ k < n
theorem PairV.kp {n : Nat} {H H' : Hp} (k : Kp H H') {y : V} (h : PairV n H y) : PairV n H' y := by
  obtain ⟨t, a, j, e, h1, h2⟩ := h
  exact ⟨t, a, j, e, k _ _ h1 trivial, h2⟩
theorem pairs_data {K : PySem.W.Frag} {n : Nat} {H : Hp} : ∀ {ys : List V}, (∀ y ∈ ys, PairV n H y) → ∃ ds, DpAll K H ys ds ∧ (∀ d ∈ ds, PlD d) ∧ ds.length = ys.length
  | [], _ => ⟨[], .nil, (fun d hd => by cases hd), rfl⟩
  | y :: ys, h => by
    obtain ⟨ds, h1, h2, h3⟩ := pairs_data (K := K) fun z hz => h z (List.mem_cons_of_mem _ hz)
    obtain ⟨t, a, k, rfl, ht, _⟩ := h y List.mem_cons_self
    refine ⟨.tuple [.int a, .int k] :: ds, .cons (.tup (SqT.of ht) (.cons (.int a) (.cons (.int k) .nil))) h1, fun d hd => ?_, by rw [List.length_cons, List.length_cons, h3]⟩
    rcases List.mem_cons.mp hd with q | q
    · rw [q]
      exact pld_pair _ _
    · exact h2 d q
section
variable {P : Program} {w : World} {K : PySem.W.Frag} {mg : Str → Option Value} {base : Heap} {C PT c : Addr}
theorem scLeader : FnScope ["_law_world", "_law_left_here", "_law_masters", "_law_some", "_law_one"] ["_law_world", "_law_left_here"] (defScope sLeader) := ⟨rfl, rfl, rfl, by decide +kernel, rfl, by decide +kernel, by decide +kernel⟩
theorem ok_leader {f : Addr} {fd : FuncData} (F : Fun K "_law_leader" "_law_leader" sLeader f fd) (T : Txt K mg C) (DP : DefT P w K mg base 1 "_law_pick" ["_law_left_here", "_law_many"] spPick) : FnOk P w K mg base CX0 2 f fd ["_law_world", "_law_left_here"] (spLeader C PT) := by
  obtain ⟨fP, fdP, GP, mP, kP, bP⟩ := DP.ex
  refine F.ok scLeader (fun vs H Q E h => ?_) (fun cdv Ar outer sh H vs Q E hr h => ?_)
  · obtain ⟨n, own0, H0, wd, lf, b, rfl, _⟩ := h
    rfl
  · obtain ⟨n, own0, H0, wd, lf, b, rfl, ⟨own, A, st, zs, c0⟩, hn, hn0, hq⟩ := h
    have hu := hu_of hr
    have wd1 := c0.W.wd
    rw [c0.wd_] at wd1
    refine ⟨_, pss_cons (ps_set (i := 2) scLeader.nd rfl (.inl rfl) (pe_dget hu (pv 0) pe_str (fun _ _ => rfl)))
      (pss_cons (ps_setLc (i := 3) (own := [("_law_one", 4)]) (g := gName 4) rfl scLeader.nd rfl rfl (sw_true rfl rfl rfl (by decide +kernel)) (pi_list (pv 2)) (blkOk_by (N := ["_law_world", "_law_left_here", "_law_masters", "_law_some", "_law_one"]) (sc := defScope sLeader) (by decide +kernel))
        (fun _ _ _ _ _ => pg_name (i := 4) scLeader.nd rfl (Or.inl rfl)) (fun _ _ _ _ _ => pts_one (pt_cmpR op_eq (pe_fldB K rfl (pv 4) rfl) pe_str (nomark _)))
        (fun _ _ _ _ _ => pe_tup (pa_cons (pe_fldB K rfl (pv 4) rfl) (pa_cons (pe_fldB K rfl (pv 4) rfl) pa_nil))))
      (pss_cons (ps_if (PW.pt (pw_or (pt_cmpR (op_eqD hr.units) (pv 3) (pe_lst pa_nil) (nomark _)) (pw_or1 (pt_cmpR op_eq (pe_call GP hr rfl mP kP bP .nil pass0 (pa_cons (pv 1) (pa_cons pe_int pa_nil))) pe_int (nomark _)))))
        (pss_one (ps_ret (pe_call GP hr rfl mP kP bP .nil pass0 (pa_cons (pv 1) (pa_cons (pe_callB call_len_seq (by rfl) T.len PySem.boot_len (pa_cons (pv 2) pa_nil)) pa_nil))))) pss_nil)
      (pss_one (ps_ret (pe_ix ix_tup (pe_callB (cr_maxP rfl hr.units) (by rfl) T.max (by decide +kernel) (pa_cons (pv 3) pa_nil)) pe_int (fun _ _ => rfl)))))), ?_⟩
    refine ⟨_, rfl, wd, .ref A.ml, rfl, DGet.k (k := Sum.inr "masters") wd1, ?_⟩
    refine ⟨_, rfl, A.ml, rfl, ⟨_, SqL.of c0.W.ml⟩, fun D hD => ?_⟩
    refine lc_list (K := K) (a := A.ml) (xs := A.ps.map V.ref) (fun i H' => Same H H' ∧ ∃ ys, H' D = some (.lst ys) ∧ (∀ y ∈ ys, PairV n H' y) ∧ ys.length ≤ i)
      ⟨Same.new hD, [], upd_same, (fun y hy => by cases hy), Nat.le_refl _⟩ (fun i H' _ ⟨S, _⟩ => S.seq (SqL.of c0.W.ml)) ?_ ?_
    · rintro i x H' hi ⟨S, ys, hys, hms, hlen⟩
      obtain ⟨p, hpi, rfl⟩ : ∃ p, A.ps[i]? = some p ∧ x = V.ref p := by
        rw [List.getElem?_map] at hi
        cases q : A.ps[i]? with
        | none => rw [q] at hi; cases hi
        | some p => rw [q] at hi; exact ⟨p, rfl, (Option.some.inj hi).symm⟩
      have hin : i < n := by
        rw [← c0.W.len]
        exact (List.getElem?_eq_some_iff.mp hpi).1
      obtain ⟨o1, l, v, s, o2, o3, o4, M⟩ := c0.W.ma i p hpi
      obtain ⟨dx, hp⟩ := M.ob
      have hp3 := S _ _ hp
      refine ⟨rfl, _, rfl, p, C, dx, _, _, rfl, hp3, T.cl, T.nRo, rfl, rfl, _, rfl, ?_⟩
      refine ite2 (fun _ => ?_) (fun _ => ⟨S, ys, hys, hms, Nat.le_succ_of_le hlen⟩)
      refine ⟨_, rfl, p, C, dx, _, _, rfl, hp3, T.cl, T.nTe, rfl, _, rfl, p, C, dx, _, _, rfl, hp3, T.cl, T.nNu, rfl, (by show 2 ≤ sizeLine; decide), fun t ht => ?_⟩
      have nDt : D ≠ t := ne_of_none hys ht
      have S' : Same H' (upd H' t (.tup [.int (st.ms i).term, .int i])) := Same.new ht
      have hyt : (upd H' t (.tup [.int (st.ms i).term, .int i])) D = some (.lst ys) := by rw [upd_ne nDt]; exact hys
      refine ⟨ys, hyt, Nat.lt_of_le_of_lt (show _ ≤ 1000 by omega) (by decide), ?_, ys ++ [.ref t], upd_same, fun y hy => ?_, by rw [List.length_append]; show _ + 1 ≤ _; omega⟩
      · intro e u hc
        rw [upd_ne (ne_of_none hc hD)]
        exact S' _ _ (S _ _ hc)
      · have K1 : Kp H' (upd (upd H' t (.tup [.int (st.ms i).term, .int i])) D (.lst (ys ++ [.ref t]))) := (Kp.same S').trans (Kp.mut hyt fun z => z)
        rcases List.mem_append.mp hy with z | z
        · exact (hms y z).kp K1
        · rw [List.mem_singleton.mp z]
          exact ⟨t, _, i, rfl, by rw [upd_ne nDt.symm]; exact upd_same, hin⟩
    · rintro H1 ⟨S, ys, hys, hms, hlen⟩
      have c1 := c0.same hn S
      generalize ownN own H (fun _ => 105) = own1 at c1
      refine ⟨_, rfl, Nat.zero_le _, fun e he => ?_⟩
      have hms2 : ∀ y ∈ ys, PairV n (upd H1 e (.lst [])) y := fun y hy => (hms y hy).kp (Kp.same (Same.new he))
      obtain ⟨ds, hds, hpl, hdl⟩ := pairs_data (K := K) hms2
      have hys2 : upd H1 e (.lst []) D = some (.lst ys) := Same.new he _ _ hys
      have c2 := c1.same hn (Same.new (o := .lst []) he)
      refine ⟨.list ds, .list [], .lst (xs := ys) (SqL.of hys2) hds, .lst (xs := []) (SqL.of upd_same) .nil, shaped_list ds hpl, shaped_list [] (fun d hd => by cases hd), _, rfl, ?_⟩
      have S2 : Same H (upd H1 e (.lst [])) := S.trans (Same.new he)
      generalize ownN own1 H1 (fun _ => 105) = own2 at c2
      generalize upd H1 e (.lst []) = H2 at c2 hms2 hys2 S2
      have ml2 : H2 A.ml = some (.lst (A.ps.map V.ref)) := S2 _ _ c0.W.ml
      have c2W := c2.lf_
      -- a draw among all
      have last : ∀ (zs3 : List Int) (H3 : Hp), H3 A.ml = some (.lst (A.ps.map V.ref)) → CIx C PT n own0 H0 wd lf b own2 A st zs3 H3 → ∀ (d : Int) (zs' : List Int), 0 ≤ d → d < ((A.ps.map V.ref).length : Nat) → Dr zs' → Q (.int d) (upd H3 lf (.lst (zs'.map V.int))) := by
        intro zs3 H3 _ c3 d zs' d0 d1 D'
        rw [List.length_map, c0.W.len] at d1
        obtain ⟨k, rfl⟩ := Int.eq_ofNat_of_zero_le d0
        exact hq k _ (by omega) ⟨own2, A, st, zs', c3.pick hn D'⟩
      have hlen2 : 0 < ((A.ps.map V.ref).length : Nat) ∧ (((A.ps.map V.ref).length : Nat) : Int) < 1000000 := by
        rw [List.length_map, c0.W.len]
        omega
      refine ite2 (fun h1 => ?_) (fun h1 => ?_)
      · refine iteT ?_
        refine ⟨_, rfl, _, rfl, A.ml, _, rfl, .inl (SqL.of ml2), lf, zs, _, rfl, c2.lf_, c2.D, by omega, by omega, fun d zs' d0 d1 D' => ?_⟩
        exact last zs H2 ml2 c2 d zs' d0 d1 D'
      · refine ⟨_, rfl, lf, zs, 8, rfl, c2.lf_, c2.D, by decide, by decide, fun d zs3 _ _ D3 => ?_⟩
        have c3 := c2.pick hn D3
        have k3 : Kp H2 (upd H2 lf (.lst (zs3.map V.int))) := Kp.mut c2.lf_ fun z => z
        have hl3 : upd H2 lf (.lst (zs3.map V.int)) A.ml = some (.lst (A.ps.map V.ref)) := c3.W.ml
        refine ⟨rfl, _, rfl, ?_⟩
        refine ite2 (fun h2 => ?_) (fun h2 => ?_)
        · exact ⟨_, rfl, _, rfl, A.ml, _, rfl, .inl (SqL.of hl3), lf, zs3, _, rfl, c3.lf_, c3.D, by omega, by omega, fun d zs' d0 d1 D' => last zs3 _ hl3 c3 d zs' d0 d1 D'⟩
        · have hys3 : upd H2 lf (.lst (zs3.map V.int)) D = some (.lst ys) := by
            rw [upd_ne (ne_of_none c0.lf_ hD).symm]
            exact hys2
          have hms3 : ∀ y ∈ ys, PairV n (upd H2 lf (.lst (zs3.map V.int))) y := fun y hy => (hms2 y hy).kp k3
          have hne : 0 < ys.length := by
            rcases Nat.eq_zero_or_pos ys.length with z | z
            · rw [z] at hdl
              rw [List.length_eq_zero_iff.mp hdl] at h1
              exact absurd (by simp [PyData.eqv, PyData.eqvAll]) h1
            · exact z
          refine ⟨_, rfl, D, ys, rfl, SqL.of hys3, hne, fun y hy => ?_, fun y hy => ?_⟩
          · obtain ⟨t, a, k, e, h1, _⟩ := hms3 y hy
            exact ⟨t, a, k, e, h1⟩
          · obtain ⟨t, a, k, rfl, ht, hk⟩ := hms3 y hy
            refine ⟨t, _, _, _, rfl, rfl, SqT.of ht, atI_nat (j := 1) rfl, ?_⟩
            exact hq k _ hk ⟨own2, A, st, zs3, c3⟩
end
end K85
namespace K85
open PySem L2
/-- a deed is done; it is noted -/
theorem CIx.noted {C PT : Addr} {n : Nat} {own0 own own3 : Addr → Nat} {H0 H H3 : Hp} {wd lf : Addr} {b k : Nat} {A : Ad} {st : WS} {zs : List Int} {m' : Ms} {told : Option (List Msg)}
    (c : CIx C PT n own0 H0 wd lf b own A st zs H) (hn : n ≤ 90) (hb : b ≤ 9000) (hk : k < n) (W3 : WAt C PT n own3 H3 A { st with ms := setM st.ms k m' }) (P3 : Stp own own3 H H3 (fun c => c = k))
    (D : ∀ ev : Msg → Prop, (∀ y ∈ st.way, ev y) → DeedE n k ev (st.ms k) m' told) :
    ∃ stx : WS, WAt C PT n own3 H3 A stx ∧ stx.story.length ≤ 10000 ∧ stx.way.length ≤ 1000 ∧ (told.getD []).length ≤ 1000 ∧
      ∀ own4 H4 A4, WAt C PT n own4 H4 A4 { stx with way := nextWay stx.way told, story := stx.story ++ [rowOf k told (stx.ms k)] } → A4.wd = A.wd → Stp own3 own4 H3 H4 (fun c => c < 104) → ∃ st4, CIx C PT n own0 H0 wd lf (b + 1) own4 A4 st4 zs H4 := by
  have tl := deed_told (D (fun _ => True) fun _ _ => trivial)
  have wl := c.wl
  have sl := c.sl
  refine ⟨_, W3, Nat.le_trans (show st.story.length ≤ 9000 by omega) (by decide), Nat.le_trans wl (by decide), Nat.le_trans tl (by omega), fun own4 H4 A4 W4 e4 P4 => ?_⟩
  have W4 : WAt C PT n own4 H4 A4 ⟨setM st.ms k m', nextWay st.way told, st.story ++ [rowOf k told (setM st.ms k m' k)], st.r⟩ := W4
  rw [setM_at] at W4
  have P := (P3.mono (ch' := fun c => c < 104) fun c z => by show c < 104; rw [show c = k from z]; omega).trans P4
  refine ⟨_, c.step W4 e4 P (c.G.deed hk D fun y hy => nextWay_mem hy) ?_ (nextWay_len wl)⟩
  show (st.story ++ [_]).length ≤ _
  rw [List.length_append]
  show st.story.length + 1 ≤ _
  omega
/-- where master k stands -/
theorem CIx.mast {C PT : Addr} {n : Nat} {own0 own : Addr → Nat} {H0 H : Hp} {wd lf : Addr} {b k : Nat} {A : Ad} {st : WS} {zs : List Int} (c : CIx C PT n own0 H0 wd lf b own A st zs H) (hk : k < n) :
    ∃ p l v s dx, A.ps[k]? = some p ∧ own p = k ∧ own l = k ∧ own v = k ∧ own s = k ∧ MAt C n k H p l v s (st.ms k) ∧ H p = some (.ins C dx (mf n k (st.ms k).term (st.ms k).of l (st.ms k).done (roleS (st.ms k).role) v s)) := by
  have hkp : A.ps[k]? = some (A.ps[k]'(by rw [c.W.len]; exact hk)) := List.getElem?_eq_getElem _
  obtain ⟨o1, l, v, s, o2, o3, o4, M⟩ := c.W.ma k _ hkp
  obtain ⟨dx, hp⟩ := id M.ob
  exact ⟨_, l, v, s, dx, hkp, o1, o2, o3, o4, M, hp⟩
/-- the same heap, a deed that changes nothing -/
theorem setM_id (ms : Nat → Ms) (k : Nat) : setM ms k (ms k) = ms := by
  funext j
  unfold setM
  by_cases e : j = k
  · rw [if_pos e, e]
  · rw [if_neg e]
abbrev sAdded : Stmt := top 15
def spAdded (C PT : Addr) : Sp := fun vs H Q _ => ∃ (n : Nat) (own0 : Addr → Nat) (H0 : Hp) (wd lf : Addr) (b : Nat), vs = [.ref wd, .ref lf] ∧ CI C PT n own0 H0 wd lf b H ∧ n ≤ 90 ∧ 0 < n ∧ b ≤ 8000 ∧ ∀ (H' : Hp), CI C PT n own0 H0 wd lf (b + 3) H' → Q .non H'
section
variable {P : Program} {w : World} {K : PySem.W.Frag} {mg : Str → Option Value} {base : Heap} {C PT c : Addr}
theorem scAdded : FnScope ["_law_world", "_law_left_here", "_law_m", "_law_turn", "_law_row"] ["_law_world", "_law_left_here"] (defScope sAdded) := ⟨rfl, rfl, rfl, by decide +kernel, rfl, by decide +kernel, by decide +kernel⟩
theorem ok_added {f : Addr} {fd : FuncData} (F : Fun K "_law_added" "_law_added" sAdded f fd) (T : Txt K mg C) (DP : DefT P w K mg base 1 "_law_pick" ["_law_left_here", "_law_many"] spPick) (DL : DefT P w K mg base 2 "_law_leader" ["_law_world", "_law_left_here"] (spLeader C PT))
    (DN : DefT P w K mg base 1 "_law_note" ["_law_world", "_law_m", "_law_deed", "_law_what", "_law_told"] (spNote C PT)) (MA : MetT P w K mg base C 3 "add" ["self", "row"] (spAdd C PT)) : FnOk P w K mg base CX0 4 f fd ["_law_world", "_law_left_here"] (spAdded C PT) := by
  obtain ⟨fP, fdP, GP, mP, kP, bP⟩ := DP.ex
  obtain ⟨fL, fdL, GL, mL, kL, bL⟩ := DL.ex
  obtain ⟨fN, fdN, GN, mN, kN, bN⟩ := DN.ex
  obtain ⟨fA, fdA, GA, mA, bA⟩ := MA.ex
  refine F.ok scAdded (fun vs H Q E h => ?_) (fun cdv Ar outer sh H vs Q E hr h => ?_)
  · obtain ⟨n, own0, H0, wd, lf, b, rfl, _⟩ := h
    rfl
  · obtain ⟨n, own0, H0, wd, lf, b, rfl, c0, hn, hn0, hb, hq⟩ := h
    have hu := hu_of hr
    refine ⟨_, pss_cons (ps_set (i := 2) scAdded.nd rfl (.inl rfl) (pe_call GL (hr.mono (by decide)) rfl mL kL bL .nil pass0 (pa_cons (pv 0) (pa_cons (pv 1) pa_nil))))
      (pss_one (ps_for PassesOwn.never rfl (pi_range1 rfl T.range (pa_cons (pe_op op_add pe_int (pe_call GP (hr.mono (by decide)) rfl mP kP bP .nil pass0 (pa_cons (pv 1) (pa_cons pe_int pa_nil)))) pa_nil)) (pg_name (i := 3) scAdded.nd rfl (.inl rfl))
        (pss_cons (ps_dput hu (pv 0) pe_str (pe_op op_add (pe_dget hu (pv 0) pe_str (fun _ _ => rfl)) pe_int) rfl)
        (pss_cons (ps_set (i := 4) scAdded.nd rfl (.inl rfl) (pe_tup (pa_cons pe_str (pa_cons (pe_ix ix_list (pe_lst (pa_cons (pe_dget hu (pv 0) pe_str (fun _ _ => rfl)) (pa_cons pe_int pa_nil))) (pe_op op_fdiv (pe_call GP (hr.mono (by decide)) rfl mP kP bP .nil pass0 (pa_cons (pv 1) (pa_cons pe_int pa_nil))) pe_int) (fun _ _ => rfl)) pa_nil))))
        (pss_one (ps_expr (pe_call GN (hr.mono (by decide)) rfl mN kN bN .nil pass0 (pa_cons (pv 0) (pa_cons (pv 2) (pa_cons pe_str (pa_cons (pv 4)
          (pa_cons (pe_meth (pe_ix ix_list (pe_dget hu (pv 0) pe_str (fun _ _ => rfl)) (pv 2) (fun _ _ => rfl)) T.cl mA GA hr bA .nil pass0 (pa_cons (pv 4) pa_nil)) pa_nil)))))))))))), ?_⟩
    refine ⟨_, rfl, _, rfl, n, own0, H0, wd, lf, b, rfl, c0, hn, hn0, fun k H1 hk ⟨own1, A1, st1, zs1, c1⟩ => ?_⟩
    refine ⟨_, rfl, lf, zs1, 3, rfl, c1.lf_, c1.D, by decide, by decide, fun d zs2 d0 d1 D2 => ?_⟩
    have c2 := c1.pick hn D2
    generalize upd H1 lf (.lst (zs2.map V.int)) = H2 at c2 ⊢
    refine ⟨_, _, rfl, rfl, _, rfl, by omega, by omega, for_range (n := (1 + d).toNat) (fun i σ H3 => ∃ v3 v4 : Option V, σ = [some (.ref wd), some (.ref lf), some (.int k), v3, v4] ∧ CI C PT n own0 H0 wd lf (b + i) H3)
      ⟨none, none, rfl, own1, A1, st1, zs2, c2⟩ ?_ ?_⟩
    · rintro i σ H3 hi ⟨v3, v4, rfl, own3, A3, st3, zs3, c3⟩
      have wd3 := c3.W.wd
      rw [c3.wd_] at wd3
      have wdr : H3 wd = some (.dK (wkv A3 st3.r)) := wd3
      refine ⟨_, rfl, wd, .int st3.r, rfl, DGet.k (k := Sum.inr "rows") wd3, _, _, rfl, rfl, ?_⟩
      refine ⟨_, rfl, wd, _, rfl, DPut.k (k := Sum.inr "rows") wd3 (by show 4 < sizeLine; decide), ?_⟩
      obtain ⟨ws, hw, hwm⟩ := c3.W.wl
      obtain ⟨W4, P4⟩ := c3.W.way (fun b o h => h) (by omega) (r' := st3.r + 1) hw hwm (.inl rfl)
      have c4 : CIx C PT n own0 H0 wd lf (b + i) _ A3 ⟨st3.ms, st3.way, st3.story, st3.r + 1⟩ zs3 (upd H3 A3.wd (.dK (wkv A3 (st3.r + 1)))) := c3.step W4 rfl (P4.mono fun c z => by show c < 104; rw [show c = 100 from z]; decide) (c3.G.way (way' := st3.way) fun x hx => hx) c3.sl c3.wl
      have e4 : upd H3 wd (.dK (putK (wkv A3 st3.r) (Sum.inr "rows") (.int (st3.r + 1)))) = upd H3 A3.wd (.dK (wkv A3 (st3.r + 1))) := by
        rw [c3.wd_]
        rfl
      rw [e4]
      generalize upd H3 A3.wd (.dK (wkv A3 (st3.r + 1))) = H4 at c4 ⊢
      generalize ownN own3 H3 (fun _ => 102) = own4 at c4
      have wd4 := c4.W.wd
      rw [c4.wd_] at wd4
      refine ⟨_, rfl, wd, .int ((st3.r + 1 : Nat) : Int), rfl, DGet.k (k := Sum.inr "rows") wd4, (by show 2 ≤ sizeLine; decide), fun q hq0 => ?_⟩
      have c5 := c4.same hn (Same.new (o := .lst [.int ((st3.r + 1 : Nat) : Int), .int 0]) hq0)
      have at5 : upd H4 q (.lst [.int ((st3.r + 1 : Nat) : Int), .int 0]) q = some (.lst [.int ((st3.r + 1 : Nat) : Int), .int 0]) := upd_same
      have nql : lf ≠ q := ne_of_none c4.lf_ hq0
      generalize upd H4 q (.lst [.int ((st3.r + 1 : Nat) : Int), .int 0]) = H5 at c5 at5 ⊢
      generalize ownN own4 H4 (fun _ => 105) = own5 at c5
      refine ⟨_, rfl, lf, zs3, 4, rfl, c5.lf_, c5.D, by decide, by decide, fun d2 zs6 d20 d21 D6 => ?_⟩
      have c6 := c5.pick hn D6
      have at6 : upd H5 lf (.lst (zs6.map V.int)) q = some (.lst [.int ((st3.r + 1 : Nat) : Int), .int 0]) := by
        rw [upd_ne nql.symm]
        exact at5
      generalize upd H5 lf (.lst (zs6.map V.int)) = H6 at c6 at6 ⊢
      obtain ⟨z, j, ej, hz⟩ : ∃ (z : Int) (j : Nat), d2 / 3 = (j : Int) ∧ ([V.int ((st3.r + 1 : Nat) : Int), V.int 0] : List V)[j]? = some (.int z) := by
        have : d2 = 0 ∨ d2 = 1 ∨ d2 = 2 ∨ d2 = 3 := by omega
        rcases this with e | e | e | e <;> subst e
        · exact ⟨_, 0, rfl, rfl⟩
        · exact ⟨_, 0, rfl, rfl⟩
        · exact ⟨_, 0, rfl, rfl⟩
        · exact ⟨_, 1, rfl, rfl⟩
      refine ⟨_, _, rfl, rfl, ⟨by decide, by decide⟩, q, _, _, .int z, rfl, congrArg V.int ej, SqL.of at6, atI_nat hz, (by show 2 ≤ sizeLine; decide), fun t ht => ?_⟩
      have c7 := c6.same hn (Same.new (o := .tup [.str "row", .int z]) ht)
      have at7 : upd H6 t (.tup [.str "row", .int z]) t = some (.tup [.str "row", .int z]) := upd_same
      generalize upd H6 t (.tup [.str "row", .int z]) = H7 at c7 at7 ⊢
      generalize ownN own5 H6 (fun _ => 105) = own7 at c7
      have wd7 := c7.W.wd
      rw [c7.wd_] at wd7
      obtain ⟨p, l, v, s, dx, hkp, o1, o2, o3, o4, M, hp⟩ := c7.mast hk
      have gs := c7.G.sizes hk
      have s7 := c7.sl
      have dn : b + i ≤ 9000 := by
        have : i < 3 := by omega
        omega
      refine ⟨_, rfl, _, rfl, _, rfl, _, rfl, wd, .ref A3.ml, rfl, DGet.k (k := Sum.inr "masters") wd7, _, rfl, A3.ml, _, _, .ref p, rfl, rfl, SqL.of c7.W.ml, atI_nat (by rw [List.getElem?_map, hkp]; rfl), p, dx, _, rfl, hp, rfl, _, rfl,
        n, k, p, l, v, s, _, .ref t, z, rfl, ⟨t, rfl, at7⟩, M, c7.W.tab, by omega, Nat.le_trans gs.1 (Nat.le_trans s7 (by omega)), fun e => Nat.le_trans (gs.2.2 e) (by omega), fun hne => ?_, fun hle H8 m8 q8 xs8 cs B fq atq hms => ?_⟩
      · obtain ⟨stx, h1, h2, h3, h4, h5⟩ := c7.noted hn dn hk (m' := st3.ms k) (told := none) (by rw [setM_id]; exact c7.W) (Stp.refl _ _ _) (fun ev _ => .addNo hne)
        refine ⟨n, _, A3, stx, k, .str "add", .ref t, .non, none, by rw [c7.wd_]; rfl, h1, hk, by omega, h2, h3, rfl, h4, fun own9 H9 A9 W9 e9 P9 => ?_⟩
        obtain ⟨st9, c9⟩ := h5 own9 H9 A9 W9 e9 P9
        exact ⟨_, _, rfl, own9, A9, st9, zs6, c9⟩
      · obtain ⟨ls7, hl7, _⟩ := id M.log
        obtain ⟨kvs7, hv7, _⟩ := id M.vo
        obtain ⟨W8, P8⟩ := c7.W.deed (f := fun b => if b = q8 then 105 else k) (by omega) hkp o2 o3 o4 M B (fun z => (z _ hl7 nt_lst).elim) (fun z => (z _ hv7 nt_dK).elim) (fun z => (z _ M.si nt_dK).elim)
        · have hto : ToldAt (ownN own7 H7 fun b => if b = q8 then 105 else k) H8 (.ref q8) (some (keeps n k m8)) := ⟨q8, xs8, rfl, by rw [ownN_new fq]; exact if_pos rfl, atq, hms⟩
          obtain ⟨stx, h1, h2, h3, h4, h5⟩ := c7.noted hn dn hk (told := some (keeps n k m8)) W8 P8 (fun ev _ => .add z m8 hle cs)
          refine ⟨n, _, A3, stx, k, .str "add", .ref t, .ref q8, some (keeps n k m8), by rw [c7.wd_]; rfl, h1, hk, by omega, h2, h3, hto, h4, fun own9 H9 A9 W9 e9 P9 => ?_⟩
          obtain ⟨st9, c9⟩ := h5 own9 H9 A9 W9 e9 P9
          exact ⟨_, _, rfl, own9, A9, st9, zs6, c9⟩
    · rintro σ H3 ⟨v3, v4, rfl, c3⟩
      exact hq H3 (c3.mono (by omega))
end
end K85
namespace K85
open PySem L2
/-- a deed that tells a list -/
theorem CIx.told {C PT : Addr} {n : Nat} {own0 own : Addr → Nat} {H0 H H' : Hp} {wd lf : Addr} {b k : Nat} {A : Ad} {st : WS} {zs : List Int} {p l v s l' v' s' q : Addr} {m' : Ms} {xs : List V} {told : List Msg}
    (c : CIx C PT n own0 H0 wd lf b own A st zs H) (hn : n ≤ 90) (hkp : A.ps[k]? = some p) (o2 : own l = k) (o3 : own v = k) (o4 : own s = k) (M : MAt C n k H p l v s (st.ms k)) (B : Aft C PT n k H p l v s H' m' l' v' s')
    (fq : Fre H q) (nql : q ≠ l') (atq : H' q = some (.lst xs)) (hms : MsgsAt H' xs told) :
    ∃ own3, WAt C PT n own3 H' A { st with ms := setM st.ms k m' } ∧ Stp own own3 H H' (fun c => c = k) ∧ ToldAt own3 H' (.ref q) (some told) := by
  obtain ⟨kvs', hv', _⟩ := B.at_.vo
  have nqv : v' ≠ q := ne_of hv' atq fun z => by cases z
  have nqs : s' ≠ q := ne_of B.at_.si atq fun z => by cases z
  obtain ⟨W3, P3⟩ := c.W.deed (f := fun b => if b = q then 105 else k) (by omega) hkp o2 o3 o4 M B (fun _ => if_neg nql.symm) (fun _ => if_neg nqv) (fun _ => if_neg nqs)
  exact ⟨_, W3, P3, q, xs, rfl, by rw [ownN_new fq]; exact if_pos rfl, atq, hms⟩
abbrev sRoad : Stmt := top 16
def spRoad (C PT : Addr) : Sp := fun vs H Q _ => ∃ (n : Nat) (own0 : Addr → Nat) (H0 : Hp) (wd lf : Addr) (b : Nat), vs = [.ref wd, .ref lf] ∧ CI C PT n own0 H0 wd lf b H ∧ n ≤ 90 ∧ 0 < n ∧ b ≤ 7000 ∧ ∀ (H' : Hp), CI C PT n own0 H0 wd lf (b + 130) H' → Q .non H'
section
variable {P : Program} {w : World} {K : PySem.W.Frag} {mg : Str → Option Value} {base : Heap} {C PT c : Addr}
theorem scRoad : FnScope ["_law_world", "_law_left_here", "_law_road_here", "_law_m", "_law_one", "_law_turn"] ["_law_world", "_law_left_here"] (defScope sRoad) := ⟨rfl, rfl, rfl, by decide +kernel, rfl, by decide +kernel, by decide +kernel⟩
theorem ok_road {f : Addr} {fd : FuncData} (F : Fun K "_law_road" "_law_road" sRoad f fd) (T : Txt K mg C) (DP : DefT P w K mg base 1 "_law_pick" ["_law_left_here", "_law_many"] spPick) (DL : DefT P w K mg base 2 "_law_leader" ["_law_world", "_law_left_here"] (spLeader C PT))
    (DN : DefT P w K mg base 1 "_law_note" ["_law_world", "_law_m", "_law_deed", "_law_what", "_law_told"] (spNote C PT)) (DC : DefT P w K mg base 7 "_law_carried" ["_law_world", "_law_left_here", "_law_words", "_law_whole"] (spCarried C PT))
    (DA : DefT P w K mg base 4 "_law_added" ["_law_world", "_law_left_here"] (spAdded C PT)) (DH : DefT P w K mg base 6 "_law_heard" ["_law_world", "_law_k", "_law_stays"] (spHeard C PT))
    (MR : MetT P w K mg base C 5 "rise" ["self"] (spRise C PT)) (MF : MetT P w K mg base C 1 "fall" ["self"] (spFall C PT)) (MS : MetT P w K mg base C 2 "send" ["self"] (spSend C)) : FnOk P w K mg base CX0 8 f fd ["_law_world", "_law_left_here"] (spRoad C PT) := by
  obtain ⟨fP, fdP, GP, mP, kP, bP⟩ := DP.ex
  obtain ⟨fL, fdL, GL, mL, kL, bL⟩ := DL.ex
  obtain ⟨fN, fdN, GN, mN, kN, bN⟩ := DN.ex
  obtain ⟨fC, fdC, GC, mC, kC, bC⟩ := DC.ex
  obtain ⟨fA, fdA, GA, mA, kA, bA⟩ := DA.ex
  obtain ⟨fH, fdH, GH, mH, kH, bH⟩ := DH.ex
  obtain ⟨fR, fdR, GR, mR, bR⟩ := MR.ex
  obtain ⟨fF, fdF, GF, mF, bF⟩ := MF.ex
  obtain ⟨fS, fdS, GS, mS, bS⟩ := MS.ex
  refine F.ok scRoad (fun vs H Q E h => ?_) (fun cdv Ar outer sh H vs Q E hr h => ?_)
  · obtain ⟨n, own0, H0, wd, lf, b, rfl, _⟩ := h
    rfl
  · obtain ⟨n, own0, H0, wd, lf, b, rfl, ⟨own, A, st, zs, c0⟩, hn, hn0, hb, hq⟩ := h
    have hu := hu_of hr
    refine ⟨_, pss_cons (ps_set (i := 2) scRoad.nd rfl (.inl rfl) (pe_call GP (hr.mono (by decide)) rfl mP kP bP .nil pass0 (pa_cons (pv 1) (pa_cons pe_int pa_nil))))
      (pss_cons (ps_set (i := 3) scRoad.nd rfl (.inl rfl) (pe_call GP (hr.mono (by decide)) rfl mP kP bP .nil pass0 (pa_cons (pv 1) (pa_cons (pe_callB call_len_seq (by rfl) T.len PySem.boot_len (pa_cons (pe_dget hu (pv 0) pe_str (fun _ _ => rfl)) pa_nil)) pa_nil))))
      (pss_cons (ps_set (i := 4) scRoad.nd rfl (.inl rfl) (pe_ix ix_list (pe_dget hu (pv 0) pe_str (fun _ _ => rfl)) (pv 3) (fun _ _ => rfl)))
      (pss_one (ps_if (pt_cmpR op_lt (pv 2) pe_int (nomark _))
        (pss_cons (ps_expr (pe_call GN (hr.mono (by decide)) rfl mN kN bN .nil pass0 (pa_cons (pv 0) (pa_cons (pv 3) (pa_cons pe_str (pa_cons pe_non (pa_cons (pe_meth0 (pv 4) T.cl mR GR (hr.mono (by decide)) bR .nil pass0) pa_nil)))))))
          (pss_one (ps_if (pt_cmpR op_gt (pv 2) pe_int (nomark _)) (pss_one (ps_expr (pe_call GC hr rfl mC kC bC .nil pass0 (pa_cons (pv 0) (pa_cons (pv 1) (pa_cons (pe_tup (pa_cons pe_str (pa_cons pe_str pa_nil))) (pa_cons (pe_cmpR op_eq (pv 2) pe_int (nomark _)) pa_nil))))))) pss_nil)))
      (pss_one (ps_if (pt_cmpR op_lt (pv 2) pe_int (nomark _))
        (pss_cons (ps_expr (pe_call GA (hr.mono (by decide)) rfl mA kA bA .nil pass0 (pa_cons (pv 0) (pa_cons (pv 1) pa_nil))))
          (pss_one (ps_if (pt_cmpR op_gt (pv 2) pe_int (nomark _)) (pss_one (ps_expr (pe_call GC hr rfl mC kC bC .nil pass0 (pa_cons (pv 0) (pa_cons (pv 1) (pa_cons (pe_tup (pa_cons pe_str (pa_cons pe_str pa_nil))) (pa_cons (pe_cmpR op_eq (pv 2) pe_int (nomark _)) pa_nil))))))) pss_nil)))
      (pss_one (ps_if (pt_cmpR op_eq (pv 2) pe_int (nomark _))
        (pss_one (ps_expr (pe_call GN (hr.mono (by decide)) rfl mN kN bN .nil pass0 (pa_cons (pv 0) (pa_cons (pv 3) (pa_cons pe_str (pa_cons pe_non (pa_cons (pe_meth0 (pv 4) T.cl mF GF (hr.mono (by decide)) bF .nil pass0) pa_nil))))))))
      (pss_one (ps_if (pt_cmpR op_eq (pv 2) pe_int (nomark _))
        (pss_cons (ps_set (i := 3) scRoad.nd rfl (.inl rfl) (pe_call GL (hr.mono (by decide)) rfl mL kL bL .nil pass0 (pa_cons (pv 0) (pa_cons (pv 1) pa_nil))))
          (pss_cons (ps_expr (pe_call GN (hr.mono (by decide)) rfl mN kN bN .nil pass0 (pa_cons (pv 0) (pa_cons (pv 3) (pa_cons pe_str (pa_cons pe_non (pa_cons (pe_meth0 (pe_ix ix_list (pe_dget hu (pv 0) pe_str (fun _ _ => rfl)) (pv 3) (fun _ _ => rfl)) T.cl mS GS (hr.mono (by decide)) bS .nil pass0) pa_nil)))))))
          (pss_one (ps_expr (pe_call GC hr rfl mC kC bC .nil pass0 (pa_cons (pv 0) (pa_cons (pv 1) (pa_cons (pe_tup (pa_cons pe_str (pa_cons pe_str pa_nil))) (pa_cons pe_bl pa_nil)))))))))
      (pss_one (ps_if (pt_cmpR op_eq (pv 2) pe_int (nomark _))
        (pss_one (ps_dput hu (pv 0) pe_str (pe_slice sl_list (pe_dget hu (pv 0) pe_str (fun _ _ => rfl)) (po_some (pe_call GP (hr.mono (by decide)) rfl mP kP bP .nil pass0 (pa_cons (pv 1) (pa_cons pe_int pa_nil)))) po_none) rfl))
        (pss_one (ps_for PassesOwn.never rfl (pi_range1 rfl T.range (pa_cons (pe_op op_add pe_int (pe_call GP (hr.mono (by decide)) rfl mP kP bP .nil pass0 (pa_cons (pv 1) (pa_cons pe_int pa_nil)))) pa_nil)) (pg_name (i := 5) scRoad.nd rfl (.inl rfl))
          (pss_one (ps_if (pt_cmpR op_gt (pe_callB call_len_seq (by rfl) T.len PySem.boot_len (pa_cons (pe_dget hu (pv 0) pe_str (fun _ _ => rfl)) pa_nil)) pe_int (nomark _))
            (pss_one (ps_expr (pe_call GH (hr.mono (by decide)) rfl mH kH bH .nil pass0 (pa_cons (pv 0) (pa_cons (pe_call GP (hr.mono (by decide)) rfl mP kP bP .nil pass0 (pa_cons (pv 1) (pa_cons (pe_callB call_len_seq (by rfl) T.len PySem.boot_len (pa_cons (pe_dget hu (pv 0) pe_str (fun _ _ => rfl)) pa_nil)) pa_nil)))
              (pa_cons (pe_cmpR op_eq (pe_call GP (hr.mono (by decide)) rfl mP kP bP .nil pass0 (pa_cons (pv 1) (pa_cons pe_int pa_nil))) pe_int (nomark _)) pa_nil)))))) pss_nil)))))))))))))))), ?_⟩
    refine ⟨_, rfl, lf, zs, 12, rfl, c0.lf_, c0.D, by decide, by decide, fun r zs1 r0 r1 D1 => ?_⟩
    have c1 := c0.pick hn D1
    generalize upd H lf (.lst (zs1.map V.int)) = H1 at c1 ⊢
    have wd1 := c1.W.wd
    rw [c1.wd_] at wd1
    have hlen2 : (((A.ps.map V.ref).length : Nat) : Int) = n := by
      rw [List.length_map, c0.W.len]
    refine ⟨_, rfl, _, rfl, wd, .ref A.ml, rfl, DGet.k (k := Sum.inr "masters") wd1, A.ml, _, rfl, .inl (SqL.of c1.W.ml), lf, zs1, _, rfl, c1.lf_, c1.D, by omega, by omega, fun d zs2 d0 d1 D2 => ?_⟩
    rw [hlen2] at d1
    obtain ⟨k, rfl⟩ := Int.eq_ofNat_of_zero_le d0
    have hk : k < n := by omega
    have c2 := c1.pick hn D2
    generalize upd H1 lf (.lst (zs2.map V.int)) = H2 at c2 ⊢
    have wd2 := c2.W.wd
    rw [c2.wd_] at wd2
    obtain ⟨p, l, v, s, dx, hkp, o1, o2, o3, o4, M, hp⟩ := c2.mast hk
    refine ⟨_, rfl, wd, .ref A.ml, rfl, DGet.k (k := Sum.inr "masters") wd2, _, rfl, A.ml, _, _, .ref p, rfl, rfl, SqL.of c2.W.ml, atI_nat (by rw [List.getElem?_map, hkp]; rfl), ?_⟩
    refine ⟨_, rfl, _, _, rfl, rfl, _, rfl, ?_⟩
    refine ite2 (fun hr1 => ?_) (fun hr1 => ?_)
    · refine ⟨_, rfl, _, rfl, _, rfl, p, dx, _, rfl, hp, rfl, n, k, p, l, v, s, _, rfl, M, c2.W.tab, by omega, hk, fun t H3 m3 l3 v3 s3 q xs hlt hmod cv B fq nql atq hms => ?_⟩
      obtain ⟨own3, W3, P3, hto⟩ := c2.told hn hkp o2 o3 o4 M B fq nql atq hms
      obtain ⟨stx, h1, h2, h3, h4, h5⟩ := c2.noted hn (by omega) hk W3 P3 (fun ev _ => .rise t m3 hlt hmod cv)
      refine ⟨n, own3, A, stx, k, _, _, _, _, by rw [c2.wd_]; rfl, h1, hk, by omega, h2, h3, hto, h4, fun own4 H4 A4 W4 e4 P4 => ?_⟩
      obtain ⟨st4, c4⟩ := h5 own4 H4 A4 W4 e4 P4
      refine ⟨_, rfl, _, _, rfl, rfl, _, rfl, ?_⟩
      refine ite2 (fun _ => ?_) (fun _ => ?_)
      · refine ⟨_, rfl, _, rfl, (by show 2 ≤ sizeLine; decide), fun wt hwt => ?_⟩
        have c5 := c4.same hn (Same.new (o := .tup [.str "stand", .str "voice"]) hwt)
        refine ⟨_, rfl, rfl, n, own0, H0, wd, lf, wt, _, _, _, _, rfl, ⟨_, _, _, _, c5⟩, hn, by omega, upd_same, fun H6 c6 => hq H6 (c6.mono (by omega))⟩
      · exact hq H4 ⟨own4, A4, st4, zs2, c4.mono (by omega)⟩
    refine ⟨_, rfl, _, _, rfl, rfl, _, rfl, ?_⟩
    refine ite2 (fun hr2 => ?_) (fun hr2 => ?_)
    · refine ⟨_, rfl, _, rfl, n, own0, H0, wd, lf, _, rfl, ⟨_, _, _, _, c2⟩, hn, hn0, by omega, fun H4 ⟨own4, A4, st4, zs4, c4⟩ => ?_⟩
      refine ⟨_, rfl, _, _, rfl, rfl, _, rfl, ?_⟩
      refine ite2 (fun _ => ?_) (fun _ => ?_)
      · refine ⟨_, rfl, _, rfl, (by show 2 ≤ sizeLine; decide), fun wt hwt => ?_⟩
        have c5 := c4.same hn (Same.new (o := .tup [.str "keep", .str "kept"]) hwt)
        refine ⟨_, rfl, rfl, n, own0, H0, wd, lf, wt, _, _, _, _, rfl, ⟨_, _, _, _, c5⟩, hn, by omega, upd_same, fun H6 c6 => hq H6 (c6.mono (by omega))⟩
      · exact hq H4 ⟨own4, A4, st4, zs4, c4.mono (by omega)⟩
    refine ⟨_, rfl, rfl, _, rfl, ?_⟩
    refine ite2 (fun hr3 => ?_) (fun hr3 => ?_)
    · refine ⟨_, rfl, _, rfl, _, rfl, p, dx, _, rfl, hp, rfl, n, k, p, l, v, s, _, rfl, M, c2.W.tab, fun H3 q B hq0 atq => ?_⟩
      have nql : q ≠ l := by
        obtain ⟨ls, hl, _⟩ := id M.log
        exact (ne_of_none hl hq0).symm
      obtain ⟨own3, W3, P3, hto⟩ := c2.told (told := []) hn hkp o2 o3 o4 M B (Fre.of hq0) nql atq .nil
      obtain ⟨stx, h1, h2, h3, h4, h5⟩ := c2.noted hn (by omega) hk W3 P3 (fun ev _ => .fall)
      refine ⟨n, own3, A, stx, k, _, _, _, _, by rw [c2.wd_]; rfl, h1, hk, by omega, h2, h3, hto, h4, fun own4 H4 A4 W4 e4 P4 => ?_⟩
      obtain ⟨st4, c4⟩ := h5 own4 H4 A4 W4 e4 P4
      exact hq H4 ⟨own4, A4, st4, zs2, c4.mono (by omega)⟩
    refine ⟨_, rfl, rfl, _, rfl, ?_⟩
    refine ite2 (fun hr4 => ?_) (fun hr4 => ?_)
    · refine ⟨_, rfl, _, rfl, n, own0, H0, wd, lf, _, rfl, ⟨_, _, _, _, c2⟩, hn, hn0, fun k3 H3 hk3 ⟨own3, A3, st3, zs3, c3⟩ => ?_⟩
      have wd3 := c3.W.wd
      rw [c3.wd_] at wd3
      obtain ⟨p3, l3, v3, s3, dx3, hkp3, u1, u2, u3, u4, M3, hp3⟩ := c3.mast hk3
      refine ⟨_, rfl, _, rfl, _, rfl, wd, .ref A3.ml, rfl, DGet.k (k := Sum.inr "masters") wd3, _, rfl, A3.ml, _, _, .ref p3, rfl, rfl, SqL.of c3.W.ml, atI_nat (by rw [List.getElem?_map, hkp3]; rfl), p3, dx3, _, rfl, hp3, rfl, n, k3, p3, l3, v3, s3, _, rfl, M3, by omega, fun hle H4 q xs S hq0 atq hms => ?_, fun hne q hq0 => ?_⟩
      · have nql : q ≠ l3 := by
          obtain ⟨ls, hl, _⟩ := id M3.log
          exact (ne_of_none hl hq0).symm
        obtain ⟨own5, W5, P5, hto⟩ := c3.told (told := keeps n k3 (st3.ms k3)) hn hkp3 u2 u3 u4 M3 (Aft.same M3 c3.W.tab S) (Fre.of hq0) nql atq hms
        obtain ⟨stx, h1, h2, h3, h4, h5⟩ := c3.noted hn (by omega) hk3 W5 P5 (fun ev _ => .send hle)
        refine ⟨n, own5, A3, stx, k3, _, _, _, _, by rw [c3.wd_]; rfl, h1, hk3, by omega, h2, h3, hto, h4, fun own4 H4 A4 W4 e4 P4 => ?_⟩
        obtain ⟨st4, c4⟩ := h5 own4 H4 A4 W4 e4 P4
        refine ⟨_, rfl, _, rfl, (by show 2 ≤ sizeLine; decide), fun wt hwt => ?_⟩
        have c5 := c4.same hn (Same.new (o := .tup [.str "keep", .str "kept"]) hwt)
        exact ⟨n, own0, H0, wd, lf, wt, _, _, _, _, rfl, ⟨_, _, _, _, c5⟩, hn, by omega, upd_same, fun H6 c6 => hq H6 (c6.mono (by omega))⟩
      · have nql : q ≠ l3 := by
          obtain ⟨ls, hl, _⟩ := id M3.log
          exact (ne_of_none hl hq0).symm
        obtain ⟨own5, W5, P5, hto⟩ := c3.told (told := []) hn hkp3 u2 u3 u4 M3 (Aft.same M3 c3.W.tab (Same.new hq0)) (Fre.of hq0) nql upd_same .nil
        obtain ⟨stx, h1, h2, h3, h4, h5⟩ := c3.noted hn (by omega) hk3 W5 P5 (fun ev _ => .sendNo hne)
        refine ⟨n, own5, A3, stx, k3, _, _, _, _, by rw [c3.wd_]; rfl, h1, hk3, by omega, h2, h3, hto, h4, fun own4 H4 A4 W4 e4 P4 => ?_⟩
        obtain ⟨st4, c4⟩ := h5 own4 H4 A4 W4 e4 P4
        refine ⟨_, rfl, _, rfl, (by show 2 ≤ sizeLine; decide), fun wt hwt => ?_⟩
        have c5 := c4.same hn (Same.new (o := .tup [.str "keep", .str "kept"]) hwt)
        exact ⟨n, own0, H0, wd, lf, wt, _, _, _, _, rfl, ⟨_, _, _, _, c5⟩, hn, by omega, upd_same, fun H6 c6 => hq H6 (c6.mono (by omega))⟩
    refine ⟨_, rfl, rfl, _, rfl, ?_⟩
    refine ite2 (fun hr5 => ?_) (fun hr5 => ?_)
    · obtain ⟨ws, hw, hwm⟩ := c2.W.wl
      refine ⟨_, rfl, wd, .ref A.wl, rfl, DGet.k (k := Sum.inr "way") wd2, _, rfl, lf, zs2, 20, rfl, c2.lf_, c2.D, by decide, by decide, fun d3 zs3 _ _ D3 => ?_⟩
      have c3 := c2.pick hn D3
      obtain ⟨ws, hw, hwm⟩ := c3.W.wl
      generalize upd H2 lf (.lst (zs3.map V.int)) = H3 at c3 hw hwm ⊢
      have wd3 := c3.W.wd
      rw [c3.wd_] at wd3
      refine ⟨_, rfl, A.wl, ws, rfl, SqL.of hw, fun q hq0 => ?_⟩
      have S := Same.new (o := .lst (cutV ws (some d3) none)) hq0
      have at4 : upd H3 q (.lst (cutV ws (some d3) none)) q = some (.lst (cutV ws (some d3) none)) := upd_same
      generalize upd H3 q (.lst (cutV ws (some d3) none)) = H4 at S at4 ⊢
      have pc := Paired.cut hwm (some d3) none
      refine ⟨_, rfl, wd, _, rfl, DPut.k (k := Sum.inr "way") (S _ _ wd3) (by show 4 < sizeLine; decide), ?_⟩
      obtain ⟨W4, P4⟩ := c3.W.way S (by omega) (r' := st.r) at4 (MsgsAt.kp (Kp.same S) pc) (.inr (Fre.of hq0))
      have c4 := c3.step W4 rfl (P4.mono fun c z => by show c < 104; rw [show c = 100 from z]; decide) (c3.G.way fun x hx => List.mem_of_mem_drop (List.mem_of_mem_take hx)) c3.sl (by
        have := c3.wl
        simp only [List.length_take, List.length_drop]
        omega)
      have e4 : upd H4 wd (.dK (putK (wkv A st.r) (Sum.inr "way") (.ref q))) = upd H4 A.wd (.dK (wkv { A with wl := q } st.r)) := by
        rw [c3.wd_]
        rfl
      rw [e4]
      exact hq _ ⟨_, _, _, _, c4.mono (by omega)⟩
    · refine ⟨_, rfl, lf, zs2, 6, rfl, c2.lf_, c2.D, by decide, by decide, fun d3 zs3 e0 e1 D3 => ?_⟩
      have c3 := c2.pick hn D3
      refine ⟨_, _, rfl, rfl, _, rfl, by omega, by omega, for_range (n := (1 + d3).toNat) (fun i σ H4 => ∃ v5 : Option V, σ = [some (.ref wd), some (.ref lf), some (.int r), some (.int k), some (.ref p), v5] ∧ CI C PT n own0 H0 wd lf (b + i) H4)
        ⟨none, rfl, own, A, st, zs3, c3⟩ ?_ ?_⟩
      · rintro i σ H4 hi ⟨v5, rfl, own4, A4, st4, zs4, c4⟩
        obtain ⟨ws, hw, hwm⟩ := c4.W.wl
        have wd4 := c4.W.wd
        rw [c4.wd_] at wd4
        have hlen : ws.length = st4.way.length := hwm.length
        have wl4 := c4.wl
        have i6 : i < 6 := by omega
        refine ⟨_, rfl, wd, .ref A4.wl, rfl, DGet.k (k := Sum.inr "way") wd4, A4.wl, ws, rfl, .inl (SqL.of hw), _, _, rfl, rfl, _, rfl, ?_⟩
        refine ite2 (fun hl0 => ?_) (fun _ => ⟨_, rfl, own4, A4, st4, zs4, c4.mono (by omega)⟩)
        have hl0 : (0 : Int) < ((ws.length : Nat) : Int) := of_decide_eq_true hl0
        refine ⟨_, rfl, _, rfl, _, rfl, wd, .ref A4.wl, rfl, DGet.k (k := Sum.inr "way") wd4, A4.wl, ws, rfl, .inl (SqL.of hw), lf, zs4, _, rfl, c4.lf_, c4.D, by omega, by omega, fun d5 zs5 f0 f1 D5 => ?_⟩
        have c5 := c4.pick hn D5
        generalize upd H4 lf (.lst (zs5.map V.int)) = H5 at c5 ⊢
        refine ⟨_, rfl, lf, zs5, 2, rfl, c5.lf_, c5.D, by decide, by decide, fun d6 zs6 _ _ D6 => ?_⟩
        have c6 := c5.pick hn D6
        generalize upd H5 lf (.lst (zs6.map V.int)) = H6 at c6 ⊢
        obtain ⟨kk, rfl⟩ := Int.eq_ofNat_of_zero_le f0
        have sl6 := c6.sl
        refine ⟨rfl, n, own4, A4, st4, kk, _, by rw [c6.wd_]; rfl, c6.W, c6.G, hn, by omega, c6.wl, by omega, fun own7 H7 A7 st7 W7 e7 P7 G7 hs7 hw7 => ⟨_, rfl, own7, A7, st7, zs6, c6.step W7 e7 P7 G7 (by omega) hw7⟩⟩
      · rintro σ H4 ⟨v5, rfl, c4⟩
        exact hq H4 (c4.mono (by omega))
end
end K85
namespace K85
open PySem L2
/-- the law's world stands, since (own0, H0); no draws -/
structure CBx (C PT : Addr) (n : Nat) (own0 : Addr → Nat) (H0 : Hp) (wd : Addr) (b : Nat) (own : Addr → Nat) (A : Ad) (st : WS) (H : Hp) : Prop where
  W : WAt C PT n own H A st
  wd_ : A.wd = wd
  G : Good n st
  S : Stp own0 own H0 H (fun c => c ≤ 104)
  sl : st.story.length ≤ b
  wl : st.way.length ≤ 60
def CB (C PT : Addr) (n : Nat) (own0 : Addr → Nat) (H0 : Hp) (wd : Addr) (b : Nat) (H : Hp) : Prop := ∃ own A st, CBx C PT n own0 H0 wd b own A st H
section
variable {C PT : Addr} {n : Nat} {own0 own own' : Addr → Nat} {H0 H H' : Hp} {wd lf : Addr} {b b' : Nat} {A A' : Ad} {st st' : WS} {zs zs' : List Int}
theorem CI.cb (c : CI C PT n own0 H0 wd lf b H) : CB C PT n own0 H0 wd b H := by
  obtain ⟨own, A, st, zs, c⟩ := c
  exact ⟨own, A, st, c.W, c.wd_, c.G, c.S, c.sl, c.wl⟩
/-- draws are made -/
theorem CBx.ci (c : CBx C PT n own0 H0 wd b own A st H) (hn : n ≤ 90) (hl : H lf = none) (D : Dr zs) : CI C PT n own0 H0 wd lf b (upd H lf (.lst (zs.map V.int))) := by
  have S := Same.new (o := .lst (zs.map V.int)) hl
  have a : Stp own (ownN own H fun _ => 104) H (upd H lf (.lst (zs.map V.int))) (fun _ => False) := Stp.same _ _ S
  exact ⟨_, A, st, zs, c.W.stp a (fun _ z => z.elim) (by omega) (c.W.tab.same S), c.wd_, c.G, c.S.trans (a.mono fun _ z => z.elim), upd_same, ownN_new (Fre.of hl), D, c.sl, c.wl⟩
end
/-- i masters are made -/
def Made (C : Addr) (n : Nat) (own0 : Addr → Nat) (H1 : Hp) (D : Addr) (i : Nat) (H : Hp) : Prop := ∃ (own : Addr → Nat) (ps : List Addr), Same H1 H ∧ (∀ b o, H1 b = some o → NT o → own b = own0 b) ∧ own D = 101 ∧ H D = some (.lst (ps.map V.ref)) ∧ ps.length = i ∧
  ∀ j p, ps[j]? = some p → own p = j ∧ ∃ l v s, own l = j ∧ own v = j ∧ own s = j ∧ MAt C n j H p l v s ms0
theorem Made.step {C : Addr} {n : Nat} {own0 own : Addr → Nat} {H1 H H3 : Hp} {D x l v s : Addr} {i : Nat} {ps : List Addr} (hi : i ≤ 90) (hD : H1 D = none) (S : Same H1 H) (ho : ∀ b o, H1 b = some o → NT o → own b = own0 b) (oD : own D = 101) (hd : H D = some (.lst (ps.map V.ref))) (hl : ps.length = i)
    (hm : ∀ j p, ps[j]? = some p → own p = j ∧ ∃ l v s, own l = j ∧ own v = j ∧ own s = j ∧ MAt C n j H p l v s ms0) (S3 : Same H H3) (nx : H x = none) (nl : H l = none) (nv : H v = none) (ns : H s = none) (M : MAt C n i H3 x l v s ms0) :
    Made C n own0 H1 D (i + 1) (upd H3 D (.lst ((ps ++ [x]).map V.ref))) := by
  have hd3 := S3 _ _ hd
  have K : Kp H3 (upd H3 D (.lst ((ps ++ [x]).map V.ref))) := Kp.mut hd3 fun z => z
  refine ⟨ownN own H fun _ => i, ps ++ [x], fun b o h => ?_, fun b o h nt => ?_, ?_, upd_same, by rw [List.length_append, hl]; rfl, fun j p hj => ?_⟩
  · rw [upd_ne (ne_of_none h hD)]
    exact S3 _ _ (S _ _ h)
  · rw [ownN_old (S _ _ h) nt]
    exact ho _ _ h nt
  · rw [ownN_old hd nt_lst]
    exact oD
  · rcases Nat.lt_or_ge j i with z | z
    · rw [List.getElem?_append_left (by omega)] at hj
      obtain ⟨q1, l2, v2, s2, q2, q3, q4, M2⟩ := hm j p hj
      obtain ⟨dx, h1⟩ := id M2.ob
      obtain ⟨ls, h2, _⟩ := id M2.log
      obtain ⟨kvs, h3, _⟩ := id M2.vo
      refine ⟨by rw [ownN_old h1 nt_ins]; exact q1, l2, v2, s2, by rw [ownN_old h2 nt_lst]; exact q2, by rw [ownN_old h3 nt_dK]; exact q3, by rw [ownN_old M2.si nt_dK]; exact q4, (M2.same S3).keep K fun b o hb h _ => ?_⟩
      rw [upd_ne]
      · exact h
      · intro e
        rw [e] at hb
        rcases hb with e | e | e | e <;> rw [e] at oD <;> omega
    · have e : j = i := by
        have := (List.getElem?_eq_some_iff.mp hj).1
        rw [List.length_append, hl] at this
        have : j < i + 1 := this
        omega
      subst e
      rw [List.getElem?_append_right (by omega), hl, Nat.sub_self] at hj
      obtain rfl : x = p := Option.some.inj hj
      refine ⟨ownN_new (Fre.of nx), l, v, s, ownN_new (Fre.of nl), ownN_new (Fre.of nv), ownN_new (Fre.of ns), M.keep K fun b o hb h _ => ?_⟩
      rw [upd_ne]
      · exact h
      · intro e
        rw [e] at hb
        rcases hb with e | e | e | e
        · rw [e, nx] at hd
          cases hd
        · rw [e, nl] at hd
          cases hd
        · rw [e, nv] at hd
          cases hd
        · rw [e, ns] at hd
          cases hd
/-- all is made -/
theorem Made.world {C PT : Addr} {n : Nat} {own0 : Addr → Nat} {H0 H : Hp} {D d wl sl : Addr} (hn : n ≤ 90) (nd0 : H0 d = none) {H1d : Hp} (own1 : Addr → Nat) (ho1 : ∀ b o, H0 b = some o → NT o → own1 b = own0 b) (od1 : own1 d = 100) (hd1 : H1d d = some (.dK [])) (S1 : ∀ b o, H0 b = some o → H1d b = some o)
    (hT : Tab H0 PT) (M : Made C n own1 H1d D n H) (hw : H wl = none) (hs : upd H wl (.lst []) sl = none) :
    CB C PT n own0 H0 d 0 (upd (upd (upd H wl (.lst [])) sl (.lst [])) d (.dK (wkv ⟨d, D, wl, sl, []⟩ 0))) := by
  obtain ⟨own, ps, S, ho, oD, hD, hl, hm⟩ := M
  have hd := S _ _ hd1
  have SW := Same.new (o := .lst []) hw
  have SS := Same.new (o := .lst []) hs
  have S2 := SW.trans SS
  have hsl : H sl = none := by
    by_cases e : sl = wl
    · rw [e, upd_same] at hs
      cases hs
    · rw [upd_ne e] at hs
      exact hs
  have nwl : wl ≠ sl := fun e => by
    rw [← e, upd_same] at hs
    cases hs
  have hd2 := S2 _ _ hd
  have K2 : Kp (upd (upd H wl (.lst [])) sl (.lst [])) (upd (upd (upd H wl (.lst [])) sl (.lst [])) d (.dK (wkv ⟨d, D, wl, sl, []⟩ 0))) := Kp.mut hd2 fun z => z
  have SH : ∀ b o, H b = some o → b ≠ d → upd (upd (upd H wl (.lst [])) sl (.lst [])) d (.dK (wkv ⟨d, D, wl, sl, []⟩ 0)) b = some o := fun b o h hb => by
    rw [upd_ne hb]
    exact S2 _ _ h
  have oldd : ownN own H (fun b => if b = wl then 102 else 103) d = 100 := by
    rw [ownN_old hd nt_dK, ho _ _ hd1 nt_dK]
    exact od1
  have ndD : D ≠ d := fun e => by
    rw [e] at oD
    rw [ho _ _ hd1 nt_dK, od1] at oD
    omega
  have S08 : ∀ b o, H0 b = some o → upd (upd (upd H wl (.lst [])) sl (.lst [])) d (.dK (wkv ⟨d, D, wl, sl, []⟩ 0)) b = some o := fun b o h => SH b o (S _ _ (S1 _ _ h)) (ne_of_none h nd0)
  refine ⟨ownN own H fun b => if b = wl then 102 else 103, ⟨d, D, wl, sl, ps⟩, ⟨fun _ => ms0, [], [], 0⟩, ⟨upd_same, oldd, SH _ _ hD ndD, by rw [ownN_old hD nt_lst]; exact oD, hl, ⟨[], ?_, .nil⟩, by rw [ownN_new (Fre.of hw)]; exact if_pos rfl, ⟨[], ?_, .nil⟩, by rw [ownN_new (Fre.of hsl)]; exact if_neg nwl.symm, fun j p hj => ?_, ?_⟩, rfl, ?_, ?_, Nat.le_refl _, Nat.zero_le _⟩
  · rw [upd_ne (ne_of_none hd hw).symm, upd_ne nwl]
    exact upd_same
  · rw [upd_ne (ne_of_none hd hsl).symm]
    exact upd_same
  · obtain ⟨q1, l, v, s, q2, q3, q4, M⟩ := hm j p hj
    have hj90 : j < 90 := by
      have z : j < ps.length := (List.getElem?_eq_some_iff.mp hj).1
      omega
    obtain ⟨dx, h1⟩ := id M.ob
    obtain ⟨ls, h2, _⟩ := id M.log
    obtain ⟨kvs, h3, _⟩ := id M.vo
    have od : own d = 100 := by
      rw [ho _ _ hd1 nt_dK]
      exact od1
    refine ⟨by rw [ownN_old h1 nt_ins]; exact q1, l, v, s, by rw [ownN_old h2 nt_lst]; exact q2, by rw [ownN_old h3 nt_dK]; exact q3, by rw [ownN_old M.si nt_dK]; exact q4, M.keep ((Kp.same S2).trans K2) fun b o hb h nt => SH _ _ h fun e => ?_⟩
    rw [e] at hb
    rcases hb with e | e | e | e <;> rw [e] at od <;> omega
  · exact hT.same S08
  · exact ⟨⟨_, _, WI.start n, fun x hx => (by cases hx), .nil _⟩, fun r hr => by cases hr⟩
  · refine ⟨fun b o h _ _ => S08 b o h, fun b o h nt => ?_, Kp.same S08, Dom.same S08⟩
    rw [ownN_old (S _ _ (S1 _ _ h)) nt, ho _ _ (S1 _ _ h) nt]
    exact ho1 _ _ h nt
abbrev sBegun : Stmt := top 10
def spBegun (C PT : Addr) (K : PySem.W.Frag) : Sp := fun vs H Q _ => ∃ (a : Addr) (ns : List Int), vs = [.ref a] ∧ SqL K H a (ns.map V.int) ∧ Tab H PT ∧
  ∀ (n : Nat) (wd : Addr) (H' : Hp), 0 < n → n ≤ 7 → CB C PT n (fun _ => 200) H wd 0 H' → Q (.ref wd) H'
section
variable {P : Program} {w : World} {K : PySem.W.Frag} {mg : Str → Option Value} {base : Heap} {C PT c : Addr}
theorem scBegun : FnScope ["_law_script", "_law_left_here", "_law_many", "_law_number"] ["_law_script"] (defScope sBegun) := ⟨rfl, rfl, rfl, by decide +kernel, rfl, by decide +kernel, by decide +kernel⟩
theorem ok_begun {f fI : Addr} {fd fdI : FuncData} (F : Fun K "_law_begun" "_law_begun" sBegun f fd) (T : Txt K mg C) (DP : DefT P w K mg base 1 "_law_pick" ["_law_left_here", "_law_many"] spPick) (DL : DefT P w K mg base 3 "_law_left" ["_law_script", "_law_k"] (spLeft K))
    (MC : Mk K C fI) (GI : FnOk P w K mg base CX0 1 fI fdI ["self", "number", "many"] (spInit C)) (bI : Binds K fdI ["self", "number", "many"] []) : FnOk P w K mg base CX0 4 f fd ["_law_script"] (spBegun C PT K) := by
  obtain ⟨fP, fdP, GP, mP, kP, bP⟩ := DP.ex
  obtain ⟨fL, fdL, GL, mL, kL, bL⟩ := DL.ex
  refine F.ok scBegun (fun vs H Q E h => ?_) (fun cdv Ar outer sh H vs Q E hr h => ?_)
  · obtain ⟨a, ns, rfl, _⟩ := h
    rfl
  · obtain ⟨a, ns, rfl, hS, hT, hq⟩ := h
    have hu := hu_of hr
    refine ⟨_, pss_cons (ps_set (i := 1) scBegun.nd rfl (.inl rfl) (pe_call GL hr rfl mL kL bL .nil pass0 (pa_cons (pv 0) (pa_cons pe_int pa_nil))))
      (pss_cons (ps_set (i := 2) scBegun.nd rfl (.inr rfl) (pe_ix ix_list (pe_lst (pa_cons pe_int (pa_cons pe_int (pa_cons pe_int (pa_cons pe_int (pa_cons pe_int (pa_cons pe_int (pa_cons pe_int (pa_cons pe_int pa_nil))))))))) (pe_call GP (hr.mono (by decide)) rfl mP kP bP .nil pass0 (pa_cons (pv 1) (pa_cons pe_int pa_nil))) (fun _ _ => rfl)))
      (pss_one (ps_ret (pe_disp (pps_cons pe_str (pe_lc (own := [("_law_number", 3)]) (g := gName 3) rfl scBegun.nd (pi_range1 rfl T.range (pa_cons (pv 2) pa_nil)) (blkOk_by (N := ["_law_script", "_law_left_here", "_law_many", "_law_number"]) (sc := defScope sBegun) (by decide +kernel))
        (fun _ _ _ _ _ => pg_name (i := 3) scBegun.nd rfl (Or.inl rfl)) (fun _ _ _ _ _ => pts_nil) (fun _ _ _ _ _ => pe_make MC GI (hr.mono (by decide)) rfl T.mgC bI .nil pass0 (pa_cons (pv 3) (pa_cons (pv 2) pa_nil))))
        (pps_cons pe_str (pe_lst pa_nil) (pps_cons pe_str (pe_lst pa_nil) (pps_cons pe_str pe_int pps_nil)))) (by rfl) (by rfl) (fun z => by cases z) (by decide))))), ?_⟩
    refine ⟨_, rfl, a, ns, 0, rfl, hS, by decide, by decide, fun l zs hl D => ⟨(by show 8 ≤ sizeLine; decide), fun q hq0 => ?_⟩⟩
    have nlq : l ≠ q := ne_of_none (upd_same (o := .lst (zs.map V.int))) hq0
    refine ⟨_, rfl, l, zs, 8, rfl, by rw [upd_ne nlq]; exact upd_same, D, by decide, by decide, fun d zs2 d0 d1 D2 => ?_⟩
    have S3 : Same H (upd (upd (upd H l (.lst (zs.map V.int))) q (.lst [.int 1, .int 2, .int 3, .int 3, .int 4, .int 5, .int 6, .int 7])) l (.lst (zs2.map V.int))) := fun b o h => by
      rw [upd_ne (ne_of_none h hl)]
      exact Same.new hq0 _ _ (Same.new hl _ _ h)
    have at3 : (upd (upd (upd H l (.lst (zs.map V.int))) q (.lst [.int 1, .int 2, .int 3, .int 3, .int 4, .int 5, .int 6, .int 7])) l (.lst (zs2.map V.int))) q = some (.lst [.int 1, .int 2, .int 3, .int 3, .int 4, .int 5, .int 6, .int 7]) := by
      rw [upd_ne nlq.symm]
      exact upd_same
    generalize upd (upd (upd H l (.lst (zs.map V.int))) q (.lst [.int 1, .int 2, .int 3, .int 3, .int 4, .int 5, .int 6, .int 7])) l (.lst (zs2.map V.int)) = H3 at S3 at3 ⊢
    obtain ⟨n, j, ej, hz, n0, n7⟩ : ∃ (n j : Nat), d = (j : Int) ∧ ([.int 1, .int 2, .int 3, .int 3, .int 4, .int 5, .int 6, .int 7] : List V)[j]? = some (.int (n : Int)) ∧ 0 < n ∧ n ≤ 7 := by
      have : d = 0 ∨ d = 1 ∨ d = 2 ∨ d = 3 ∨ d = 4 ∨ d = 5 ∨ d = 6 ∨ d = 7 := by omega
      rcases this with e | e | e | e | e | e | e | e <;> subst e
      · exact ⟨1, 0, rfl, rfl, by decide, by decide⟩
      · exact ⟨2, 1, rfl, rfl, by decide, by decide⟩
      · exact ⟨3, 2, rfl, rfl, by decide, by decide⟩
      · exact ⟨3, 3, rfl, rfl, by decide, by decide⟩
      · exact ⟨4, 4, rfl, rfl, by decide, by decide⟩
      · exact ⟨5, 5, rfl, rfl, by decide, by decide⟩
      · exact ⟨6, 6, rfl, rfl, by decide, by decide⟩
      · exact ⟨7, 7, rfl, rfl, by decide, by decide⟩
    refine ⟨q, _, _, .int n, rfl, congrArg V.int ej, SqL.of at3, atI_nat hz, ?_⟩
    intro dd hdd
    have Sd := Same.new (o := .dK []) hdd
    have S0d := S3.trans Sd
    have nd0 : H dd = none := S3.free hdd
    have hd1 : upd H3 dd (.dK []) dd = some (.dK []) := upd_same
    generalize upd H3 dd (.dK []) = H1d at Sd S0d hd1 ⊢
    refine ⟨_, rfl, _, rfl, by omega, by omega, fun DD hDD => ?_⟩
    have nDd : dd ≠ DD := ne_of_none hd1 hDD
    refine lc_range (lo := 0) (n := ((n : Int)).toNat) (fun i H' => Made C n (ownN (fun _ => 200) H fun b => if b = DD then 101 else 100) H1d DD i H') ?_ ?_ ?_
    · exact ⟨ownN (fun _ => 200) H fun b => if b = DD then 101 else 100, [], Same.new hDD, fun _ _ _ _ => rfl, by rw [ownN_new (Fre.of (S0d.free hDD))]; exact if_pos rfl, upd_same, rfl, fun j p hj => by cases hj⟩
    · rintro i H' hi ⟨own, ps, S, ho, oD, hd, hl, hm⟩
      have hi7 : i < 7 := by omega
      refine ⟨rfl, yesT ?_⟩
      refine ⟨_, rfl, _, rfl, fun x dx nx ndx ne => ⟨x, dx, i, n, by rw [Int.zero_add]; rfl, upd_same, fun H4 l v s M4 nl nv ns fr dom => ⟨rfl, ?_⟩⟩⟩
      have S4 : Same H' H4 := Same.made nx ndx fr
      have old : ∀ y, upd (upd H' dx (.own x)) x (.ins C dx []) y = none → H' y = none := fun y hy => by
        by_cases e : y = x
        · rw [e]
          exact nx
        · rw [upd_ne e] at hy
          by_cases e2 : y = dx
          · rw [e2]
            exact ndx
          · rw [upd_ne e2] at hy
            exact hy
      have st := Made.step (by omega) hDD S ho oD hd hl hm S4 nx (old _ nl) (old _ nv) (old _ ns) M4
      rw [List.map_append] at st
      refine ⟨_, S4 _ _ hd, ?_, st⟩
      rw [List.length_map, hl]
      exact Nat.lt_of_le_of_lt (show _ ≤ 1000 by omega) (by decide)
    · rintro H' M
      rw [Int.toNat_natCast] at M
      refine ⟨Nat.zero_le _, fun wl hwl => ⟨Nat.zero_le _, fun sl hsl => ?_⟩⟩
      have cb := Made.world (PT := PT) (own0 := fun _ => 200) (d := dd) (by omega) nd0 (ownN (fun _ => 200) H fun b => if b = DD then 101 else 100) (fun b o h nt => ownN_old h nt) (by rw [ownN_new (Fre.of nd0)]; exact if_neg nDd) hd1 (fun b o h => S0d _ _ h) hT M hwl hsl
      obtain ⟨own, ps, S, _⟩ := M
      refine ⟨?_, [(Sum.inr "masters", .ref DD), (Sum.inr "way", .ref wl), (Sum.inr "story", .ref sl), (Sum.inr "rows", .int 0)], rfl, (by show 4 ≤ 15; decide), ?_⟩
      · rw [upd_ne (ne_of_none (Same.new hwl _ _ (S _ _ hd1)) hsl), upd_ne (ne_of_none (S _ _ hd1) hwl)]
        exact S _ _ hd1
      · exact hq n dd _ n0 n7 cb
end
end K85
namespace K85
open PySem L2
/-! ### two logs begin alike -/
def rowD (z : Int) : PyData := .tuple [.str "row", .int z]
theorem rows_data {K : PySem.W.Frag} {H : Hp} {xs : List V} {zs : List Int} (h : RowsAt H xs zs) : DpAll K H xs (zs.map rowD) := by
  induction h with
  | nil => exact .nil
  | cons r _ ih =>
    obtain ⟨a, rfl, ha⟩ := r
    exact .cons (.tup (SqT.of ha) (.cons (.str _) (.cons (.int _) .nil))) ih
theorem rows_plain : ∀ zs : List Int, ∀ d ∈ zs.map rowD, PlD d := fun zs d hd => by
  obtain ⟨z, _, rfl⟩ := List.mem_map.mp hd
  exact pld_row z
theorem rows_eqv (zs : List Int) : PyData.eqv (.tuple (zs.map rowD)) (.tuple (zs.map rowD)) = true := by
  refine PySem.SeqAt.eqv_refl_plain _ ?_
  simp only [PyData.plain]
  induction zs with
  | nil => rfl
  | cons z r ih =>
    rw [List.map_cons]
    simp [PyData.plainAll, ih, rowD, PyData.plain]
theorem cut_take (xs : List V) (m : Nat) (h : m ≤ xs.length) : cutV xs none (some (m : Int)) = xs.take m := by
  unfold cutV
  rw [HT.sIx_none, HT.sIx_nat, List.drop_zero, Nat.sub_zero, Nat.min_eq_left h]
abbrev sBegins : Stmt := top 17
def spBegins : Sp := fun vs H Q _ => ∃ (a b : Addr) (xs ys : List V) (zs ws : List Int), vs = [.ref a, .ref b] ∧ H a = some (.tup xs) ∧ H b = some (.tup ys) ∧ RowsAt H xs zs ∧ RowsAt H ys ws ∧
  ∀ (H' : Hp) (r : Bool), Same H H' → (zs.take (min zs.length ws.length) = ws.take (min zs.length ws.length) → r = true) → Q (.bl r) H'
section
variable {P : Program} {w : World} {K : PySem.W.Frag} {mg : Str → Option Value} {base : Heap} {C PT c : Addr}
theorem scBegins : FnScope ["_law_one", "_law_other", "_law_short"] ["_law_one", "_law_other"] (defScope sBegins) := ⟨rfl, rfl, rfl, by decide +kernel, rfl, by decide +kernel, by decide +kernel⟩
theorem ok_begins {f : Addr} {fd : FuncData} (F : Fun K "_law_begins" "_law_begins" sBegins f fd) (T : Txt K mg C) : FnOk P w K mg base CX0 1 f fd ["_law_one", "_law_other"] spBegins := by
  refine F.ok scBegins (fun vs H Q E h => ?_) (fun cdv Ar outer sh H vs Q E hr h => ?_)
  · obtain ⟨a, b, xs, ys, zs, ws, rfl, _⟩ := h
    rfl
  · obtain ⟨a, b, xs, ys, zs, ws, rfl, ha, hb, hx, hy, hq⟩ := h
    refine ⟨_, pss_cons (ps_set (i := 2) scBegins.nd rfl (.inl rfl) (pe_callB (call_min2 rfl) (by rfl) T.min (by decide +kernel) (pa_cons (pe_callB call_len_seq (by rfl) T.len PySem.boot_len (pa_cons (pv 0) pa_nil)) (pa_cons (pe_callB call_len_seq (by rfl) T.len PySem.boot_len (pa_cons (pv 1) pa_nil)) pa_nil))))
      (pss_one (ps_ret (pe_cmpR (op_eqD hr.units) (pe_slice sl_tupA (pv 0) po_none (po_some (pv 2))) (pe_slice sl_tupA (pv 1) po_none (po_some (pv 2))) (nomark _)))), ?_⟩
    refine ⟨_, rfl, a, xs, rfl, .inr (SqT.of ha), _, rfl, b, ys, rfl, .inr (SqT.of hb), _, _, rfl, ?_⟩
    have lx : xs.length = zs.length := hx.length
    have ly : ys.length = ws.length := hy.length
    have em : (if (ys.length : Int) < (xs.length : Int) then (ys.length : Int) else (xs.length : Int)) = ((min zs.length ws.length : Nat) : Int) := by
      rw [lx, ly]
      split <;> omega
    have m1 : min zs.length ws.length ≤ xs.length := by omega
    have m2 : min zs.length ws.length ≤ ys.length := by omega
    generalize em0 : min zs.length ws.length = m at em m1 m2 hq
    have final : ∀ (H2 : Hp) (a' b' : Addr), Same H H2 → H2 a' = some (.tup (xs.take m)) → H2 b' = some (.tup (ys.take m)) → ∃ d e, Dp K H2 (.ref a') d ∧ Dp K H2 (.ref b') e ∧ SeqAt.shaped d = true ∧ SeqAt.shaped e = true ∧ Q (.bl (PyData.eqv d e)) H2 := by
      intro H2 a' b' S h1 h2
      refine ⟨_, _, .tup (SqT.of h1) (rows_data (Paired.take m (hx.kp (Kp.same S)))), .tup (SqT.of h2) (rows_data (Paired.take m (hy.kp (Kp.same S)))), shaped_tuple _ (rows_plain _), shaped_tuple _ (rows_plain _), hq H2 _ S fun e => ?_⟩
      rw [e]
      exact rows_eqv _
    have wx : ∀ ys : List V, m ≤ ys.length → HT.sIx ys.length 0 none = 0 ∧ HT.sIx ys.length ys.length (some (m : Int)) = ys.length → ys.take m = ys := fun ys h z => by
      have z := z.2
      rw [HT.sIx_nat] at z
      exact List.take_of_length_le (by omega)
    refine ⟨_, rfl, _, rfl, m, congrArg V.int em, a, xs, rfl, SqT.of ha, fun hw => ?_, fun hw p hp => ?_⟩
    · refine ⟨_, rfl, _, rfl, m, congrArg V.int em, b, ys, rfl, SqT.of hb, fun hw2 => ?_, fun hw2 p2 hp2 => ?_⟩
      · exact final H a b (fun _ _ h => h) (by rw [wx xs m1 hw]; exact ha) (by rw [wx ys m2 hw2]; exact hb)
      · have S := Same.new (o := .tup (cutV ys none (some (m : Int)))) hp2
        exact final _ a p2 S (by rw [wx xs m1 hw]; exact S _ _ ha) (by rw [← cut_take ys m m2]; exact upd_same)
    · have S := Same.new (o := .tup (cutV xs none (some (m : Int)))) hp
      refine ⟨_, rfl, _, rfl, m, congrArg V.int em, b, ys, rfl, SqT.of (S _ _ hb), fun hw2 => ?_, fun hw2 p2 hp2 => ?_⟩
      · exact final _ p b S (by rw [← cut_take xs m m1]; exact upd_same) (by rw [wx ys m2 hw2]; exact S _ _ hb)
      · have S2 := Same.new (o := .tup (cutV ys none (some (m : Int)))) hp2
        exact final _ p p2 (S.trans S2) (by rw [← cut_take xs m m1]; exact S2 _ _ upd_same) (by rw [← cut_take ys m m2]; exact upd_same)
end
end K85
namespace K85
open PySem L2
theorem same_refl (H : Hp) : Same H H := fun _ _ h => h
def wordS : Msg → Str
  | .stand .. => "stand"
  | .voice .. => "voice"
  | .keep .. => "keep"
  | .kept .. => "kept"
def isVoice : Msg → Bool
  | .voice .. => true
  | _ => false
theorem word_voice (x : Msg) : decide (V.str (wordS x) = V.str "voice") = isVoice x := by
  cases x with
  | stand s d t =>
    show decide (V.str "stand" = V.str "voice") = false
    decide +kernel
  | voice s d t o lg =>
    show decide (V.str "voice" = V.str "voice") = true
    decide +kernel
  | keep s d t rows sure =>
    show decide (V.str "keep" = V.str "voice") = false
    decide +kernel
  | kept s d t size =>
    show decide (V.str "kept" = V.str "voice") = false
    decide +kernel
theorem MsgAt.word {H : Hp} {x : V} {msg : Msg} (h : MsgAt H x msg) : ∃ (a : Addr) (rest : List V), x = .ref a ∧ H a = some (.tup (.str (wordS msg) :: rest)) := by
  cases msg with
  | stand s d t =>
    obtain ⟨a, e, h⟩ := h
    exact ⟨a, _, e, h⟩
  | voice s d t o lg =>
    obtain ⟨a, b, xs, e, h, _⟩ := h
    exact ⟨a, _, e, h⟩
  | keep s d t rows sure =>
    obtain ⟨a, b, xs, e, h, _⟩ := h
    exact ⟨a, _, e, h⟩
  | kept s d t size =>
    obtain ⟨a, e, h⟩ := h
    exact ⟨a, _, e, h⟩
abbrev sVoices : Stmt := top 18
def spVoices : Sp := fun vs H Q _ => ∃ (own : Addr → Nat) (tv : V) (told : Option (List Msg)), vs = [tv] ∧ ToldAt own H tv told ∧ (told.getD []).length ≤ 1000 ∧
  ∀ (H' : Hp) (q : Addr) (xs : List V), Same H H' → H q = none → H' q = some (.lst xs) → MsgsAt H' xs ((told.getD []).filter isVoice) → Q (.ref q) H'
section
variable {P : Program} {w : World} {K : PySem.W.Frag} {mg : Str → Option Value} {base : Heap} {C PT c : Addr}
theorem scVoices : FnScope ["_law_told", "_law_message"] ["_law_told"] (defScope sVoices) := ⟨rfl, rfl, rfl, by decide +kernel, rfl, by decide +kernel, by decide +kernel⟩
theorem ok_voices {f : Addr} {fd : FuncData} (F : Fun K "_law_voices" "_law_voices" sVoices f fd) (T : Txt K mg C) : FnOk P w K mg base CX0 1 f fd ["_law_told"] spVoices := by
  refine F.ok scVoices (fun vs H Q E h => ?_) (fun cdv Ar outer sh H vs Q E hr h => ?_)
  · obtain ⟨own, tv, told, rfl, _⟩ := h
    rfl
  · obtain ⟨own, tv, told, rfl, hto, htl, hq⟩ := h
    refine ⟨_, pss_one (ps_ret (pe_lc (own := [("_law_message", 1)]) (g := gName 1) rfl scVoices.nd (pi_list (pe_orT (pv 0) (pe_one (pe_lst pa_nil)))) (blkOk_by (N := ["_law_told", "_law_message"]) (sc := defScope sVoices) (by decide +kernel))
        (fun _ _ _ _ _ => pg_name (i := 1) scVoices.nd rfl (Or.inl rfl)) (fun _ _ _ _ _ => pts_one (pt_cmpR op_eq (pe_ix (ix_tupB K rfl) (pv 1) pe_int (fun _ _ => rfl)) pe_str (nomark _)))
        (fun _ _ _ _ _ => pv 1))), ?_⟩
    have empty : ∀ (H1 : Hp), MsgsAt H1 [] [] := fun _ => .nil
    cases told with
    | none =>
      obtain rfl : tv = .non := hto
      refine ⟨_, rfl, false, rfl, iteF ?_⟩
      refine ⟨Nat.zero_le _, fun a na => ?_⟩
      refine ⟨a, rfl, ⟨[], SqL.of upd_same⟩, fun D hD => ?_⟩
      have hHD : H D = none := (Same.new na).free hD
      refine lc_list (K := K) (a := a) (xs := []) (fun i H' => Same (upd H a (.lst [])) H' ∧ ∃ ys, H' D = some (.lst ys) ∧ MsgsAt H' ys ((([] : List Msg).take i).filter isVoice))
        ⟨Same.new hD, [], upd_same, .nil⟩ (fun i H' _ ⟨S, _⟩ => S.seq (SqL.of upd_same)) ?_ ?_
      · rintro i x H' hi ⟨S, ys, hys, hy⟩
        obtain ⟨y, hyi, hym⟩ := Paired.get (empty (upd H a (.lst []))) hi
        have hym := MsgAt.kp (Kp.same S) hym
        obtain ⟨a1, rest, rfl, ha1⟩ := hym.word
        refine ⟨rfl, _, rfl, a1, _, _, _, rfl, rfl, SqT.of ha1, atI_nat (j := 0) rfl, rfl, _, rfl, ?_⟩
        refine ite2 (fun h1 => ?_) (fun h1 => ?_)
        · have h1 : isVoice y = true := by
            rw [← word_voice]
            exact h1
          refine ⟨_, rfl, ys, hys, ?_, ?_⟩
          · have e := hy.length
            have e2 := List.length_filter_le isVoice (([] : List Msg).take i)
            rw [List.length_take] at e2
            have e3 : ([] : List Msg).length ≤ 1000 := Nat.zero_le _
            exact Nat.lt_of_le_of_lt (show _ ≤ 1000 by omega) (by decide)
          · refine ⟨fun c u hc => ?_, ys ++ [.ref a1], upd_same, ?_⟩
            · rw [upd_ne (ne_of_none hc hD)]
              exact S _ _ hc
            · rw [take_succ_of hyi, List.filter_append, show List.filter isVoice [y] = [y] by simp [h1]]
              have K1 : Kp H' (upd H' D (.lst (ys ++ [.ref a1]))) := Kp.mut hys fun z => z
              exact Paired.snoc (MsgsAt.kp K1 hy) (hym.kp K1)
        · have h1 : isVoice y = false := by
            rw [← word_voice]
            exact Bool.eq_false_iff.mpr h1
          refine ⟨S, ys, hys, ?_⟩
          rw [take_succ_of hyi, List.filter_append, show List.filter isVoice [y] = [] by simp [h1], List.append_nil]
          exact hy
      · rintro H' ⟨S, ys, hys, hy⟩
        rw [show ([]).length = (([] : List Msg)).length from Paired.length (empty (upd H a (.lst []))), List.take_length] at hy
        refine hq H' D ys ((Same.new na).trans S) hHD hys ?_
        exact hy
    | some ms =>
      obtain ⟨q, xs, rfl, _, hq0, hms⟩ := hto
      refine ⟨_, rfl, !xs.isEmpty, .inl ⟨xs, SqL.of hq0, rfl⟩, ?_⟩
      cases xs with
      | nil =>
        cases hms
        refine iteF ?_
        refine ⟨Nat.zero_le _, fun a na => ?_⟩
        refine ⟨a, rfl, ⟨[], SqL.of upd_same⟩, fun D hD => ?_⟩
        have hHD : H D = none := (Same.new na).free hD
        refine lc_list (K := K) (a := a) (xs := []) (fun i H' => Same (upd H a (.lst [])) H' ∧ ∃ ys, H' D = some (.lst ys) ∧ MsgsAt H' ys ((([] : List Msg).take i).filter isVoice))
          ⟨Same.new hD, [], upd_same, .nil⟩ (fun i H' _ ⟨S, _⟩ => S.seq (SqL.of upd_same)) ?_ ?_
        · rintro i x H' hi ⟨S, ys, hys, hy⟩
          obtain ⟨y, hyi, hym⟩ := Paired.get (empty (upd H a (.lst []))) hi
          have hym := MsgAt.kp (Kp.same S) hym
          obtain ⟨a1, rest, rfl, ha1⟩ := hym.word
          refine ⟨rfl, _, rfl, a1, _, _, _, rfl, rfl, SqT.of ha1, atI_nat (j := 0) rfl, rfl, _, rfl, ?_⟩
          refine ite2 (fun h1 => ?_) (fun h1 => ?_)
          · have h1 : isVoice y = true := by
              rw [← word_voice]
              exact h1
            refine ⟨_, rfl, ys, hys, ?_, ?_⟩
            · have e := hy.length
              have e2 := List.length_filter_le isVoice (([] : List Msg).take i)
              rw [List.length_take] at e2
              have e3 : ([] : List Msg).length ≤ 1000 := Nat.zero_le _
              exact Nat.lt_of_le_of_lt (show _ ≤ 1000 by omega) (by decide)
            · refine ⟨fun c u hc => ?_, ys ++ [.ref a1], upd_same, ?_⟩
              · rw [upd_ne (ne_of_none hc hD)]
                exact S _ _ hc
              · rw [take_succ_of hyi, List.filter_append, show List.filter isVoice [y] = [y] by simp [h1]]
                have K1 : Kp H' (upd H' D (.lst (ys ++ [.ref a1]))) := Kp.mut hys fun z => z
                exact Paired.snoc (MsgsAt.kp K1 hy) (hym.kp K1)
          · have h1 : isVoice y = false := by
              rw [← word_voice]
              exact Bool.eq_false_iff.mpr h1
            refine ⟨S, ys, hys, ?_⟩
            rw [take_succ_of hyi, List.filter_append, show List.filter isVoice [y] = [] by simp [h1], List.append_nil]
            exact hy
        · rintro H' ⟨S, ys, hys, hy⟩
          rw [show ([]).length = (([] : List Msg)).length from Paired.length (empty (upd H a (.lst []))), List.take_length] at hy
          refine hq H' D ys ((Same.new na).trans S) hHD hys ?_
          exact hy
      | cons x0 xs0 =>
        refine iteT ?_
        refine ⟨q, rfl, ⟨(x0 :: xs0), SqL.of hq0⟩, fun D hD => ?_⟩
        have hHD : H D = none := (same_refl H).free hD
        refine lc_list (K := K) (a := q) (xs := (x0 :: xs0)) (fun i H' => Same (H) H' ∧ ∃ ys, H' D = some (.lst ys) ∧ MsgsAt H' ys ((ms.take i).filter isVoice))
          ⟨Same.new hD, [], upd_same, .nil⟩ (fun i H' _ ⟨S, _⟩ => S.seq (SqL.of hq0)) ?_ ?_
        · rintro i x H' hi ⟨S, ys, hys, hy⟩
          obtain ⟨y, hyi, hym⟩ := Paired.get hms hi
          have hym := MsgAt.kp (Kp.same S) hym
          obtain ⟨a1, rest, rfl, ha1⟩ := hym.word
          refine ⟨rfl, _, rfl, a1, _, _, _, rfl, rfl, SqT.of ha1, atI_nat (j := 0) rfl, rfl, _, rfl, ?_⟩
          refine ite2 (fun h1 => ?_) (fun h1 => ?_)
          · have h1 : isVoice y = true := by
              rw [← word_voice]
              exact h1
            refine ⟨_, rfl, ys, hys, ?_, ?_⟩
            · have e := hy.length
              have e2 := List.length_filter_le isVoice (ms.take i)
              rw [List.length_take] at e2
              have e3 : ms.length ≤ 1000 := htl
              exact Nat.lt_of_le_of_lt (show _ ≤ 1000 by omega) (by decide)
            · refine ⟨fun c u hc => ?_, ys ++ [.ref a1], upd_same, ?_⟩
              · rw [upd_ne (ne_of_none hc hD)]
                exact S _ _ hc
              · rw [take_succ_of hyi, List.filter_append, show List.filter isVoice [y] = [y] by simp [h1]]
                have K1 : Kp H' (upd H' D (.lst (ys ++ [.ref a1]))) := Kp.mut hys fun z => z
                exact Paired.snoc (MsgsAt.kp K1 hy) (hym.kp K1)
          · have h1 : isVoice y = false := by
              rw [← word_voice]
              exact Bool.eq_false_iff.mpr h1
            refine ⟨S, ys, hys, ?_⟩
            rw [take_succ_of hyi, List.filter_append, show List.filter isVoice [y] = [] by simp [h1], List.append_nil]
            exact hy
        · rintro H' ⟨S, ys, hys, hy⟩
          rw [show ((x0 :: xs0)).length = (ms).length from Paired.length hms, List.take_length] at hy
          refine hq H' D ys ((same_refl H).trans S) hHD hys ?_
          exact hy
end
end K85
namespace K85
open PySem L2
/-! ### what the looker has seen, in the heap -/
/-- all but dicts stays -/
def KD (H H' : Hp) : Prop := ∀ b o, H b = some o → (∀ k, o ≠ .dK k) → (∀ k, o ≠ .dT k) → H' b = some o
theorem KD.same {H H' : Hp} (S : Same H H') : KD H H' := fun b o h _ _ => S b o h
theorem KD.trans {H H1 H2 : Hp} (a : KD H H1) (b : KD H1 H2) : KD H H2 := fun c o h h1 h2 => b c o (a c o h h1 h2) h1 h2
theorem KD.kp {H H' : Hp} (a : KD H H') : Kp H H' := fun b o h hp => a b o h (fun k e => by rw [e] at hp; exact hp) (fun k e => by rw [e] at hp; exact hp)
theorem KD.putK {H : Hp} {a : Addr} {k k' : List (Key × V)} (h : H a = some (.dK k)) : KD H (upd H a (.dK k')) := fun b o hb h1 _ => by
  rw [upd_ne]
  · exact hb
  · intro e
    rw [e, h] at hb
    exact h1 k (Option.some.inj hb).symm
theorem KD.putT {H : Hp} {a : Addr} {k k' : List (List Key × V)} (h : H a = some (.dT k)) : KD H (upd H a (.dT k')) := fun b o hb _ h2 => by
  rw [upd_ne]
  · exact hb
  · intro e
    rw [e, h] at hb
    exact h2 k (Option.some.inj hb).symm
theorem KD.lst {H H' : Hp} {b : Addr} {xs : List V} (a : KD H H') (h : H b = some (.lst xs)) : H' b = some (.lst xs) := a b _ h (fun _ e => by cases e) (fun _ e => by cases e)
theorem KD.tup {H H' : Hp} {b : Addr} {xs : List V} (a : KD H H') (h : H b = some (.tup xs)) : H' b = some (.tup xs) := a b _ h (fun _ e => by cases e) (fun _ e => by cases e)
theorem ToldAt.kd {own : Addr → Nat} {H H' : Hp} {v : V} {told : Option (List Msg)} (a : KD H H') (h : ToldAt own H v told) : ToldAt own H' v told := by
  cases told with
  | none => exact h
  | some ms =>
    obtain ⟨y, xs, e1, o1, h6, h7⟩ := h
    exact ⟨y, xs, e1, o1, a.lst h6, h7.kp a.kp⟩
theorem RowAt.kd {own : Addr → Nat} {H H' : Hp} {v : V} {r : Row} (a : KD H H') (h : RowAt own H v r) : RowAt own H' v r := by
  obtain ⟨x, t, b, dv, wv, tv, bs, e, h1, h2, h3, h4, h5⟩ := h.ex
  refine ⟨x, t, b, dv, wv, tv, bs, e, a.tup h1, ?_, a.tup h3, a.tup h4, h5.kp a.kp⟩
  cases q : r.told with
  | none =>
    rw [q] at h2
    exact h2
  | some ms =>
    rw [q] at h2
    obtain ⟨y, xs, e1, o1, h6, h7⟩ := h2
    exact ⟨y, xs, e1, o1, a.lst h6, h7.kp a.kp⟩
structure SeenAt (H : Hp) (sd td vd gd : Addr) (S : Seen) (c : Nat) : Prop where
  sd_ : H sd = some (.dK [(Sum.inr "terms", .ref td), (Sum.inr "voices", .ref vd), (Sum.inr "logs", .ref gd)])
  te : ∃ tk, H td = some (.dK tk) ∧ tk.length ≤ c ∧ ∀ k : Nat, (valV tk (Sum.inl (k : Int))).getD (.int 0) = .int (S.terms k)
  vo : ∃ vk, H vd = some (.dT vk) ∧ vk.length ≤ c ∧ ∀ j t : Nat, (valV vk [Sum.inl (j : Int), Sum.inl (t : Int)]).isSome = S.voices j t
  lo : ∃ gk, H gd = some (.dK gk) ∧ gk.length ≤ c ∧ ∀ t : Nat, (valV gk (Sum.inl (t : Int)) = none ∧ S.logs t = []) ∨ ∃ b bs, valV gk (Sum.inl (t : Int)) = some (.ref b) ∧ H b = some (.tup bs) ∧ RowsAt H bs (S.logs t)
  ts : td ≠ sd
  tg : td ≠ gd
  gs : gd ≠ sd
theorem putK_len {κ : Type} [DecidableEq κ] (kvs : List (κ × V)) (k : κ) (v : V) : (putK kvs k v).length ≤ kvs.length + 1 := by
  unfold putK
  split
  · rw [List.length_map]
    exact Nat.le_succ _
  · rw [List.length_append]
    exact Nat.le_refl _
section
variable {H H' : Hp} {sd td vd gd : Addr} {S : Seen} {c c' : Nat}
theorem SeenAt.same (s : SeenAt H sd td vd gd S c) (Sm : Same H H') : SeenAt H' sd td vd gd S c := by
  obtain ⟨tk, t1, t2, t3⟩ := s.te
  obtain ⟨vk, v1, v2, v3⟩ := s.vo
  obtain ⟨gk, g1, g2, g3⟩ := s.lo
  refine ⟨Sm _ _ s.sd_, ⟨tk, Sm _ _ t1, t2, t3⟩, ⟨vk, Sm _ _ v1, v2, v3⟩, ⟨gk, Sm _ _ g1, g2, fun t => ?_⟩, s.ts, s.tg, s.gs⟩
  rcases g3 t with z | ⟨b, bs, e1, e2, e3⟩
  · exact .inl z
  · exact .inr ⟨b, bs, e1, Sm _ _ e2, e3.kp (Kp.same Sm)⟩
theorem SeenAt.mono (s : SeenAt H sd td vd gd S c) (h : c ≤ c') : SeenAt H sd td vd gd S c' := by
  obtain ⟨tk, t1, t2, t3⟩ := s.te
  obtain ⟨vk, v1, v2, v3⟩ := s.vo
  obtain ⟨gk, g1, g2, g3⟩ := s.lo
  exact ⟨s.sd_, ⟨tk, t1, Nat.le_trans t2 h, t3⟩, ⟨vk, v1, Nat.le_trans v2 h, v3⟩, ⟨gk, g1, Nat.le_trans g2 h, g3⟩, s.ts, s.tg, s.gs⟩
theorem SeenAt.vs (s : SeenAt H sd td vd gd S c) : vd ≠ sd ∧ vd ≠ td ∧ vd ≠ gd := by
  obtain ⟨tk, t1, _⟩ := s.te
  obtain ⟨vk, v1, _⟩ := s.vo
  obtain ⟨gk, g1, _⟩ := s.lo
  exact ⟨ne_of v1 s.sd_ (fun z => by cases z), ne_of v1 t1 (fun z => by cases z), ne_of v1 g1 (fun z => by cases z)⟩
/-- a term is put -/
theorem SeenAt.term (s : SeenAt H sd td vd gd S c) {tk : List (Key × V)} (h : H td = some (.dK tk)) (k t : Nat) : SeenAt (upd H td (.dK (putK tk (Sum.inl (k : Int)) (.int t)))) sd td vd gd ⟨tset S.terms k t, S.voices, S.logs⟩ (c + 1) := by
  obtain ⟨tk', t1, t2, t3⟩ := s.te
  obtain ⟨vk, v1, v2, v3⟩ := s.vo
  obtain ⟨gk, g1, g2, g3⟩ := s.lo
  rw [h] at t1
  cases t1
  have D : KD H (upd H td (.dK (putK tk (Sum.inl (k : Int)) (.int t)))) := KD.putK h
  refine ⟨by rw [upd_ne s.ts.symm]; exact s.sd_, ⟨_, upd_same, Nat.le_trans (putK_len _ _ _) (Nat.succ_le_succ t2), fun j => ?_⟩, ⟨vk, by rw [upd_ne s.vs.2.1]; exact v1, Nat.le_succ_of_le v2, v3⟩, ⟨gk, by rw [upd_ne s.tg.symm]; exact g1, Nat.le_succ_of_le g2, fun u => ?_⟩, s.ts, s.tg, s.gs⟩
  · rw [valV_put]
    show _ = V.int (tset S.terms k t j : Nat)
    unfold tset
    by_cases e : j = k
    · rw [if_pos (by rw [e]), if_pos e]
      rfl
    · rw [if_neg (fun z => e (by injection z with z; omega)), if_neg e]
      exact t3 j
  · rcases g3 u with z | ⟨b, bs, e1, e2, e3⟩
    · exact .inl z
    · exact .inr ⟨b, bs, e1, D.tup e2, e3.kp D.kp⟩
/-- a voice is put -/
theorem SeenAt.voice (s : SeenAt H sd td vd gd S c) {vk : List (List Key × V)} (h : H vd = some (.dT vk)) (k t : Nat) (y : V) : SeenAt (upd H vd (.dT (putK vk [Sum.inl (k : Int), Sum.inl (t : Int)] y))) sd td vd gd ⟨S.terms, vset S.voices k t, S.logs⟩ (c + 1) := by
  obtain ⟨tk, t1, t2, t3⟩ := s.te
  obtain ⟨vk', v1, v2, v3⟩ := s.vo
  obtain ⟨gk, g1, g2, g3⟩ := s.lo
  rw [h] at v1
  cases v1
  have D : KD H (upd H vd (.dT (putK vk [Sum.inl (k : Int), Sum.inl (t : Int)] y))) := KD.putT h
  refine ⟨by rw [upd_ne s.vs.1.symm]; exact s.sd_, ⟨tk, by rw [upd_ne s.vs.2.1.symm]; exact t1, Nat.le_succ_of_le t2, t3⟩, ⟨_, upd_same, Nat.le_trans (putK_len _ _ _) (Nat.succ_le_succ v2), fun j u => ?_⟩, ⟨gk, by rw [upd_ne s.vs.2.2.symm]; exact g1, Nat.le_succ_of_le g2, fun u => ?_⟩, s.ts, s.tg, s.gs⟩
  · rw [valV_put]
    show _ = vset S.voices k t j u
    unfold vset
    by_cases e : j = k ∧ u = t
    · rw [if_pos (by rw [e.1, e.2]), if_pos e]
      rfl
    · rw [if_neg (fun z => e (by
        injection z with z1 z2
        injection z2 with z2 _
        injection z1 with z1
        injection z2 with z2
        omega)), if_neg e]
      exact v3 j u
  · rcases g3 u with z | ⟨b, bs, e1, e2, e3⟩
    · exact .inl z
    · exact .inr ⟨b, bs, e1, D.tup e2, e3.kp D.kp⟩
/-- a log is put -/
theorem SeenAt.log (s : SeenAt H sd td vd gd S c) {gk : List (Key × V)} (h : H gd = some (.dK gk)) (o : Nat) {lg : List Int} {b : Addr} {bs : List V} (hb : H b = some (.tup bs)) (hr : RowsAt H bs lg) (hl : (S.logs o).length < lg.length) :
    SeenAt (upd H gd (.dK (putK gk (Sum.inl (o : Int)) (.ref b)))) sd td vd gd ⟨S.terms, S.voices, lset S.logs o lg⟩ (c + 1) := by
  obtain ⟨tk, t1, t2, t3⟩ := s.te
  obtain ⟨vk, v1, v2, v3⟩ := s.vo
  obtain ⟨gk', g1, g2, g3⟩ := s.lo
  rw [h] at g1
  cases g1
  have D : KD H (upd H gd (.dK (putK gk (Sum.inl (o : Int)) (.ref b)))) := KD.putK h
  refine ⟨by rw [upd_ne s.gs.symm]; exact s.sd_, ⟨tk, by rw [upd_ne s.tg]; exact t1, Nat.le_succ_of_le t2, t3⟩, ⟨vk, by rw [upd_ne s.vs.2.2]; exact v1, Nat.le_succ_of_le v2, v3⟩, ⟨_, upd_same, Nat.le_trans (putK_len _ _ _) (Nat.succ_le_succ g2), fun u => ?_⟩, s.ts, s.tg, s.gs⟩
  show (valV (putK gk (Sum.inl (o : Int)) (.ref b)) (Sum.inl (u : Int)) = none ∧ lset S.logs o lg u = []) ∨ ∃ b' bs', valV (putK gk (Sum.inl (o : Int)) (.ref b)) (Sum.inl (u : Int)) = some (.ref b') ∧ _ ∧ RowsAt _ bs' (lset S.logs o lg u)
  rw [valV_put]
  unfold lset
  by_cases e : u = o
  · rw [if_pos (by rw [e]), if_pos ⟨e, hl⟩]
    exact .inr ⟨b, bs, rfl, D.tup hb, hr.kp D.kp⟩
  · rw [if_neg (fun z => e (by injection z with z; omega)), if_neg (fun z => e z.1)]
    rcases g3 u with z | ⟨b', bs', e1, e2, e3⟩
    · exact .inl z
    · exact .inr ⟨b', bs', e1, D.tup e2, e3.kp D.kp⟩
end
theorem lset_no {S : Nat → List Int} {o : Nat} {lg : List Int} (h : ¬ (S o).length < lg.length) : lset S o lg = S := by
  funext t
  unfold lset
  exact if_neg fun z => h z.2
theorem Voiced.voices {n k : Nat} {V W : Nat → Nat → Bool} {l : List Msg} (h : Voiced n k V l W) : Voiced n k V (l.filter isVoice) W := by
  induction h with
  | nil V => exact .nil V
  | voice V W src dst t o lg r h1 h2 _ ih =>
    rw [show List.filter isVoice (Msg.voice src dst t o lg :: r) = Msg.voice src dst t o lg :: List.filter isVoice r from rfl]
    exact .voice V W src dst t o lg _ h1 h2 ih
  | other V W x r hx _ ih =>
    rw [List.filter_cons_of_neg]
    · exact ih
    · cases x with
      | voice s d t o lg => exact absurd rfl (hx s d t o lg)
      | stand s d t => simp [isVoice]
      | keep s d t r u => simp [isVoice]
      | kept s d t z => simp [isVoice]
end K85
namespace K85
open PySem L2
abbrev sLawful : Stmt := top 19
def spLawful : Sp := fun vs H Q _ => ∃ (own : Addr → Nat) (n : Nat) (sd td vd gd : Addr) (S : Seen) (c : Nat) (x : V) (row : Row) (V : Nat → Nat → Bool), vs = [.ref sd, .int n, x] ∧ SeenAt H sd td vd gd S c ∧ RowAt own H x row ∧ Lawf n S row V ∧ 0 < n ∧ n ≤ 90 ∧ (row.told.getD []).length ≤ 91 ∧ c ≤ 1000000 ∧
  ∀ H', SeenAt H' sd td vd gd (S.next row V) (c + 100) → KD H H' → Q (.bl true) H'
section
variable {P : Program} {w : World} {K : PySem.W.Frag} {mg : Str → Option Value} {base : Heap} {C PT c : Addr}
abbrev nLawful : List Str := ["_law_seen", "_law_many", "_law_row", "_law_m", "_law_deed", "_law_what", "_law_told", "_law_then", "_law_term", "_law_of", "_law_log", "_law_sure", "_law_role", "_law_message", "_law_some", "_law_number"]
theorem scLawful : FnScope nLawful ["_law_seen", "_law_many", "_law_row"] (defScope sLawful) := ⟨rfl, rfl, rfl, by decide +kernel, rfl, by decide +kernel, by decide +kernel⟩
theorem ok_lawful {f : Addr} {fd : FuncData} (F : Fun K "_law_lawful" "_law_lawful" sLawful f fd) (T : Txt K mg C) (DV : DefT P w K mg base 1 "_law_voices" ["_law_told"] spVoices) (DB : DefT P w K mg base 1 "_law_begins" ["_law_one", "_law_other"] spBegins) : FnOk P w K mg base CX0 2 f fd ["_law_seen", "_law_many", "_law_row"] spLawful := by
  obtain ⟨fV, fdV, GV, mV, kV', bV⟩ := DV.ex
  obtain ⟨fB, fdB, GB, mB, kB, bB⟩ := DB.ex
  refine F.ok scLawful (fun vs H Q E h => ?_) (fun cdv Ar outer sh H vs Q E hr h => ?_)
  · obtain ⟨own, n, sd, td, vd, gd, S, c, x, row, V, rfl, _⟩ := h
    rfl
  · obtain ⟨own, n, sd, td, vd, gd, S, c, x, row, VW, rfl, s0, hrow, L, hn0, hn, htl, hc, hq⟩ := h
    have hu := hu_of hr
    refine ⟨_, C8.pss_cut (ps_asg (pv 2) (pg_tup rfl (pgs_cons (pg_name (i := 3) scLawful.nd rfl (.inl rfl)) (pgs_cons (pg_name (i := 4) scLawful.nd rfl (.inl rfl)) (pgs_cons (pg_name (i := 5) scLawful.nd rfl (.inl rfl)) (pgs_cons (pg_name (i := 6) scLawful.nd rfl (.inl rfl)) (pgs_cons (pg_name (i := 7) scLawful.nd rfl (.inl rfl)) pgs_nil)))))))
      (C8.pss_cut (ps_asg (pv 7) (pg_tup rfl (pgs_cons (pg_name (i := 8) scLawful.nd rfl (.inr rfl)) (pgs_cons (pg_name (i := 9) scLawful.nd rfl (.inl rfl)) (pgs_cons (pg_name (i := 10) scLawful.nd rfl (.inl rfl)) (pgs_cons (pg_name (i := 11) scLawful.nd rfl (.inl rfl)) (pgs_cons (pg_name (i := 12) scLawful.nd rfl (.inl rfl)) pgs_nil)))))))
      (C8.pss_cut (ps_if (PW.pt (pw_or (pt_cmpR op_lt (pv 8) (pe_dget2 hu (pe_dget hu (pv 0) pe_str (fun _ _ => rfl)) (pv 3) pe_int ⟨rfl, rfl, rfl, rfl⟩) (nomark _)) (pw_or (pt_cmpR op_gt (pv 9) (pv 8) (nomark _)) (pw_or1 (pt_cmpR op_gt (pv 11) (pe_callB call_len_seq (by rfl) T.len PySem.boot_len (pa_cons (pv 10) pa_nil)) (nomark _))))))
        (pss_one (ps_ret pe_bl)) pss_nil)
      (C8.pss_cut (ps_dput hu (pe_dget hu (pv 0) pe_str (fun _ _ => rfl)) (pv 3) (pv 8) rfl)
      (C8.pss_cut (ps_for PassesOwn.never rfl (pi_list (pe_call GV hr rfl mV kV' bV .nil pass0 (pa_cons (pv 6) pa_nil))) (pg_name (i := 13) scLawful.nd rfl (.inl rfl))
        (pss_cons (ps_if (PW.pt (pw_or (pt_cmp (pc_din hu (pe_tup (pa_cons (pv 3) (pa_cons (pe_ix ix_tup (pv 13) pe_int (fun _ _ => rfl)) pa_nil))) (pe_dget hu (pv 0) pe_str (fun _ _ => rfl)))) (pw_or1 (pt_cmpR op_ne (pe_op op_mod (pe_ix ix_tup (pv 13) pe_int (fun _ _ => rfl)) (pv 1)) (pe_ix ix_tup (pv 13) pe_int (fun _ _ => rfl)) (nomark _)))))
          (pss_one (ps_ret pe_bl)) pss_nil)
        (pss_one (ps_dput hu (pe_dget hu (pv 0) pe_str (fun _ _ => rfl)) (pe_tup (pa_cons (pv 3) (pa_cons (pe_ix ix_tup (pv 13) pe_int (fun _ _ => rfl)) pa_nil))) pe_bl rfl))))
      (C8.pss_cut (ps_if (pt_cmpR op_eq (pv 12) pe_str (nomark _))
        (pss_cons (ps_setLc (i := 14) (own := [("_law_number", 15)]) (g := gName 15) rfl scLawful.nd rfl rfl (sw_true rfl rfl rfl (by decide +kernel)) (pi_range1 rfl T.range (pa_cons (pv 1) pa_nil)) (blkOk_by (N := nLawful) (sc := defScope sLawful) (by decide +kernel))
            (fun _ _ _ _ _ => pg_name (i := 15) scLawful.nd rfl (Or.inl rfl)) (fun _ _ _ _ _ => pts_one (pt_cmp (pc_din hu (pe_tup (pa_cons (pv 15) (pa_cons (pv 8) pa_nil))) (pe_dget hu (pv 0) pe_str (fun _ _ => rfl)))))
            (fun _ _ _ _ _ => pv 15))
        (pss_one (ps_if (PW.pt (pw_or (pt_cmpR op_ne (pe_op op_mod (pv 8) (pv 1)) (pv 3) (nomark _)) (pw_or (pt_cmpR op_le (pe_op op_mul pe_int (pe_op op_add (pe_callB call_len_seq (by rfl) T.len PySem.boot_len (pa_cons (pv 14) pa_nil)) pe_int)) (pv 1) (nomark _)) (pw_or1 (pt_cmpR op_ne (pv 9) (pv 8) (nomark _))))))
          (pss_one (ps_ret pe_bl)) pss_nil))) pss_nil)
      (C8.pss_cut (ps_if (pt_not (pt_val (pe_call GB hr rfl mB kB bB .nil pass0 (pa_cons (pv 10) (pa_cons (pe_dget2 hu (pe_dget hu (pv 0) pe_str (fun _ _ => rfl)) (pv 9) (pe_tup pa_nil) ⟨rfl, rfl, rfl, rfl⟩) pa_nil))))) (pss_one (ps_ret pe_bl)) pss_nil)
      (C8.pss_cut (ps_if (pt_cmpR op_gt (pe_callB call_len_seq (by rfl) T.len PySem.boot_len (pa_cons (pv 10) pa_nil)) (pe_callB call_len_seq (by rfl) T.len PySem.boot_len (pa_cons (pe_dget2 hu (pe_dget hu (pv 0) pe_str (fun _ _ => rfl)) (pv 9) (pe_tup pa_nil) ⟨rfl, rfl, rfl, rfl⟩) pa_nil)) (nomark _))
        (pss_one (ps_dput hu (pe_dget hu (pv 0) pe_str (fun _ _ => rfl)) (pv 9) (pv 10) rfl)) pss_nil)
      (pss_one (ps_ret pe_bl))))))))), ?_⟩
    obtain ⟨xa, ta, ba, dv, wv, tv, bs, rfl, hx, hto, ht, hb, hbs⟩ := hrow.ex
    obtain ⟨tk, t1, t2, t3⟩ := s0.te
    have lb : bs.length = row.log.length := hbs.length
    have l1 := L.term
    have l2 := L.of
    have l3 := L.done
    refine ⟨fun σ H' => σ = [some (.ref sd), some (.int n), some (.ref xa), some (.int row.m), some dv, some wv, some tv, some (.ref ta), none, none, none, none, none, none, none, none] ∧ H' = H, ⟨_, rfl, xa, _, rfl, SqT.of hx, rfl, _, _, rfl, _, _, rfl, _, _, rfl, _, _, rfl, _, _, rfl, rfl, rfl, rfl⟩, ?_⟩
    rintro σ H' ⟨rfl, rfl⟩
    refine ⟨fun σ H0 => σ = [some (.ref sd), some (.int n), some (.ref xa), some (.int row.m), some dv, some wv, some tv, some (.ref ta), some (.int row.term), some (.int row.of), some (.ref ba), some (.int row.done), some (.str (roleS row.role)), none, none, none] ∧ H0 = H', ⟨_, rfl, ta, _, rfl, SqT.of ht, rfl, _, _, rfl, _, _, rfl, _, _, rfl, _, _, rfl, _, _, rfl, rfl, rfl, rfl⟩, ?_⟩
    rintro σ H ⟨rfl, rfl⟩
    refine ⟨fun σ H0 => σ = [some (.ref sd), some (.int n), some (.ref xa), some (.int row.m), some dv, some wv, some tv, some (.ref ta), some (.int row.term), some (.int row.of), some (.ref ba), some (.int row.done), some (.str (roleS row.role)), none, none, none] ∧ H0 = H, ?_, ?_⟩
    · refine ⟨_, rfl, _, rfl, sd, .ref td, rfl, DGet.k (k := Sum.inr "terms") s0.sd_, td, rfl, .inl ⟨_, .inl t1⟩, _, rfl, _, DGet.k (k := Sum.inl (row.m : Int)) t1, _, _, rfl, t3 row.m, _, rfl, iteD (decide_eq_false (by omega)) ?_⟩
      refine ⟨_, rfl, _, rfl, _, _, rfl, rfl, _, rfl, iteD (decide_eq_false (by omega)) ?_⟩
      exact ⟨_, rfl, _, rfl, ba, bs, rfl, .inr (SqT.of hb), _, _, rfl, rfl, _, rfl, iteD (decide_eq_false (by omega)) ⟨rfl, rfl⟩⟩
    rintro σ H0 ⟨rfl, rfl⟩
    have K1 : KD H0 (upd H0 td (.dK (putK tk (Sum.inl (row.m : Int)) (.int row.term)))) := KD.putK t1
    have s1 := s0.term t1 row.m row.term
    refine ⟨fun σ H1 => σ = [some (.ref sd), some (.int n), some (.ref xa), some (.int row.m), some dv, some wv, some tv, some (.ref ta), some (.int row.term), some (.int row.of), some (.ref ba), some (.int row.done), some (.str (roleS row.role)), none, none, none] ∧ KD H0 H1 ∧ SeenAt H1 sd td vd gd ⟨tset S.terms row.m row.term, S.voices, S.logs⟩ (c + 1), ⟨_, rfl, _, rfl, sd, .ref td, rfl, DGet.k (k := Sum.inr "terms") s0.sd_, _, rfl, td, _, rfl, DPut.k (k := Sum.inl (row.m : Int)) t1 (Nat.lt_of_le_of_lt t2 (Nat.lt_of_le_of_lt hc (by decide))), rfl, K1, s1⟩, ?_⟩
    rintro σ H1 ⟨rfl, K1, s1⟩
    refine ⟨fun σ H4 => ∃ v13, σ = [some (.ref sd), some (.int n), some (.ref xa), some (.int row.m), some dv, some wv, some tv, some (.ref ta), some (.int row.term), some (.int row.of), some (.ref ba), some (.int row.done), some (.str (roleS row.role)), v13, none, none] ∧ KD H0 H4 ∧ SeenAt H4 sd td vd gd ⟨tset S.terms row.m row.term, VW, S.logs⟩ (c + 92), ?_, ?_⟩
    · refine ⟨_, rfl, own, tv, row.told, rfl, hto.kd K1, Nat.le_trans htl (by decide), fun H2 q xs S12 nq hq0 hms => ?_⟩
      have K2 := K1.trans (KD.same S12)
      have s2 := s1.same S12
      have vo := L.voiced.voices
      have hfl : ((row.told.getD []).filter isVoice).length ≤ 91 := Nat.le_trans (List.length_filter_le _ _) htl
      have hfv : ∀ x ∈ (row.told.getD []).filter isVoice, isVoice x = true := fun x hx => (List.mem_filter.mp hx).2
      generalize (row.told.getD []).filter isVoice = fs at hms vo hfl hfv
      refine ⟨q, rfl, ⟨_, SqL.of hq0⟩, for_list (K := K) (a := q) (xs := xs) (fun i σ H' => ∃ (v13 : Option V) (Vi : Nat → Nat → Bool), σ = [some (.ref sd), some (.int n), some (.ref xa), some (.int row.m), some dv, some wv, some tv, some (.ref ta), some (.int row.term), some (.int row.of), some (.ref ba), some (.int row.done), some (.str (roleS row.role)), v13, none, none] ∧
          KD H2 H' ∧ SeenAt H' sd td vd gd ⟨tset S.terms row.m row.term, Vi, S.logs⟩ (c + 1 + i) ∧ Voiced n row.m Vi (fs.drop i) VW)
        ⟨none, S.voices, rfl, KD.same (same_refl H2), s2, vo⟩ (fun i σ H' _ ⟨_, _, _, K3, _⟩ => SqL.of (K3.lst hq0)) ?_ ?_⟩
      · rintro i x σ H' hi ⟨v13, Vi, rfl, K3, s3, vi⟩
        obtain ⟨y, hyi, hym⟩ := Paired.get hms hi
        have hyv := hfv y (List.mem_of_getElem? hyi)
        obtain ⟨hlt, ey⟩ := List.getElem?_eq_some_iff.mp hyi
        rw [List.drop_eq_getElem_cons hlt, ey] at vi
        have hym := MsgAt.kp K3.kp hym
        cases y with
        | stand _ _ _ => cases hyv
        | keep _ _ _ _ _ => cases hyv
        | kept _ _ _ _ => cases hyv
        | voice src dst t o lg =>
          obtain ⟨a, b, ys, rfl, ha, _, _⟩ := hym
          obtain ⟨hV, hmod, vi⟩ : Vi row.m t = false ∧ t % n = dst ∧ Voiced n row.m (vset Vi row.m t) (fs.drop (i + 1)) VW := by
            cases vi with
            | voice _ _ _ _ _ _ _ _ h1 h2 h3 => exact ⟨h1, h2, h3⟩
            | other _ _ _ _ hx _ => exact absurd rfl (hx src dst t o lg)
          refine ⟨_, rfl, _, rfl, a, _, _, _, rfl, rfl, SqT.of ha, atI_nat (j := 3) rfl, (by show 2 ≤ sizeLine; decide), fun tt htt => ?_⟩
          have St := Same.new (o := .tup [.int row.m, .int t]) htt
          have att : upd H' tt (.tup [.int row.m, .int t]) tt = some (.tup [.int row.m, .int t]) := upd_same
          have K4 := K3.trans (KD.same St)
          have s4 := s3.same St
          have ha4 := St _ _ ha
          generalize upd H' tt (.tup [.int row.m, .int t]) = H4 at att K4 s4 ha4 ⊢
          obtain ⟨vk, v1, v2, v3⟩ := s4.vo
          have e1 : (valV vk [Sum.inl (row.m : Int), Sum.inl (t : Int)]).isSome = false := (v3 row.m t).trans hV
          refine ⟨_, rfl, sd, .ref vd, rfl, DGet.k (k := Sum.inr "voices") s4.sd_, vd, _, rfl, DGet.t (k := [Sum.inl (row.m : Int), Sum.inl (t : Int)]) v1 att, _, rfl, iteD e1 ?_⟩
          have e2 : (!decide (V.int ((t : Int) % (n : Int)) = V.int (dst : Int))) = false := by
            rw [← hmod]
            simp
          refine ⟨_, rfl, a, _, _, _, rfl, rfl, SqT.of ha4, atI_nat (j := 3) rfl, _, rfl, _, _, rfl, rfl, (by show (0 : Int) < (n : Int); omega), _, rfl, a, _, _, _, rfl, rfl, SqT.of ha4, atI_nat (j := 2) rfl, rfl, _, rfl, iteD e2 ?_⟩
          refine ⟨_, rfl, sd, .ref vd, rfl, DGet.k (k := Sum.inr "voices") s4.sd_, _, rfl, _, rfl, a, _, _, _, rfl, rfl, SqT.of ha4, atI_nat (j := 3) rfl, (by show 2 ≤ sizeLine; decide), fun t2 ht2 => ?_⟩
          have St2 := Same.new (o := .tup [.int row.m, .int t]) ht2
          have at2 : upd H4 t2 (.tup [.int row.m, .int t]) t2 = some (.tup [.int row.m, .int t]) := upd_same
          have v1' := St2 _ _ v1
          have s5 := s4.same St2
          have K5 := K4.trans (KD.same St2)
          generalize upd H4 t2 (.tup [.int row.m, .int t]) = H5 at at2 v1' s5 K5 ⊢
          exact ⟨vd, _, rfl, DPut.t (k := [Sum.inl (row.m : Int), Sum.inl (t : Int)]) v1' at2 (Nat.lt_of_le_of_lt v2 (Nat.lt_of_le_of_lt (show _ ≤ 2000000 by omega) (by decide))), _, _, rfl, K5.trans (KD.putT v1'), s5.voice v1' row.m t (.bl true), vi⟩
      · rintro σ H3 ⟨v13, Vi, rfl, K3, s3, vi⟩
        have lx : xs.length = fs.length := Paired.length hms
        rw [lx, List.drop_length] at vi
        cases vi
        exact ⟨v13, rfl, K2.trans K3, s3.mono (by omega)⟩
    · rintro σ H4 ⟨v13, rfl, K4, s4⟩
      refine ⟨fun σ H5 => ∃ v14, σ = [some (.ref sd), some (.int n), some (.ref xa), some (.int row.m), some dv, some wv, some tv, some (.ref ta), some (.int row.term), some (.int row.of), some (.ref ba), some (.int row.done), some (.str (roleS row.role)), v13, v14, none] ∧ KD H0 H5 ∧ SeenAt H5 sd td vd gd ⟨tset S.terms row.m row.term, VW, S.logs⟩ (c + 92), ?_, ?_⟩
      · refine ⟨_, rfl, rfl, _, rfl, ?_⟩
        refine ite2 (fun h1 => ?_) (fun h1 => ⟨_, rfl, K4, s4⟩)
        have hle : row.role = .leads := by
          have z : decide (V.str (roleS row.role) = V.str (roleS .leads)) = true := h1
          rw [roleS_dec] at z
          exact of_decide_eq_true z
        obtain ⟨q1, q2, q3⟩ := L.lead hle
        refine ⟨_, rfl, _, rfl, by omega, by omega, fun D hD => ?_⟩
        refine lc_range (lo := 0) (n := ((n : Int)).toNat) (fun i H' => Same H4 H' ∧ ∃ ys, H' D = some (.lst ys) ∧ ys.length = ((List.range i).filter fun j => VW j row.term).length)
          ⟨Same.new hD, [], upd_same, rfl⟩ ?_ ?_
        · rintro i H' hi ⟨Sm, ys, hys, hyl⟩
          refine ⟨rfl, _, rfl, _, rfl, (by show 2 ≤ sizeLine; decide), fun tt htt => ?_⟩
          have St := Same.new (o := .tup [.int (0 + (i : Int)), .int row.term]) htt
          have att : upd H' tt (.tup [.int (0 + (i : Int)), .int row.term]) tt = some (.tup [.int (0 + (i : Int)), .int row.term]) := upd_same
          have Sm2 := Sm.trans St
          have hys2 := St _ _ hys
          generalize upd H' tt (.tup [.int (0 + (i : Int)), .int row.term]) = H5 at att Sm2 hys2 ⊢
          have s5 := s4.same Sm2
          obtain ⟨vk, v1, v2, v3⟩ := s5.vo
          have e1 : (valV vk [Sum.inl (0 + (i : Int)), Sum.inl (row.term : Int)]).isSome = VW i row.term := by
            rw [Int.zero_add]
            exact v3 i row.term
          refine ⟨_, rfl, sd, .ref vd, rfl, DGet.k (k := Sum.inr "voices") s5.sd_, vd, _, rfl, DGet.t (k := [Sum.inl (0 + (i : Int)), Sum.inl (row.term : Int)]) v1 att, _, rfl, ?_⟩
          refine ite2 (fun h2 => ?_) (fun h2 => ?_)
          · have h2 : VW i row.term = true := e1.symm.trans h2
            have hlen : ys.length < sizeLine := by
              rw [hyl]
              have e2 := List.length_filter_le (fun j => VW j row.term) (List.range i)
              rw [List.length_range] at e2
              exact Nat.lt_of_le_of_lt (show _ ≤ 1000 by omega) (by decide)
            refine ⟨_, rfl, ys, hys2, hlen, fun b o h => ?_, ys ++ [.int (0 + (i : Int))], upd_same, ?_⟩
            · rw [upd_ne (ne_of_none h hD)]
              exact Sm2 _ _ h
            · rw [List.range_succ, List.filter_append, show List.filter (fun j => VW j row.term) [i] = [i] by simp [h2], List.length_append, List.length_append, hyl]
              rfl
          · have h2 : VW i row.term = false := by
              rw [← e1]
              exact Bool.eq_false_iff.mpr h2
            refine ⟨Sm2, ys, hys2, ?_⟩
            rw [List.range_succ, List.filter_append, show List.filter (fun j => VW j row.term) [i] = [] by simp [h2], List.append_nil]
            exact hyl
        · rintro H' ⟨Sm, ys, hys, hyl⟩
          rw [Int.toNat_natCast] at hyl
          have hvc : ys.length = vcount n VW row.term := hyl
          have e1 : (!decide (V.int ((row.term : Int) % (n : Int)) = V.int (row.m : Int))) = false := by
            rw [← q1]
            simp
          refine ⟨_, rfl, _, rfl, _, _, rfl, rfl, (by show (0 : Int) < (n : Int); omega), _, rfl, rfl, _, rfl, iteD e1 ?_⟩
          refine ⟨_, rfl, D, ys, rfl, .inl (SqL.of hys), _, _, rfl, rfl, _, _, rfl, rfl, .inl ⟨by decide, by decide⟩, _, rfl, _, _, rfl, rfl, _, rfl, iteD (decide_eq_false (by omega)) ?_⟩
          have e3 : (!decide (V.int (row.of : Int) = V.int (row.term : Int))) = false := by
            rw [q3]
            simp
          exact ⟨_, rfl, _, rfl, rfl, _, rfl, iteD e3 ⟨_, rfl, K4.trans (KD.same Sm), s4.same Sm⟩⟩
      · rintro σ H5 ⟨v14, rfl, K5, s5⟩
        have hb5 := K5.tup hb
        have hbs5 := hbs.kp K5.kp
        -- the log that is held
        have held : ∀ (H6 : Hp), SeenAt H6 sd td vd gd ⟨tset S.terms row.m row.term, VW, S.logs⟩ (c + 92) → ∀ gk : List (Key × V), H6 gd = some (.dK gk) → ∀ t0, H6 t0 = none → ∃ b' bs', (valV gk (Sum.inl (row.of : Int))).getD (.ref t0) = .ref b' ∧ upd H6 t0 (.tup []) b' = some (.tup bs') ∧ RowsAt (upd H6 t0 (.tup [])) bs' (S.logs row.of) := by
          intro H6 s6 gk hg t0 ht0
          obtain ⟨gk', g1, g2, g3⟩ := s6.lo
          rw [hg] at g1
          cases g1
          have St := Same.new (o := .tup []) ht0
          rcases g3 row.of with ⟨e1, e2⟩ | ⟨b', bs', e1, e2, e3⟩
          · have e2 : S.logs row.of = [] := e2
            exact ⟨t0, [], by rw [e1]; rfl, upd_same, by rw [e2]; exact .nil⟩
          · exact ⟨b', bs', by rw [e1]; rfl, St _ _ e2, e3.kp (Kp.same St)⟩
        refine ⟨fun σ H6 => σ = [some (.ref sd), some (.int n), some (.ref xa), some (.int row.m), some dv, some wv, some tv, some (.ref ta), some (.int row.term), some (.int row.of), some (.ref ba), some (.int row.done), some (.str (roleS row.role)), v13, v14, none] ∧ KD H0 H6 ∧ SeenAt H6 sd td vd gd ⟨tset S.terms row.m row.term, VW, S.logs⟩ (c + 92), ?_, ?_⟩
        · obtain ⟨gk, g1, g2, g3⟩ := s5.lo
          refine ⟨_, rfl, _, rfl, sd, .ref gd, rfl, DGet.k (k := Sum.inr "logs") s5.sd_, gd, rfl, .inl ⟨_, .inl g1⟩, _, rfl, Nat.zero_le _, fun t0 ht0 => ?_⟩
          have St := Same.new (o := .tup []) ht0
          obtain ⟨b', bs', eb, hb', hr'⟩ := held H5 s5 gk g1 t0 ht0
          refine ⟨_, DGet.k (k := Sum.inl (row.of : Int)) (St _ _ g1), ba, b', bs, bs', row.log, S.logs row.of, by rw [eb]; rfl, St _ _ hb5, hb', hbs5.kp (Kp.same St), hr', fun H6 r Sm hr => ?_⟩
          have hr : r = true := hr L.begins
          subst hr
          exact ⟨_, rfl, iteD rfl ⟨rfl, K5.trans (KD.same (St.trans Sm)), s5.same (St.trans Sm)⟩⟩
        · rintro σ H6 ⟨rfl, K6, s6⟩
          have hb6 := K6.tup hb
          have hbs6 := hbs.kp K6.kp
          refine ⟨fun σ H7 => KD H0 H7 ∧ SeenAt H7 sd td vd gd (S.next row VW) (c + 100), ?_, fun σ H7 ⟨K7, s7⟩ => hq H7 s7 K7⟩
          obtain ⟨gk, g1, g2, g3⟩ := s6.lo
          refine ⟨_, rfl, ba, bs, rfl, .inr (SqT.of hb6), _, rfl, sd, .ref gd, rfl, DGet.k (k := Sum.inr "logs") s6.sd_, gd, rfl, .inl ⟨_, .inl g1⟩, _, rfl, Nat.zero_le _, fun t0 ht0 => ?_⟩
          have St := Same.new (o := .tup []) ht0
          obtain ⟨b', bs', eb, hb', hr'⟩ := held H6 s6 gk g1 t0 ht0
          have lb' : bs'.length = (S.logs row.of).length := hr'.length
          refine ⟨_, DGet.k (k := Sum.inl (row.of : Int)) (St _ _ g1), b', bs', by rw [eb], .inr (SqT.of hb'), _, _, rfl, rfl, _, rfl, ?_⟩
          have s7 := s6.same St
          have K7 := K6.trans (KD.same St)
          have g7 := St _ _ g1
          have hb7 := St _ _ hb6
          have hbs7 := hbs6.kp (Kp.same St)
          generalize upd H6 t0 (.tup []) = H7 at s7 K7 g7 hb7 hbs7 ⊢
          refine ite2 (fun h1 => ?_) (fun h1 => ?_)
          · have h1 : (bs'.length : Int) < (bs.length : Int) := of_decide_eq_true h1
            exact ⟨_, rfl, _, rfl, sd, .ref gd, rfl, DGet.k (k := Sum.inr "logs") s7.sd_, _, rfl, gd, _, rfl, DPut.k (k := Sum.inl (row.of : Int)) g7 (Nat.lt_of_le_of_lt g2 (Nat.lt_of_le_of_lt (show _ ≤ 2000000 by omega) (by decide))), K7.trans (KD.putK g7), (s7.log g7 row.of hb7 hbs7 (by show (S.logs row.of).length < _; omega)).mono (by omega)⟩
          · have h1 : ¬ (S.logs row.of).length < row.log.length := fun z => h1 (decide_eq_true (show (bs'.length : Int) < (bs.length : Int) by omega))
            refine ⟨K7, ?_⟩
            unfold Seen.next
            rw [lset_no h1]
            exact s7.mono (by omega)
end
end K85
namespace K85
open PySem L2
theorem sqL_stp {K : PySem.W.Frag} {own own' : Addr → Nat} {H H' : Hp} {ch : Nat → Prop} {a : Addr} {xs : List V} (P : Stp own own' H H' ch) (hc : ¬ ch (own a)) (h : SqL K H a xs) : SqL K H' a xs := by
  rcases h with h | h
  · rcases h with h | ⟨o, h⟩
    · exact .inl (.inl (P.keep _ _ h nt_lst hc))
    · exact .inl (.inr ⟨o, P.keep _ _ h (fun ps z => by cases z) hc⟩)
  · exact .inr h
/-- a list is stored -/
theorem SeenAt.keepL {H : Hp} {sd td vd gd D : Addr} {S : Seen} {c : Nat} {xs : List V} (s : SeenAt H sd td vd gd S c) (h : H D = some (.lst xs)) (ys : List V) : SeenAt (upd H D (.lst ys)) sd td vd gd S c := by
  obtain ⟨tk, t1, t2, t3⟩ := s.te
  obtain ⟨vk, v1, v2, v3⟩ := s.vo
  obtain ⟨gk, g1, g2, g3⟩ := s.lo
  have nd : ∀ (b : Addr) (o : HO), H b = some o → (∀ xs, o ≠ .lst xs) → upd H D (.lst ys) b = some o := fun b o hb ho => by
    rw [upd_ne]
    · exact hb
    · intro e
      rw [e, h] at hb
      exact ho _ (Option.some.inj hb).symm
  refine ⟨nd _ _ s.sd_ (fun _ z => by cases z), ⟨tk, nd _ _ t1 (fun _ z => by cases z), t2, t3⟩, ⟨vk, nd _ _ v1 (fun _ z => by cases z), v2, v3⟩, ⟨gk, nd _ _ g1 (fun _ z => by cases z), g2, fun t => ?_⟩, s.ts, s.tg, s.gs⟩
  rcases g3 t with z | ⟨b, bs, e1, e2, e3⟩
  · exact .inl z
  · exact .inr ⟨b, bs, e1, nd _ _ e2 (fun _ z => by cases z), e3.kp (Kp.mut h fun z => z)⟩
abbrev sLaw : Stmt := top 20
def spLaw (K : PySem.W.Frag) (PT : Addr) : Sp := fun vs H Q _ => ∃ (a : Addr) (ns : List Int), vs = [.ref a] ∧ SqL K H a (ns.map V.int) ∧ ns.length ≤ 63 ∧ Tab H PT ∧ ∀ H', Q (.bl true) H'
section
variable {P : Program} {w : World} {K : PySem.W.Frag} {mg : Str → Option Value} {base : Heap} {C PT c : Addr}
abbrev nLaw : List Str := ["_law_script", "_law_world", "_law_many", "_law_k", "_law_seen", "_law_row"]
theorem scLaw : FnScope nLaw ["_law_script"] (defScope sLaw) := ⟨rfl, rfl, rfl, by decide +kernel, rfl, by decide +kernel, by decide +kernel⟩
theorem ok_law {f : Addr} {fd : FuncData} (F : Fun K "law" "law" sLaw f fd) (T : Txt K mg C) (DBg : DefT P w K mg base 4 "_law_begun" ["_law_script"] (spBegun C PT K)) (DL : DefT P w K mg base 3 "_law_left" ["_law_script", "_law_k"] (spLeft K))
    (DR : DefT P w K mg base 8 "_law_road" ["_law_world", "_law_left_here"] (spRoad C PT)) (DW : DefT P w K mg base 2 "_law_lawful" ["_law_seen", "_law_many", "_law_row"] spLawful) : FnOk P w K mg base CX0 9 f fd ["_law_script"] (spLaw K PT) := by
  obtain ⟨fG, fdG, GG, mG, kG, bG⟩ := DBg.ex
  obtain ⟨fL, fdL, GL, mL, kL, bL⟩ := DL.ex
  obtain ⟨fR, fdR, GR, mR, kR, bR⟩ := DR.ex
  obtain ⟨fW, fdW, GW, mW, kW, bW⟩ := DW.ex
  refine F.ok scLaw (fun vs H Q E h => ?_) (fun cdv Ar outer sh H vs Q E hr h => ?_)
  · obtain ⟨a, ns, rfl, _⟩ := h
    rfl
  · obtain ⟨a, ns, rfl, hS, hns, hT, hq⟩ := h
    have hu := hu_of hr
    refine ⟨_, C8.pss_cut (ps_set (i := 1) scLaw.nd rfl (.inl rfl) (pe_call GG (hr.mono (by decide)) rfl mG kG bG .nil pass0 (pa_cons (pv 0) pa_nil)))
      (C8.pss_cut (ps_set (i := 2) scLaw.nd rfl (.inr rfl) (pe_callB call_len_seq (by rfl) T.len PySem.boot_len (pa_cons (pe_dget hu (pv 1) pe_str (fun _ _ => rfl)) pa_nil)))
      (C8.pss_cut (ps_for PassesOwn.never rfl (pi_range2 rfl T.range (pa_cons pe_int (pa_cons (pe_callB (call_max2 rfl) (by rfl) T.max (by decide +kernel) (pa_cons pe_int (pa_cons (pe_callB call_len_seq (by rfl) T.len PySem.boot_len (pa_cons (pv 0) pa_nil)) pa_nil))) pa_nil))) (pg_name (i := 3) scLaw.nd rfl (.inl rfl))
        (pss_one (ps_if (pt_cmpR op_lt (pe_callB call_len_seq (by rfl) T.len PySem.boot_len (pa_cons (pe_dget hu (pv 1) pe_str (fun _ _ => rfl)) pa_nil)) pe_int (nomark _))
          (pss_one (ps_expr (pe_call GR hr rfl mR kR bR .nil pass0 (pa_cons (pv 1) (pa_cons (pe_call GL (hr.mono (by decide)) rfl mL kL bL .nil pass0 (pa_cons (pv 0) (pa_cons (pv 3) pa_nil))) pa_nil))))) pss_nil)))
      (C8.pss_cut (ps_set (i := 4) scLaw.nd rfl (.inr rfl) (pe_disp (pps_cons pe_str pe_dnewK (pps_cons pe_str pe_dnewT (pps_cons pe_str pe_dnewK pps_nil))) (by rfl) (by rfl) (fun z => by cases z) (by decide)))
      (pss_one (ps_ret (pe_callB (cr_all rfl) (by rfl) T.all (by decide +kernel) (pa_cons (pe_lc (own := [("_law_row", 5)]) (g := gName 5) rfl scLaw.nd (pi_list (pe_dget hu (pv 1) pe_str (fun _ _ => rfl))) (blkOk_by (N := nLaw) (sc := defScope sLaw) (by decide +kernel))
        (fun _ _ _ _ _ => pg_name (i := 5) scLaw.nd rfl (Or.inl rfl)) (fun _ _ _ _ _ => pts_nil) (fun _ _ _ _ _ => pe_call GW (hr.mono (by decide)) rfl mW kW bW .nil pass0 (pa_cons (pv 4) (pa_cons (pv 2) (pa_cons (pv 5) pa_nil))))) pa_nil))))))), ?_⟩
    refine ⟨fun σ H1 => ∃ (n : Nat) (wd : Addr), 0 < n ∧ n ≤ 7 ∧ σ = [some (.ref a), some (.ref wd), none, none, none, none] ∧ CB C PT n (fun _ => 200) H wd 0 H1, ⟨_, rfl, a, ns, rfl, hS, hT, fun n wd H1 n0 n7 cb => ⟨n, wd, n0, n7, rfl, cb⟩⟩, ?_⟩
    rintro σ H1 ⟨n, wd, n0, n7, rfl, own1, A1, st1, c1⟩
    have wd1 := c1.W.wd
    rw [c1.wd_] at wd1
    have el : (((A1.ps.map V.ref).length : Nat) : Int) = n := by rw [List.length_map, c1.W.len]
    refine ⟨fun σ H2 => σ = [some (.ref a), some (.ref wd), some (.int n), none, none, none] ∧ H2 = H1, ⟨_, rfl, wd, .ref A1.ml, rfl, DGet.k (k := Sum.inr "masters") wd1, A1.ml, _, rfl, .inl (SqL.of c1.W.ml), by rw [el]; rfl, rfl⟩, ?_⟩
    rintro σ H2 ⟨rfl, rfl⟩
    refine ⟨fun σ H3 => ∃ v3 : Option V, σ = [some (.ref a), some (.ref wd), some (.int n), v3, none, none] ∧ CB C PT n (fun _ => 200) H wd 430 H3, ?_, ?_⟩
    · have hS2 := sqL_stp c1.S (by decide) hS
      have hM : (if ((ns.map V.int).length : Int) > (9 : Int) then ((ns.map V.int).length : Int) else (9 : Int)) ≤ 63 ∧ 9 ≤ (if ((ns.map V.int).length : Int) > (9 : Int) then ((ns.map V.int).length : Int) else (9 : Int)) := by
        rw [List.length_map]
        split <;> omega
      refine ⟨_, rfl, a, _, rfl, .inl hS2, _, _, rfl, 1, _, rfl, ⟨by decide, by decide, by omega, by omega⟩, ?_⟩
      generalize (if ((ns.map V.int).length : Int) > (9 : Int) then ((ns.map V.int).length : Int) else (9 : Int)) = M at hM
      refine for_range (lo := 1) (n := (M - 1).toNat) (fun i σ H3 => ∃ v3 : Option V, σ = [some (.ref a), some (.ref wd), some (.int n), v3, none, none] ∧ CB C PT n (fun _ => 200) H wd 430 H3)
        ⟨none, rfl, own1, A1, st1, c1.W, c1.wd_, c1.G, c1.S, Nat.le_trans c1.sl (by decide), c1.wl⟩ ?_ (fun σ H3 h => h)
      rintro i σ H3 hi ⟨v3, rfl, own3, A3, st3, c3⟩
      have wd3 := c3.W.wd
      rw [c3.wd_] at wd3
      obtain ⟨ys, hs, hys⟩ := c3.W.sl
      have ly : ys.length = st3.story.length := hys.length
      refine ⟨_, rfl, wd, .ref A3.sl, rfl, DGet.k (k := Sum.inr "story") wd3, A3.sl, ys, rfl, .inl (SqL.of hs), _, _, rfl, rfl, _, rfl, ?_⟩
      refine ite2 (fun h1 => ?_) (fun h1 => ⟨_, rfl, own3, A3, st3, c3⟩)
      have h1 : (ys.length : Int) < 300 := of_decide_eq_true h1
      have c3' : CBx C PT n (fun _ => 200) H wd 300 own3 A3 st3 H3 := ⟨c3.W, c3.wd_, c3.G, c3.S, by omega, c3.wl⟩
      refine ⟨_, rfl, _, rfl, _, rfl, a, ns, _, rfl, sqL_stp c3.S (by decide) hS, by omega, by omega, fun p zs hp D => ?_⟩
      exact ⟨n, _, H, wd, p, 300, rfl, c3'.ci (by omega) hp D, by omega, n0, by decide, fun H4 c4 => ⟨_, rfl, c4.cb⟩⟩
    rintro σ H3 ⟨v3, rfl, own3, A3, st3, c3⟩
    refine ⟨fun σ H4 => ∃ sd td vd gd, σ = [some (.ref a), some (.ref wd), some (.int n), v3, some (.ref sd), none] ∧ SeenAt H4 sd td vd gd seen0 0 ∧ Same H3 H4, ?_, ?_⟩
    · intro sd hsd td htd vd hvd gd hgd
      have S1 := Same.new (o := .dK []) hsd
      have S2 := Same.new (o := .dK []) htd
      have S3 := Same.new (o := .dT []) hvd
      have S4 := Same.new (o := .dK []) hgd
      have a1 : upd H3 sd (.dK []) sd = some (.dK []) := upd_same
      have a2 := S4 _ _ (S3 _ _ (upd_same (H := upd H3 sd (.dK [])) (a := td) (o := .dK [])))
      have a3 := S4 _ _ (upd_same (H := upd (upd H3 sd (.dK [])) td (.dK [])) (a := vd) (o := .dT []))
      have a4 : upd (upd (upd (upd H3 sd (.dK [])) td (.dK [])) vd (.dT [])) gd (.dK []) gd = some (.dK []) := upd_same
      have n1 : sd ≠ td := ne_of_none a1 htd
      have n2 : sd ≠ gd := ne_of_none (S3 _ _ (S2 _ _ a1)) hgd
      have n3 : td ≠ gd := ne_of_none (S3 _ _ (upd_same (H := upd H3 sd (.dK [])) (a := td) (o := .dK []))) hgd
      have n4 : sd ≠ vd := ne_of_none (S2 _ _ a1) hvd
      have S14 := ((S1.trans S2).trans S3).trans S4
      have b1 := S4 _ _ (S3 _ _ (S2 _ _ a1))
      generalize upd (upd (upd (upd H3 sd (.dK [])) td (.dK [])) vd (.dT [])) gd (.dK []) = H4 at a2 a3 a4 S14 b1 ⊢
      refine ⟨b1, [(Sum.inr "terms", .ref td), (Sum.inr "voices", .ref vd), (Sum.inr "logs", .ref gd)], rfl, (by show 3 ≤ 15; decide), sd, td, vd, gd, rfl, ⟨upd_same, ⟨[], by rw [upd_ne n1.symm]; exact a2, Nat.le_refl _, fun _ => rfl⟩, ⟨[], by rw [upd_ne n4.symm]; exact a3, Nat.le_refl _, fun _ _ => rfl⟩, ⟨[], by rw [upd_ne n2.symm]; exact a4, Nat.le_refl _, fun _ => .inl ⟨rfl, rfl⟩⟩, n1.symm, n3, n2.symm⟩, fun b o h => ?_⟩
      rw [upd_ne (ne_of_none h hsd)]
      exact S14 _ _ h
    rintro σ H4 ⟨sd, td, vd, gd, rfl, s4, S34⟩
    have wd4 := S34 _ _ c3.W.wd
    rw [c3.wd_] at wd4
    obtain ⟨ys, hs, hys⟩ := c3.W.sl
    have hs4 := S34 _ _ hs
    have hys4 : Paired (RowAt own3 H4) ys st3.story := Paired.mapP hys fun _ _ z => z.kd (KD.same S34)
    obtain ⟨ev, SS, _, _, R⟩ := c3.G.ex
    have hst := c3.sl
    have htold := c3.G.told
    generalize st3.story = story at hys4 R hst htold
    have ly : ys.length = story.length := Paired.length hys4
    refine ⟨_, rfl, wd, .ref A3.sl, rfl, DGet.k (k := Sum.inr "story") wd4, A3.sl, rfl, ⟨_, SqL.of hs4⟩, fun D hD => ?_⟩
    refine lc_list (K := K) (a := A3.sl) (xs := ys) (fun i H' => KD H4 H' ∧ H' D = some (.lst ((List.replicate i true).map V.bl)) ∧ ∃ Si, SeenAt H' sd td vd gd Si (100 * i) ∧ Runs n Si (story.drop i) SS)
      ⟨KD.same (Same.new hD), upd_same, seen0, s4.same (Same.new hD), R⟩ (fun i H' _ ⟨K5, _⟩ => SqL.of (K5.lst hs4)) ?_ ?_
    · rintro i x H' hi ⟨K5, hD5, Si, s5, Ri⟩
      obtain ⟨row, hri, hrow⟩ := Paired.get hys4 hi
      obtain ⟨hlt, er⟩ := List.getElem?_eq_some_iff.mp hri
      rw [List.drop_eq_getElem_cons hlt, er] at Ri
      have htl := htold row (List.mem_of_getElem? hri)
      cases Ri with
      | cons _ _ _ _ V1 L1 R1 =>
        refine ⟨rfl, yesT ?_⟩
        refine ⟨_, rfl, _, rfl, _, rfl, own3, n, sd, td, vd, gd, Si, 100 * i, x, row, V1, rfl, s5, hrow.kd K5, L1, n0, by omega, by omega, by omega, fun H6 s6 K6 => ?_⟩
        have hD6 := K6.lst hD5
        refine ⟨_, hD6, ?_, fun b o h h1 h2 => ?_, ?_, _, s6.keepL hD6 _, R1⟩
        · rw [List.length_map, List.length_replicate]
          exact Nat.lt_of_le_of_lt (show _ ≤ 1000 by omega) (by decide)
        · rw [upd_ne (ne_of_none h hD)]
          exact K6 _ _ (K5 _ _ h h1 h2) h1 h2
        · rw [upd_same, List.replicate_succ', List.map_append]
          rfl
    · rintro H' ⟨K5, hD5, _⟩
      refine ⟨D, List.replicate ys.length true, rfl, SqL.of hD5, ?_⟩
      rw [show (List.replicate ys.length true).all id = true by simp]
      exact hq H'
end
end K85
namespace K85
open PySem L2
/-! ### what the top has left -/
/-- a def of the text stands -/
def GF (K : PySem.W.Frag) (x : Str) (st : Stmt) : Prop := ∃ (f : Addr) (fd : FuncData), PySem.W.nsIn K mainGlobals x = some (some (.ref f)) ∧ Fun K x x st f fd
/-- a method of the text stands -/
def MF (K : PySem.W.Frag) (C : Addr) (x q : Str) (st : Stmt) : Prop := ∃ (f : Addr) (fd : FuncData), Meth K C x f ∧ Fun K x q st f fd
theorem gf_mk {K : PySem.W.Frag} {x : Str} {st : Stmt} {f : Addr} {oc kV doc pm cd ct : Value} {od an : Option Addr} {osl : Array (Option Value)} (a : PySem.W.nsIn K mainGlobals x = some (some (.ref f)))
    (l : K.lookup f = some ⟨oc, od, .func (PySem.W.fnOf x x (defArgs st) (defBody st) (defScope st) .none kV doc pm an cd ct), osl⟩) (c : PySem.W.codeIn K cd x = true) (k : PySem.W.keepIn K (.ref f) = true) : GF K x st := ⟨f, _, a, fun_mk (st := st) l c k⟩
theorem mf_mk {K : PySem.W.Frag} {C : Addr} {x q : Str} {st : Stmt} {f : Addr} {oc kV doc pm cd ct : Value} {od an : Option Addr} {osl : Array (Option Value)} (a : PySem.W.findIn K (.ref C) x = some (some (.ref f))) (i : PySem.W.isFn K (.ref f) = true)
    (l : K.lookup f = some ⟨oc, od, .func (PySem.W.fnOf x q (defArgs st) (defBody st) (defScope st) .none kV doc pm an cd ct), osl⟩) (c : PySem.W.codeIn K cd q = true) (k : PySem.W.keepIn K (.ref f) = true) : MF K C x q st := ⟨f, _, ⟨a, i, k⟩, fun_mk (st := st) l c k⟩
/-- best_of, law: with their code objects -/
def BF (K : PySem.W.Frag) (PT : Addr) : Prop := ∃ (f c : Addr) (kV doc pm ct oc : Value) (an od : Option Addr) (osl : Array (Option Value)), PySem.W.nsIn K mainGlobals "best_of" = some (some (.ref f)) ∧
  K.lookup f = some ⟨oc, od, .func (PySem.W.fnOf "best_of" "best_of" (defArgs sBest) (defBody sBest) (defScope sBest) .none kV doc pm an (.ref c) ct), osl⟩ ∧ PySem.W.codeIn K (.ref c) "best_of" = true ∧ PySem.W.keepIn K (.ref f) = true ∧ PySem.W.codeHdIn K c PT = true
theorem bf_mk {K : PySem.W.Frag} {PT f c : Addr} {kV doc pm ct oc : Value} {an od : Option Addr} {osl : Array (Option Value)} (a : PySem.W.nsIn K mainGlobals "best_of" = some (some (.ref f)))
    (l : K.lookup f = some ⟨oc, od, .func (PySem.W.fnOf "best_of" "best_of" (defArgs sBest) (defBody sBest) (defScope sBest) .none kV doc pm an (.ref c) ct), osl⟩) (cc : PySem.W.codeIn K (.ref c) "best_of" = true) (k : PySem.W.keepIn K (.ref f) = true) (t : PySem.W.codeHdIn K c PT = true) : BF K PT :=
  ⟨f, c, kV, doc, pm, ct, oc, an, od, osl, a, l, cc, k, t⟩
def LF (K : PySem.W.Frag) : Prop := ∃ (f : Addr) (fd : FuncData), PySem.W.nsIn K mainGlobals "law" = some (some (.ref f)) ∧ Fun K "law" "law" sLaw f fd ∧ ∀ (s : Shared) (v : Value), BindsTo s fd ⟨[v], []⟩ [("_law_script", v)]
theorem lf_mk {K : PySem.W.Frag} {f : Addr} {oc kV doc pm cd ct : Value} {od an : Option Addr} {osl : Array (Option Value)} (a : PySem.W.nsIn K mainGlobals "law" = some (some (.ref f)))
    (l : K.lookup f = some ⟨oc, od, .func (PySem.W.fnOf "law" "law" (defArgs sLaw) (defBody sLaw) (defScope sLaw) .none kV doc pm an cd ct), osl⟩) (c : PySem.W.codeIn K cd "law" = true) (k : PySem.W.keepIn K (.ref f) = true) : LF K := ⟨f, _, a, fun_mk (st := sLaw) l c k, fun _ _ => .of_eq rfl⟩
theorem all_mk {l : PySem.W.OpenLaw} {w : World} {K : PySem.W.Frag} {h : Heap} {mg : Str → Option Value} {fa C PT : Addr} (X : K.In h) (G : h.Ns mainGlobals mg) (hfa : mg "law" = some (.ref fa)) (hT : h.get? PT = some { cls := .none, data := .fields #[] }) (nT : K.lookup PT = none)
    (aC : PySem.W.nsIn K mainGlobals "Master" = some (some (.ref C))) (dBest : BF K PT) (dLaw : LF K)
    (dIsMore : GF K "is_more" sIsMore)
    (dCellAt : GF K "_law_cell_at" sCellAt)
    (dMix : GF K "_law_mix" sMix)
    (dRich : GF K "_law_rich" sRich)
    (dLeft : GF K "_law_left" sLeft)
    (dPick : GF K "_law_pick" sPick)
    (dBegun : GF K "_law_begun" sBegun)
    (dNote : GF K "_law_note" sNote)
    (dHeard : GF K "_law_heard" sHeard)
    (dCarried : GF K "_law_carried" sCarried)
    (dLeader : GF K "_law_leader" sLeader)
    (dAdded : GF K "_law_added" sAdded)
    (dRoad : GF K "_law_road" sRoad)
    (dBegins : GF K "_law_begins" sBegins)
    (dVoices : GF K "_law_voices" sVoices)
    (dLawful : GF K "_law_lawful" sLawful)
    (dInit : MF K C "__init__" "Master.__init__" sInit)
    (dOthers : MF K C "others" "Master.others" sOthers)
    (dRise : MF K C "rise" "Master.rise" sRise)
    (dCntV : MF K C "count_voices" "Master.count_voices" sCntV)
    (dAdd : MF K C "add" "Master.add" sAdd)
    (dSend : MF K C "send" "Master.send" sSend)
    (dFall : MF K C "fall" "Master.fall" sFall)
    (dCntS : MF K C "count_sizes" "Master.count_sizes" sCntS)
    (dHear : MF K C "hear" "Master.hear" sHear)
    (dKeep : MF K C "hear_keep" "Master.hear_keep" sKeep)
    (pg : PySem.W.plainGet K C Str.empty = true) (hd : PySem.W.hasDictIn K C = true) (po : PySem.W.plainOver K C = true) (sa : PySem.W.findIn K (.ref C) "__setattr__" = some (some (.builtin "object.__setattr__"))) (mk : PySem.W.makesIn K C = true) (kc : PySem.W.keepIn K (.ref C) = true)
    (nNu : PySem.W.findIn K (.ref C) "number" = some none) (nMa : PySem.W.findIn K (.ref C) "many" = some none) (nTe : PySem.W.findIn K (.ref C) "term" = some none) (nOf : PySem.W.findIn K (.ref C) "of" = some none) (nLo : PySem.W.findIn K (.ref C) "log" = some none) (nDo : PySem.W.findIn K (.ref C) "done" = some none) (nRo : PySem.W.findIn K (.ref C) "role" = some none) (nVo : PySem.W.findIn K (.ref C) "voices" = some none) (nSi : PySem.W.findIn K (.ref C) "sizes" = some none)
    (z_len : PySem.W.nsIn K mainGlobals "len" = some none) (z_list : PySem.W.nsIn K mainGlobals "list" = some none) (z_tuple : PySem.W.nsIn K mainGlobals "tuple" = some none) (z_max : PySem.W.nsIn K mainGlobals "max" = some none) (z_min : PySem.W.nsIn K mainGlobals "min" = some none) (z_range : PySem.W.nsIn K mainGlobals "range" = some none) (z_sorted : PySem.W.nsIn K mainGlobals "sorted" = some none) (z_enumerate : PySem.W.nsIn K mainGlobals "enumerate" = some none) (z_all : PySem.W.nsIn K mainGlobals "all" = some none) :
    LamX.LawAtS l w K CX0 9 63 "_law_script" mg fa h := by
  obtain ⟨fLaw, fdLaw, aLaw, FLaw, bLaw⟩ := dLaw
  have e := hfa.symm.trans (PySem.W.mg_of X G aLaw)
  cases e
  have T : Txt K mg C := ⟨⟨pg, hd, po, sa⟩, nNu, nMa, nTe, nOf, nLo, nDo, nRo, nVo, nSi, PySem.W.mg_of X G aC, PySem.W.mg_none_of X G z_len, PySem.W.mg_none_of X G z_list, PySem.W.mg_none_of X G z_tuple, PySem.W.mg_none_of X G z_max, PySem.W.mg_none_of X G z_min, PySem.W.mg_none_of X G z_range, PySem.W.mg_none_of X G z_sorted, PySem.W.mg_none_of X G z_enumerate, PySem.W.mg_none_of X G z_all⟩
  obtain ⟨fBest, c, kV, doc, pm, ct, oc, an, od, osl, aBest, lBest, cBest, kBest, tBest⟩ := dBest
  obtain ⟨fIsMore, fdIsMore, aIsMore, FIsMore⟩ := dIsMore
  have bIsMore := FIsMore.binds (ps := ["some", "many"]) fun _ _ _ _ _ _ us hl => match us, hl with | [_, _], _ => rfl
  have mIsMore := PySem.W.mg_of X G aIsMore
  obtain ⟨fCellAt, fdCellAt, aCellAt, FCellAt⟩ := dCellAt
  have bCellAt := FCellAt.binds (ps := ["_law_script", "_law_k"]) fun _ _ _ _ _ _ us hl => match us, hl with | [_, _], _ => rfl
  have mCellAt := PySem.W.mg_of X G aCellAt
  obtain ⟨fMix, fdMix, aMix, FMix⟩ := dMix
  have bMix := FMix.binds (ps := ["_law_cell", "_law_k"]) fun _ _ _ _ _ _ us hl => match us, hl with | [_, _], _ => rfl
  have mMix := PySem.W.mg_of X G aMix
  obtain ⟨fRich, fdRich, aRich, FRich⟩ := dRich
  have bRich := FRich.binds (ps := ["_law_cell", "_law_k"]) fun _ _ _ _ _ _ us hl => match us, hl with | [_, _], _ => rfl
  have mRich := PySem.W.mg_of X G aRich
  obtain ⟨fLeft, fdLeft, aLeft, FLeft⟩ := dLeft
  have bLeft := FLeft.binds (ps := ["_law_script", "_law_k"]) fun _ _ _ _ _ _ us hl => match us, hl with | [_, _], _ => rfl
  have mLeft := PySem.W.mg_of X G aLeft
  obtain ⟨fPick, fdPick, aPick, FPick⟩ := dPick
  have bPick := FPick.binds (ps := ["_law_left_here", "_law_many"]) fun _ _ _ _ _ _ us hl => match us, hl with | [_, _], _ => rfl
  have mPick := PySem.W.mg_of X G aPick
  obtain ⟨fBegun, fdBegun, aBegun, FBegun⟩ := dBegun
  have bBegun := FBegun.binds (ps := ["_law_script"]) fun _ _ _ _ _ _ us hl => match us, hl with | [_], _ => rfl
  have mBegun := PySem.W.mg_of X G aBegun
  obtain ⟨fNote, fdNote, aNote, FNote⟩ := dNote
  have bNote := FNote.binds (ps := ["_law_world", "_law_m", "_law_deed", "_law_what", "_law_told"]) fun _ _ _ _ _ _ us hl => match us, hl with | [_, _, _, _, _], _ => rfl
  have mNote := PySem.W.mg_of X G aNote
  obtain ⟨fHeard, fdHeard, aHeard, FHeard⟩ := dHeard
  have bHeard := FHeard.binds (ps := ["_law_world", "_law_k", "_law_stays"]) fun _ _ _ _ _ _ us hl => match us, hl with | [_, _, _], _ => rfl
  have mHeard := PySem.W.mg_of X G aHeard
  obtain ⟨fCarried, fdCarried, aCarried, FCarried⟩ := dCarried
  have bCarried := FCarried.binds (ps := ["_law_world", "_law_left_here", "_law_words", "_law_whole"]) fun _ _ _ _ _ _ us hl => match us, hl with | [_, _, _, _], _ => rfl
  have mCarried := PySem.W.mg_of X G aCarried
  obtain ⟨fLeader, fdLeader, aLeader, FLeader⟩ := dLeader
  have bLeader := FLeader.binds (ps := ["_law_world", "_law_left_here"]) fun _ _ _ _ _ _ us hl => match us, hl with | [_, _], _ => rfl
  have mLeader := PySem.W.mg_of X G aLeader
  obtain ⟨fAdded, fdAdded, aAdded, FAdded⟩ := dAdded
  have bAdded := FAdded.binds (ps := ["_law_world", "_law_left_here"]) fun _ _ _ _ _ _ us hl => match us, hl with | [_, _], _ => rfl
  have mAdded := PySem.W.mg_of X G aAdded
  obtain ⟨fRoad, fdRoad, aRoad, FRoad⟩ := dRoad
  have bRoad := FRoad.binds (ps := ["_law_world", "_law_left_here"]) fun _ _ _ _ _ _ us hl => match us, hl with | [_, _], _ => rfl
  have mRoad := PySem.W.mg_of X G aRoad
  obtain ⟨fBegins, fdBegins, aBegins, FBegins⟩ := dBegins
  have bBegins := FBegins.binds (ps := ["_law_one", "_law_other"]) fun _ _ _ _ _ _ us hl => match us, hl with | [_, _], _ => rfl
  have mBegins := PySem.W.mg_of X G aBegins
  obtain ⟨fVoices, fdVoices, aVoices, FVoices⟩ := dVoices
  have bVoices := FVoices.binds (ps := ["_law_told"]) fun _ _ _ _ _ _ us hl => match us, hl with | [_], _ => rfl
  have mVoices := PySem.W.mg_of X G aVoices
  obtain ⟨fLawful, fdLawful, aLawful, FLawful⟩ := dLawful
  have bLawful := FLawful.binds (ps := ["_law_seen", "_law_many", "_law_row"]) fun _ _ _ _ _ _ us hl => match us, hl with | [_, _, _], _ => rfl
  have mLawful := PySem.W.mg_of X G aLawful
  obtain ⟨fInit, fdInit, aInit, FInit⟩ := dInit
  have bInit := FInit.binds (ps := ["self", "number", "many"]) fun _ _ _ _ _ _ us hl => match us, hl with | [_, _, _], _ => rfl
  obtain ⟨fOthers, fdOthers, aOthers, FOthers⟩ := dOthers
  have bOthers := FOthers.binds (ps := ["self"]) fun _ _ _ _ _ _ us hl => match us, hl with | [_], _ => rfl
  obtain ⟨fRise, fdRise, aRise, FRise⟩ := dRise
  have bRise := FRise.binds (ps := ["self"]) fun _ _ _ _ _ _ us hl => match us, hl with | [_], _ => rfl
  obtain ⟨fCntV, fdCntV, aCntV, FCntV⟩ := dCntV
  have bCntV := FCntV.binds (ps := ["self"]) fun _ _ _ _ _ _ us hl => match us, hl with | [_], _ => rfl
  obtain ⟨fAdd, fdAdd, aAdd, FAdd⟩ := dAdd
  have bAdd := FAdd.binds (ps := ["self", "row"]) fun _ _ _ _ _ _ us hl => match us, hl with | [_, _], _ => rfl
  obtain ⟨fSend, fdSend, aSend, FSend⟩ := dSend
  have bSend := FSend.binds (ps := ["self"]) fun _ _ _ _ _ _ us hl => match us, hl with | [_], _ => rfl
  obtain ⟨fFall, fdFall, aFall, FFall⟩ := dFall
  have bFall := FFall.binds (ps := ["self"]) fun _ _ _ _ _ _ us hl => match us, hl with | [_], _ => rfl
  obtain ⟨fCntS, fdCntS, aCntS, FCntS⟩ := dCntS
  have bCntS := FCntS.binds (ps := ["self"]) fun _ _ _ _ _ _ us hl => match us, hl with | [_], _ => rfl
  obtain ⟨fHear, fdHear, aHear, FHear⟩ := dHear
  have bHear := FHear.binds (ps := ["self", "message"]) fun _ _ _ _ _ _ us hl => match us, hl with | [_, _], _ => rfl
  obtain ⟨fKeep, fdKeep, aKeep, FKeep⟩ := dKeep
  have bKeep := FKeep.binds (ps := ["self", "message"]) fun _ _ _ _ _ _ us hl => match us, hl with | [_, _], _ => rfl
  have FBest := fun_mk (st := sBest) lBest cBest kBest
  have bBest := FBest.binds (ps := ["voices"]) fun _ _ _ _ _ _ us hl => match us, hl with | [_], _ => rfl
  refine ⟨fdLaw, [(c, PT)], spLaw K PT, fun p hp => ?_, fun p hp => ?_, fun p hp => ?_, bLaw, fun H a ns hl _ hH hS => ⟨a, ns, rfl, hS, hl, .nil (hH _ List.mem_cons_self), fun _ => rfl⟩, fun base KB GB hTB => ?_⟩
  · rw [List.mem_singleton.mp hp]
    exact hT
  · rw [List.mem_singleton.mp hp]
    exact nT
  · rw [List.mem_singleton.mp hp]
    exact PySem.W.codeHd_of_K X tBest
  have TB : LamX.TabB base mg c PT := hTB _ List.mem_cons_self
  have DIsMore : DefT l.prog w K mg base 1 "is_more" ["some", "many"] spIsMore := ⟨fIsMore, fdIsMore, ok_isMore FIsMore, mIsMore, FIsMore.kp, bIsMore⟩
  have DLeft : DefT l.prog w K mg base 3 "_law_left" ["_law_script", "_law_k"] (spLeft K) := ⟨fLeft, fdLeft, ok_left FLeft T.len T.range FCellAt mCellAt bCellAt FRich mRich bRich FMix mMix bMix, mLeft, FLeft.kp, bLeft⟩
  have DPick : DefT l.prog w K mg base 1 "_law_pick" ["_law_left_here", "_law_many"] spPick := ⟨fPick, fdPick, ok_pick FPick T.len, mPick, FPick.kp, bPick⟩
  have DBest : DefT l.prog w K mg base 3 "best_of" ["voices"] (spBest PT) := ⟨fBest, _, ok_best lBest cBest TB T, PySem.W.mg_of X G aBest, kBest, bBest⟩
  have DOthers : MetT l.prog w K mg base C 1 "others" ["self"] (spOthers C) := ⟨fOthers, fdOthers, ok_others FOthers T, aOthers, bOthers⟩
  have DSend : MetT l.prog w K mg base C 2 "send" ["self"] (spSend C) := ⟨fSend, fdSend, ok_send FSend T DOthers, aSend, bSend⟩
  have DFall : MetT l.prog w K mg base C 1 "fall" ["self"] (spFall C PT) := ⟨fFall, fdFall, ok_fall FFall T, aFall, bFall⟩
  have DCntV : MetT l.prog w K mg base C 4 "count_voices" ["self"] (spCV C PT) := ⟨fCntV, fdCntV, ok_cntV FCntV T DIsMore DBest, aCntV, bCntV⟩
  have DCntS : MetT l.prog w K mg base C 2 "count_sizes" ["self"] (spCS C PT) := ⟨fCntS, fdCntS, ok_cntS FCntS T DIsMore, aCntS, bCntS⟩
  have DAdd : MetT l.prog w K mg base C 3 "add" ["self", "row"] (spAdd C PT) := ⟨fAdd, fdAdd, ok_add FAdd T DCntS DSend, aAdd, bAdd⟩
  have DRise : MetT l.prog w K mg base C 5 "rise" ["self"] (spRise C PT) := ⟨fRise, fdRise, ok_rise FRise T DOthers DCntV, aRise, bRise⟩
  have DKeep : MetT l.prog w K mg base C 1 "hear_keep" ["self", "message"] (spKeep C PT) := ⟨fKeep, fdKeep, ok_keep FKeep T, aKeep, bKeep⟩
  have DHear : MetT l.prog w K mg base C 5 "hear" ["self", "message"] (spHear C PT) := ⟨fHear, fdHear, ok_hear FHear T DCntV DCntS DKeep, aHear, bHear⟩
  have DNote : DefT l.prog w K mg base 1 "_law_note" ["_law_world", "_law_m", "_law_deed", "_law_what", "_law_told"] (spNote C PT) := ⟨fNote, fdNote, ok_note FNote T, mNote, FNote.kp, bNote⟩
  have DHeard : DefT l.prog w K mg base 6 "_law_heard" ["_law_world", "_law_k", "_law_stays"] (spHeard C PT) := ⟨fHeard, fdHeard, ok_heard FHeard T DNote DHear, mHeard, FHeard.kp, bHeard⟩
  have DCarried : DefT l.prog w K mg base 7 "_law_carried" ["_law_world", "_law_left_here", "_law_words", "_law_whole"] (spCarried C PT) := ⟨fCarried, fdCarried, ok_carried FCarried T DPick DHeard, mCarried, FCarried.kp, bCarried⟩
  have DLeader : DefT l.prog w K mg base 2 "_law_leader" ["_law_world", "_law_left_here"] (spLeader C PT) := ⟨fLeader, fdLeader, ok_leader FLeader T DPick, mLeader, FLeader.kp, bLeader⟩
  have DAdded : DefT l.prog w K mg base 4 "_law_added" ["_law_world", "_law_left_here"] (spAdded C PT) := ⟨fAdded, fdAdded, ok_added FAdded T DPick DLeader DNote DAdd, mAdded, FAdded.kp, bAdded⟩
  have DRoad : DefT l.prog w K mg base 8 "_law_road" ["_law_world", "_law_left_here"] (spRoad C PT) := ⟨fRoad, fdRoad, ok_road FRoad T DPick DLeader DNote DCarried DAdded DHeard DRise DFall DSend, mRoad, FRoad.kp, bRoad⟩
  have MI : Mk K C fInit := ⟨mk, aInit.at_, aInit.fn, kc⟩
  have DBegun : DefT l.prog w K mg base 4 "_law_begun" ["_law_script"] (spBegun C PT K) := ⟨fBegun, fdBegun, ok_begun FBegun T DPick DLeft MI (ok_init FInit T) bInit, mBegun, FBegun.kp, bBegun⟩
  have DBegins : DefT l.prog w K mg base 1 "_law_begins" ["_law_one", "_law_other"] spBegins := ⟨fBegins, fdBegins, ok_begins FBegins T, mBegins, FBegins.kp, bBegins⟩
  have DVoices : DefT l.prog w K mg base 1 "_law_voices" ["_law_told"] spVoices := ⟨fVoices, fdVoices, ok_voices FVoices T, mVoices, FVoices.kp, bVoices⟩
  have DLawful : DefT l.prog w K mg base 2 "_law_lawful" ["_law_seen", "_law_many", "_law_row"] spLawful := ⟨fLawful, fdLawful, ok_lawful FLawful T DVoices DBegins, mLawful, FLawful.kp, bLawful⟩
  exact ok_law FLaw T DBegun DLeft DRoad DLawful
theorem walk {l : PySem.W.OpenLaw} {q : Program} {loose : List Str} {XP : (Str → Option Value) → Heap → Prop} {YP : World → Heap → Prop} {d : DefRec} {K : Params → PySem.W.Frag} (hn : l.most = some 63) (hdf : d.params.defaults = [])
    (hY : ∀ (w : World) (h : Heap), YP w h → (K w.params).In h)
    (F : ∀ (w : World) (mg : Str → Option Value) (fa : Addr) (h : Heap), YP w h → (K w.params).In h → h.Ns mainGlobals mg → mg d.name = some (.ref fa) → LamX.LawAtS l w (K w.params) CX0 9 63 "_law_script" mg fa h) :
    PySem.W.WalkO q loose XP YP l.row.toRowW d [] (fun f vs => PySem.call f vs) :=
  LamX.walk_ofTs (n := 63) (k := 9) (x := "_law_script") (CX := fun _ => CX0) hn (by decide) hdf ⟨rfl, by decide, by decide⟩ hY F fun _ _ _ _ _ z => z
end K85
open PySem PySem.W PyProof.Rows
set_option maxRecDepth 100000 in
set_option maxHeartbeats 0 in
theorem PySem.Challenge.cw_farshelf_k85_whole_one_leads_a_term_holds : PySem.Challenge.rw_farshelf_k85_whole_one_leads_a_term.Holds := by
  w_on; o_law; k_head; (case hw => w_witness2)
  k_fill
  refine K85.walk (l := PySem.Challenge.rw_farshelf_k85_whole_one_leads_a_term) rfl rfl (fun w h Y => PySem.W.km_in_of Y) ?F
  case F =>
    intro w mg fa h Y KX G hmg
    have hT := PySem.W.km_tabs_of Y _ List.mem_cons_self
    refine' K85.all_mk KX G hmg hT ?nT ?aC (K85.bf_mk ?Ba ?Bl ?Bc ?Bk ?Bt) (K85.lf_mk ?La ?Ll ?Lc ?Lk) (K85.gf_mk ?gIsMorea ?gIsMorel ?gIsMorec ?gIsMorek) (K85.gf_mk ?gCellAta ?gCellAtl ?gCellAtc ?gCellAtk) (K85.gf_mk ?gMixa ?gMixl ?gMixc ?gMixk) (K85.gf_mk ?gRicha ?gRichl ?gRichc ?gRichk) (K85.gf_mk ?gLefta ?gLeftl ?gLeftc ?gLeftk) (K85.gf_mk ?gPicka ?gPickl ?gPickc ?gPickk) (K85.gf_mk ?gBeguna ?gBegunl ?gBegunc ?gBegunk) (K85.gf_mk ?gNotea ?gNotel ?gNotec ?gNotek) (K85.gf_mk ?gHearda ?gHeardl ?gHeardc ?gHeardk) (K85.gf_mk ?gCarrieda ?gCarriedl ?gCarriedc ?gCarriedk) (K85.gf_mk ?gLeadera ?gLeaderl ?gLeaderc ?gLeaderk) (K85.gf_mk ?gAddeda ?gAddedl ?gAddedc ?gAddedk) (K85.gf_mk ?gRoada ?gRoadl ?gRoadc ?gRoadk) (K85.gf_mk ?gBeginsa ?gBeginsl ?gBeginsc ?gBeginsk) (K85.gf_mk ?gVoicesa ?gVoicesl ?gVoicesc ?gVoicesk) (K85.gf_mk ?gLawfula ?gLawfull ?gLawfulc ?gLawfulk) (K85.mf_mk ?mInita ?mIniti ?mInitl ?mInitc ?mInitk) (K85.mf_mk ?mOthersa ?mOthersi ?mOthersl ?mOthersc ?mOthersk) (K85.mf_mk ?mRisea ?mRisei ?mRisel ?mRisec ?mRisek) (K85.mf_mk ?mCntVa ?mCntVi ?mCntVl ?mCntVc ?mCntVk) (K85.mf_mk ?mAdda ?mAddi ?mAddl ?mAddc ?mAddk) (K85.mf_mk ?mSenda ?mSendi ?mSendl ?mSendc ?mSendk) (K85.mf_mk ?mFalla ?mFalli ?mFalll ?mFallc ?mFallk) (K85.mf_mk ?mCntSa ?mCntSi ?mCntSl ?mCntSc ?mCntSk) (K85.mf_mk ?mHeara ?mHeari ?mHearl ?mHearc ?mHeark) (K85.mf_mk ?mKeepa ?mKeepi ?mKeepl ?mKeepc ?mKeepk) ?pg ?hd ?po ?sa ?mk ?kc ?nNu ?nMa ?nTe ?nOf ?nLo ?nDo ?nRo ?nVo ?nSi ?z_len ?z_list ?z_tuple ?z_max ?z_min ?z_range ?z_sorted ?z_enumerate ?z_all
    (case nT => kernel_rfl)
    (case aC => k_is)
    (case Ba => k_is)
    (case Bl => k_is)
    (case Bc => k_is)
    (case Bk => k_is)
    (case Bt => kernel_rfl)
    (case La => k_is)
    (case Ll => k_is)
    (case Lc => k_is)
    (case Lk => k_is)
    (case gIsMorea => k_is)
    (case gIsMorel => k_is)
    (case gIsMorec => k_is)
    (case gIsMorek => k_is)
    (case gCellAta => k_is)
    (case gCellAtl => k_is)
    (case gCellAtc => k_is)
    (case gCellAtk => k_is)
    (case gMixa => k_is)
    (case gMixl => k_is)
    (case gMixc => k_is)
    (case gMixk => k_is)
    (case gRicha => k_is)
    (case gRichl => k_is)
    (case gRichc => k_is)
    (case gRichk => k_is)
    (case gLefta => k_is)
    (case gLeftl => k_is)
    (case gLeftc => k_is)
    (case gLeftk => k_is)
    (case gPicka => k_is)
    (case gPickl => k_is)
    (case gPickc => k_is)
    (case gPickk => k_is)
    (case gBeguna => k_is)
    (case gBegunl => k_is)
    (case gBegunc => k_is)
    (case gBegunk => k_is)
    (case gNotea => k_is)
    (case gNotel => k_is)
    (case gNotec => k_is)
    (case gNotek => k_is)
    (case gHearda => k_is)
    (case gHeardl => k_is)
    (case gHeardc => k_is)
    (case gHeardk => k_is)
    (case gCarrieda => k_is)
    (case gCarriedl => k_is)
    (case gCarriedc => k_is)
    (case gCarriedk => k_is)
    (case gLeadera => k_is)
    (case gLeaderl => k_is)
    (case gLeaderc => k_is)
    (case gLeaderk => k_is)
    (case gAddeda => k_is)
    (case gAddedl => k_is)
    (case gAddedc => k_is)
    (case gAddedk => k_is)
    (case gRoada => k_is)
    (case gRoadl => k_is)
    (case gRoadc => k_is)
    (case gRoadk => k_is)
    (case gBeginsa => k_is)
    (case gBeginsl => k_is)
    (case gBeginsc => k_is)
    (case gBeginsk => k_is)
    (case gVoicesa => k_is)
    (case gVoicesl => k_is)
    (case gVoicesc => k_is)
    (case gVoicesk => k_is)
    (case gLawfula => k_is)
    (case gLawfull => k_is)
    (case gLawfulc => k_is)
    (case gLawfulk => k_is)
    (case mInita => k_is)
    (case mIniti => k_is)
    (case mInitl => k_is)
    (case mInitc => k_is)
    (case mInitk => k_is)
    (case mOthersa => k_is)
    (case mOthersi => k_is)
    (case mOthersl => k_is)
    (case mOthersc => k_is)
    (case mOthersk => k_is)
    (case mRisea => k_is)
    (case mRisei => k_is)
    (case mRisel => k_is)
    (case mRisec => k_is)
    (case mRisek => k_is)
    (case mCntVa => k_is)
    (case mCntVi => k_is)
    (case mCntVl => k_is)
    (case mCntVc => k_is)
    (case mCntVk => k_is)
    (case mAdda => k_is)
    (case mAddi => k_is)
    (case mAddl => k_is)
    (case mAddc => k_is)
    (case mAddk => k_is)
    (case mSenda => k_is)
    (case mSendi => k_is)
    (case mSendl => k_is)
    (case mSendc => k_is)
    (case mSendk => k_is)
    (case mFalla => k_is)
    (case mFalli => k_is)
    (case mFalll => k_is)
    (case mFallc => k_is)
    (case mFallk => k_is)
    (case mCntSa => k_is)
    (case mCntSi => k_is)
    (case mCntSl => k_is)
    (case mCntSc => k_is)
    (case mCntSk => k_is)
    (case mHeara => k_is)
    (case mHeari => k_is)
    (case mHearl => k_is)
    (case mHearc => k_is)
    (case mHeark => k_is)
    (case mKeepa => k_is)
    (case mKeepi => k_is)
    (case mKeepl => k_is)
    (case mKeepc => k_is)
    (case mKeepk => k_is)
    (case pg => k_is)
    (case hd => k_is)
    (case po => k_is)
    (case sa => k_is)
    (case mk => k_is)
    (case kc => k_is)
    (case nNu => k_is)
    (case nMa => k_is)
    (case nTe => k_is)
    (case nOf => k_is)
    (case nLo => k_is)
    (case nDo => k_is)
    (case nRo => k_is)
    (case nVo => k_is)
    (case nSi => k_is)
    (case z_len => k_is)
    (case z_list => k_is)
    (case z_tuple => k_is)
    (case z_max => k_is)
    (case z_min => k_is)
    (case z_range => k_is)
    (case z_sorted => k_is)
    (case z_enumerate => k_is)
    (case z_all => k_is)
