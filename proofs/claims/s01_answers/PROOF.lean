import PyProof.Rows.All
import Wide.All
import OpenK.AllK
import Wide.FinOn
import PyProof.EqAt
import PyProof.EqKinds
import PyProof.TupleCall
import Open.SpecLaws
import KE.OsGo
import HandS.ForSpec
import HandS.Comp
import HandS.SetFor
import HandS.Steps
import PyFlatLaws
import PySem.Challenge.RW_jurypick_s01_answers
set_option Elab.async false
set_option linter.all false
set_option maxRecDepth 100000
set_option maxHeartbeats 2000000
namespace Jp
open Kg77

/-! ### The mirror: the specification's own State; its turn holds Python's at, its box Python's seats -/
def sideAt (m : State) (j : Nat) : Nat := m.rules.turns.getD (j % m.rules.turns.length) 0
def avail (m : State) (j : Nat) : Bool := decide (0 < m.left (sideAt m j))
def ahead (m : State) : Nat → Nat → Nat
  | 0, _ => 0
  | f + 1, j => if avail m j = true then 0 else ahead m f (j + 1) + 1
def nextP (m : State) : Nat := m.turn + ahead m m.rules.turns.length m.turn
def nextSide (m : State) : Int := if m.closed = true then -1 else ((sideAt m (nextP m) : Nat) : Int)
def fillStep (m : State) (i : Nat) : State := match m.box[i]?, m.next with
  | some none, some p => { (m.mark p 1) with box := m.box.set i (some p) }
  | _, _ => m
def pyFill (m : State) : State := (List.range m.box.length).foldl fillStep m
def beginAlt (m : State) : State := if m.toAlternates.full = true then m.toAlternates else { m.toAlternates with phase := 3 }
def swearP (m : State) : State := { m.swear with box := m.box }
def settle1 (m : State) : State := if (m.fill m.box.length).full = true then m.fill m.box.length else { m.fill m.box.length with phase := 3, last := none }
def settle2 (t : State) : State := if t.phase = 0 ∧ t.closed = true ∧ t.last = none then beginAlt t else t
def settle3 (t : State) : State := if t.phase = 1 ∧ t.last = none ∧ (t.closed = true ∨ t.box = []) then swearP t else t
def settleP (m : State) : State := settle3 (settle2 (settle1 m))
/-- Turns.strike, Turns.pass_by -/
def gone (m : State) : State := { m with turn := (nextP m + 1) % m.rules.turns.length }
def struckT (m : State) (side : Nat) : State := { ((gone m).spend side) with passes := 0 }
def passedT (m : State) (side : Nat) : State := { (if m.rules.passCosts = true then (gone m).spend side else gone m) with passes := m.passes + 1 }
def leaveP (m : State) (i k n : Nat) : State := { (m.mark i n) with box := m.box.set k none }
def excuseP (m : State) (i k : Nat) : State := settleP { (leaveP m i k 2) with last := none }
def strikeP (m : State) (side i k : Nat) : State := settleP { (struckT (leaveP m i k (3 + side)) side) with last := some (i, k, side) }
def passP (m : State) (side : Nat) : State := settleP { (passedT m side) with last := none }
def backP (m : State) (x : Nat × Nat × Nat) : State :=
  let b := match m.box.getD x.2.1 none with
    | some j => m.mark j 0
    | none => m
  { (b.mark x.1 1) with box := m.box.set x.2.1 (some x.1) }
def objectP (m : State) (up : Bool) (x : Nat × Nat × Nat) : State := settleP { (if up = true then backP m x else m) with last := none }
def letP (m : State) (i : Nat) : State × Nat :=
  if m.spare.contains i = true then ({ (m.mark i 6) with spare := m.spare.erase i }, 0)
  else match m.spare with
    | j :: l => ({ ((m.mark i 6).mark j 1) with spare := l, jury := m.jury.set (m.jury.idxOf i) j }, 1)
    | [] => (if (m.jury.erase i).length < m.least then { (m.mark i 6) with jury := m.jury.erase i, phase := 4 } else { (m.mark i 6) with jury := m.jury.erase i }, 2)
/-- no_picking() -/
def rules0 : Rules := ⟨0, 0, 0, 0, 0, [0, 1], false⟩
def fresh (r : Rules) (n a b : Nat) : State := ⟨r, List.replicate n 0, 0, List.replicate r.seats none, 0, 0, a, b, none, [], [], 0⟩
def m0 : State := { settleP (fresh rules0 0 0 0) with phase := 4 }
theorem m0_eq : m0 = ⟨rules0, [], 4, [], 0, 0, 0, 0, none, [], [], 0⟩ := by decide

/-! ### The row's places -/
structure RowOk (t : List Nat) : Prop where
  bits : ∀ x ∈ t, x = 0 ∨ x = 1
  zero : 0 ∈ t
  one : 1 ∈ t
  short : t.length ≤ 10
theorem RowOk.pos {t : List Nat} (h : RowOk t) : 0 < t.length := List.length_pos_of_mem h.zero
theorem RowOk.at {t : List Nat} (h : RowOk t) {j : Nat} (hj : j < t.length) : t.getD j 0 = 0 ∨ t.getD j 0 = 1 := by
  rw [List.getD_eq_getElem?_getD, List.getElem?_eq_getElem hj]
  exact h.bits _ (List.getElem_mem hj)
theorem sideAt_le {m : State} (h : RowOk m.rules.turns) (j : Nat) : sideAt m j = 0 ∨ sideAt m j = 1 := h.at (Nat.mod_lt _ h.pos)
theorem ahead_of {m : State} : ∀ {f p i : Nat}, (∀ j, j < i → avail m (p + j) = false) → avail m (p + i) = true → i < f → ahead m f p = i
  | 0, _, _, _, _, h => absurd h (Nat.not_lt_zero _)
  | f + 1, p, 0, _, h, _ => by
    unfold ahead
    rw [if_pos (by simpa using h)]
  | f + 1, p, i + 1, hn, h, hi => by
    unfold ahead
    have h0 := hn 0 (Nat.succ_pos _)
    rw [Nat.add_zero] at h0
    rw [if_neg (by rw [h0]; decide), ahead_of (i := i) (fun j hj => by have := hn (j + 1) (by omega); rwa [show p + (j + 1) = p + 1 + j by omega] at this) (by rwa [show p + (i + 1) = p + 1 + i by omega] at h) (by omega)]
theorem ahead_spec {m : State} : ∀ {f p : Nat}, (∃ i, i < f ∧ avail m (p + i) = true) → ahead m f p < f ∧ avail m (p + ahead m f p) = true ∧ ∀ j, j < ahead m f p → avail m (p + j) = false
  | 0, _, ⟨_, h, _⟩ => absurd h (Nat.not_lt_zero _)
  | f + 1, p, ⟨i, hi, h⟩ => by
    unfold ahead
    by_cases c : avail m p = true
    · rw [if_pos c]
      exact ⟨Nat.succ_pos _, c, fun j hj => absurd hj (Nat.not_lt_zero _)⟩
    · rw [if_neg c]
      have : ∃ i, i < f ∧ avail m (p + 1 + i) = true := by
        cases i with
        | zero => exact absurd h c
        | succ i => exact ⟨i, by omega, by rwa [show p + 1 + i = p + (i + 1) by omega]⟩
      obtain ⟨a, b, d⟩ := ahead_spec this
      refine ⟨by omega, by rwa [show p + (ahead m f (p + 1) + 1) = p + 1 + ahead m f (p + 1) by omega], fun j hj => ?_⟩
      cases j with
      | zero => simpa using c
      | succ j =>
        have := d j (by omega)
        rwa [show p + 1 + j = p + (j + 1) by omega] at this
theorem avail_mod {m : State} {i j : Nat} (h : i % m.rules.turns.length = j % m.rules.turns.length) : avail m i = avail m j := by
  unfold avail sideAt
  rw [h]
theorem sideAt_mod {m : State} {i j : Nat} (h : i % m.rules.turns.length = j % m.rules.turns.length) : sideAt m i = sideAt m j := by
  unfold sideAt
  rw [h]
/-- each place of the row is met within one round -/
theorem round {n p q : Nat} (hn : 0 < n) (hq : q < n) : ∃ i, i < n ∧ (p + i) % n = q := by
  have h1 : p % n < n := Nat.mod_lt _ hn
  by_cases c : p % n ≤ q
  · refine ⟨q - p % n, by omega, ?_⟩
    rw [← Nat.mod_add_mod, show p % n + (q - p % n) = q by omega, Nat.mod_eq_of_lt hq]
  · refine ⟨n + q - p % n, by omega, ?_⟩
    rw [← Nat.mod_add_mod, show p % n + (n + q - p % n) = q + n by omega, Nat.add_mod_right, Nat.mod_eq_of_lt hq]
theorem avail_ex {m : State} (h : RowOk m.rules.turns) (hc : m.closed = false) (p : Nat) : ∃ i, i < m.rules.turns.length ∧ avail m (p + i) = true := by
  have hs : ∃ x ∈ m.rules.turns, 0 < m.left x := by
    unfold State.closed at hc
    rw [Bool.or_eq_false_iff, Bool.and_eq_false_iff] at hc
    rcases hc.2 with c | c
    · exact ⟨0, h.zero, by show 0 < m.leftA; have := of_decide_eq_false (p := m.leftA = 0) (by simpa using c); omega⟩
    · exact ⟨1, h.one, by show 0 < m.leftB; have := of_decide_eq_false (p := m.leftB = 0) (by simpa using c); omega⟩
  obtain ⟨x, hx, hp⟩ := hs
  obtain ⟨q, hq, e⟩ := List.getElem_of_mem hx
  obtain ⟨i, hi, e2⟩ := round (p := p) h.pos hq
  refine ⟨i, hi, ?_⟩
  unfold avail sideAt
  rw [e2, List.getD_eq_getElem?_getD, List.getElem?_eq_getElem hq, e]
  exact decide_eq_true hp
theorem next_ok {m : State} (h : RowOk m.rules.turns) (hc : m.closed = false) : avail m (nextP m) = true ∧ ∀ j, j < nextP m - m.turn → avail m (m.turn + j) = false := by
  obtain ⟨_, b, c⟩ := ahead_spec (avail_ex h hc m.turn)
  refine ⟨b, fun j hj => c j ?_⟩
  unfold nextP at hj
  omega
end Jp
namespace Jp
open Kg77
/-! ### Seats are filled -/
theorem fill_zero (s : State) : s.fill 0 = s := rfl
theorem fill_succ (f : Nat) (s : State) : s.fill (f + 1) = match firstEmpty s.box, s.next with
    | some k, some i => State.fill f { (s.mark i 1) with box := s.box.set k (some i) }
    | _, _ => s := rfl
theorem fill_stop {f : Nat} {s : State} (h : firstEmpty s.box = none ∨ s.next = none) : s.fill f = s := by
  cases f with
  | zero => rfl
  | succ f =>
    rw [fill_succ]
    rcases h with h | h
    · rw [h]
    · rw [h]
      cases firstEmpty s.box <;> rfl
theorem fill_go {f k i : Nat} {s : State} (h : firstEmpty s.box = some k) (h2 : s.next = some i) : s.fill (f + 1) = State.fill f { (s.mark i 1) with box := s.box.set k (some i) } := by
  rw [fill_succ, h, h2]
theorem fill_ind (P : State → Prop) (h : ∀ s k i, P s → firstEmpty s.box = some k → s.next = some i → P { (s.mark i 1) with box := s.box.set k (some i) }) : ∀ (f : Nat) (s : State), P s → P (s.fill f)
  | 0, _, p => p
  | f + 1, s, p => by
    cases e1 : firstEmpty s.box with
    | none => rw [fill_stop (.inl e1)]; exact p
    | some k =>
      cases e2 : s.next with
      | none => rw [fill_stop (.inr e2)]; exact p
      | some i =>
        rw [fill_go e1 e2]
        exact fill_ind P h f _ (h s k i p e1 e2)
theorem firstEmpty_some {b : List (Option Nat)} {k : Nat} (h : firstEmpty b = some k) : b[k]? = some none ∧ ∀ j, j < k → b[j]? ≠ some none := by
  unfold firstEmpty at h
  rw [List.findIdx?_eq_some_iff_getElem] at h
  obtain ⟨hk, h1, h2⟩ := h
  refine ⟨?_, fun j hj e => ?_⟩
  · rw [List.getElem?_eq_getElem hk]
    cases e : b[k] with
    | none => rfl
    | some x => rw [e] at h1; simp at h1
  · obtain ⟨hj', e'⟩ := List.getElem?_eq_some_iff.mp e
    have := h2 j hj
    rw [e'] at this
    simp at this
theorem firstEmpty_none {b : List (Option Nat)} (h : firstEmpty b = none) : ∀ x ∈ b, x ≠ none := by
  unfold firstEmpty at h
  rw [List.findIdx?_eq_none_iff] at h
  intro x hx e
  have := h x hx
  rw [e] at this
  simp at this
theorem firstEmpty_mk {b : List (Option Nat)} {k : Nat} (h : b[k]? = some none) (h2 : ∀ j, j < k → b[j]? ≠ some none) : firstEmpty b = some k := by
  unfold firstEmpty
  rw [List.findIdx?_eq_some_iff_getElem]
  obtain ⟨hk, e⟩ := List.getElem?_eq_some_iff.mp h
  refine ⟨hk, by rw [e]; rfl, fun j hj => ?_⟩
  have := h2 j hj
  rw [List.getElem?_eq_getElem (by omega)] at this
  cases e' : b[j] with
  | none => rw [e'] at this; exact absurd rfl this
  | some x => simp
theorem firstEmpty_mk0 {b : List (Option Nat)} (h : ∀ j, j < b.length → b[j]? ≠ some none) : firstEmpty b = none := by
  unfold firstEmpty
  rw [List.findIdx?_eq_none_iff]
  intro x hx
  obtain ⟨j, hj, e⟩ := List.getElem_of_mem hx
  cases x with
  | none => exact absurd (by rw [List.getElem?_eq_getElem hj, e]) (h j hj)
  | some y => rfl
theorem fillStep_go {m : State} {i p : Nat} (h : m.box[i]? = some none) (h2 : m.next = some p) : fillStep m i = { (m.mark p 1) with box := m.box.set i (some p) } := by
  unfold fillStep
  rw [h, h2]
theorem fillStep_stay {m : State} {i : Nat} (h : m.box[i]? ≠ some none ∨ m.next = none) : fillStep m i = m := by
  unfold fillStep
  rcases h with h | h
  · split
    · rename_i h1 _; exact absurd h1 h
    · rfl
  · rw [h]
    split
    · rename_i h2; cases h2
    · rfl
theorem fill_steps : ∀ (k i f : Nat) (m : State), i + k = m.box.length → k ≤ f → ((∀ j, j < i → m.box[j]? ≠ some none) ∨ m.next = none) → (List.range' i k).foldl fillStep m = m.fill f
  | 0, i, f, m, hk, _, h => by
    rw [List.range'_zero, List.foldl_nil]
    refine (fill_stop ?_).symm
    rcases h with h | h
    · exact .inl (firstEmpty_mk0 fun j hj => h j (by omega))
    · exact .inr h
  | k + 1, i, f, m, hk, hf, h => by
    rw [List.range'_succ, List.foldl_cons]
    by_cases c : m.next = none
    · rw [fillStep_stay (.inr c)]
      exact fill_steps k (i + 1) f m (by omega) (by omega) (.inr c)
    · have h1 : ∀ j, j < i → m.box[j]? ≠ some none := h.resolve_right c
      cases e2 : m.next with
      | none => exact absurd e2 c
      | some p =>
        by_cases d : m.box[i]? = some none
        · rw [fillStep_go d e2]
          obtain ⟨f, rfl⟩ : ∃ g, f = g + 1 := ⟨f - 1, by omega⟩
          rw [fill_go (firstEmpty_mk d h1) e2]
          refine fill_steps k (i + 1) f _ (by show i + 1 + k = (m.box.set i (some p)).length; rw [List.length_set]; omega) (by omega) (.inl fun j hj => ?_)
          show (m.box.set i (some p))[j]? ≠ some none
          by_cases e : j = i
          · subst e
            rw [List.getElem?_set_self (by omega)]
            simp
          · rw [List.getElem?_set_ne (Ne.symm e)]
            exact h1 j (by omega)
        · rw [fillStep_stay (.inl d)]
          refine fill_steps k (i + 1) f m (by omega) (by omega) (.inl fun j hj => ?_)
          by_cases e : j = i
          · subst e; exact d
          · exact h1 j (by omega)
theorem pyFill_eq (m : State) : pyFill m = m.fill m.box.length := by
  unfold pyFill
  rw [List.range_eq_range']
  exact fill_steps _ 0 _ m (by omega) (Nat.le_refl _) (.inl fun j hj => absurd hj (Nat.not_lt_zero _))
/-- behind it nothing is left to be filled -/
def empties (b : List (Option Nat)) : Nat := (b.filter fun x => x.isNone).length
theorem empties_set : ∀ {b : List (Option Nat)} {k i : Nat}, b[k]? = some none → empties (b.set k (some i)) + 1 = empties b
  | [], _, _, h => by simp at h
  | a :: b, 0, i, h => by
    have : a = none := by simpa using h
    subst this
    show empties (some i :: b) + 1 = empties (none :: b)
    simp [empties]
  | a :: b, k + 1, i, h => by
    have ih := empties_set (b := b) (k := k) (i := i) (by simpa using h)
    show empties (a :: b.set k (some i)) + 1 = empties (a :: b)
    unfold empties at ih ⊢
    cases a <;> simp at ih ⊢ <;> omega
theorem empties_zero {b : List (Option Nat)} (h : empties b = 0) : firstEmpty b = none := by
  refine firstEmpty_mk0 fun j hj e => ?_
  unfold empties at h
  have := List.length_eq_zero_iff.mp h
  rw [List.filter_eq_nil_iff] at this
  exact this none (List.mem_of_getElem? e) rfl
theorem fill_done : ∀ (f : Nat) (m : State), empties m.box ≤ f → firstEmpty (m.fill f).box = none ∨ (m.fill f).next = none
  | 0, m, h => .inl (empties_zero (Nat.le_zero.mp h))
  | f + 1, m, h => by
    cases e1 : firstEmpty m.box with
    | none => rw [fill_stop (.inl e1)]; exact .inl e1
    | some k =>
      cases e2 : m.next with
      | none => rw [fill_stop (.inr e2)]; exact .inr e2
      | some i =>
        rw [fill_go e1 e2]
        refine fill_done f _ ?_
        have := empties_set (i := i) (firstEmpty_some e1).1
        show empties (m.box.set k (some i)) ≤ f
        omega
theorem empties_le (b : List (Option Nat)) : empties b ≤ b.length := List.length_filter_le _ _
theorem full_iff {m : State} : m.full = true ↔ firstEmpty m.box = none := by
  unfold State.full firstEmpty
  rw [List.all_eq_true, List.findIdx?_eq_none_iff]
  constructor
  · intro h x hx
    have := h x hx
    cases x with
    | none => cases this
    | some y => rfl
  · intro h x hx
    have := h x hx
    cases x with
    | none => cases this
    | some y => rfl
/-- filled twice is filled once -/
theorem fill_fill {f g : Nat} {m : State} (h : empties m.box ≤ f) : (m.fill f).fill g = m.fill f := fill_stop (fill_done f m h)
/-- what filling leaves as it was -/
structure SameBut (m t : State) : Prop where
  rules : t.rules = m.rules
  phase : t.phase = m.phase
  turn : t.turn = m.turn
  passes : t.passes = m.passes
  leftA : t.leftA = m.leftA
  leftB : t.leftB = m.leftB
  last : t.last = m.last
  jury : t.jury = m.jury
  spare : t.spare = m.spare
  least : t.least = m.least
  plen : t.panel.length = m.panel.length
  blen : t.box.length = m.box.length
theorem fill_same (f : Nat) (m : State) : SameBut m (m.fill f) := by
  refine fill_ind (SameBut m) (fun s k i p _ _ => ?_) f m ⟨rfl, rfl, rfl, rfl, rfl, rfl, rfl, rfl, rfl, rfl, rfl, rfl⟩
  obtain ⟨a1, a2, a3, a4, a5, a6, a7, a8, a9, a10, a11, a12⟩ := p
  exact ⟨a1, a2, a3, a4, a5, a6, a7, a8, a9, a10, by show (s.panel.set i 1).length = _; rw [List.length_set, a11], by show (s.box.set k (some i)).length = _; rw [List.length_set, a12]⟩
/-- filling looks at the panel and the box alone -/
theorem fill_congr (f : Nat) : ∀ (m t : State), m.panel = t.panel → m.box = t.box → (m.fill f).panel = (t.fill f).panel ∧ (m.fill f).box = (t.fill f).box := by
  induction f with
  | zero => intro m t h1 h2; exact ⟨h1, h2⟩
  | succ f ih =>
    intro m t h1 h2
    have en : m.next = t.next := by unfold State.next; rw [h1]
    have eb : firstEmpty m.box = firstEmpty t.box := by rw [h2]
    cases e1 : firstEmpty m.box with
    | none => rw [fill_stop (.inl e1), fill_stop (.inl (eb ▸ e1))]; exact ⟨h1, h2⟩
    | some k =>
      cases e2 : m.next with
      | none => rw [fill_stop (.inr e2), fill_stop (.inr (en ▸ e2))]; exact ⟨h1, h2⟩
      | some i =>
        rw [fill_go e1 e2, fill_go (eb ▸ e1) (en ▸ e2)]
        exact ih _ _ (by show m.panel.set i 1 = t.panel.set i 1; rw [h1]) (by show m.box.set k (some i) = t.box.set k (some i); rw [h2])
theorem next_some {m : State} {i : Nat} (h : m.next = some i) : m.panel[i]? = some 0 ∧ ∀ j, j < i → m.panel[j]? ≠ some 0 := by
  unfold State.next at h
  rw [List.findIdx?_eq_some_iff_getElem] at h
  obtain ⟨hk, h1, h2⟩ := h
  refine ⟨?_, fun j hj e => ?_⟩
  · rw [List.getElem?_eq_getElem hk]
    have : m.panel[i] = 0 := by simpa using h1
    rw [this]
  · obtain ⟨hj', e'⟩ := List.getElem?_eq_some_iff.mp e
    have := h2 j hj
    rw [e'] at this
    simp at this
theorem next_none {m : State} (h : m.next = none) : ∀ x ∈ m.panel, x ≠ 0 := by
  unfold State.next at h
  rw [List.findIdx?_eq_none_iff] at h
  intro x hx e
  have := h x hx
  rw [e] at this
  simp at this
/-- who sits: nobody twice, each with the fate 1 -/
structure Seated (jury : List Nat) (panel : List Nat) (box : List (Option Nat)) : Prop where
  nd : (jury ++ sitting box).Nodup
  one : ∀ x ∈ jury ++ sitting box, panel[x]? = some 1
theorem mem_sitting {b : List (Option Nat)} {x : Nat} : x ∈ sitting b ↔ some x ∈ b := by
  unfold sitting
  rw [List.mem_filterMap]
  constructor
  · rintro ⟨a, h, e⟩; exact e ▸ h
  · intro h; exact ⟨some x, h, rfl⟩
end Jp
namespace Jp
open Kg77
theorem sitting_fill : ∀ {b : List (Option Nat)} {k i : Nat}, b[k]? = some none → (sitting (b.set k (some i))).Perm (i :: sitting b)
  | [], _, _, h => by simp at h
  | a :: b, 0, i, h => by
    have : a = none := by simpa using h
    subst this
    exact List.Perm.refl _
  | none :: b, k + 1, i, h => by
    have ih := sitting_fill (b := b) (k := k) (i := i) (by simpa using h)
    exact ih
  | some a :: b, k + 1, i, h => by
    have ih := sitting_fill (b := b) (k := k) (i := i) (by simpa using h)
    show (a :: sitting (b.set k (some i))).Perm (i :: a :: sitting b)
    exact (ih.cons a).trans (List.Perm.swap i a _)
theorem sitting_leave : ∀ {b : List (Option Nat)} {k i : Nat}, b[k]? = some (some i) → (sitting b).Perm (i :: sitting (b.set k none))
  | [], _, _, h => by simp at h
  | a :: b, 0, i, h => by
    have : a = some i := by simpa using h
    subst this
    exact List.Perm.refl _
  | none :: b, k + 1, i, h => by
    have ih := sitting_leave (b := b) (k := k) (i := i) (by simpa using h)
    exact ih
  | some a :: b, k + 1, i, h => by
    have ih := sitting_leave (b := b) (k := k) (i := i) (by simpa using h)
    show (a :: sitting b).Perm (i :: a :: sitting (b.set k none))
    exact (ih.cons a).trans (List.Perm.swap i a _)
theorem Seated.put {jury panel : List Nat} {box : List (Option Nat)} {k i : Nat} (h : Seated jury panel box) (hk : box[k]? = some none) (hl : i < panel.length) (hi : panel[i]? ≠ some 1) : Seated jury (panel.set i 1) (box.set k (some i)) := by
  have pm : (jury ++ sitting (box.set k (some i))).Perm (i :: (jury ++ sitting box)) := ((sitting_fill hk).append_left jury).trans List.perm_middle
  refine ⟨pm.nodup_iff.mpr (List.nodup_cons.mpr ⟨fun z => hi (h.one i z), h.nd⟩), fun x hx => ?_⟩
  by_cases e : x = i
  · subst e
    rw [List.getElem?_set_self hl]
  · rw [List.getElem?_set_ne (Ne.symm e)]
    refine h.one x ?_
    rcases List.mem_cons.mp (pm.mem_iff.mp hx) with z | z
    · exact absurd z e
    · exact z
theorem Seated.leave {jury panel : List Nat} {box : List (Option Nat)} {k i n : Nat} (h : Seated jury panel box) (hk : box[k]? = some (some i)) : Seated jury (panel.set i n) (box.set k none) ∧ i ∉ jury ++ sitting (box.set k none) ∧ i < panel.length := by
  have pm : (jury ++ sitting box).Perm (i :: (jury ++ sitting (box.set k none))) := ((sitting_leave hk).append_left jury).trans List.perm_middle
  have nd := List.nodup_cons.mp (pm.nodup_iff.mp h.nd)
  have hi := h.one i (pm.mem_iff.mpr (List.mem_cons_self))
  refine ⟨⟨nd.2, fun x hx => ?_⟩, nd.1, (List.getElem?_eq_some_iff.mp hi).1⟩
  have e : x ≠ i := fun e => nd.1 (e ▸ hx)
  rw [List.getElem?_set_ne (Ne.symm e)]
  exact h.one x (pm.mem_iff.mpr (List.mem_cons_of_mem _ hx))

/-! ### What always holds of the mirror -/
structure Sz (m : State) : Prop where
  panel : m.panel.length ≤ 60
  box : m.box.length ≤ 12
  jury : m.jury.length ≤ 12
  spare : m.spare.length ≤ 12
  seats : m.rules.seats ≤ 12
  alts : m.rules.alternates ≤ 12
structure Early (m : State) : Prop where
  row : RowOk m.rules.turns
  at_ : m.turn < m.rules.turns.length
  seats : 1 ≤ m.rules.seats
  ph0 : m.phase = 0 → m.box.length = m.rules.seats
  ph1 : m.phase = 1 → m.jury.length = m.rules.seats
  seated : Seated m.jury m.panel m.box
  last : ∀ x, m.last = some x → x.1 < m.panel.length ∧ m.panel[x.1]? ≠ some 1 ∧ m.panel[x.1]? ≠ some 0 ∧ x.2.1 < m.box.length ∧ x.2.2 ≤ 1
structure Sworn (m : State) : Prop where
  nd : (m.jury ++ m.spare).Nodup
  range : ∀ x ∈ m.jury ++ m.spare, x < m.panel.length
  pos : 1 ≤ m.least
  most : m.least ≤ m.jury.length
structure Inv (m : State) : Prop where
  sz : Sz m
  ph : m.phase ≤ 4
  early : m.phase ≤ 1 → Early m ∧ m.full = true
  sworn : m.phase = 2 → Sworn m
  late : 2 ≤ m.phase → m.last = none
structure Rel (m s : State) : Prop where
  panel : s.panel = m.panel
  phase : s.phase = m.phase
  leftA : s.leftA = m.leftA
  leftB : s.leftB = m.leftB
  last : s.last = m.last
  jury : s.jury = m.jury
  spare : s.spare = m.spare
  least : s.least = m.least
  box : m.phase ≤ 1 ∨ m.phase = 3 → s.box = m.box
  early : m.phase ≤ 1 → s.rules = m.rules ∧ s.passes = m.passes ∧ (m.closed = false → s.turn % m.rules.turns.length = nextP m % m.rules.turns.length)
theorem Sz.fill {m : State} (h : Sz m) (f : Nat) : Sz (m.fill f) := by
  have e := fill_same f m
  exact ⟨by rw [e.plen]; exact h.panel, by rw [e.blen]; exact h.box, by rw [e.jury]; exact h.jury, by rw [e.spare]; exact h.spare, by rw [e.rules]; exact h.seats, by rw [e.rules]; exact h.alts⟩
theorem set_ne {l : List Nat} {i j a b : Nat} (h : l[j]? ≠ some b) (hn : a ≠ b) : (l.set i a)[j]? ≠ some b := by
  by_cases e : j = i
  · subst e
    intro z
    by_cases hl : j < l.length
    · rw [List.getElem?_set_self hl] at z
      exact hn (Option.some.inj z)
    · rw [List.getElem?_eq_none (by rw [List.length_set]; omega)] at z
      cases z
  · rw [List.getElem?_set_ne (Ne.symm e)]
    exact h
theorem Early.fillS {s : State} {k i : Nat} (h : Early s) (e1 : firstEmpty s.box = some k) (e2 : s.next = some i) : Early { (s.mark i 1) with box := s.box.set k (some i) } := by
  have hi := (next_some e2).1
  have hl := (List.getElem?_eq_some_iff.mp hi).1
  refine ⟨h.row, h.at_, h.seats, fun z => ?_, h.ph1, h.seated.put (firstEmpty_some e1).1 hl (by rw [hi]; simp), fun x hx => ?_⟩
  · show (s.box.set k (some i)).length = _
    rw [List.length_set]
    exact h.ph0 z
  · obtain ⟨a, b, c, d, e⟩ := h.last x hx
    have ne : x.1 ≠ i := fun z => c (z ▸ hi)
    refine ⟨by show _ < (s.panel.set i 1).length; rw [List.length_set]; exact a, ?_, ?_, by show _ < (s.box.set k (some i)).length; rw [List.length_set]; exact d, e⟩
    · show (s.panel.set i 1)[x.1]? ≠ some 1
      rw [List.getElem?_set_ne (Ne.symm ne)]
      exact b
    · show (s.panel.set i 1)[x.1]? ≠ some 0
      rw [List.getElem?_set_ne (Ne.symm ne)]
      exact c
theorem Early.fill {m : State} (h : Early m) (f : Nat) : Early (m.fill f) := fill_ind Early (fun s k i p e1 e2 => p.fillS e1 e2) f m h
theorem sitting_full : ∀ {b : List (Option Nat)}, (∀ x ∈ b, x ≠ none) → (sitting b).map some = b
  | [], _ => rfl
  | none :: b, h => absurd rfl (h none List.mem_cons_self)
  | some a :: b, h => by
    show some a :: (sitting b).map some = some a :: b
    rw [sitting_full fun x hx => h x (List.mem_cons_of_mem _ hx)]
theorem sitting_len {b : List (Option Nat)} (h : ∀ x ∈ b, x ≠ none) : (sitting b).length = b.length := by
  have := congrArg List.length (sitting_full h)
  rwa [List.length_map] at this
theorem full_all {m : State} (h : m.full = true) : ∀ x ∈ m.box, x ≠ none := firstEmpty_none (full_iff.mp h)
/-- the alternates' seats, ahead of being filled -/
def alt0 (s : State) : State := { s with jury := sitting s.box, phase := 1, box := List.replicate s.rules.alternates none, turn := 0, passes := 0, leftA := s.rules.extra, leftB := s.rules.extra, last := none }
theorem toAlt_eq (s : State) : s.toAlternates = (alt0 s).fill s.rules.alternates := rfl
theorem sitting_rep : ∀ n, sitting (List.replicate n none) = []
  | 0 => rfl
  | n + 1 => sitting_rep n
theorem Early.alt0 {m : State} (h : Early m) (h0 : m.phase = 0) (hf : m.full = true) : Early (alt0 m) := by
  refine { row := h.row, at_ := h.row.pos, seats := h.seats, ph0 := fun z => (by cases z), ph1 := fun _ => ?_, seated := ⟨?_, fun x hx => ?_⟩, last := fun x hx => (by cases hx) }
  · show (sitting m.box).length = m.rules.seats
    rw [sitting_len (full_all hf)]
    exact h.ph0 h0
  · show (sitting m.box ++ sitting (List.replicate _ none)).Nodup
    rw [sitting_rep, List.append_nil]
    exact (List.nodup_append.mp h.seated.nd).2.1
  · refine h.seated.one x (List.mem_append_right _ ?_)
    have : x ∈ sitting m.box ++ sitting (List.replicate m.rules.alternates none) := hx
    rwa [sitting_rep, List.append_nil] at this
theorem Early.toAlt {m : State} (h : Early m) (h0 : m.phase = 0) (hf : m.full = true) : Early m.toAlternates := by
  rw [toAlt_eq]
  exact (h.alt0 h0 hf).fill _
theorem Sz.alt0 {m : State} (h : Sz m) : Sz (alt0 m) := by
  refine ⟨h.panel, ?_, ?_, h.spare, h.seats, h.alts⟩
  · show (List.replicate _ none).length ≤ 12
    rw [List.length_replicate]
    exact h.alts
  · exact Nat.le_trans (List.length_filterMap_le _ _) h.box
theorem Sz.toAlt {m : State} (h : Sz m) : Sz m.toAlternates := by
  rw [toAlt_eq]
  exact h.alt0.fill _

/-! ### The turn -/
theorem whose_eq {s : State} (h : s.rules.turns ≠ []) : s.whose = sideAt s s.turn := if_neg h
theorem goOn_of : ∀ {f : Nat} {s : State} {i : Nat}, s.rules.turns ≠ [] → (∀ j, j < i → avail s (s.turn + 1 + j) = false) → avail s (s.turn + 1 + i) = true → i < f → s.goOn f = { s with turn := s.turn + 1 + i }
  | 0, _, _, _, _, _, h => absurd h (Nat.not_lt_zero _)
  | f + 1, s, 0, hr, _, h, _ => by
    have e : (({ s with turn := s.turn + 1 } : State).whose) = sideAt s (s.turn + 1) := whose_eq (s := { s with turn := s.turn + 1 }) hr
    show (if 0 < ({ s with turn := s.turn + 1 } : State).left ({ s with turn := s.turn + 1 } : State).whose then ({ s with turn := s.turn + 1 } : State) else State.goOn f { s with turn := s.turn + 1 }) = _
    rw [e]
    exact if_pos (of_decide_eq_true h)
  | f + 1, s, i + 1, hr, hn, h, hi => by
    have e : (({ s with turn := s.turn + 1 } : State).whose) = sideAt s (s.turn + 1) := whose_eq (s := { s with turn := s.turn + 1 }) hr
    show (if 0 < ({ s with turn := s.turn + 1 } : State).left ({ s with turn := s.turn + 1 } : State).whose then ({ s with turn := s.turn + 1 } : State) else State.goOn f { s with turn := s.turn + 1 }) = _
    rw [e]
    have h0 := hn 0 (Nat.succ_pos _)
    rw [if_neg (show ¬ 0 < ({ s with turn := s.turn + 1 } : State).left (sideAt s (s.turn + 1)) from of_decide_eq_false h0)]
    have := goOn_of (f := f) (s := { s with turn := s.turn + 1 }) (i := i) hr (fun j hj => by
      have := hn (j + 1) (by omega)
      rwa [show s.turn + 1 + (j + 1) = s.turn + 1 + 1 + j by omega] at this) (by rwa [show s.turn + 1 + (i + 1) = s.turn + 1 + 1 + i by omega] at h) (by omega)
    rw [this]
    show ({ s with turn := s.turn + 1 + 1 + i } : State) = { s with turn := s.turn + 1 + (i + 1) }
    rw [show s.turn + 1 + 1 + i = s.turn + 1 + (i + 1) by omega]
/-- where the specification's turn stands: d places behind Python's at, with none between that has strikes -/
def TurnAt (m : State) (T : Nat) : Prop := m.closed = false → ∃ d, T % m.rules.turns.length = (m.turn + d) % m.rules.turns.length ∧ ∀ j, j < d → avail m (m.turn + j) = false
theorem tail_sim {m : State} {T : Nat} (row : RowOk m.rules.turns) (hc : m.closed = false) (h : TurnAt m T) :
    ∃ T', (if ({ m with turn := T } : State).left ({ m with turn := T } : State).whose = 0 then ({ m with turn := T } : State).goOn m.rules.turns.length else ({ m with turn := T } : State)) = { m with turn := T' } ∧ T' % m.rules.turns.length = nextP m % m.rules.turns.length := by
  have hr : m.rules.turns ≠ [] := fun z => by have := row.pos; rw [z] at this; exact absurd this (Nat.lt_irrefl _)
  have e : (({ m with turn := T } : State).whose) = sideAt m T := whose_eq (s := { m with turn := T }) hr
  obtain ⟨d, hd, hn⟩ := h hc
  obtain ⟨h1, h2, h3⟩ := ahead_spec (avail_ex row hc m.turn)
  have hde : d ≤ ahead m m.rules.turns.length m.turn := by
    apply Nat.le_of_not_lt
    intro z
    have := hn _ z
    rw [h2] at this
    cases this
  have md : ∀ j, (T + j) % m.rules.turns.length = (m.turn + d + j) % m.rules.turns.length := fun j => by rw [Nat.add_mod, hd, ← Nat.add_mod]
  rw [e]
  by_cases c : m.left (sideAt m T) = 0
  · rw [if_pos (show ({ m with turn := T } : State).left (sideAt m T) = 0 from c)]
    have c' : avail m T = false := decide_eq_false (by omega)
    have hlt : d < ahead m m.rules.turns.length m.turn := by
      apply Nat.lt_of_le_of_ne hde
      intro z
      rw [z] at hd
      rw [avail_mod hd, h2] at c'
      cases c'
    have hi : avail m (T + 1 + (ahead m m.rules.turns.length m.turn - d - 1)) = true := by
      rw [← h2]
      refine avail_mod ?_
      rw [show T + 1 + (ahead m m.rules.turns.length m.turn - d - 1) = T + (ahead m m.rules.turns.length m.turn - d) by omega, md, show m.turn + d + (ahead m m.rules.turns.length m.turn - d) = m.turn + ahead m m.rules.turns.length m.turn by omega]
    have := goOn_of (f := m.rules.turns.length) (s := { m with turn := T }) (i := ahead m m.rules.turns.length m.turn - d - 1) hr (fun j hj => by
      show avail m (T + 1 + j) = false
      rw [← h3 (d + 1 + j) (by omega)]
      refine avail_mod ?_
      rw [show T + 1 + j = T + (1 + j) by omega, md, show m.turn + d + (1 + j) = m.turn + (d + 1 + j) by omega]) hi (by omega)
    refine ⟨_, this, ?_⟩
    show (T + 1 + (ahead m m.rules.turns.length m.turn - d - 1)) % _ = _
    rw [show T + 1 + (ahead m m.rules.turns.length m.turn - d - 1) = T + (ahead m m.rules.turns.length m.turn - d) by omega, md]
    unfold nextP
    rw [show m.turn + d + (ahead m m.rules.turns.length m.turn - d) = m.turn + ahead m m.rules.turns.length m.turn by omega]
  · rw [if_neg (show ¬ ({ m with turn := T } : State).left (sideAt m T) = 0 from c)]
    refine ⟨T, rfl, ?_⟩
    have c' : avail m T = true := decide_eq_true (by omega)
    rw [avail_mod hd] at c'
    have : ahead m m.rules.turns.length m.turn = d := ahead_of hn c' (by omega)
    unfold nextP
    rw [this, hd]
theorem fill_turn (T : Nat) : ∀ (f : Nat) (m : State), ({ m with turn := T } : State).fill f = { m.fill f with turn := T }
  | 0, _ => rfl
  | f + 1, m => by
    cases e1 : firstEmpty m.box with
    | none => rw [fill_stop (s := m) (.inl e1), fill_stop (s := { m with turn := T }) (.inl e1)]
    | some k =>
      cases e2 : m.next with
      | none => rw [fill_stop (s := m) (.inr e2), fill_stop (s := { m with turn := T }) (.inr e2)]
      | some i =>
        rw [fill_go (s := m) e1 e2, fill_go (s := { m with turn := T }) e1 e2]
        exact fill_turn T f { (m.mark i 1) with box := m.box.set k (some i) }
end Jp
namespace Jp
open Kg77
theorem settle_succ (f : Nat) (s : State) : s.settle (f + 1) = if 2 ≤ s.phase then s else
      if (s.fill s.box.length).full = false then { s.fill s.box.length with phase := 3, last := none }
      else if (s.fill s.box.length).closed = true ∨ (s.fill s.box.length).box = [] then
        (if (s.fill s.box.length).last.isSome = true then s.fill s.box.length else State.settle f (if (s.fill s.box.length).phase = 0 then (s.fill s.box.length).toAlternates else (s.fill s.box.length).swear))
      else if (s.fill s.box.length).left (s.fill s.box.length).whose = 0 then (s.fill s.box.length).goOn (s.fill s.box.length).rules.turns.length
      else s.fill s.box.length := rfl
theorem settle_late {f : Nat} {s : State} (h : 2 ≤ s.phase) : s.settle f = s := by
  cases f with
  | zero => rfl
  | succ f => rw [settle_succ, if_pos h]
theorem replicate_none_empties : ∀ n, empties (List.replicate n none) = n
  | 0 => rfl
  | n + 1 => by
    have ih := replicate_none_empties n
    unfold empties at ih ⊢
    rw [List.replicate_succ, List.filter_cons_of_pos (by rfl), List.length_cons, ih]
/-- what holds of the mirror ahead of settle -/
structure Pre (m : State) : Prop where
  sz : Sz m
  early : Early m
  ph : m.phase ≤ 1
structure Out (m s : State) : Prop where
  inv : Inv m
  rel : Rel m s
theorem none_or {α : Type} (o : Option α) : o = none ∨ ∃ x, o = some x := by
  cases o with
  | none => exact .inl rfl
  | some x => exact .inr ⟨x, rfl⟩
theorem full_not {m : State} (h : ¬ m.full = true) : m.full = false := by
  cases e : m.full with
  | true => exact absurd e h
  | false => rfl
theorem out_too {t : State} {T : Nat} (sz : Sz t) : Out { t with phase := 3, last := none } { ({ t with turn := T } : State) with phase := 3, last := none } :=
  ⟨⟨⟨sz.panel, sz.box, sz.jury, sz.spare, sz.seats, sz.alts⟩, (by show (3 : Nat) ≤ 4; decide), fun h => absurd h (by show ¬ (3 : Nat) ≤ 1; decide), fun h => absurd h (by show ¬ (3 : Nat) = 2; decide), fun _ => rfl⟩,
   ⟨rfl, rfl, rfl, rfl, rfl, rfl, rfl, rfl, fun _ => rfl, fun h => absurd h (by show ¬ (3 : Nat) ≤ 1; decide)⟩⟩
theorem settle1_full {m : State} (h : (m.fill m.box.length).full = true) : settle1 m = m.fill m.box.length := if_pos h
theorem settle1_not {m : State} (h : (m.fill m.box.length).full = false) : settle1 m = { m.fill m.box.length with phase := 3, last := none } := if_neg (by rw [h]; decide)
theorem swearP_panel (m : State) : (swearP m).panel.length = m.panel.length := by
  show ((m.panel.zipIdx).map _).length = _
  rw [List.length_map, List.length_zipIdx]
theorem out_swear {t : State} {T : Nat} (sz : Sz t) (e : Early t) (h1 : t.phase = 1) (hf : t.full = true) : Out (swearP t) ({ t with turn := T } : State).swear := by
  refine ⟨⟨⟨?_, sz.box, sz.jury, ?_, sz.seats, sz.alts⟩, (by show (2 : Nat) ≤ 4; decide), fun h => absurd h (by show ¬ (2 : Nat) ≤ 1; decide), fun _ => ⟨?_, fun x hx => ?_, e.seats, ?_⟩, fun _ => rfl⟩,
    ⟨rfl, rfl, rfl, rfl, rfl, rfl, rfl, rfl, fun h => ?_, fun h => absurd h (by show ¬ (2 : Nat) ≤ 1; decide)⟩⟩
  · rw [swearP_panel]; exact sz.panel
  · exact Nat.le_trans (List.length_filterMap_le _ _) sz.box
  · exact e.seated.nd
  · rw [swearP_panel]
    exact (List.getElem?_eq_some_iff.mp (e.seated.one x hx)).1
  · show t.rules.seats ≤ t.jury.length
    rw [e.ph1 h1]
    exact Nat.le_refl _
  · rcases h with h | h
    · exact absurd h (by show ¬ (2 : Nat) ≤ 1; decide)
    · exact absurd h (by show ¬ (2 : Nat) = 3; decide)
theorem out_stay {t : State} {T : Nat} (sz : Sz t) (e : Early t) (hp : t.phase ≤ 1) (hf : t.full = true) (h : t.closed = false → T % t.rules.turns.length = nextP t % t.rules.turns.length) : Out t { t with turn := T } :=
  ⟨⟨sz, by omega, fun _ => ⟨e, hf⟩, fun h => absurd h (by omega), fun h => absurd h (by omega)⟩, ⟨rfl, rfl, rfl, rfl, rfl, rfl, rfl, rfl, fun _ => rfl, fun _ => ⟨rfl, rfl, h⟩⟩⟩
theorem TurnAt.fill {m : State} {T : Nat} (h : TurnAt m T) (f : Nat) : TurnAt (m.fill f) T := by
  have e := fill_same f m
  intro hc
  have hc' : m.closed = false := by
    unfold State.closed at hc ⊢
    rw [e.passes, e.leftA, e.leftB] at hc
    exact hc
  obtain ⟨d, a, b⟩ := h hc'
  refine ⟨d, by rw [e.rules, e.turn]; exact a, fun j hj => ?_⟩
  have := b j hj
  unfold avail sideAt State.left at this ⊢
  rw [e.rules, e.turn, e.leftA, e.leftB]
  exact this
/-- the second phase, from a filled box on -/
theorem settle_one {t : State} {T f : Nat} (sz : Sz t) (e : Early t) (h1 : t.phase = 1) (hd : t.fill t.box.length = t) (hT : TurnAt t T) (hf : 2 ≤ f) :
    Out (settle3 (if t.full = true then t else { t with phase := 3, last := none })) (({ t with turn := T } : State).settle f) := by
  obtain ⟨f, rfl⟩ : ∃ g, f = g + 1 := ⟨f - 1, by omega⟩
  have hs : ({ t with turn := T } : State).fill ({ t with turn := T } : State).box.length = { t with turn := T } := by
    rw [fill_turn]
    show ({ t.fill t.box.length with turn := T } : State) = _
    rw [hd]
  rw [settle_succ, if_neg (show ¬ 2 ≤ ({ t with turn := T } : State).phase from by show ¬ 2 ≤ t.phase; omega), hs]
  by_cases c : t.full = true
  · rw [if_pos c, if_neg (show ¬ ({ t with turn := T } : State).full = false from by show ¬ t.full = false; rw [c]; decide)]
    by_cases c2 : t.closed = true ∨ t.box = []
    · rw [if_pos (show ({ t with turn := T } : State).closed = true ∨ ({ t with turn := T } : State).box = [] from c2)]
      rcases none_or t.last with c3 | ⟨x, c3⟩
      ·
        rw [if_neg (show ¬ ({ t with turn := T } : State).last.isSome = true from by show ¬ t.last.isSome = true; rw [c3]; decide)]
        rw [if_neg (show ¬ ({ t with turn := T } : State).phase = 0 from by show ¬ t.phase = 0; omega)]
        rw [settle_late (show 2 ≤ ({ t with turn := T } : State).swear.phase from Nat.le_refl 2)]
        have : settle3 t = swearP t := if_pos ⟨h1, c3, c2⟩
        rw [this]
        exact out_swear sz e h1 c
      · rw [if_pos (show ({ t with turn := T } : State).last.isSome = true from by show t.last.isSome = true; rw [c3]; rfl)]
        have : settle3 t = t := if_neg fun z => by have := z.2.1; rw [c3] at this; cases this
        rw [this]
        refine out_stay sz e (by omega) c fun hc => ?_
        rcases c2 with c2 | c2
        · rw [c2] at hc; cases hc
        · have := (e.last x c3).2.2.2.1
          rw [c2] at this
          exact absurd this (Nat.not_lt_zero _)
    · rw [if_neg (show ¬ (({ t with turn := T } : State).closed = true ∨ ({ t with turn := T } : State).box = []) from c2)]
      have hc : t.closed = false := by
        cases z : t.closed with
        | true => exact absurd (.inl z) c2
        | false => rfl
      obtain ⟨T', e1, e2⟩ := tail_sim e.row hc hT
      have : settle3 t = t := if_neg fun z => c2 z.2.2
      rw [this]
      show Out t (if ({ t with turn := T } : State).left ({ t with turn := T } : State).whose = 0 then ({ t with turn := T } : State).goOn t.rules.turns.length else ({ t with turn := T } : State))
      rw [e1]
      exact out_stay sz e (by omega) c fun _ => e2
  · rw [if_neg c, if_pos (show ({ t with turn := T } : State).full = false from full_not c)]
    have : settle3 { t with phase := 3, last := none } = { t with phase := 3, last := none } := if_neg fun z => absurd z.1 (by show ¬ (3 : Nat) = 1; decide)
    rw [this]
    exact out_too sz
theorem settle_sim {m : State} {T : Nat} (p : Pre m) (hT : TurnAt m T) : Out (settleP m) ({ m with turn := T } : State).settled := by
  have sm := fill_same m.box.length m
  have sz : Sz (m.fill m.box.length) := p.sz.fill _
  have e : Early (m.fill m.box.length) := p.early.fill _
  have hT' : TurnAt (m.fill m.box.length) T := hT.fill _
  have hs : ({ m with turn := T } : State).fill ({ m with turn := T } : State).box.length = { m.fill m.box.length with turn := T } := fill_turn T _ m
  have dd : (m.fill m.box.length).fill (m.fill m.box.length).box.length = m.fill m.box.length := fill_fill (empties_le _)
  unfold State.settled settleP
  rcases Nat.le_one_iff_eq_zero_or_eq_one.mp p.ph with h0 | h1
  · -- strikes at the box
    have hp : (m.fill m.box.length).phase = 0 := sm.phase.trans h0
    rw [settle_succ, if_neg (show ¬ 2 ≤ ({ m with turn := T } : State).phase from by show ¬ 2 ≤ m.phase; omega), hs]
    by_cases c : (m.fill m.box.length).full = true
    · rw [settle1_full c, if_neg (show ¬ ({ m.fill m.box.length with turn := T } : State).full = false from by show ¬ (m.fill m.box.length).full = false; rw [c]; decide)]
      have hb : (m.fill m.box.length).box ≠ [] := fun z => by
        have a := e.ph0 hp
        have b := e.seats
        rw [z] at a
        rw [← a] at b
        exact absurd b (by decide)
      generalize ht : m.fill m.box.length = t at *
      by_cases c2 : t.closed = true
      · rw [if_pos (show ({ t with turn := T } : State).closed = true ∨ ({ t with turn := T } : State).box = [] from .inl c2)]
        rcases none_or t.last with c3 | ⟨x, c3⟩
        ·
          rw [if_neg (show ¬ ({ t with turn := T } : State).last.isSome = true from by show ¬ t.last.isSome = true; rw [c3]; decide)]
          rw [if_pos (show ({ t with turn := T } : State).phase = 0 from hp)]
          have e2 : settle2 t = beginAlt t := if_pos ⟨hp, c2, c3⟩
          rw [e2]
          have eu : Early t.toAlternates := e.toAlt hp c
          have su := fill_same t.rules.alternates (alt0 t)
          rw [← toAlt_eq] at su
          have du : t.toAlternates.fill t.toAlternates.box.length = t.toAlternates := by
            rw [toAlt_eq]
            refine fill_fill ?_
            show empties (List.replicate t.rules.alternates none) ≤ _
            rw [replicate_none_empties]
            exact Nat.le_refl _
          have tu : TurnAt t.toAlternates 0 := fun _ => ⟨0, by rw [su.turn]; rfl, fun j hj => absurd hj (Nat.not_lt_zero _)⟩
          have := settle_one (f := 3) sz.toAlt eu su.phase du tu (by decide)
          have eb : beginAlt t = if t.toAlternates.full = true then t.toAlternates else { t.toAlternates with phase := 3, last := none } := by
            unfold beginAlt
            by_cases z : t.toAlternates.full = true
            · rw [if_pos z, if_pos z]
            · rw [if_neg z, if_neg z]
              have l : t.toAlternates.last = none := su.last
              rw [← l]
          rw [eb]
          have ez : ({ t.toAlternates with turn := 0 } : State) = ({ t with turn := T } : State).toAlternates := by
            have z : t.toAlternates.turn = 0 := su.turn
            show ({ t.toAlternates with turn := 0 } : State) = t.toAlternates
            rw [← z]
          rw [← ez]
          exact this
        · rw [if_pos (show ({ t with turn := T } : State).last.isSome = true from by show t.last.isSome = true; rw [c3]; rfl)]
          have e2 : settle2 t = t := if_neg fun z => by have := z.2.2; rw [c3] at this; cases this
          have e3 : settle3 t = t := if_neg fun z => by have := z.1; omega
          rw [e2, e3]
          exact out_stay sz e (by omega) c fun hc => by rw [c2] at hc; cases hc
      · have hc : t.closed = false := by
          cases z : t.closed with
          | true => exact absurd z c2
          | false => rfl
        rw [if_neg (show ¬ (({ t with turn := T } : State).closed = true ∨ ({ t with turn := T } : State).box = []) from fun z => z.elim c2 hb)]
        have e2 : settle2 t = t := if_neg fun z => c2 z.2.1
        have e3 : settle3 t = t := if_neg fun z => by have := z.1; omega
        rw [e2, e3]
        obtain ⟨T', e4, e5⟩ := tail_sim e.row hc hT'
        show Out t (if ({ t with turn := T } : State).left ({ t with turn := T } : State).whose = 0 then ({ t with turn := T } : State).goOn t.rules.turns.length else ({ t with turn := T } : State))
        rw [e4]
        exact out_stay sz e (by omega) c fun _ => e5
    · rw [settle1_not (full_not c), if_pos (show ({ m.fill m.box.length with turn := T } : State).full = false from full_not c)]
      have e2 : settle2 { m.fill m.box.length with phase := 3, last := none } = { m.fill m.box.length with phase := 3, last := none } := if_neg fun z => absurd z.1 (by show ¬ (3 : Nat) = 0; decide)
      have e3 : settle3 { m.fill m.box.length with phase := 3, last := none } = { m.fill m.box.length with phase := 3, last := none } := if_neg fun z => absurd z.1 (by show ¬ (3 : Nat) = 1; decide)
      rw [e2, e3]
      exact out_too sz
  · -- strikes at the alternates
    have hp : (m.fill m.box.length).phase = 1 := sm.phase.trans h1
    have := settle_one (f := 4) sz e hp dd hT' (by decide)
    have e2 : settle2 (settle1 m) = settle1 m := if_neg fun z => by
      have := z.1
      unfold settle1 at this
      split at this
      · omega
      · cases this
    rw [e2]
    have e4 : ({ m with turn := T } : State).settle 4 = ({ m.fill m.box.length with turn := T } : State).settle 4 := by
      have hs2 : ({ m.fill m.box.length with turn := T } : State).fill ({ m.fill m.box.length with turn := T } : State).box.length = { m.fill m.box.length with turn := T } := by
        rw [fill_turn]
        show ({ (m.fill m.box.length).fill (m.fill m.box.length).box.length with turn := T } : State) = _
        rw [dd]
      rw [settle_succ 3 { m with turn := T }, settle_succ 3 { m.fill m.box.length with turn := T }, hs, hs2]
      rw [if_neg (show ¬ 2 ≤ ({ m with turn := T } : State).phase from by show ¬ 2 ≤ m.phase; omega), if_neg (show ¬ 2 ≤ ({ m.fill m.box.length with turn := T } : State).phase from by show ¬ 2 ≤ (m.fill m.box.length).phase; omega)]
    rw [e4]
    exact this
end Jp
namespace Jp
open Kg77
/-! ### What Python's calls answer: a refusal's number, or the picking then and what is told -/
abbrev Res := Except Int (State × List Int)
def turnP (m : State) : Int := if 1 < m.phase then 0 else if nextSide m > 0 then nextSide m else 0
def standsP (m : State) : List Int := [(m.phase : Int), turnP m, (m.leftA : Int), (m.leftB : Int)]
def isBit (z : Int) : Bool := decide (0 ≤ z) && decide (z ≤ 1)
def isPerson (m : State) (i : Int) : Bool := decide (0 ≤ i) && decide (i < (m.panel.length : Int))
def opts (b : List (Option Nat)) : List Int := b.map opt
def nZ (l : List Nat) : List Int := l.map fun (n : Nat) => (n : Int)
def seatP (m : State) (i : Nat) : Option Nat := m.box.findIdx? fun x => x == some i
def pyExcuse (m : State) (who : Int) : Res :=
  if isPerson m who = false then .error (-1) else if 1 < m.phase then .error (-3) else
  match seatP m who.toNat with
  | none => .error (-4)
  | some k => .ok (excuseP m who.toNat k, (k : Int) :: standsP (excuseP m who.toNat k))
def pyStrike (m : State) (side who : Int) : Res :=
  if isPerson m who = false then .error (-1) else if isBit side = false then .error (-1) else if 1 < m.phase then .error (-3) else
  if nextSide m ≠ side then .error (-5) else
  match seatP m who.toNat with
  | none => .error (-4)
  | some k => .ok (strikeP m side.toNat who.toNat k, (k : Int) :: standsP (strikeP m side.toNat who.toNat k))
def pyPass (m : State) (side : Int) : Res :=
  if isBit side = false then .error (-1) else if 1 < m.phase then .error (-3) else
  if nextSide m ≠ side then .error (-5) else .ok (passP m side.toNat, 0 :: standsP (passP m side.toNat))
def pyObject (m : State) (side up : Int) : Res :=
  if (isBit side && isBit up) = false then .error (-1) else if 1 < m.phase then .error (-3) else
  match m.last with
  | none => .error (-4)
  | some x => if (x.2.2 : Int) = side then .error (-5) else .ok (objectP m (decide (up = 1)) x, up :: standsP (objectP m (decide (up = 1)) x))
def pyLet (m : State) (who : Int) : Res :=
  if isPerson m who = false then .error (-1) else if m.phase ≠ 2 then .error (-3) else
  if (m.jury.contains who.toNat || m.spare.contains who.toNat) = false then .error (-4) else
  .ok ((letP m who.toNat).1, ((letP m who.toNat).2 : Int) :: standsP (letP m who.toNat).1)
def pyAgree (m : State) (n : Int) : Res :=
  if (decide (1 ≤ n) && decide (n ≤ 12)) = false then .error (-1) else if m.phase ≠ 2 then .error (-3) else
  if ¬ n ≤ (m.least : Int) then .error (-5) else .ok ({ m with least := n.toNat }, [n])
def pyVerdict (m : State) (l : List Int) : Res :=
  if l.all isBit = false then .error (-1) else if m.phase ≠ 2 then .error (-3) else if l.length ≠ m.jury.length then .error (-4) else
  if (l.contains 0 && l.contains 1) = true then .ok (m, 2 :: standsP m) else .ok ({ m with phase := 4 }, l.headD 0 :: standsP { m with phase := 4 })
def waits (m : State) : Int := ((m.panel.count 0 : Nat) : Int)
def lastWho (m : State) : Int := match m.last with
  | none => -1
  | some x => (x.1 : Int)
def pyNow (m : State) : Res := .ok (m, (m.phase : Int) :: (standsP m ++ [opt m.next, waits m, (m.least : Int), lastWho m]))
def pyBox (m : State) : Res := .ok (m, if m.phase = 2 ∨ m.phase = 4 then (m.jury.length : Int) :: (nZ m.jury ++ nZ m.spare) else (m.box.length : Int) :: (opts m.box ++ nZ m.jury))
def pyFates (m : State) : Res := .ok (m, (m.panel.length : Int) :: nZ m.panel)
def begins (n k m a b e p : Int) (t : List Int) : Bool :=
  (decide (1 ≤ n) && decide (n ≤ 60)) && ((decide (1 ≤ k) && decide (k ≤ 12)) && (decide (0 ≤ m) && decide (m ≤ 4))) &&
  ((decide (0 ≤ a) && decide (a ≤ 10)) && (decide (0 ≤ b) && decide (b ≤ 10))) && ((decide (0 ≤ e) && decide (e ≤ 3)) && isBit p) &&
  (t.all isBit && (t.contains 0 && (t.contains 1 && decide (t.length ≤ 10))))
def rulesOf (k m a b e p : Int) (t : List Int) : Rules := ⟨k.toNat, m.toNat, a.toNat, b.toNat, e.toNat, t.map Int.toNat, p == 1⟩
def begun (n k m a b e p : Int) (t : List Int) : State := settleP (fresh (rulesOf k m a b e p t) n.toNat a.toNat b.toNat)
def pyBegin (n k m a b e p : Int) (t : List Int) : Res :=
  if begins n k m a b e p t = false then .error (-1) else .ok (begun n k m a b e p t, 0 :: standsP (begun n k m a b e p t))
def pyCall (m : State) : Call → Res
  | .begin_ n k a0 a b e p t => pyBegin n k a0 a b e p t
  | .excuse i => pyExcuse m i
  | .strike side i => pyStrike m side i
  | .pass side => pyPass m side
  | .object side up => pyObject m side up
  | .let_ i => pyLet m i
  | .agree n => pyAgree m n
  | .verdict l => pyVerdict m l
  | .now => pyNow m
  | .box => pyBox m
  | .fates => pyFates m
/-! ### .. is what is due -/
def Good (s : State) (r : Res) (q : State × Ans) : Prop := match r with
  | .error n => q = (s, num n)
  | .ok (m', out) => Out m' q.1 ∧ out = q.2.value :: q.2.out
theorem Rel.eq {m s : State} (h : Rel m s) (hp : m.phase ≤ 1) : s = { m with turn := s.turn } := by
  obtain ⟨a1, a2, a3, a4, a5, a6, a7, a8, a9, a10⟩ := h
  obtain ⟨b1, b2, _⟩ := a10 hp
  have b0 := a9 (.inl hp)
  obtain ⟨c1, c2, c3, c4, c5, c6, c7, c8, c9, c10, c11, c12⟩ := s
  simp only at *
  subst a1 a2 a3 a4 a5 a6 a7 a8 b0 b1 b2
  rfl
theorem Out.turnAt {m s : State} (h : Out m s) (hp : m.phase ≤ 1) : TurnAt m s.turn := fun hc => by
  have e := h.rel.early hp
  have n := next_ok (h.inv.early hp).1.row hc
  refine ⟨nextP m - m.turn, ?_, n.2⟩
  rw [e.2.2 hc]
  congr 1
  unfold nextP
  omega
theorem Out.whose {m s : State} (h : Out m s) (hp : m.phase ≤ 1) (hc : m.closed = false) : s.whose = sideAt m (nextP m) := by
  have e := h.rel.early hp
  have r := (h.inv.early hp).1.row
  have hr : s.rules.turns ≠ [] := fun z => by
    rw [e.1] at z
    have := r.pos
    rw [z] at this
    exact absurd this (Nat.lt_irrefl _)
  rw [whose_eq hr]
  unfold sideAt
  rw [e.1, e.2.2 hc]
theorem Rel.closed {m s : State} (h : Rel m s) (hp : m.phase ≤ 1) : s.closed = m.closed := by
  unfold State.closed
  rw [(h.early hp).2.1, h.leftA, h.leftB]
theorem told_is {m s : State} (h : Out m s) : told s = standsP m := by
  unfold told standsP whole
  rw [h.rel.phase, h.rel.leftA, h.rel.leftB]
  have : (if m.phase < 2 ∧ s.closed = false then ((s.whose : Nat) : Int) else 0) = turnP m := by
    unfold turnP
    by_cases hp : 1 < m.phase
    · rw [if_pos hp, if_neg (fun z => by omega)]
    · rw [if_neg hp]
      have hp' : m.phase ≤ 1 := by omega
      rw [h.rel.closed hp']
      unfold nextSide
      by_cases c : m.closed = true
      · rw [if_pos c, if_neg (fun z => by rw [c] at z; exact absurd z.2 (by decide))]
        rfl
      · have c' : m.closed = false := by simpa using c
        rw [if_neg c, if_pos ⟨by omega, c'⟩, h.whose hp' c']
        split <;> omega
  simp only [List.map_cons, List.map_nil]
  rw [← this]
  split <;> rfl
theorem done_is {m s : State} (h : Out m s) (z : Int) : Out m (done s z).1 ∧ z :: standsP m = (done s z).2.value :: (done s z).2.out := ⟨h, by rw [← told_is h]; rfl⟩
theorem person_iff {m s : State} (h : Rel m s) (i : Int) : within i 0 ((s.panel.length : Int) - 1) = isPerson m i := by
  unfold within isPerson
  rw [h.panel]
  congr 1
  exact decide_eq_decide.mpr (by omega)
theorem bit_iff (z : Int) : within z 0 1 = isBit z := rfl
theorem seat_iff {m : State} {i k : Nat} (h : seatP m i = some k) : m.box[k]? = some (some i) := by
  unfold seatP at h
  rw [List.findIdx?_eq_some_iff_getElem] at h
  obtain ⟨hk, h1, _⟩ := h
  rw [List.getElem?_eq_getElem hk]
  exact congrArg some (eq_of_beq h1)
theorem Sz.leave {m : State} (h : Sz m) (i k n : Nat) : Sz (leaveP m i k n) :=
  ⟨by show (m.panel.set i n).length ≤ 60; rw [List.length_set]; exact h.panel, by show (m.box.set k none).length ≤ 12; rw [List.length_set]; exact h.box, h.jury, h.spare, h.seats, h.alts⟩
theorem excuse_good {m s : State} (h : Out m s) (i : Int) : Good s (pyExcuse m i) (spec s (.excuse i)) := by
  unfold pyExcuse
  show Good s _ (if within i 0 ((s.panel.length : Int) - 1) = false then (s, num (-1)) else picking s fun _ => match seatOf s i.toNat with
    | none => (s, num (-4))
    | some k => done (({ (s.mark i.toNat 2) with box := s.box.set k none, last := none } : State).settled) k)
  rw [person_iff h.rel]
  by_cases c : isPerson m i = false
  · rw [if_pos c, if_pos c]; rfl
  · rw [if_neg c, if_neg c]
    unfold picking
    rw [h.rel.phase]
    by_cases hp : 1 < m.phase
    · rw [if_pos hp, if_pos (show 2 ≤ m.phase from hp)]; rfl
    · rw [if_neg hp, if_neg (show ¬ 2 ≤ m.phase from hp)]
      have hp' : m.phase ≤ 1 := by omega
      have e1 : seatOf s i.toNat = seatP m i.toNat := by unfold seatOf seatP; rw [h.rel.box (.inl hp')]
      rw [e1]
      cases e2 : seatP m i.toNat with
      | none => rfl
      | some k =>
        have hk := seat_iff e2
        obtain ⟨ea, ef⟩ := h.inv.early hp'
        obtain ⟨st, nm, lt⟩ := ea.seated.leave (n := 2) hk
        have pre : Pre { (leaveP m i.toNat k 2) with last := none } := by
          refine ⟨⟨(h.inv.sz.leave i.toNat k 2).panel, (h.inv.sz.leave i.toNat k 2).box, h.inv.sz.jury, h.inv.sz.spare, h.inv.sz.seats, h.inv.sz.alts⟩, ⟨ea.row, ea.at_, ea.seats, fun z => ?_, ea.ph1, st, fun x hx => ?_⟩, hp'⟩
          · show (m.box.set k none).length = _
            rw [List.length_set]
            exact ea.ph0 z
          · cases hx
        have o := settle_sim pre (T := s.turn) (show TurnAt _ _ from h.turnAt hp')
        have e3 : ({ (s.mark i.toNat 2) with box := s.box.set k none, last := none } : State) = { ({ (leaveP m i.toNat k 2) with last := none } : State) with turn := s.turn } := by
          rw [h.rel.eq hp']
          rfl
        show Good s (.ok (excuseP m i.toNat k, (k : Int) :: standsP (excuseP m i.toNat k))) (done (({ (s.mark i.toNat 2) with box := s.box.set k none, last := none } : State).settled) k)
        rw [e3]
        exact done_is o k
theorem side_iff {m s : State} (h : Out m s) (hp : m.phase ≤ 1) {side : Int} (hb : isBit side = true) : (s.closed = true ∨ s.whose ≠ side.toNat) ↔ nextSide m ≠ side := by
  have hs : 0 ≤ side := by
    unfold isBit at hb
    rw [Bool.and_eq_true] at hb
    exact of_decide_eq_true hb.1
  rw [h.rel.closed hp]
  unfold nextSide
  by_cases c : m.closed = true
  · rw [if_pos c]
    exact ⟨fun _ => by omega, fun _ => .inl c⟩
  · have c' : m.closed = false := by simpa using c
    rw [if_neg c, h.whose hp c']
    exact ⟨fun z => by rcases z with z | z; exact absurd z c; omega, fun z => .inr (by omega)⟩
theorem struck_side {m : State} (T side i k n : Nat) : ({ ((({ m with turn := T } : State).mark i n).spend side) with box := m.box.set k none, passes := 0, turn := T + 1, last := some (i, k, side) } : State)
    = { ({ (struckT (leaveP m i k n) side) with last := some (i, k, side) } : State) with turn := T + 1 } := by
  unfold struckT State.spend
  by_cases c : side = 0
  · rw [if_pos c, if_pos c]; rfl
  · rw [if_neg c, if_neg c]; rfl
theorem spend_panel (m : State) (side : Nat) : (m.spend side).panel = m.panel ∧ (m.spend side).box = m.box ∧ (m.spend side).jury = m.jury ∧ (m.spend side).spare = m.spare ∧ (m.spend side).rules = m.rules ∧ (m.spend side).turn = m.turn ∧ (m.spend side).phase = m.phase ∧ (m.spend side).last = m.last ∧ (m.spend side).passes = m.passes := by
  unfold State.spend
  split <;> exact ⟨rfl, rfl, rfl, rfl, rfl, rfl, rfl, rfl, rfl⟩
theorem turn_next {m t : State} {T : Nat} (h : Out m { m with turn := T }) (hp : m.phase ≤ 1) (hc : m.closed = false) (e1 : t.rules = m.rules) (e2 : t.turn = (nextP m + 1) % m.rules.turns.length) : TurnAt t (T + 1) := fun _ => by
  have e := (h.rel.early hp).2.2 hc
  refine ⟨0, ?_, fun j hj => absurd hj (Nat.not_lt_zero _)⟩
  have e' : T % m.rules.turns.length = nextP m % m.rules.turns.length := e
  have e3 : (T + 1) % m.rules.turns.length = (nextP m + 1) % m.rules.turns.length := by rw [Nat.add_mod, e', ← Nat.add_mod]
  rw [e1, e2]
  exact e3.trans (Nat.mod_mod _ _).symm
theorem closed_not {m : State} {side : Int} (hb : isBit side = true) (h : nextSide m = side) : m.closed = false := by
  cases c : m.closed with
  | false => rfl
  | true =>
    unfold nextSide at h
    rw [if_pos c] at h
    subst h
    exact absurd hb (by decide)
theorem bit_cases {z : Int} (h : isBit z = true) : z = 0 ∨ z = 1 := by
  unfold isBit at h
  rw [Bool.and_eq_true] at h
  have a := of_decide_eq_true h.1
  have b := of_decide_eq_true h.2
  omega
theorem ahead_congr {m t : State} (h : ∀ j, avail t j = avail m j) : ∀ f j, ahead t f j = ahead m f j
  | 0, _ => rfl
  | f + 1, j => by
    unfold ahead
    rw [h j, ahead_congr h f (j + 1)]
theorem next_congr {m t : State} (h1 : t.rules = m.rules) (h2 : t.leftA = m.leftA) (h3 : t.leftB = m.leftB) (h4 : t.turn = m.turn) : nextP t = nextP m := by
  have h : ∀ j, avail t j = avail m j := fun j => by
    unfold avail sideAt State.left
    rw [h1, h2, h3]
  unfold nextP
  rw [ahead_congr h, h1, h4]
theorem nextP_leave (m : State) (i k n : Nat) : nextP (leaveP m i k n) = nextP m := next_congr rfl rfl rfl rfl
theorem strike_good {m s : State} (h : Out m s) (side i : Int) : Good s (pyStrike m side i) (spec s (.strike side i)) := by
  unfold pyStrike
  show Good s _ (if (within side 0 1 && within i 0 ((s.panel.length : Int) - 1)) = false then (s, num (-1)) else picking s fun _ =>
    if s.closed = true ∨ s.whose ≠ side.toNat then (s, num (-5))
    else match seatOf s i.toNat with
      | none => (s, num (-4))
      | some k =>
        done ({ ((s.mark i.toNat (3 + side.toNat)).spend side.toNat) with box := s.box.set k none, passes := 0, turn := s.turn + 1, last := some (i.toNat, k, side.toNat) } : State).settled k)
  rw [person_iff h.rel, bit_iff]
  by_cases c : isPerson m i = false
  · rw [if_pos c, if_pos (by rw [c, Bool.and_false])]; rfl
  · rw [if_neg c]
    by_cases hb0 : isBit side = false
    · rw [if_pos hb0, if_pos (by rw [hb0, Bool.false_and])]; rfl
    · have hb : isBit side = true := by simpa using hb0
      have c' : isPerson m i = true := by simpa using c
      rw [if_neg hb0, if_neg (show ¬ (isBit side && isPerson m i) = false from by rw [hb, c']; decide)]
      unfold picking
      rw [h.rel.phase]
      by_cases hp : 1 < m.phase
      · rw [if_pos hp, if_pos (show 2 ≤ m.phase from hp)]; rfl
      · rw [if_neg hp, if_neg (show ¬ 2 ≤ m.phase from hp)]
        have hp' : m.phase ≤ 1 := by omega
        have si := side_iff h hp' hb
        by_cases hs : nextSide m ≠ side
        · rw [if_pos hs, if_pos (si.mpr hs)]; rfl
        · rw [if_neg hs, if_neg (fun z => hs (si.mp z))]
          have hs' : nextSide m = side := Decidable.of_not_not hs
          have hc := closed_not hb hs'
          have e1 : seatOf s i.toNat = seatP m i.toNat := by unfold seatOf seatP; rw [h.rel.box (.inl hp')]
          rw [e1]
          cases e2 : seatP m i.toNat with
          | none => rfl
          | some k =>
            have hk := seat_iff e2
            obtain ⟨ea, ef⟩ := h.inv.early hp'
            obtain ⟨st, nm, lt⟩ := ea.seated.leave (n := 3 + side.toNat) hk
            have sp := spend_panel (gone (leaveP m i.toNat k (3 + side.toNat))) side.toNat
            have hbx := bit_cases hb
            have pre : Pre { (struckT (leaveP m i.toNat k (3 + side.toNat)) side.toNat) with last := some (i.toNat, k, side.toNat) } := by
              have z := h.inv.sz.leave i.toNat k (3 + side.toNat)
              refine ⟨⟨?_, ?_, ?_, ?_, ?_, ?_⟩, ⟨?_, ?_, ?_, fun z => ?_, fun z => ?_, ?_, fun x hx => ?_⟩, ?_⟩
              · show (struckT _ _).panel.length ≤ 60; unfold struckT; rw [show ({ ((gone (leaveP m i.toNat k (3 + side.toNat))).spend side.toNat) with passes := 0 } : State).panel = _ from sp.1]; exact z.panel
              · show (struckT _ _).box.length ≤ 12; unfold struckT; rw [show ({ ((gone (leaveP m i.toNat k (3 + side.toNat))).spend side.toNat) with passes := 0 } : State).box = _ from sp.2.1]; exact z.box
              · show (struckT _ _).jury.length ≤ 12; unfold struckT; rw [show ({ ((gone (leaveP m i.toNat k (3 + side.toNat))).spend side.toNat) with passes := 0 } : State).jury = _ from sp.2.2.1]; exact z.jury
              · show (struckT _ _).spare.length ≤ 12; unfold struckT; rw [show ({ ((gone (leaveP m i.toNat k (3 + side.toNat))).spend side.toNat) with passes := 0 } : State).spare = _ from sp.2.2.2.1]; exact z.spare
              · show (struckT _ _).rules.seats ≤ 12; unfold struckT; rw [show ({ ((gone (leaveP m i.toNat k (3 + side.toNat))).spend side.toNat) with passes := 0 } : State).rules = _ from sp.2.2.2.2.1]; exact z.seats
              · show (struckT _ _).rules.alternates ≤ 12; unfold struckT; rw [show ({ ((gone (leaveP m i.toNat k (3 + side.toNat))).spend side.toNat) with passes := 0 } : State).rules = _ from sp.2.2.2.2.1]; exact z.alts
              · show RowOk (struckT _ _).rules.turns; unfold struckT; rw [show ({ ((gone (leaveP m i.toNat k (3 + side.toNat))).spend side.toNat) with passes := 0 } : State).rules = _ from sp.2.2.2.2.1]; exact ea.row
              · show (struckT _ _).turn < (struckT _ _).rules.turns.length; unfold struckT
                rw [show ({ ((gone (leaveP m i.toNat k (3 + side.toNat))).spend side.toNat) with passes := 0 } : State).rules = _ from sp.2.2.2.2.1, show ({ ((gone (leaveP m i.toNat k (3 + side.toNat))).spend side.toNat) with passes := 0 } : State).turn = _ from sp.2.2.2.2.2.1]
                exact Nat.mod_lt _ ea.row.pos
              · show 1 ≤ (struckT _ _).rules.seats; unfold struckT; rw [show ({ ((gone (leaveP m i.toNat k (3 + side.toNat))).spend side.toNat) with passes := 0 } : State).rules = _ from sp.2.2.2.2.1]; exact ea.seats
              · show (struckT _ _).box.length = (struckT _ _).rules.seats; unfold struckT
                rw [show ({ ((gone (leaveP m i.toNat k (3 + side.toNat))).spend side.toNat) with passes := 0 } : State).rules = _ from sp.2.2.2.2.1, show ({ ((gone (leaveP m i.toNat k (3 + side.toNat))).spend side.toNat) with passes := 0 } : State).box = _ from sp.2.1]
                show (m.box.set k none).length = _
                rw [List.length_set]
                refine ea.ph0 ?_
                have z' : ((gone (leaveP m i.toNat k (3 + side.toNat))).spend side.toNat).phase = 0 := z
                rw [sp.2.2.2.2.2.2.1] at z'
                exact z'
              · show (struckT _ _).jury.length = (struckT _ _).rules.seats; unfold struckT
                rw [show ({ ((gone (leaveP m i.toNat k (3 + side.toNat))).spend side.toNat) with passes := 0 } : State).rules = _ from sp.2.2.2.2.1, show ({ ((gone (leaveP m i.toNat k (3 + side.toNat))).spend side.toNat) with passes := 0 } : State).jury = _ from sp.2.2.1]
                refine ea.ph1 ?_
                have z' : ((gone (leaveP m i.toNat k (3 + side.toNat))).spend side.toNat).phase = 1 := z
                rw [sp.2.2.2.2.2.2.1] at z'
                exact z'
              · show Seated (struckT _ _).jury (struckT _ _).panel (struckT _ _).box; unfold struckT
                rw [show ({ ((gone (leaveP m i.toNat k (3 + side.toNat))).spend side.toNat) with passes := 0 } : State).jury = _ from sp.2.2.1, show ({ ((gone (leaveP m i.toNat k (3 + side.toNat))).spend side.toNat) with passes := 0 } : State).panel = _ from sp.1, show ({ ((gone (leaveP m i.toNat k (3 + side.toNat))).spend side.toNat) with passes := 0 } : State).box = _ from sp.2.1]
                exact st
              · have hx' : x = (i.toNat, k, side.toNat) := (Option.some.inj hx).symm
                subst hx'
                have e5 : ({ (struckT (leaveP m i.toNat k (3 + side.toNat)) side.toNat) with last := some (i.toNat, k, side.toNat) } : State).panel = m.panel.set i.toNat (3 + side.toNat) := sp.1
                have e6 : ({ (struckT (leaveP m i.toNat k (3 + side.toNat)) side.toNat) with last := some (i.toNat, k, side.toNat) } : State).box = m.box.set k none := sp.2.1
                rw [e5, e6]
                have e7 : (m.panel.set i.toNat (3 + side.toNat))[i.toNat]? = some (3 + side.toNat) := List.getElem?_set_self lt
                refine ⟨by rw [List.length_set]; exact lt, by show _ ≠ _; rw [e7]; intro z; have := Option.some.inj z; omega, by show _ ≠ _; rw [e7]; intro z; have := Option.some.inj z; omega, ?_, by show side.toNat ≤ 1; omega⟩
                rw [List.length_set]
                exact (List.getElem?_eq_some_iff.mp hk).1
              · show (struckT _ _).phase ≤ 1; unfold struckT; rw [show ({ ((gone (leaveP m i.toNat k (3 + side.toNat))).spend side.toNat) with passes := 0 } : State).phase = _ from sp.2.2.2.2.2.2.1]; exact hp'
            have hm : Out m { m with turn := s.turn } := by rw [← h.rel.eq hp']; exact h
            have o := settle_sim pre (T := s.turn + 1) (turn_next hm hp' hc sp.2.2.2.2.1 (sp.2.2.2.2.2.1.trans (by show (nextP (leaveP m i.toNat k (3 + side.toNat)) + 1) % _ = _; rw [nextP_leave]; rfl)))
            have e3 : ({ ((s.mark i.toNat (3 + side.toNat)).spend side.toNat) with box := s.box.set k none, passes := 0, turn := s.turn + 1, last := some (i.toNat, k, side.toNat) } : State)
                = { ({ (struckT (leaveP m i.toNat k (3 + side.toNat)) side.toNat) with last := some (i.toNat, k, side.toNat) } : State) with turn := s.turn + 1 } := by
              rw [← struck_side, h.rel.box (.inl hp')]
              have := h.rel.eq hp'
              generalize s.turn = T at this ⊢
              subst this
              rfl
            show Good s (.ok (strikeP m side.toNat i.toNat k, (k : Int) :: standsP (strikeP m side.toNat i.toNat k))) (done (({ ((s.mark i.toNat (3 + side.toNat)).spend side.toNat) with box := s.box.set k none, passes := 0, turn := s.turn + 1, last := some (i.toNat, k, side.toNat) } : State).settled) k)
            rw [e3]
            exact done_is o k
end Jp
namespace Jp
open Kg77
theorem Early.turned {m t : State} (e : Early m) (h1 : t.rules = m.rules) (h2 : t.turn < m.rules.turns.length) (h3 : t.phase = m.phase) (h4 : t.panel = m.panel) (h5 : t.box = m.box) (h6 : t.jury = m.jury) (h7 : t.last = none) : Early t := by
  refine ⟨by rw [h1]; exact e.row, by rw [h1]; exact h2, by rw [h1]; exact e.seats, by rw [h1, h3, h5]; exact e.ph0, by rw [h1, h3, h6]; exact e.ph1, by rw [h4, h5, h6]; exact e.seated, fun x hx => ?_⟩
  rw [h7] at hx
  cases hx
theorem Sz.same {m t : State} (z : Sz m) (h1 : t.rules = m.rules) (h4 : t.panel.length = m.panel.length) (h5 : t.box.length = m.box.length) (h6 : t.jury = m.jury) (h7 : t.spare = m.spare) : Sz t :=
  ⟨by rw [h4]; exact z.panel, by rw [h5]; exact z.box, by rw [h6]; exact z.jury, by rw [h7]; exact z.spare, by rw [h1]; exact z.seats, by rw [h1]; exact z.alts⟩
theorem passed_side {m : State} (T side : Nat) : ({ (if ({ m with turn := T } : State).rules.passCosts = true then ({ m with turn := T } : State).spend side else { m with turn := T }) with passes := (if ({ m with turn := T } : State).rules.passCosts = true then ({ m with turn := T } : State).spend side else { m with turn := T }).passes + 1, turn := (if ({ m with turn := T } : State).rules.passCosts = true then ({ m with turn := T } : State).spend side else { m with turn := T }).turn + 1, last := none } : State)
    = { ({ (passedT m side) with last := none } : State) with turn := T + 1 } := by
  unfold passedT State.spend
  by_cases d : m.rules.passCosts = true
  · rw [if_pos d, if_pos (show ({ m with turn := T } : State).rules.passCosts = true from d)]
    by_cases c : side = 0
    · rw [if_pos c, if_pos c]; rfl
    · rw [if_neg c, if_neg c]; rfl
  · rw [if_neg d, if_neg (show ¬ ({ m with turn := T } : State).rules.passCosts = true from d)]; rfl
theorem passedT_is (m : State) (side : Nat) : (passedT m side).rules = m.rules ∧ (passedT m side).turn = (nextP m + 1) % m.rules.turns.length ∧ (passedT m side).phase = m.phase ∧ (passedT m side).panel = m.panel ∧ (passedT m side).box = m.box ∧ (passedT m side).jury = m.jury ∧ (passedT m side).spare = m.spare := by
  have sp := spend_panel (gone m) side
  unfold passedT
  split
  · exact ⟨sp.2.2.2.2.1, sp.2.2.2.2.2.1, sp.2.2.2.2.2.2.1, sp.1, sp.2.1, sp.2.2.1, sp.2.2.2.1⟩
  · exact ⟨rfl, rfl, rfl, rfl, rfl, rfl, rfl⟩
theorem pass_good {m s : State} (h : Out m s) (side : Int) : Good s (pyPass m side) (spec s (.pass side)) := by
  unfold pyPass
  show Good s _ (if within side 0 1 = false then (s, num (-1)) else picking s fun _ =>
    if s.closed = true ∨ s.whose ≠ side.toNat then (s, num (-5))
    else done (({ (if s.rules.passCosts = true then s.spend side.toNat else s) with passes := (if s.rules.passCosts = true then s.spend side.toNat else s).passes + 1, turn := (if s.rules.passCosts = true then s.spend side.toNat else s).turn + 1, last := none } : State).settled) 0)
  rw [bit_iff]
  by_cases hb0 : isBit side = false
  · rw [if_pos hb0, if_pos hb0]; rfl
  · have hb : isBit side = true := by simpa using hb0
    rw [if_neg hb0, if_neg hb0]
    unfold picking
    rw [h.rel.phase]
    by_cases hp : 1 < m.phase
    · rw [if_pos hp, if_pos (show 2 ≤ m.phase from hp)]; rfl
    · rw [if_neg hp, if_neg (show ¬ 2 ≤ m.phase from hp)]
      have hp' : m.phase ≤ 1 := by omega
      have si := side_iff h hp' hb
      by_cases hs : nextSide m ≠ side
      · rw [if_pos hs, if_pos (si.mpr hs)]; rfl
      · rw [if_neg hs, if_neg (fun z => hs (si.mp z))]
        have hs' : nextSide m = side := Decidable.of_not_not hs
        have hc := closed_not hb hs'
        obtain ⟨ea, ef⟩ := h.inv.early hp'
        obtain ⟨p1, p2, p3, p4, p5, p6, p7⟩ := passedT_is m side.toNat
        have hm : Out m { m with turn := s.turn } := by rw [← h.rel.eq hp']; exact h
        have pre : Pre { (passedT m side.toNat) with last := none } :=
          ⟨h.inv.sz.same p1 (congrArg List.length p4) (congrArg List.length p5) p6 p7, ea.turned p1 (by show (passedT m side.toNat).turn < _; rw [p2]; exact Nat.mod_lt _ ea.row.pos) p3 p4 p5 p6 rfl, by show (passedT m side.toNat).phase ≤ 1; rw [p3]; exact hp'⟩
        have o := settle_sim pre (T := s.turn + 1) (turn_next hm hp' hc p1 p2)
        have e3 : ({ (if s.rules.passCosts = true then s.spend side.toNat else s) with passes := (if s.rules.passCosts = true then s.spend side.toNat else s).passes + 1, turn := (if s.rules.passCosts = true then s.spend side.toNat else s).turn + 1, last := none } : State)
            = { ({ (passedT m side.toNat) with last := none } : State) with turn := s.turn + 1 } := by
          rw [← passed_side]
          have := h.rel.eq hp'
          generalize s.turn = T at this ⊢
          subst this
          rfl
        show Good s (.ok (passP m side.toNat, 0 :: standsP (passP m side.toNat))) (done (({ (if s.rules.passCosts = true then s.spend side.toNat else s) with passes := (if s.rules.passCosts = true then s.spend side.toNat else s).passes + 1, turn := (if s.rules.passCosts = true then s.spend side.toNat else s).turn + 1, last := none } : State).settled) 0)
        rw [e3]
        exact done_is o 0
theorem back_pre {m : State} (h : Inv m) (hp : m.phase ≤ 1) {x : Nat × Nat × Nat} (hl : m.last = some x) : Pre { (backP m x) with last := none } ∧ ∃ j, m.box[x.2.1]? = some (some j) ∧ j < m.panel.length := by
  obtain ⟨ea, ef⟩ := h.early hp
  obtain ⟨l1, l2, l3, l4, l5⟩ := ea.last x hl
  have hall := full_all ef
  obtain ⟨j, hj⟩ : ∃ j, m.box[x.2.1]? = some (some j) := by
    rw [List.getElem?_eq_getElem l4]
    cases e : m.box[x.2.1] with
    | none => exact absurd e (hall _ (List.getElem_mem l4))
    | some j => exact ⟨j, rfl⟩
  obtain ⟨st, nm, lt⟩ := ea.seated.leave (n := 0) hj
  have hg : m.box.getD x.2.1 none = some j := by rw [List.getD_eq_getElem?_getD, hj]; rfl
  have eb : backP m x = { ((m.mark j 0).mark x.1 1) with box := m.box.set x.2.1 (some x.1) } := by unfold backP; rw [hg]
  refine ⟨?_, j, hj, lt⟩
  rw [eb]
  have st2 := st.put (k := x.2.1) (i := x.1) (List.getElem?_set_self l4) (by rw [List.length_set]; exact l1) (set_ne l2 (by decide))
  rw [List.set_set] at st2
  refine ⟨h.sz.same rfl (by show ((m.panel.set j 0).set x.1 1).length = _; rw [List.length_set, List.length_set]) (by show (m.box.set _ _).length = _; rw [List.length_set]) rfl rfl, ⟨ea.row, ea.at_, ea.seats, fun z => ?_, ea.ph1, st2, fun y hy => by cases hy⟩, hp⟩
  show (m.box.set _ _).length = _
  rw [List.length_set]
  exact ea.ph0 z
theorem object_good {m s : State} (h : Out m s) (side up : Int) : Good s (pyObject m side up) (spec s (.object side up)) := by
  unfold pyObject
  show Good s _ (if (within side 0 1 && within up 0 1) = false then (s, num (-1)) else picking s fun _ => match s.last with
      | none => (s, num (-4))
      | some x =>
        if x.2.2 = side.toNat then (s, num (-5))
        else if up = 0 then done (({ s with last := none } : State).settled) 0
        else
          done (({ ((match s.box.getD x.2.1 none with
            | some j => s.mark j 0
            | none => s).mark x.1 1) with box := s.box.set x.2.1 (some x.1), last := none } : State).settled) 1)
  rw [bit_iff, bit_iff]
  by_cases hb0 : (isBit side && isBit up) = false
  · rw [if_pos hb0, if_pos hb0]; rfl
  · have hb : (isBit side && isBit up) = true := by simpa using hb0
    rw [Bool.and_eq_true] at hb
    have b1 := bit_cases hb.1
    have b2 := bit_cases hb.2
    rw [if_neg hb0, if_neg hb0]
    unfold picking
    by_cases hp : 1 < m.phase
    · rw [if_pos hp, if_pos (show 2 ≤ s.phase from by rw [h.rel.phase]; exact hp)]; rfl
    · rw [if_neg hp, if_neg (show ¬ 2 ≤ s.phase from by rw [h.rel.phase]; exact hp)]
      have hp' : m.phase ≤ 1 := by omega
      obtain ⟨ea, ef⟩ := h.inv.early hp'
      rw [h.rel.last]
      cases hl : m.last with
      | none => rfl
      | some x =>
        show Good s (if (x.2.2 : Int) = side then .error (-5) else .ok (objectP m (decide (up = 1)) x, up :: standsP (objectP m (decide (up = 1)) x))) (if x.2.2 = side.toNat then (s, num (-5))
          else if up = 0 then done (({ s with last := none } : State).settled) 0
          else
          done (({ ((match s.box.getD x.2.1 none with
            | some j => s.mark j 0
            | none => s).mark x.1 1) with box := s.box.set x.2.1 (some x.1), last := none } : State).settled) 1)
        by_cases c : (x.2.2 : Int) = side
        · rw [if_pos c, if_pos (by omega)]; rfl
        · rw [if_neg c, if_neg (by omega)]
          have es := h.rel.eq hp'
          have ht := h.turnAt hp'
          by_cases u : up = 0
          · rw [if_pos u]
            subst u
            have pre : Pre { m with last := none } := ⟨h.inv.sz.same rfl rfl rfl rfl rfl, ea.turned rfl ea.at_ rfl rfl rfl rfl rfl, hp'⟩
            have o := settle_sim pre (T := s.turn) (show TurnAt _ _ from ht)
            have e3 : ({ s with last := none } : State) = { ({ m with last := none } : State) with turn := s.turn } := by
              generalize s.turn = T at es ⊢
              subst es
              rfl
            rw [e3]
            exact done_is o 0
          · have u1 : up = 1 := by omega
            rw [if_neg u]
            subst u1
            have o := settle_sim (back_pre h.inv hp' hl).1 (T := s.turn) (by
              obtain ⟨j, hj, _⟩ := (back_pre h.inv hp' hl).2
              have hg : m.box.getD x.2.1 none = some j := by rw [List.getD_eq_getElem?_getD, hj]; rfl
              have eb : backP m x = { ((m.mark j 0).mark x.1 1) with box := m.box.set x.2.1 (some x.1) } := by unfold backP; rw [hg]
              rw [eb]
              exact (show TurnAt _ _ from ht))
            have e3 : ({ ((match s.box.getD x.2.1 none with
                | some j => s.mark j 0
                | none => s).mark x.1 1) with box := s.box.set x.2.1 (some x.1), last := none } : State) = { ({ (backP m x) with last := none } : State) with turn := s.turn } := by
              unfold backP
              rw [h.rel.box (.inl hp')]
              generalize s.turn = T at es ⊢
              subst es
              cases m.box.getD x.2.1 none <;> rfl
            rw [e3]
            exact done_is o 1
/-! ### behind the oath -/
theorem sworn_out {m s t u : State} (h : Out m s) (h2 : m.phase = 2) (e1 : u.panel = t.panel) (e2 : u.phase = t.phase) (e3 : u.leftA = t.leftA) (e4 : u.leftB = t.leftB) (e5 : u.last = t.last) (e6 : u.jury = t.jury) (e7 : u.spare = t.spare) (e8 : u.least = t.least)
    (z : Sz t) (hp : t.phase = 2 ∧ Sworn t ∨ t.phase = 4) (hl : t.last = m.last) : Out t u := by
  have hl' : t.last = none := by rw [hl]; exact h.inv.late (by omega)
  refine ⟨⟨z, by omega, fun q => by omega, fun q => ?_, fun _ => hl'⟩, ⟨e1, e2, e3, e4, e5, e6, e7, e8, fun q => by omega, fun q => by omega⟩⟩
  rcases hp with hp | hp
  · exact hp.2
  · omega
theorem agree_good {m s : State} (h : Out m s) (n : Int) : Good s (pyAgree m n) (spec s (.agree n)) := by
  unfold pyAgree
  show Good s _ (if within n 1 12 = false then (s, num (-1)) else if s.phase ≠ 2 then (s, num (-3)) else if (s.least : Int) < n then (s, num (-5)) else ({ s with least := n.toNat }, num n))
  show Good s _ (if (decide (1 ≤ n) && decide (n ≤ 12)) = false then (s, num (-1)) else _)
  by_cases c : (decide (1 ≤ n) && decide (n ≤ 12)) = false
  · rw [if_pos c, if_pos c]; rfl
  · rw [if_neg c, if_neg c]
    have c' : (decide (1 ≤ n) && decide (n ≤ 12)) = true := by simpa using c
    rw [Bool.and_eq_true] at c'
    have c1 := of_decide_eq_true c'.1
    have hph := h.rel.phase
    have hle := h.rel.least
    by_cases h2 : m.phase ≠ 2
    · rw [if_pos h2, if_pos (show s.phase ≠ 2 from by rw [hph]; exact h2)]; rfl
    · rw [if_neg h2, if_neg (show ¬ s.phase ≠ 2 from by rw [hph]; exact h2)]
      have h2' : m.phase = 2 := Decidable.of_not_not h2
      by_cases d : n ≤ (m.least : Int)
      · rw [if_neg (not_not_intro d), if_neg (show ¬ (s.least : Int) < n from by omega)]
        have sw := h.inv.sworn h2'
        refine ⟨sworn_out (m := m) (s := s) (u := { s with least := n.toNat }) h h2' h.rel.panel h.rel.phase h.rel.leftA h.rel.leftB h.rel.last h.rel.jury h.rel.spare rfl (h.inv.sz.same rfl rfl rfl rfl rfl) (.inl ⟨h2', ⟨sw.nd, sw.range, by show 1 ≤ n.toNat; omega, by show n.toNat ≤ m.jury.length; have := sw.most; omega⟩⟩) rfl, rfl⟩
      · rw [if_pos d, if_pos (show (s.least : Int) < n from by omega)]; rfl
theorem set_perm : ∀ {l : List Nat} {k j : Nat}, k < l.length → (l.set k j).Perm (j :: l.eraseIdx k)
  | [], _, _, h => absurd h (Nat.not_lt_zero _)
  | a :: l, 0, j, _ => List.Perm.refl _
  | a :: l, k + 1, j, h => by
    have ih := set_perm (l := l) (k := k) (j := j) (Nat.lt_of_succ_lt_succ h)
    exact (ih.cons a).trans (List.Perm.swap j a _)
theorem let_good {m s : State} (h : Out m s) (i : Int) : Good s (pyLet m i) (spec s (.let_ i)) := by
  unfold pyLet
  show Good s _ (if within i 0 ((s.panel.length : Int) - 1) = false then (s, num (-1)) else if s.phase ≠ 2 then (s, num (-3)) else
    if s.jury.contains i.toNat = true then
      (match s.spare with
      | j :: l => done (({ (s.mark i.toNat 6) with jury := s.jury.map fun x => if x = i.toNat then j else x, spare := l } : State).mark j 1) 1
      | [] => done (if (s.jury.filter fun x => x != i.toNat).length < s.least then ({ (s.mark i.toNat 6) with jury := s.jury.filter fun x => x != i.toNat, phase := 4 } : State) else { (s.mark i.toNat 6) with jury := s.jury.filter fun x => x != i.toNat }) 2)
    else if s.spare.contains i.toNat = true then done { (s.mark i.toNat 6) with spare := s.spare.filter fun x => x != i.toNat } 0
    else (s, num (-4)))
  rw [person_iff h.rel]
  have hph := h.rel.phase
  by_cases c : isPerson m i = false
  · rw [if_pos c, if_pos c]; rfl
  · rw [if_neg c, if_neg c]
    by_cases h2 : m.phase ≠ 2
    · rw [if_pos h2, if_pos (show s.phase ≠ 2 from by rw [hph]; exact h2)]; rfl
    · rw [if_neg h2, if_neg (show ¬ s.phase ≠ 2 from by rw [hph]; exact h2)]
      have h2' : m.phase = 2 := Decidable.of_not_not h2
      have sw := h.inv.sworn h2'
      have nd := List.nodup_append.mp sw.nd
      rw [h.rel.jury, h.rel.spare, h.rel.least]
      unfold letP
      by_cases cj : m.jury.contains i.toNat = true
      · have mj : i.toNat ∈ m.jury := List.contains_iff_mem.mp cj
        have ns : ¬ m.spare.contains i.toNat = true := fun z => nd.2.2 _ mj _ (List.contains_iff_mem.mp z) rfl
        have ns' : m.spare.contains i.toNat = false := by simpa using ns
        rw [if_pos cj, if_neg (show ¬ (m.jury.contains i.toNat || m.spare.contains i.toNat) = false from by rw [cj, Bool.true_or]; decide), if_neg ns]
        cases es : m.spare with
        | nil =>
          show Good s (.ok ((if (m.jury.erase i.toNat).length < m.least then ({ (m.mark i.toNat 6) with jury := m.jury.erase i.toNat, phase := 4 } : State) else { (m.mark i.toNat 6) with jury := m.jury.erase i.toNat }), 2 :: standsP _)) (done (if (m.jury.filter fun x => x != i.toNat).length < m.least then ({ (s.mark i.toNat 6) with jury := m.jury.filter fun x => x != i.toNat, phase := 4 } : State) else { (s.mark i.toNat 6) with jury := m.jury.filter fun x => x != i.toNat }) 2)
          have ef : (m.jury.filter fun x => x != i.toNat) = m.jury.erase i.toNat := (nd.1.erase_eq_filter i.toNat).symm
          rw [ef]
          have zz : (m.panel.set i.toNat 6).length = m.panel.length := List.length_set
          have el : (m.jury.erase i.toNat).length ≤ 12 := Nat.le_trans (List.erase_sublist.length_le) h.inv.sz.jury
          by_cases d : (m.jury.erase i.toNat).length < m.least
          · rw [if_pos d, if_pos d]
            refine done_is (m := { (m.mark i.toNat 6) with jury := m.jury.erase i.toNat, phase := 4 }) (s := { (s.mark i.toNat 6) with jury := m.jury.erase i.toNat, phase := 4 }) (sworn_out h h2' ?_ rfl h.rel.leftA h.rel.leftB h.rel.last rfl h.rel.spare h.rel.least ⟨by show (m.panel.set _ _).length ≤ 60; rw [zz]; exact h.inv.sz.panel, h.inv.sz.box, el, h.inv.sz.spare, h.inv.sz.seats, h.inv.sz.alts⟩ (.inr rfl) rfl) 2
            show s.panel.set _ _ = m.panel.set _ _
            rw [h.rel.panel]
          · rw [if_neg d, if_neg d]
            refine done_is (m := { (m.mark i.toNat 6) with jury := m.jury.erase i.toNat }) (s := { (s.mark i.toNat 6) with jury := m.jury.erase i.toNat }) (sworn_out h h2' ?_ h.rel.phase h.rel.leftA h.rel.leftB h.rel.last rfl h.rel.spare h.rel.least ⟨by show (m.panel.set _ _).length ≤ 60; rw [zz]; exact h.inv.sz.panel, h.inv.sz.box, el, h.inv.sz.spare, h.inv.sz.seats, h.inv.sz.alts⟩ (.inl ⟨h2', ⟨?_, fun x hx => ?_, sw.pos, by show m.least ≤ (m.jury.erase i.toNat).length; omega⟩⟩) rfl) 2
            · show s.panel.set _ _ = m.panel.set _ _
              rw [h.rel.panel]
            · exact sw.nd.sublist (List.erase_sublist.append_right _)
            · show x < (m.panel.set _ _).length
              rw [zz]
              exact sw.range x ((List.erase_sublist.append_right m.spare).subset hx)
        | cons j l =>
          show Good s (.ok (({ ((m.mark i.toNat 6).mark j 1) with spare := l, jury := m.jury.set (m.jury.idxOf i.toNat) j } : State), 1 :: standsP _)) (done (({ (s.mark i.toNat 6) with jury := m.jury.map fun x => if x = i.toNat then j else x, spare := l } : State).mark j 1) 1)
          have hk : m.jury.idxOf i.toNat < m.jury.length := List.idxOf_lt_length_of_mem mj
          have em : (m.jury.map fun x => if x = i.toNat then j else x) = m.jury.set (m.jury.idxOf i.toNat) j := by
            refine List.ext_getElem? fun q => ?_
            rw [List.getElem?_map]
            by_cases e : q = m.jury.idxOf i.toNat
            · subst e
              rw [List.getElem?_set_self hk, List.getElem?_eq_getElem hk, List.getElem_idxOf hk]
              simp
            · rw [List.getElem?_set_ne (Ne.symm e)]
              cases g : m.jury[q]? with
              | none => rfl
              | some y =>
                have : y ≠ i.toNat := fun z => by
                  subst z
                  obtain ⟨hq, g'⟩ := List.getElem?_eq_some_iff.mp g
                  have : m.jury[q] = m.jury[m.jury.idxOf i.toNat] := by rw [g', List.getElem_idxOf hk]
                  exact e ((List.getElem_inj nd.1).mp this)
                simp [this]
          rw [em]
          have zz : ((m.panel.set i.toNat 6).set j 1).length = m.panel.length := by rw [List.length_set, List.length_set]
          have pm : ((m.jury.set (m.jury.idxOf i.toNat) j) ++ l).Perm ((m.jury.eraseIdx (m.jury.idxOf i.toNat)) ++ (j :: l)) := by
            exact ((set_perm hk).append_right l).trans List.perm_middle.symm
          have sub : ((m.jury.eraseIdx (m.jury.idxOf i.toNat)) ++ (j :: l)).Sublist (m.jury ++ m.spare) := by
            rw [es]
            exact (List.eraseIdx_sublist _ _).append_right _
          refine done_is (m := { ((m.mark i.toNat 6).mark j 1) with spare := l, jury := m.jury.set (m.jury.idxOf i.toNat) j }) (s := ({ (s.mark i.toNat 6) with jury := m.jury.set (m.jury.idxOf i.toNat) j, spare := l } : State).mark j 1) (sworn_out h h2' ?_ h.rel.phase h.rel.leftA h.rel.leftB h.rel.last rfl rfl h.rel.least ⟨by show ((m.panel.set _ _).set _ _).length ≤ 60; rw [zz]; exact h.inv.sz.panel, h.inv.sz.box, by show (m.jury.set _ _).length ≤ 12; rw [List.length_set]; exact h.inv.sz.jury, by show l.length ≤ 12; have := h.inv.sz.spare; rw [es] at this; exact Nat.le_of_succ_le this, h.inv.sz.seats, h.inv.sz.alts⟩ (.inl ⟨h2', ⟨?_, fun x hx => ?_, sw.pos, by show m.least ≤ (m.jury.set _ _).length; rw [List.length_set]; exact sw.most⟩⟩) rfl) 1
          · show (s.panel.set _ _).set _ _ = (m.panel.set _ _).set _ _
            rw [h.rel.panel]
          · exact pm.nodup_iff.mpr (sw.nd.sublist sub)
          · show x < ((m.panel.set _ _).set _ _).length
            rw [zz]
            exact sw.range x (sub.subset (pm.mem_iff.mp hx))
      · have cj' : m.jury.contains i.toNat = false := by simpa using cj
        rw [if_neg cj, cj', Bool.false_or]
        by_cases cs : m.spare.contains i.toNat = true
        · rw [if_pos cs, if_neg (show ¬ m.spare.contains i.toNat = false from by rw [cs]; decide), if_pos cs]
          have ef : (m.spare.filter fun x => x != i.toNat) = m.spare.erase i.toNat := (nd.2.1.erase_eq_filter i.toNat).symm
          rw [ef]
          have zz : (m.panel.set i.toNat 6).length = m.panel.length := List.length_set
          refine done_is (m := { (m.mark i.toNat 6) with spare := m.spare.erase i.toNat }) (s := { (s.mark i.toNat 6) with spare := m.spare.erase i.toNat }) (sworn_out h h2' ?_ h.rel.phase h.rel.leftA h.rel.leftB h.rel.last h.rel.jury rfl h.rel.least ⟨by show (m.panel.set _ _).length ≤ 60; rw [zz]; exact h.inv.sz.panel, h.inv.sz.box, h.inv.sz.jury, Nat.le_trans (List.erase_sublist.length_le) h.inv.sz.spare, h.inv.sz.seats, h.inv.sz.alts⟩ (.inl ⟨h2', ⟨?_, fun x hx => ?_, sw.pos, sw.most⟩⟩) rfl) 0
          · show s.panel.set _ _ = m.panel.set _ _
            rw [h.rel.panel]
          · exact sw.nd.sublist (List.erase_sublist.append_left _)
          · show x < (m.panel.set _ _).length
            rw [zz]
            exact sw.range x ((List.erase_sublist.append_left m.jury).subset hx)
        · have cs' : m.spare.contains i.toNat = false := by simpa using cs
          rw [if_pos cs', if_neg cs]; rfl
theorem ones_bits : ∀ {l : List Int}, l.all isBit = true → (l.filter fun z => z == 1).length ≤ l.length ∧ ((l.filter fun z => z == 1).length = 0 ↔ l.contains 1 = false) ∧ ((l.filter fun z => z == 1).length = l.length ↔ l.contains 0 = false)
  | [], _ => ⟨Nat.le_refl _, by simp, by simp⟩
  | z :: l, h => by
    rw [List.all_cons, Bool.and_eq_true] at h
    obtain ⟨i1, i2, i3⟩ := ones_bits h.2
    rcases bit_cases h.1 with e | e
    · subst e
      rw [List.filter_cons_of_neg (by decide)]
      refine ⟨Nat.le_succ_of_le i1, ?_, ?_⟩
      · rw [i2]; simp
      · constructor
        · intro q; rw [List.length_cons] at q; omega
        · intro q; simp at q
    · subst e
      rw [List.filter_cons_of_pos (by rfl)]
      refine ⟨Nat.succ_le_succ i1, ?_, ?_⟩
      · constructor
        · intro q; simp at q
        · intro q; simp at q
      · rw [List.length_cons, List.length_cons, Nat.add_right_cancel_iff, i3]; simp
theorem verdict_good {m s : State} (h : Out m s) (l : List Int) : Good s (pyVerdict m l) (spec s (.verdict l)) := by
  unfold pyVerdict
  show Good s _ (if l.all isBit = false then (s, num (-1)) else if s.phase ≠ 2 then (s, num (-3)) else if l.length ≠ s.jury.length then (s, num (-4)) else
      if (l.filter fun z => z == 1).length = l.length ∨ (l.filter fun z => z == 1).length = 0 then done { s with phase := 4 } (if (l.filter fun z => z == 1).length = 0 then 0 else 1) else done s 2)
  have hph := h.rel.phase
  have hju := h.rel.jury
  by_cases c : l.all isBit = false
  · rw [if_pos c, if_pos c]; rfl
  · rw [if_neg c, if_neg c]
    have c' : l.all isBit = true := by simpa using c
    by_cases h2 : m.phase ≠ 2
    · rw [if_pos h2, if_pos (show s.phase ≠ 2 from by rw [hph]; exact h2)]; rfl
    · rw [if_neg h2, if_neg (show ¬ s.phase ≠ 2 from by rw [hph]; exact h2)]
      have h2' : m.phase = 2 := Decidable.of_not_not h2
      by_cases d : l.length ≠ m.jury.length
      · rw [if_pos d, if_pos (show l.length ≠ s.jury.length from by rw [hju]; exact d)]; rfl
      · rw [if_neg d, if_neg (show ¬ l.length ≠ s.jury.length from by rw [hju]; exact d)]
        have sw := h.inv.sworn h2'
        obtain ⟨o1, o2, o3⟩ := ones_bits c'
        by_cases e : (l.contains 0 && l.contains 1) = true
        · have e' := Bool.and_eq_true_iff.mp e
          rw [if_pos e, if_neg (fun z => by
            rcases z with z | z
            · have := o3.mp z; rw [e'.1] at this; cases this
            · have := o2.mp z; rw [e'.2] at this; cases this)]
          exact done_is h 2
        · rw [if_neg e]
          have hx : l.contains 0 = false ∨ l.contains 1 = false := by
            have : (l.contains 0 && l.contains 1) = false := by simpa using e
            exact Bool.and_eq_false_iff.mp this
          rw [if_pos (hx.elim (fun z => .inl (o3.mpr z)) (fun z => .inr (o2.mpr z)))]
          have hv : l.headD 0 = (if (l.filter fun z => z == 1).length = 0 then 0 else 1) := by
            cases l with
            | nil => rfl
            | cons a r =>
              rw [List.all_cons, Bool.and_eq_true] at c'
              rcases bit_cases c'.1 with z | z
              · subst z
                have : ((0 : Int) :: r).contains 1 = false := by
                  rcases hx with q | q
                  · simp at q
                  · exact q
                rw [if_pos (o2.mpr this)]; rfl
              · subst z
                rw [if_neg (fun q => by have := o2.mp q; simp at this)]; rfl
          show Good s (.ok ({ m with phase := 4 }, l.headD 0 :: standsP { m with phase := 4 })) _
          rw [hv]
          exact done_is (m := { m with phase := 4 }) (s := { s with phase := 4 }) (sworn_out h h2' h.rel.panel rfl h.rel.leftA h.rel.leftB h.rel.last h.rel.jury h.rel.spare h.rel.least (h.inv.sz.same rfl rfl rfl rfl rfl) (.inr rfl) rfl) _
theorem count_filter (l : List Nat) : (l.filter fun f => f == 0).length = l.count 0 := by
  rw [List.count_eq_length_filter]
theorem now_good {m s : State} (h : Out m s) : Good s (pyNow m) (spec s .now) := by
  refine ⟨h, ?_⟩
  show (m.phase : Int) :: (standsP m ++ [opt m.next, waits m, (m.least : Int), lastWho m]) = (s.phase : Int) :: (told s ++ (opt s.next :: (whole [(s.panel.filter fun f => f == 0).length, s.least] ++ [(match s.last with
    | some x => (x.1 : Int)
    | none => -1)])))
  rw [told_is h, h.rel.phase, h.rel.least, h.rel.last, count_filter]
  have en : s.next = m.next := by unfold State.next; rw [h.rel.panel]
  rw [en, h.rel.panel]
  unfold lastWho waits
  cases m.last <;> rfl
theorem box_good {m s : State} (h : Out m s) : Good s (pyBox m) (spec s .box) := by
  refine ⟨h, ?_⟩
  show (if m.phase = 2 ∨ m.phase = 4 then (m.jury.length : Int) :: (nZ m.jury ++ nZ m.spare) else (m.box.length : Int) :: (opts m.box ++ nZ m.jury)) = _
  show _ = (if s.phase = 2 ∨ s.phase = 4 then (⟨s.jury.length, whole s.jury ++ whole s.spare⟩ : Ans) else ⟨s.box.length, (s.box.map opt) ++ whole s.jury⟩).value :: (if s.phase = 2 ∨ s.phase = 4 then (⟨s.jury.length, whole s.jury ++ whole s.spare⟩ : Ans) else ⟨s.box.length, (s.box.map opt) ++ whole s.jury⟩).out
  rw [h.rel.phase, h.rel.jury, h.rel.spare]
  by_cases c : m.phase = 2 ∨ m.phase = 4
  · rw [if_pos c, if_pos c]; rfl
  · have := h.inv.ph
    rw [if_neg c, if_neg c, h.rel.box (by omega)]; rfl
theorem fates_good {m s : State} (h : Out m s) : Good s (pyFates m) (spec s .fates) := by
  refine ⟨h, ?_⟩
  show (m.panel.length : Int) :: nZ m.panel = (s.panel.length : Int) :: whole s.panel
  rw [h.rel.panel]; rfl
theorem begins_iff (n k m a b e p : Int) (t : List Int) : (within n 1 60 && (within k 1 12 && (within m 0 4 && (within a 0 10 && (within b 0 10 && (within e 0 3 && (within p 0 1 && (t.all (fun z => within z 0 1) && (t.contains 0 && (t.contains 1 && decide (t.length ≤ 10))))))))))) = begins n k m a b e p t := by
  unfold begins
  show (_ && _) = _
  have : (t.all fun z => within z 0 1) = t.all isBit := rfl
  rw [this]
  unfold within isBit
  simp only [Bool.and_assoc]
theorem fresh_pre {n k m a b e p : Int} {t : List Int} (h : begins n k m a b e p t = true) : Pre (fresh (rulesOf k m a b e p t) n.toNat a.toNat b.toNat) := by
  unfold begins isBit at h
  simp only [Bool.and_eq_true, decide_eq_true_eq] at h
  obtain ⟨⟨⟨⟨hn, hk, hm⟩, ha, hb⟩, he, hp⟩, ht, h0, h1, hl⟩ := h
  refine ⟨⟨?_, ?_, Nat.zero_le _, Nat.zero_le _, by show k.toNat ≤ 12; omega, by show m.toNat ≤ 12; omega⟩, ⟨⟨fun x hx => ?_, ?_, ?_, ?_⟩, ?_, by show 1 ≤ k.toNat; omega, fun _ => ?_, fun z => (by cases z), ⟨?_, fun x hx => ?_⟩, fun x hx => (by cases hx)⟩, Nat.zero_le _⟩
  · show (List.replicate _ _).length ≤ 60; rw [List.length_replicate]; omega
  · show (List.replicate _ _).length ≤ 12; rw [List.length_replicate]; show k.toNat ≤ 12; omega
  · obtain ⟨y, hy, ey⟩ := List.mem_map.mp (show x ∈ t.map Int.toNat from hx)
    have := List.all_eq_true.mp ht y hy
    rw [Bool.and_eq_true] at this
    have z1 := of_decide_eq_true this.1
    have z2 := of_decide_eq_true this.2
    omega
  · exact List.mem_map.mpr ⟨0, List.contains_iff_mem.mp h0, rfl⟩
  · exact List.mem_map.mpr ⟨1, List.contains_iff_mem.mp h1, rfl⟩
  · show (t.map Int.toNat).length ≤ 10; rw [List.length_map]; exact hl
  · show 0 < (t.map Int.toNat).length
    rw [List.length_map]
    exact List.length_pos_of_mem (List.contains_iff_mem.mp h0)
  · show (List.replicate _ _).length = _; rw [List.length_replicate]; rfl
  · show ([] ++ sitting (List.replicate _ none)).Nodup
    rw [sitting_rep]; exact List.nodup_nil
  · have : x ∈ ([] : List Nat) ++ sitting (List.replicate k.toNat none) := hx
    rw [sitting_rep] at this
    cases this
theorem begin_good {m0 s : State} (h : Out m0 s) (n k m a b e p : Int) (t : List Int) : Good s (pyBegin n k m a b e p t) (spec s (.begin_ n k m a b e p t)) := by
  unfold pyBegin
  show Good s _ (if (within n 1 60 && (within k 1 12 && (within m 0 4 && (within a 0 10 && (within b 0 10 && (within e 0 3 && (within p 0 1 && (t.all (fun z => within z 0 1) && (t.contains 0 && (t.contains 1 && decide (t.length ≤ 10))))))))))) = false then (s, num (-1))
    else done ((⟨⟨k.toNat, m.toNat, a.toNat, b.toNat, e.toNat, t.map Int.toNat, p == 1⟩, List.replicate n.toNat 0, 0, List.replicate k.toNat none, 0, 0, a.toNat, b.toNat, none, [], [], 0⟩ : State).settled) 0)
  rw [begins_iff]
  by_cases c : begins n k m a b e p t = false
  · rw [if_pos c, if_pos c]; rfl
  · rw [if_neg c, if_neg c]
    have c' : begins n k m a b e p t = true := by simpa using c
    have o := settle_sim (fresh_pre c') (T := 0) (fun _ => ⟨0, rfl, fun j hj => absurd hj (Nat.not_lt_zero _)⟩)
    exact done_is o 0
theorem call_good {m s : State} (h : Out m s) (c : Call) : Good s (pyCall m c) (spec s c) := by
  cases c with
  | begin_ n k a0 a b e p t => exact begin_good h n k a0 a b e p t
  | excuse i => exact excuse_good h i
  | strike side i => exact strike_good h side i
  | pass side => exact pass_good h side
  | object side up => exact object_good h side up
  | let_ i => exact let_good h i
  | agree n => exact agree_good h n
  | verdict l => exact verdict_good h l
  | now => exact now_good h
  | box => exact box_good h
  | fates => exact fates_good h
theorem start_out : Out m0 init := by
  rw [m0_eq]
  exact ⟨⟨⟨by decide, by decide, by decide, by decide, by decide, by decide⟩, by decide, fun z => absurd z (by decide), fun z => absurd z (by decide), fun _ => rfl⟩, ⟨rfl, rfl, rfl, rfl, rfl, rfl, rfl, rfl, fun z => absurd z (by decide), fun z => absurd z (by decide)⟩⟩
/-- one call: what is answered, the picking then -/
def answerOf (r : Res) : List Int := match r with
  | .error n => [n]
  | .ok (_, out) => out
def stateOf (m : State) (r : Res) : State := match r with
  | .error _ => m
  | .ok (m', _) => m'
theorem step_out {m s : State} (h : Out m s) (c : Call) : Out (stateOf m (pyCall m c)) (spec s c).1 ∧ answerOf (pyCall m c) = (spec s c).2.value :: (spec s c).2.out := by
  have g := call_good h c
  cases e : pyCall m c with
  | error n =>
    rw [e] at g
    have g' : spec s c = (s, num n) := g
    rw [g']
    exact ⟨h, rfl⟩
  | ok x =>
    rw [e] at g
    obtain ⟨m', out⟩ := x
    exact g
end Jp
namespace Jp
open Kg77
/-! ### What the walk asks ahead of settle -/
theorem settle_inv {m : State} (p : Pre m) : Inv (settleP m) :=
  (settle_sim p (T := m.turn) fun _ => ⟨0, rfl, fun j hj => absurd hj (Nat.not_lt_zero _)⟩).inv
theorem pre_excuse {m : State} (h : Inv m) (hp : m.phase ≤ 1) {i k : Nat} (hk : m.box[k]? = some (some i)) : Pre { (leaveP m i k 2) with last := none } := by
  obtain ⟨ea, ef⟩ := h.early hp
  obtain ⟨st, nm, lt⟩ := ea.seated.leave (n := 2) hk
  refine ⟨⟨(h.sz.leave i k 2).panel, (h.sz.leave i k 2).box, h.sz.jury, h.sz.spare, h.sz.seats, h.sz.alts⟩, ⟨ea.row, ea.at_, ea.seats, fun z => ?_, ea.ph1, st, fun x hx => ?_⟩, hp⟩
  · show (m.box.set k none).length = _
    rw [List.length_set]
    exact ea.ph0 z
  · cases hx
theorem pre_strike {m : State} (h : Inv m) (hp' : m.phase ≤ 1) {side : Int} (hb : isBit side = true) {i k : Nat} (hk : m.box[k]? = some (some i)) : Pre { (struckT (leaveP m i k (3 + side.toNat)) side.toNat) with last := some (i, k, side.toNat) } := by
  obtain ⟨ea, ef⟩ := h.early hp'
  obtain ⟨st, nm, lt⟩ := ea.seated.leave (n := 3 + side.toNat) hk
  have sp := spend_panel (gone (leaveP m i k (3 + side.toNat))) side.toNat
  have hbx := bit_cases hb
  have z := h.sz.leave i k (3 + side.toNat)
  refine ⟨⟨?_, ?_, ?_, ?_, ?_, ?_⟩, ⟨?_, ?_, ?_, fun z => ?_, fun z => ?_, ?_, fun x hx => ?_⟩, ?_⟩
  · show (struckT _ _).panel.length ≤ 60; unfold struckT; rw [show ({ ((gone (leaveP m i k (3 + side.toNat))).spend side.toNat) with passes := 0 } : State).panel = _ from sp.1]; exact z.panel
  · show (struckT _ _).box.length ≤ 12; unfold struckT; rw [show ({ ((gone (leaveP m i k (3 + side.toNat))).spend side.toNat) with passes := 0 } : State).box = _ from sp.2.1]; exact z.box
  · show (struckT _ _).jury.length ≤ 12; unfold struckT; rw [show ({ ((gone (leaveP m i k (3 + side.toNat))).spend side.toNat) with passes := 0 } : State).jury = _ from sp.2.2.1]; exact z.jury
  · show (struckT _ _).spare.length ≤ 12; unfold struckT; rw [show ({ ((gone (leaveP m i k (3 + side.toNat))).spend side.toNat) with passes := 0 } : State).spare = _ from sp.2.2.2.1]; exact z.spare
  · show (struckT _ _).rules.seats ≤ 12; unfold struckT; rw [show ({ ((gone (leaveP m i k (3 + side.toNat))).spend side.toNat) with passes := 0 } : State).rules = _ from sp.2.2.2.2.1]; exact z.seats
  · show (struckT _ _).rules.alternates ≤ 12; unfold struckT; rw [show ({ ((gone (leaveP m i k (3 + side.toNat))).spend side.toNat) with passes := 0 } : State).rules = _ from sp.2.2.2.2.1]; exact z.alts
  · show RowOk (struckT _ _).rules.turns; unfold struckT; rw [show ({ ((gone (leaveP m i k (3 + side.toNat))).spend side.toNat) with passes := 0 } : State).rules = _ from sp.2.2.2.2.1]; exact ea.row
  · show (struckT _ _).turn < (struckT _ _).rules.turns.length; unfold struckT
    rw [show ({ ((gone (leaveP m i k (3 + side.toNat))).spend side.toNat) with passes := 0 } : State).rules = _ from sp.2.2.2.2.1, show ({ ((gone (leaveP m i k (3 + side.toNat))).spend side.toNat) with passes := 0 } : State).turn = _ from sp.2.2.2.2.2.1]
    exact Nat.mod_lt _ ea.row.pos
  · show 1 ≤ (struckT _ _).rules.seats; unfold struckT; rw [show ({ ((gone (leaveP m i k (3 + side.toNat))).spend side.toNat) with passes := 0 } : State).rules = _ from sp.2.2.2.2.1]; exact ea.seats
  · show (struckT _ _).box.length = (struckT _ _).rules.seats; unfold struckT
    rw [show ({ ((gone (leaveP m i k (3 + side.toNat))).spend side.toNat) with passes := 0 } : State).rules = _ from sp.2.2.2.2.1, show ({ ((gone (leaveP m i k (3 + side.toNat))).spend side.toNat) with passes := 0 } : State).box = _ from sp.2.1]
    show (m.box.set k none).length = _
    rw [List.length_set]
    refine ea.ph0 ?_
    have z' : ((gone (leaveP m i k (3 + side.toNat))).spend side.toNat).phase = 0 := z
    rw [sp.2.2.2.2.2.2.1] at z'
    exact z'
  · show (struckT _ _).jury.length = (struckT _ _).rules.seats; unfold struckT
    rw [show ({ ((gone (leaveP m i k (3 + side.toNat))).spend side.toNat) with passes := 0 } : State).rules = _ from sp.2.2.2.2.1, show ({ ((gone (leaveP m i k (3 + side.toNat))).spend side.toNat) with passes := 0 } : State).jury = _ from sp.2.2.1]
    refine ea.ph1 ?_
    have z' : ((gone (leaveP m i k (3 + side.toNat))).spend side.toNat).phase = 1 := z
    rw [sp.2.2.2.2.2.2.1] at z'
    exact z'
  · show Seated (struckT _ _).jury (struckT _ _).panel (struckT _ _).box; unfold struckT
    rw [show ({ ((gone (leaveP m i k (3 + side.toNat))).spend side.toNat) with passes := 0 } : State).jury = _ from sp.2.2.1, show ({ ((gone (leaveP m i k (3 + side.toNat))).spend side.toNat) with passes := 0 } : State).panel = _ from sp.1, show ({ ((gone (leaveP m i k (3 + side.toNat))).spend side.toNat) with passes := 0 } : State).box = _ from sp.2.1]
    exact st
  · have hx' : x = (i, k, side.toNat) := (Option.some.inj hx).symm
    subst hx'
    have e5 : ({ (struckT (leaveP m i k (3 + side.toNat)) side.toNat) with last := some (i, k, side.toNat) } : State).panel = m.panel.set i (3 + side.toNat) := sp.1
    have e6 : ({ (struckT (leaveP m i k (3 + side.toNat)) side.toNat) with last := some (i, k, side.toNat) } : State).box = m.box.set k none := sp.2.1
    rw [e5, e6]
    have e7 : (m.panel.set i (3 + side.toNat))[i]? = some (3 + side.toNat) := List.getElem?_set_self lt
    refine ⟨by rw [List.length_set]; exact lt, by show _ ≠ _; rw [e7]; intro z; have := Option.some.inj z; omega, by show _ ≠ _; rw [e7]; intro z; have := Option.some.inj z; omega, ?_, by show side.toNat ≤ 1; omega⟩
    rw [List.length_set]
    exact (List.getElem?_eq_some_iff.mp hk).1
  · show (struckT _ _).phase ≤ 1; unfold struckT; rw [show ({ ((gone (leaveP m i k (3 + side.toNat))).spend side.toNat) with passes := 0 } : State).phase = _ from sp.2.2.2.2.2.2.1]; exact hp'
theorem pre_pass {m : State} (h : Inv m) (hp' : m.phase ≤ 1) (side : Nat) : Pre { (passedT m side) with last := none } := by
  obtain ⟨ea, ef⟩ := h.early hp'
  obtain ⟨p1, p2, p3, p4, p5, p6, p7⟩ := passedT_is m side
  exact ⟨h.sz.same p1 (congrArg List.length p4) (congrArg List.length p5) p6 p7, ea.turned p1 (by show (passedT m side).turn < _; rw [p2]; exact Nat.mod_lt _ ea.row.pos) p3 p4 p5 p6 rfl, by show (passedT m side).phase ≤ 1; rw [p3]; exact hp'⟩
theorem pre_object {m : State} (h : Inv m) (hp : m.phase ≤ 1) {x : Nat × Nat × Nat} (hl : m.last = some x) (up : Bool) : Pre { (if up = true then backP m x else m) with last := none } := by
  cases up with
  | true => exact (back_pre h hp hl).1
  | false =>
    obtain ⟨ea, ef⟩ := h.early hp
    exact ⟨h.sz.same rfl rfl rfl rfl rfl, ea.turned rfl ea.at_ rfl rfl rfl rfl rfl, hp⟩
theorem seat_person {m : State} (h : Inv m) (hp : m.phase ≤ 1) {i k : Nat} (hk : seatP m i = some k) : i < m.panel.length :=
  ((h.early hp).1.seated.leave (n := 0) (seat_iff hk)).2.2
theorem Inv.row {m : State} (h : Inv m) (hp : m.phase ≤ 1) : RowOk m.rules.turns := (h.early hp).1.row
theorem seatP_contains {m : State} {i : Nat} : ((opts m.box).contains (i : Int) = true) ↔ seatP m i ≠ none := by
  unfold seatP opts
  rw [List.contains_iff_mem, List.mem_map, Ne, List.findIdx?_eq_none_iff]
  constructor
  · rintro ⟨o, ho, e⟩ hn
    cases o with
    | none =>
      have e' : (-1 : Int) = (i : Int) := e
      omega
    | some y =>
      have e' : (y : Int) = (i : Int) := e
      have e2 : y = i := by omega
      have := hn _ ho
      rw [e2] at this
      simp at this
  · intro hn
    have : ∃ x ∈ m.box, (x == some i) = true := by
      apply Classical.byContradiction
      intro z
      exact hn fun x hx => by
        cases e : (x == some i) with
        | false => rfl
        | true => exact absurd ⟨x, hx, e⟩ z
    obtain ⟨x, hx, e⟩ := this
    exact ⟨x, hx, by rw [eq_of_beq e]; rfl⟩
end Jp
namespace Jp
open Kg77
/-! ### The request's numbers, call by call -/
theorem shape_cases {c : Int} {k e : Nat} (h : PyKg77.shape c = some (k, e)) :
    (c = 1 ∧ k = 7 ∧ e = 1) ∨ (c = 2 ∧ k = 1 ∧ e = 0) ∨ (c = 3 ∧ k = 2 ∧ e = 0) ∨ (c = 4 ∧ k = 1 ∧ e = 0) ∨ (c = 5 ∧ k = 2 ∧ e = 0) ∨ (c = 6 ∧ k = 1 ∧ e = 0) ∨ (c = 7 ∧ k = 1 ∧ e = 0) ∨ (c = 8 ∧ k = 0 ∧ e = 1) ∨ (c = 9 ∧ k = 0 ∧ e = 0) ∨ (c = 10 ∧ k = 0 ∧ e = 0) ∨ (c = 11 ∧ k = 0 ∧ e = 0) := by
  unfold PyKg77.shape at h
  have go : ∀ {a b : Nat}, some (a, b) = some (k, e) → k = a ∧ e = b := fun h => by
    have := Option.some.inj h
    exact ⟨(congrArg Prod.fst this).symm, (congrArg Prod.snd this).symm⟩
  by_cases h1 : c = 1
  · rw [if_pos h1] at h; obtain ⟨a, b⟩ := go h; exact .inl ⟨h1, a, b⟩
  rw [if_neg h1] at h
  by_cases h2 : c = 2
  · rw [if_pos h2] at h; obtain ⟨a, b⟩ := go h; exact .inr (.inl ⟨h2, a, b⟩)
  rw [if_neg h2] at h
  by_cases h3 : c = 3
  · rw [if_pos h3] at h; obtain ⟨a, b⟩ := go h; exact .inr (.inr (.inl ⟨h3, a, b⟩))
  rw [if_neg h3] at h
  by_cases h4 : c = 4
  · rw [if_pos h4] at h; obtain ⟨a, b⟩ := go h; exact .inr (.inr (.inr (.inl ⟨h4, a, b⟩)))
  rw [if_neg h4] at h
  by_cases h5 : c = 5
  · rw [if_pos h5] at h; obtain ⟨a, b⟩ := go h; exact .inr (.inr (.inr (.inr (.inl ⟨h5, a, b⟩))))
  rw [if_neg h5] at h
  by_cases h6 : c = 6
  · rw [if_pos h6] at h; obtain ⟨a, b⟩ := go h; exact .inr (.inr (.inr (.inr (.inr (.inl ⟨h6, a, b⟩)))))
  rw [if_neg h6] at h
  by_cases h7 : c = 7
  · rw [if_pos h7] at h; obtain ⟨a, b⟩ := go h; exact .inr (.inr (.inr (.inr (.inr (.inr (.inl ⟨h7, a, b⟩))))))
  rw [if_neg h7] at h
  by_cases h8 : c = 8
  · rw [if_pos h8] at h; obtain ⟨a, b⟩ := go h; exact .inr (.inr (.inr (.inr (.inr (.inr (.inr (.inl ⟨h8, a, b⟩)))))))
  rw [if_neg h8] at h
  by_cases h9 : c = 9
  · rw [if_pos h9] at h; obtain ⟨a, b⟩ := go h; exact .inr (.inr (.inr (.inr (.inr (.inr (.inr (.inr (.inl ⟨h9, a, b⟩))))))))
  rw [if_neg h9] at h
  by_cases h10 : c = 10
  · rw [if_pos h10] at h; obtain ⟨a, b⟩ := go h; exact .inr (.inr (.inr (.inr (.inr (.inr (.inr (.inr (.inr (.inl ⟨h10, a, b⟩)))))))))
  rw [if_neg h10] at h
  by_cases h11 : c = 11
  · rw [if_pos h11] at h; obtain ⟨a, b⟩ := go h; exact .inr (.inr (.inr (.inr (.inr (.inr (.inr (.inr (.inr (.inr ⟨h11, a, b⟩)))))))))
  rw [if_neg h11] at h
  cases h
/-- what the request's numbers say of a call -/
def IsCall (c : Int) (gs row : List Int) : Kg77.Call → Prop
  | .begin_ n k m a b e p t => c = 1 ∧ gs = [n, k, m, a, b, e, p] ∧ row = t
  | .excuse i => c = 2 ∧ gs = [i]
  | .strike side i => c = 3 ∧ gs = [side, i]
  | .pass side => c = 4 ∧ gs = [side]
  | .object side up => c = 5 ∧ gs = [side, up]
  | .let_ i => c = 6 ∧ gs = [i]
  | .agree n => c = 7 ∧ gs = [n]
  | .verdict l => c = 8 ∧ row = l
  | .now => c = 9
  | .box => c = 10
  | .fates => c = 11
theorem len0 {l : List Int} (h : l.length = 0) : l = [] := List.length_eq_zero_iff.mp h
theorem len1 {l : List Int} (h : l.length = 1) : ∃ a, l = [a] := List.length_eq_one_iff.mp h
theorem len2 {l : List Int} (h : l.length = 2) : ∃ a b, l = [a, b] := by
  match l, h with
  | [a, b], _ => exact ⟨a, b, rfl⟩
theorem len7 {l : List Int} (h : l.length = 7) : ∃ a b c d e f g, l = [a, b, c, d, e, f, g] := by
  match l, h with
  | [a, b, c, d, e, f, g], _ => exact ⟨a, b, c, d, e, f, g, rfl⟩
/-- the numbers behind a call's number, its row -/
def codeOf (e : Nat) (gs row : List Int) : List Int := if e = 0 then gs else gs ++ ((row.length : Int) :: row)
theorem call_form {c : List (List Int)} (h : PyFlat.okCall PyKg77.shape c) : ∃ (p : Int) (gs row : List Int) (k : Kg77.Call) (e : Nat), PyFlat.put1 c = p :: codeOf e gs row ∧ PyKg77.shape p = some (gs.length, e) ∧ (e = 0 ∧ row = [] ∨ e = 1) ∧ IsCall p gs row k ∧ Kg77Neutral.callOf (PyKg77.whole c) = some k := by
  obtain ⟨p, a, xs, rfl, hs⟩ := h
  have one : ∀ {xs : List (List Int)}, xs.length = 1 → ∃ r, xs = [r] := fun h => List.length_eq_one_iff.mp h
  have zero : ∀ {xs : List (List Int)}, xs.length = 0 → xs = [] := fun h => List.length_eq_zero_iff.mp h
  have p0 : ∀ {p : Int} {a : List Int}, PyFlat.put1 ((p :: a) :: []) = p :: codeOf 0 a [] := fun {p a} => by
    show (p :: a) ++ [] = p :: a
    rw [List.append_nil]
  have p1 : ∀ {p : Int} {a r : List Int}, PyFlat.put1 ((p :: a) :: [r]) = p :: codeOf 1 a r := fun {p a r} => by
    show (p :: a) ++ (((r.length : Int) :: r) ++ []) = p :: (a ++ ((r.length : Int) :: r))
    rw [List.append_nil]
    rfl
  rcases shape_cases hs with ⟨h1, h2, h3⟩ | ⟨h1, h2, h3⟩ | ⟨h1, h2, h3⟩ | ⟨h1, h2, h3⟩ | ⟨h1, h2, h3⟩ | ⟨h1, h2, h3⟩ | ⟨h1, h2, h3⟩ | ⟨h1, h2, h3⟩ | ⟨h1, h2, h3⟩ | ⟨h1, h2, h3⟩ | ⟨h1, h2, h3⟩
  · obtain ⟨r, rfl⟩ := one h3
    obtain ⟨n, k, m, a', b, e, q, rfl⟩ := len7 h2
    subst h1
    exact ⟨1, _, r, .begin_ n k m a' b e q r, 1, p1, rfl, .inr rfl, ⟨rfl, rfl, rfl⟩, rfl⟩
  · obtain rfl := zero h3
    obtain ⟨i, rfl⟩ := len1 h2
    subst h1
    exact ⟨2, _, [], .excuse i, 0, p0, rfl, .inl ⟨rfl, rfl⟩, ⟨rfl, rfl⟩, rfl⟩
  · obtain rfl := zero h3
    obtain ⟨i, j, rfl⟩ := len2 h2
    subst h1
    exact ⟨3, _, [], .strike i j, 0, p0, rfl, .inl ⟨rfl, rfl⟩, ⟨rfl, rfl⟩, rfl⟩
  · obtain rfl := zero h3
    obtain ⟨i, rfl⟩ := len1 h2
    subst h1
    exact ⟨4, _, [], .pass i, 0, p0, rfl, .inl ⟨rfl, rfl⟩, ⟨rfl, rfl⟩, rfl⟩
  · obtain rfl := zero h3
    obtain ⟨i, j, rfl⟩ := len2 h2
    subst h1
    exact ⟨5, _, [], .object i j, 0, p0, rfl, .inl ⟨rfl, rfl⟩, ⟨rfl, rfl⟩, rfl⟩
  · obtain rfl := zero h3
    obtain ⟨i, rfl⟩ := len1 h2
    subst h1
    exact ⟨6, _, [], .let_ i, 0, p0, rfl, .inl ⟨rfl, rfl⟩, ⟨rfl, rfl⟩, rfl⟩
  · obtain rfl := zero h3
    obtain ⟨i, rfl⟩ := len1 h2
    subst h1
    exact ⟨7, _, [], .agree i, 0, p0, rfl, .inl ⟨rfl, rfl⟩, ⟨rfl, rfl⟩, rfl⟩
  · obtain ⟨r, rfl⟩ := one h3
    obtain rfl := len0 h2
    subst h1
    exact ⟨8, [], r, .verdict r, 1, p1, rfl, .inr rfl, ⟨rfl, rfl⟩, rfl⟩
  · obtain rfl := zero h3
    obtain rfl := len0 h2
    subst h1
    exact ⟨9, [], [], .now, 0, p0, rfl, .inl ⟨rfl, rfl⟩, rfl, rfl⟩
  · obtain rfl := zero h3
    obtain rfl := len0 h2
    subst h1
    exact ⟨10, [], [], .box, 0, p0, rfl, .inl ⟨rfl, rfl⟩, rfl, rfl⟩
  · obtain rfl := zero h3
    obtain rfl := len0 h2
    subst h1
    exact ⟨11, [], [], .fates, 0, p0, rfl, .inl ⟨rfl, rfl⟩, rfl, rfl⟩
/-- what's answered from a state on -/
def toldFrom (s : State) (cs : List (List (List Int))) : List Int := PyFlat.told (PyFlat.played Kg77Neutral.step s (cs.map PyKg77.whole))
theorem told_cons {m s : State} (o : Out m s) {c : List (List Int)} {cs : List (List (List Int))} {k : Kg77.Call} (h : Kg77Neutral.callOf (PyKg77.whole c) = some k) :
    ∃ s', Out (stateOf m (pyCall m k)) s' ∧ toldFrom s (c :: cs) = ((answerOf (pyCall m k)).length : Int) :: (answerOf (pyCall m k) ++ toldFrom s' cs) := by
  obtain ⟨o1, o2⟩ := step_out o k
  refine ⟨(spec s k).1, o1, ?_⟩
  have e : Kg77Neutral.step s (PyKg77.whole c) = ((spec s k).1, (spec s k).2.value :: (spec s k).2.out) := by
    unfold Kg77Neutral.step
    rw [h]
  show PyFlat.told ((Kg77Neutral.step s (PyKg77.whole c)).2 :: PyFlat.played Kg77Neutral.step (Kg77Neutral.step s (PyKg77.whole c)).1 (cs.map PyKg77.whole)) = _
  rw [e, o2]
  rfl
theorem asked_form {l : List Int} (h : PyKg77.answers_asked l = true) : ∃ cs, l = PyFlat.put cs ∧ (∀ c ∈ cs, PyFlat.okCall PyKg77.shape c) ∧ PyKg77.answers l = toldFrom init cs ∧ (PyKg77.answers l).length ≤ 10000000 := by
  unfold PyKg77.answers_asked at h
  cases e : PyFlat.calls PyKg77.shape l.length l with
  | none => rw [e] at h; cases h
  | some raw =>
    rw [e] at h
    have h' : (!raw.isEmpty && PyFlat.atMost 150 raw && PyInside.calls PyKg77.bound raw && Kg77Neutral.asked (raw.map PyKg77.whole) && PyFlat.short 10000000 (PyKg77.answers l)) = true := h
    rw [Bool.and_eq_true] at h'
    have hs := of_decide_eq_true h'.2
    have inv := PyFlat.put_calls _ _ _ e
    refine ⟨raw, inv.1, inv.2, ?_, hs⟩
    · unfold PyKg77.answers PyKg77.calls
      rw [e]
      rfl
end Jp
namespace PySem
namespace LowX
open PySem.W PySem.Calls PyProof.Rows PySem.HandSPX
/-! ### the text of __init__ -/
def iA (p1 p2 : Pos) : Arguments := { posonlyargs := [], args := [{ arg := "self", annotation := none, pos := p1 }, { arg := "number", annotation := none, pos := p2 }], vararg := none, kwonlyargs := [], kw_defaults := [], kwarg := none, defaults := [] }
def iB (q1 q2 q3 q4 : Pos) : List Stmt := [.Assign [.Attribute (.Name "self" q1) "number" q2] (.Name "number" q3) q4]
def iS : Scope := { kind := .function, names := [(PySem.Str.ofString "self", .local), (PySem.Str.ofString "number", .local)], isGenerator := false, isCoroutine := false, more := [] }
/-- what the written part says of Low, at C, and of its __init__, at fI -/
structure LowTxt (K : Frag) (mg : Str → Option Value) (C fI : Addr) : Prop where
  gC : mg "Refused" = some (.ref C)
  cls : ∃ nm q N bs bm sn sub ab col dd k0 k1 k2 k3 k5, K.lookup C = some (excClassObj nm q C N bs bm true sn sub ab col dd k0 k1 k2 k3 k5 "ValueError.__new__") ∧ refsVE bm = true
  sa : findIn K (.ref C) "__setattr__" = some (some (.builtin "object.__setattr__"))
  ga : findIn K (.ref C) "__getattribute__" = some (some (.builtin "BaseException.__getattribute__"))
  gg : findIn K (.ref C) "__getattr__" = some none
  noN : findIn K (.ref C) "number" = some none
  iC : findIn K (.ref C) "__init__" = some (some (.ref fI))
  tC : typeIn K (.ref fI) = some (.type "function")
  kC : keepIn K (.ref C) = true
  exC : subIn K (.ref C) (.type "BaseException") = some true
  tyC : typeIn K (.ref C) = some (.type "type")
  hdC : hasDictIn K C = true
  te : exmOne K (.ref C) (.ref C) = some true
  fn : ∃ (oc : Value) (od : Option Addr) (doc pm : Value) (an : Option Addr) (cdv ct : Value) (osl : Array (Option Value)) (p1 p2 q1 q2 q3 q4 : Pos),
    K.lookup fI = some ⟨oc, od, .func (fnOf "__init__" "Refused.__init__" (iA p1 p2) (iB q1 q2 q3 q4) iS .none .none doc pm an cdv ct), osl⟩ ∧ codeIn K cdv "Refused.__init__" = true
theorem one_size (v : Value) : [v].length ≤ sizeLine := by
  rw [sizeLine_eq]
  exact (by decide : 1 ≤ 16777216)
theorem kept_but {K : Frag} {h h' : Heap} {x : Addr} (X : K.In h) (hx : K.lookup x = none) (k : ∀ b o, b ≠ x → h.get? b = some o → h'.get? b = some o) : K.In h' := fun a o e =>
  k a o (fun z => by rw [z, hx] at e; cases e) (X a o e)
theorem ldC {M : Model} {s : Shared} {name : Str} {scope : Scope} {L a : Addr} {cd : Value} {m : Str → Option Value} {x : Str} {pos : Pos} {v : Value} {Q : Value → Shared → Prop} {A : Around} {E : Value → Shared → Prop} (hn : s.heap.Ns L m) (hv : m x = some v) (h : Q v s)
    (hk : scope.kind = .function := by rfl) (hl : (envOfC name scope L a cd).kindOf x = some .local := by rfl) (hd : (x == ("__debug__" : Str)) = false := by decide) :
    wpAny M A (eval (.Name x pos) (envOfC name scope L a cd)) Q E s := wpAny_Name (wpAny_loadName_local hk hl hn hv h) hd
/-- what __init__ leaves of a fresh exception at x -/
structure InitEnd (h h' : Heap) (x C dx t1 : Addr) (v : Value) : Prop where
  keep : ∀ b o, b ≠ x → h.get? b = some o → h'.get? b = some o
  obj : h'.get? x = some { cls := .ref C, dict := some dx, data := .fields #[.ref t1, .none, .none, .none, .bool false, .none] }
  dbig : h.objs.size ≤ dx
  dne : dx ≠ x
  ns : h'.Ns1 dx (fun y => if y = "number" then some v else none)
/-- a made Low -/
structure OwnMade (h h' : Heap) (e C d : Addr) (v : Value) : Prop where
  keep : ∀ b o, h.get? b = some o → h'.get? b = some o
  new : h.objs.size ≤ e
  obj : ∃ oe vs, h'.get? e = some oe ∧ oe.cls = .ref C ∧ oe.dict = some d ∧ oe.data = .fields vs ∧ vs[1]? = some .none
  dbig : h.objs.size ≤ d
  dne : d ≠ e
  ns : h'.Ns1 d (fun y => if y = "number" then some v else none)
section
variable {prog : Program} {w : World} {A : Around} {E : Value → Shared → Prop} {R : Result → Shared → Prop} {s : Shared} {K : Frag} {mg : Str → Option Value} {C fI : Addr}
theorem low_init (T : LowTxt K mg C fI) {x t0 : Addr} {v : Value} (X : K.In s.heap) (hlim : s.heap.NoLimit) (hx : s.heap.get? x = some (excO C t0)) (hnx : K.lookup x = none) (hroom : A.depth < recursionLimit)
    (hq : ∀ h' tk dx, InitEnd s.heap h' x C dx t0 v → R (.ok (.ret .none)) { s with heap := h', toks := tk }) :
    codeAny (model prog w) A (.call (.ref fI) ⟨[.ref x, v], []⟩) R s := by
  obtain ⟨oc, od, doc, pm, an, cdv, ct, osl, p1, p2, q1, q2, q3, q4, ho, hcd⟩ := T.fn
  obtain ⟨nm, q, N, bs, bm, sn, sub, ab, col, dd, k0, k1, k2, k3, k5, hC, hbm⟩ := T.cls
  have hcl : clsIn K C = some { name := nm, bases := bs, mro := .ref C :: bm, ns := N, qualname := q, hasDict := true, slotNames := sn, subclasses := sub, abstract := ab, collection := col, hasDel := false } := by unfold clsIn; rw [hC] <;> rfl
  refine Att.call_fn (binds := [("self", .ref x), ("number", v)]) X hlim ho hcd hroom (BindsTo.of_eq (by first | rfl | with_unfolding_all rfl)) (by first | rfl | decide | with_unfolding_all rfl) (fun s₁ IC => ?_) rfl rfl rfl
  obtain ⟨h₁, tk₁, rfl⟩ := IC.toInCall.same
  have k : ∀ b o, s.heap.get? b = some o → h₁.get? b = some o := IC.toInCall.keep
  have hn := IC.toInCall.ns
  have hxL : s.heap.objs.size ≠ x := Nat.ne_of_gt (Heap.lt_size hx)
  have X₁ : K.In h₁ := X.keeps k
  have hx₁ := k _ _ hx
  -- self.by = by
  show wpAny _ _ (execs _ _) _ _ _
  refine wpAny_execs_cons (plainObj_wpAny_Assign_Attribute ?_)
  refine ldC (v := v) hn (by first | rfl | with_unfolding_all rfl | kernel_rfl) (ldC (v := .ref x) hn (by first | rfl | with_unfolding_all rfl | kernel_rfl) ?_)
  refine set_plain X₁ (ox := excO C t0) (od := none) ⟨hx₁, rfl, rfl, trivial⟩ T.sa ?_
  refine exc_osa X₁ hx₁ hcl (show refsVE (.ref C :: bm) = true from hbm) rfl T.noN (fun h₃ tk₃ dx k₃ dn dne hx₃ hn₃ => ?_)
  show wpAny _ _ (execs _ _) _ _ _
  have z : s.heap.objs.size < h₁.objs.size := hn.lt
  exact wpAny_execs_nil (hq h₃ tk₃ dx ⟨fun b o hb e => k₃ b o hb (k b o e), hx₃, Nat.le_of_lt (Nat.lt_of_lt_of_le z dn), dne, hn₃⟩)
theorem low_made (T : LowTxt K mg C fI) {v : Value} (X : K.In s.heap) (hlim : s.heap.NoLimit) (hroom : A.depth + 1 < recursionLimit)
    (hq : ∀ h' tk e d, OwnMade s.heap h' e C d v → R (.ok (.ret (.ref e))) { s with heap := h', toks := tk }) :
    codeAny (model prog w) A (.call (.ref C) ⟨[v], []⟩) R s := by
  obtain ⟨nm, q, N, bs, bm, sn, sub, ab, col, dd, k0, k1, k2, k3, k5, hC, hbm⟩ := T.cls
  obtain ⟨hp, g, dr, tk, os⟩ := s
  have k : ∀ b o, hp.get? b = some o → ((hp.push (kdv_tup [v])).push (excO C hp.objs.size)).get? b = some o := fun b o e => Heap.get?_push_of_some _ (Heap.get?_push_of_some _ e)
  have hget : ((hp.push (kdv_tup [v])).push (excO C hp.objs.size)).get? (hp.objs.size + 1) = some (excO C hp.objs.size) := by heap_get
  have hnx : K.lookup (hp.objs.size + 1) = none := by
    cases e : K.lookup (hp.objs.size + 1) with
    | none => rfl
    | some o =>
      have z : hp.get? (hp.objs.size + 1) = some o := X _ _ e
      exact absurd (Nat.lt_of_succ_lt (Heap.lt_size z)) (Nat.lt_irrefl _)
  refine call_own F.excBase_ValueError (fun X => refsVE_contains X bm hbm) (X _ _ hC) (looks_findIn X T.iC) (fun self => bind_fn X self T.tC) (one_size v) ?_
  refine low_init (s := ⟨(hp.push (kdv_tup [v])).push (excO C hp.objs.size), g, dr, tk, os⟩) T (X.keeps k) (hlim.keeps k) hget hnx ?_ fun h' tk' dx ⟨k', hx, dn, dne, hns⟩ => ?_
  · show A.depth + 1 < recursionLimit
    exact hroom
  · have old : ∀ b o, hp.get? b = some o → h'.get? b = some o := fun b o e => k' b o (Nat.ne_of_lt (Nat.lt_succ_of_lt (Heap.lt_size e))) (k b o e)
    have z : hp.objs.size + 1 + 1 ≤ dx := by
      first
        | (simpa only [Heap.size_push] using dn)
        | exact dn
        | (have q := dn; rw [Heap.size_push, Heap.size_push] at q; exact q)
    exact ⟨rfl, hq h' tk' (hp.objs.size + 1) dx ⟨old, Nat.le_succ _, ⟨_, _, hx, rfl, rfl, rfl, rfl⟩, Nat.le_trans (Nat.le_trans (Nat.le_succ _) (Nat.le_succ _)) z, dne, hns⟩⟩
end
end LowX
end PySem
namespace L2
open PySem PySem.Spec PyProof.Rows
theorem relO_low {v : V} {v' : Value} (r : RelV v v') (f : Str) : RelO (List.lookup f [(("number" : Str), v)]) (if f = "number" then some v' else none) := by
  by_cases hw : f = "number"
  · subst hw
    rw [if_pos rfl]
    have q : List.lookup ("number" : Str) [(("number" : Str), v)] = some v := by simp [List.lookup]
    rw [q]
    exact r
  · rw [if_neg hw]
    have qw : (f == ("number" : Str)) = false := by simpa using hw
    have q2 : List.lookup f [(("number" : Str), v)] = none := by simp [List.lookup, qw]
    rw [q2]
    trivial
section
variable {X : Cx} {C fI : Addr}
/-- Low(e) -/
def tMkLow (C : Addr) (ta : TA) : St → Hp → XK → Prop := fun σ H Q => ta σ H fun vs H1 => ∃ v, vs = [v] ∧ ∀ d, H1 d = none → Q (.ref C) (some d) (upd H1 d (.xd [(("number" : Str), v)]))
theorem pmk_low {a : Expr} {ta : TA} {p pos : Pos} {k : Nat} (T : PySem.LowX.LowTxt X.K X.mg C fI) (hr : Room k X.A) (ha : PA X [a] ta) (hg : Gl X "Refused" := by rfl)
    (he : starEach (a :: []) X.env = (false, eval a X.env) :: starEach [] X.env := by rfl) (hpl : (backTo pos (starEach [] X.env)).any (·.1) = false := by rfl) :
    PMk X (.Call (.Name "Refused" p) [a] [] pos) (tMkLow C ta) := by
  intro pins s σ H Q I h
  refine wpAny_Call_Name_kw (ld_glob I hg T.gC ?_)
  refine PySem.W.callWith_K (h₀ := X.base) I.ok.mod.kin T.kC (thn (ha.run pos pins s σ H _ I h) fun us s1 hh => ?_) he hpl
  obtain ⟨vs, H1, I1, r1, v, ev, q1⟩ := hh
  subst ev
  refine ⟨I1.kIn, ?_⟩
  cases r1 with
  | cons rv rn =>
    rename_i v' us'
    cases rn
    show wpAny _ _ (call (.ref C) [v']) _ _ _
    have hlim := I1.nolimit
    obtain ⟨hp, g, dr, tk, os⟩ := s1
    refine wpAny_call (PySem.LowX.low_made T I1.kIn hlim (by have := hr.dp; omega) fun h' tk' e d M => ?_)
    show MkP X pins σ Q (.ref e) ⟨h', g, dr, tk', os⟩
    obtain ⟨oe, fv, hoe, hc, hd, hdat, h1⟩ := M.obj
    have hns := M.ns
    obtain ⟨G', g1, g2⟩ := restrict h' fun b => decide (b ≠ e)
    have gk : ∀ b, b ≠ e → G'.get? b = h'.get? b := fun b hb => g1 b (decide_eq_true hb)
    have ge : G'.get? e = none := g2 e (by simp)
    have old : ∀ b o, hp.get? b = some o → G'.get? b = some o := fun b o q => (gk b (Nat.ne_of_lt (Nat.lt_of_lt_of_le (Heap.lt_size q) M.new))).trans (M.keep b o q)
    have ob : ObjOk X.prog X.w (upd H1 d (.xd [(("number" : Str), v)])) G' d (.xd [(("number" : Str), v)]) :=
      ⟨_, hns.at (fun o q => (gk d M.dne).trans q), fun f => relO_low rv f⟩
    have J : Inv X pins σ (upd H1 d (.xd [(("number" : Str), v)])) ⟨G', g, dr, tk', os⟩ := I1.laid (t' := tk') old M.dbig ob
    refine ⟨e, oe, fv, ⟨G', g, dr, tk', os⟩, _, .ref C, some d, rfl, J, fun b o q => ?_, ge, hoe, ⟨hc, hd⟩, hdat, h1, ?_, rfl, I1.bare, raises_own T.exC T.tyC, q1 d (I1.hok.fresh M.dbig)⟩
    · by_cases hb : b = e
      · have q' : G'.get? b = some o := q
        rw [hb, ge] at q'; cases q'
      · exact (gk b hb).symm.trans q
    · rw [upd_ne (Ne.symm M.dne)]
      exact I1.hok.fresh M.new
/-- raise Low(e) -/
def tRaiseLow (C : Addr) (W : WX) (ta : TA) : TS := fun _ σ H => tMkLow C ta σ H fun cls d H' => W cls d σ H'
theorem ps_raiseLow {a : Expr} {ta : TA} {W : WX} {p pos pos2 : Pos} {k : Nat} (hc : X.calm = true) (T : PySem.LowX.LowTxt X.K X.mg C fI) (hr : Room k X.A) (tk : Takes X W) (ha : PA X [a] ta) (hg : Gl X "Refused" := by rfl)
    (he : starEach (a :: []) X.env = (false, eval a X.env) :: starEach [] X.env := by rfl) (hpl : (backTo pos (starEach [] X.env)).any (·.1) = false := by rfl) :
    PS X (.Raise (some (.Call (.Name "Refused" p) [a] [] pos)) none pos2) (tRaiseLow C W ta) := ps_raise hc tk (pmk_low T hr ha hg he hpl)
/-- low.by, low the exception that the suite holds (at a; its class cls, its dict d) -/
def tByLow (C : Addr) (a : Addr) (cls : Value) (d : Option Addr) (te : TE) : TE := fun σ H Q => te σ H fun x H1 => x = .ref a ∧ cls = .ref C ∧ ∃ (dd : Addr) (v : V), d = some dd ∧ H1 dd = some (.xd [(("number" : Str), v)]) ∧ Q v H1
theorem pe_byLow {a : Addr} {oe : Obj} {cls : Value} {d : Option Addr} {pn : List (Addr × Obj)} {e : Expr} {te : TE} {pos : Pos} (T : PySem.LowX.LowTxt X.K X.mg C fI) (hz : Zc cls d oe) (hf : ∃ vs, oe.data = .fields vs) (he : PE (X.suite a ((a, oe) :: pn)) e te)
    (hb : attributeBase e "number" X.env (eval e X.env) = eval e X.env := by rfl) :
    PE (X.suite a ((a, oe) :: pn)) (.Attribute e "number" pos) (tByLow C a cls d te) := by
  refine ⟨fun pins s σ H Q I h => ?_⟩
  refine attr_of hb (thn (he.run pins s σ H _ I h) fun u s1 hh => ?_)
  obtain ⟨x, H1, I1, rx, ex, ec, dd, v, ed, ea, q⟩ := hh
  subst ex
  obtain rfl : u = Value.ref a := rx
  subst ec
  subst ed
  obtain ⟨ha, _⟩ := I1.pin (a, oe) (List.mem_append_left _ List.mem_cons_self)
  obtain ⟨vs, hd⟩ := hf
  have hx : ObjOk X.prog X.w H1 s1.heap dd (.xd [(("number" : Str), v)]) := I1.hok dd _ ea
  obtain ⟨mA, hns, hr⟩ := hx
  obtain ⟨od, ho, hl⟩ := lookIn_ns hns
  have l : List.lookup ("number" : Str) [(("number" : Str), v)] = some v := by simp [List.lookup]
  obtain ⟨u, hu, ru⟩ := RelO.some_of (v := v) (o := mA "number") (by rw [← l]; exact hr "number")
  have J : PySem.W.InstAt s1.heap a oe C (some od) := ⟨ha, hz.1, by unfold PySem.W.notCls; rw [hd] <;> rfl, by rw [hz.2]; exact ho⟩
  exact HandSPX.exc_get I1.kIn J T.ga T.gg T.exC (PySem.W.findObj_own T.hdC T.noN rfl (by rw [hl, hu])) (handed_of ru) ⟨v, H1, I1.tok _, ru, q⟩
end
end L2

namespace L2
open PySem PySem.Spec PyProof.Rows
/-- an if whose test is known -/
theorem if_true_of {c : Bool} {A B : Prop} (hc : c = true) (h : A) : if c = true then A else B := by
  rw [if_pos hc]
  exact h
theorem if_false_of {c : Bool} {A B : Prop} (hc : c = false) (h : B) : if c = true then A else B := by
  rw [hc, if_neg Bool.false_ne_true]
  exact h
end L2
namespace Jp
open PySem PySem.Spec PyProof.Rows L2
open Kg77 (State)
/-! ### The classes, the defs: where they stand -/
structure Ts where
  panel : Addr
  box : Addr
  turns : Addr
  plan : Addr
  strike : Addr
  pick : Addr
  holder : Addr
  ref : Addr
  refI : Addr
/-! ### Short words -/
theorem val_I {g : Int → Int → V} {σ : L2.St} {H : Hp} {ta tb : TE} {i j : Int} (ha : Val ta σ H (.int i)) (hb : Val tb σ H (.int j)) : Val (tOp (rI0 g) ta tb) σ H (g i j) :=
  val_op ha hb fun Q q => ⟨i, j, rfl, rfl, q⟩
theorem val_eq {σ : L2.St} {H : Hp} {ta tb : TE} {x y : V} (ha : Val ta σ H x) (hb : Val tb σ H y) (hs : scal x y = true := by rfl) : Val (tOp rEq ta tb) σ H (.bl (decide (x = y))) :=
  val_op ha hb fun Q q => ⟨hs, q⟩
theorem val_ne {σ : L2.St} {H : Hp} {ta tb : TE} {x y : V} (ha : Val ta σ H x) (hb : Val tb σ H y) (hs : scal x y = true := by rfl) : Val (tOp rNe ta tb) σ H (.bl (!decide (x = y))) :=
  val_op ha hb fun Q q => ⟨hs, q⟩
/-- a test's answer, by a value -/
theorem ans_v {σ : L2.St} {H : Hp} {te : TE} {b : Bool} (h : Val te σ H (.bl b)) : Ans (tTest te) σ H b := fun Q q => h _ ⟨b, rfl, q⟩
theorem st_if {σ : L2.St} {H : Hp} {c : TT} {t1 t2 : TS} {D : Ends} {b : Bool} (h : Ans c σ H b) (h1 : b = true → t1 D σ H) (h2 : b = false → t2 D σ H) : tIfS c t1 t2 D σ H := by
  cases b with
  | true => exact st_yes h (h1 rfl)
  | false => exact st_no h (h2 rfl)
/-- arguments -/
def Args (ta : TA) (σ : L2.St) (H : Hp) (vs : List V) : Prop := ∀ Q : List V → Hp → Prop, Q vs H → ta σ H Q
theorem args_nil {σ : L2.St} {H : Hp} : Args tNil σ H [] := fun Q q => q
theorem args_cons {σ : L2.St} {H : Hp} {te : TE} {ta : TA} {v : V} {vs : List V} (h1 : Val te σ H v) (h2 : Args ta σ H vs) : Args (tCons te ta) σ H (v :: vs) := fun Q q =>
  h1 _ (h2 _ q)
theorem go_call {sp : Sp} {E : XK} {ta : TA} {σ : L2.St} {H : Hp} {vs : List V} {Q : VK} (h : Args ta σ H vs) (q : sp vs H Q E) : tCall sp [] E ta σ H Q := h _ (by rw [List.append_nil]; exact q)
theorem go_meth {C : Addr} {mm : Str} {sp : Sp} {E : XK} {to : TE} {ta : TA} {σ : L2.St} {H : Hp} {vs : List V} {Q : VK} {a dx : Addr} {fs : List (Str × V)} (ho : Val to σ H (.ref a)) (hi : H a = some (.ins C dx fs)) (hl : fs.lookup mm = none) (h : Args ta σ H vs)
    (q : sp (.ref a :: vs) H Q E) : tMeth C mm sp [] E to ta σ H Q := ho _ ⟨a, dx, fs, rfl, hi, hl, h _ (by rw [List.append_nil]; exact q)⟩
theorem go_make {C : Addr} {sp : Sp} {E : XK} {ta : TA} {σ : L2.St} {H : Hp} {vs : List V} {Q : VK} (h : Args ta σ H vs)
    (q : ∀ x dx, H x = none → H dx = none → dx ≠ x → sp (.ref x :: vs) (upd (upd H dx (.own x)) x (.ins C dx [])) (fun v H2 => v = .non ∧ Q (.ref x) H2) E) : tMake C sp [] E ta σ H Q := h _ fun x dx h1 h2 h3 => by
  rw [List.append_nil]
  exact q x dx h1 h2 h3
theorem lk_here {k : Str} {v : V} {r : List (Str × V)} : List.lookup k ((k, v) :: r) = some v := by
  have e : (k == k) = true := beq_self_eq_true k
  simp only [List.lookup, e]
theorem lk_past {k g : Str} {v : V} {r : List (Str × V)} (h : (k == g) = false) : List.lookup k ((g, v) :: r) = List.lookup k r := by
  simp only [List.lookup, h]
theorem put_here {f : Str} {v x : V} {r : List (Str × V)} : putF f v ((f, x) :: r) = (f, v) :: r := if_pos rfl
theorem put_past {f g : Str} {v x : V} {r : List (Str × V)} (h : ¬ g = f) : putF f v ((g, x) :: r) = (g, x) :: putF f v r := if_neg h
/-! ### How a picking lies in the heap -/
structure Ad where
  p : Addr
  pn : Addr
  fl : Addr
  pl : Addr
  rl : Addr
  bx : Addr
  sl : Addr
  tn : Addr
  tl : Addr
  jl : Addr
  al : Addr
def Ad.all (A : Ad) : List Addr := [A.p, A.pn, A.fl, A.pl, A.rl, A.bx, A.sl, A.tn, A.tl, A.jl, A.al]
def nV (n : Nat) : V := .int (n : Int)
def oV (o : Option Nat) : V := .int (Kg77.opt o)
def bV (b : Bool) : V := .int (if b = true then 1 else 0)
def nVs (l : List Nat) : List V := l.map nV
def oVs (l : List (Option Nat)) : List V := l.map oV
def panelF (A : Ad) : List (Str × V) := [("fates", .ref A.fl)]
def planF (A : Ad) (r : Kg77.Rules) : List (Str × V) := [("seats", nV r.seats), ("alternates", nV r.alternates), ("for_alternates", nV r.extra), ("uses_up", bV r.passCosts), ("row", .ref A.rl)]
def boxF (A : Ad) : List (Str × V) := [("seats", .ref A.sl)]
def turnsF (A : Ad) (m : State) : List (Str × V) := [("row", .ref A.rl), ("strikes", .ref A.tl), ("at", nV m.turn), ("passes", nV m.passes)]
def pickF (A : Ad) (m : State) (l : V) : List (Str × V) := [("panel", .ref A.pn), ("plan", .ref A.pl), ("phase", nV m.phase), ("box", .ref A.bx), ("turns", .ref A.tn), ("last", l), ("jury", .ref A.jl), ("alternates", .ref A.al), ("least", nV m.least)]
def strikeF (x : Nat × Nat × Nat) : List (Str × V) := [("side", nV x.2.2), ("who", nV x.1), ("seat", nV x.2.1)]
def LastAt (T : Ts) (H : Hp) (o : Option (Nat × Nat × Nat)) (l : V) : Prop := match o with
  | none => l = .non
  | some x => ∃ la dx, l = .ref la ∧ H la = some (.ins T.strike dx (strikeF x))
structure PAt (T : Ts) (A : Ad) (H : Hp) (m : State) : Prop where
  p : ∃ dx l, H A.p = some (.ins T.pick dx (pickF A m l)) ∧ LastAt T H m.last l
  pn : ∃ dx, H A.pn = some (.ins T.panel dx (panelF A))
  fl : H A.fl = some (.lst (nVs m.panel))
  pl : ∃ dx, H A.pl = some (.ins T.plan dx (planF A m.rules))
  rl : H A.rl = some (.lst (nVs m.rules.turns))
  bx : ∃ dx, H A.bx = some (.ins T.box dx (boxF A))
  sl : H A.sl = some (.lst (oVs m.box))
  tn : ∃ dx, H A.tn = some (.ins T.turns dx (turnsF A m))
  tl : H A.tl = some (.lst [nV m.leftA, nV m.leftB])
  jl : H A.jl = some (.lst (nVs m.jury))
  al : H A.al = some (.lst (nVs m.spare))
  nd : A.all.Nodup
theorem ad_ne {l : List Addr} (nd : l.Nodup) (i j : Nat) {x y : Addr} (hi : l[i]? = some x) (hj : l[j]? = some y) (h : i ≠ j) : x ≠ y := fun e => h (nd_ix nd hi (by rw [e]; exact hj))
/-- what a step changes: of what was tracked the addresses of L alone; the addresses of L' are of L or new -/
structure To (L : List Addr) (H : Hp) (L' : List Addr) (H' : Hp) : Prop where
  keep : ∀ a o, a ∉ L → H a = some o → H' a = some o
  own : ∀ a, a ∈ L' → a ∈ L ∨ H a = none
theorem To.refl (L : List Addr) (H : Hp) : To L H L H := ⟨fun _ _ _ e => e, fun _ h => .inl h⟩
theorem To.trans {L L1 L2 : List Addr} {H H1 H2 : Hp} (a : To L H L1 H1) (b : To L1 H1 L2 H2) : To L H L2 H2 := by
  have none_of : ∀ x, x ∉ L → H1 x = none → H x = none := fun x hx e => by
    cases q : H x with
    | none => rfl
    | some o => rw [a.keep x o hx q] at e; cases e
  refine ⟨fun x o hx e => b.keep x o (fun z => ?_) (a.keep x o hx e), fun x hx => ?_⟩
  · rcases a.own x z with q | q
    · exact hx q
    · rw [e] at q; cases q
  · rcases b.own x hx with q | q
    · exact a.own x q
    · by_cases h : x ∈ L
      · exact .inl h
      · exact .inr (none_of x h q)
theorem To.upd {L : List Addr} {H : Hp} {x : Addr} {o : HO} (h : x ∈ L) : To L H L (L2.upd H x o) := ⟨fun a u ha e => by
  rw [upd_ne (fun z => ha (by rw [z]; exact h))]; exact e, fun _ h => .inl h⟩
theorem To.new {L : List Addr} {H : Hp} {x : Addr} {o : HO} (h : H x = none) : To L H L (L2.upd H x o) := ⟨fun a u ha e => by
  rw [upd_ne (ne_of_none e h)]; exact e, fun _ h => .inl h⟩
theorem To.incl {L L' : List Addr} {H : Hp} (h : ∀ a, a ∈ L' → a ∈ L ∨ H a = none) : To L H L' H := ⟨fun _ _ _ e => e, h⟩
theorem To.mono {L L' M : List Addr} {H H' : Hp} (t : To L H L' H') : To (M ++ L) H (M ++ L') H' := ⟨fun a o ha e => t.keep a o (fun z => ha (List.mem_append_right _ z)) e, fun a ha => by
  rcases List.mem_append.mp ha with z | z
  · exact .inl (List.mem_append_left _ z)
  · exact (t.own a z).imp (List.mem_append_right _) id⟩
/-- new at q, and q taken in -/
theorem To.take {L : List Addr} {H : Hp} {x : Addr} {o : HO} (h : H x = none) : To L H (x :: L) (L2.upd H x o) := ⟨fun a u ha e => by
  rw [upd_ne (ne_of_none e h)]; exact e, fun a ha => (List.mem_cons.mp ha).elim (fun z => .inr (by rw [z]; exact h)) .inl⟩
theorem To.fresh {L L' : List Addr} {H H' : Hp} {a : Addr} (t : To L H L' H') (hl : a ∉ L) (h : H' a = none) : H a = none := by
  cases q : H a with
  | none => rfl
  | some o => rw [t.keep a o hl q] at h; cases h
/-- what stands at an address of the picking is no strike -/
def NotStrike (o : Option HO) : Prop := ∀ C dx x, o ≠ some (.ins C dx (strikeF x))
theorem ns_lst {xs : List V} : NotStrike (some (.lst xs)) := fun C dx x z => by cases z
theorem ns_none : NotStrike none := fun C dx x z => by cases z
theorem ns_ins {C dx : Addr} {fs : List (Str × V)} (h : fs.length ≠ 3) : NotStrike (some (.ins C dx fs)) := fun C' dx' x z => by
  injection z with z
  injection z with _ _ z
  rw [z] at h
  exact h rfl
theorem ns_own {a : Addr} : NotStrike (some (.own a)) := fun C dx x z => by cases z
theorem LastAt.upd {T : Ts} {H : Hp} {o : Option (Nat × Nat × Nat)} {l : V} (h : LastAt T H o l) {x : Addr} {u : HO} (n : NotStrike (H x)) : LastAt T (L2.upd H x u) o l := by
  cases o with
  | none => exact h
  | some y =>
    obtain ⟨la, dx, e, hla⟩ := h
    refine ⟨la, dx, e, ?_⟩
    rw [upd_ne (fun z => n _ _ _ (by rw [← z]; exact hla))]
    exact hla
theorem LastAt.keep {T : Ts} {H H' : Hp} {o : Option (Nat × Nat × Nat)} {l : V} (h : LastAt T H o l) (k : ∀ a u, H a = some u → ¬ NotStrike (some u) → H' a = some u) : LastAt T H' o l := by
  cases o with
  | none => exact h
  | some y =>
    obtain ⟨la, dx, e, hla⟩ := h
    exact ⟨la, dx, e, k la _ hla (fun z => z _ _ _ rfl)⟩
theorem wr {L : List Addr} {H : Hp} (nd : L.Nodup) {i : Nat} {x : Addr} (hx : L[i]? = some x) (o : HO) (j : Nat) {y : Addr} {u : HO} (hy : L[j]? = some y) (n : j ≠ i) (h : H y = some u) : L2.upd H x o y = some u := by
  rw [upd_ne (ad_ne nd j i hy hx n)]
  exact h
section
variable {T : Ts} {A : Ad} {H : Hp} {m : State}
theorem PAt.setPanel (P : PAt T A H m) (f : List Nat) : PAt T A (L2.upd H A.fl (.lst (nVs f))) { m with panel := f } := by
  have nsx : NotStrike (H A.fl) := (by rw [P.fl]; exact ns_lst)
  have w := fun j {y : Addr} {u : HO} => wr (H := H) P.nd (i := 2) (x := A.fl) rfl (.lst (nVs f)) j (y := y) (u := u)
  exact ⟨P.p.imp fun dx h => h.imp fun l h => ⟨w 0 rfl (by decide) h.1, h.2.upd nsx⟩, P.pn.imp fun dx h => w 1 rfl (by decide) h, upd_same, P.pl.imp fun dx h => w 3 rfl (by decide) h, w 4 rfl (by decide) P.rl, P.bx.imp fun dx h => w 5 rfl (by decide) h, w 6 rfl (by decide) P.sl, P.tn.imp fun dx h => w 7 rfl (by decide) h, w 8 rfl (by decide) P.tl, w 9 rfl (by decide) P.jl, w 10 rfl (by decide) P.al, P.nd⟩
theorem PAt.setBox (P : PAt T A H m) (b : List (Option Nat)) : PAt T A (L2.upd H A.sl (.lst (oVs b))) { m with box := b } := by
  have nsx : NotStrike (H A.sl) := (by rw [P.sl]; exact ns_lst)
  have w := fun j {y : Addr} {u : HO} => wr (H := H) P.nd (i := 6) (x := A.sl) rfl (.lst (oVs b)) j (y := y) (u := u)
  exact ⟨P.p.imp fun dx h => h.imp fun l h => ⟨w 0 rfl (by decide) h.1, h.2.upd nsx⟩, P.pn.imp fun dx h => w 1 rfl (by decide) h, w 2 rfl (by decide) P.fl, P.pl.imp fun dx h => w 3 rfl (by decide) h, w 4 rfl (by decide) P.rl, P.bx.imp fun dx h => w 5 rfl (by decide) h, upd_same, P.tn.imp fun dx h => w 7 rfl (by decide) h, w 8 rfl (by decide) P.tl, w 9 rfl (by decide) P.jl, w 10 rfl (by decide) P.al, P.nd⟩
theorem PAt.setLeft (P : PAt T A H m) (a b : Nat) : PAt T A (L2.upd H A.tl (.lst [nV a, nV b])) { m with leftA := a, leftB := b } := by
  have nsx : NotStrike (H A.tl) := (by rw [P.tl]; exact ns_lst)
  have w := fun j {y : Addr} {u : HO} => wr (H := H) P.nd (i := 8) (x := A.tl) rfl (.lst [nV a, nV b]) j (y := y) (u := u)
  exact ⟨P.p.imp fun dx h => h.imp fun l h => ⟨w 0 rfl (by decide) h.1, h.2.upd nsx⟩, P.pn.imp fun dx h => w 1 rfl (by decide) h, w 2 rfl (by decide) P.fl, P.pl.imp fun dx h => w 3 rfl (by decide) h, w 4 rfl (by decide) P.rl, P.bx.imp fun dx h => w 5 rfl (by decide) h, w 6 rfl (by decide) P.sl, P.tn.imp fun dx h => w 7 rfl (by decide) h, upd_same, w 9 rfl (by decide) P.jl, w 10 rfl (by decide) P.al, P.nd⟩
theorem PAt.setJury (P : PAt T A H m) (b : List Nat) : PAt T A (L2.upd H A.jl (.lst (nVs b))) { m with jury := b } := by
  have nsx : NotStrike (H A.jl) := (by rw [P.jl]; exact ns_lst)
  have w := fun j {y : Addr} {u : HO} => wr (H := H) P.nd (i := 9) (x := A.jl) rfl (.lst (nVs b)) j (y := y) (u := u)
  exact ⟨P.p.imp fun dx h => h.imp fun l h => ⟨w 0 rfl (by decide) h.1, h.2.upd nsx⟩, P.pn.imp fun dx h => w 1 rfl (by decide) h, w 2 rfl (by decide) P.fl, P.pl.imp fun dx h => w 3 rfl (by decide) h, w 4 rfl (by decide) P.rl, P.bx.imp fun dx h => w 5 rfl (by decide) h, w 6 rfl (by decide) P.sl, P.tn.imp fun dx h => w 7 rfl (by decide) h, w 8 rfl (by decide) P.tl, upd_same, w 10 rfl (by decide) P.al, P.nd⟩
theorem PAt.setSpare (P : PAt T A H m) (b : List Nat) : PAt T A (L2.upd H A.al (.lst (nVs b))) { m with spare := b } := by
  have nsx : NotStrike (H A.al) := (by rw [P.al]; exact ns_lst)
  have w := fun j {y : Addr} {u : HO} => wr (H := H) P.nd (i := 10) (x := A.al) rfl (.lst (nVs b)) j (y := y) (u := u)
  exact ⟨P.p.imp fun dx h => h.imp fun l h => ⟨w 0 rfl (by decide) h.1, h.2.upd nsx⟩, P.pn.imp fun dx h => w 1 rfl (by decide) h, w 2 rfl (by decide) P.fl, P.pl.imp fun dx h => w 3 rfl (by decide) h, w 4 rfl (by decide) P.rl, P.bx.imp fun dx h => w 5 rfl (by decide) h, w 6 rfl (by decide) P.sl, P.tn.imp fun dx h => w 7 rfl (by decide) h, w 8 rfl (by decide) P.tl, w 9 rfl (by decide) P.jl, upd_same, P.nd⟩
theorem PAt.setTurns (P : PAt T A H m) {dx : Addr} (hx : H A.tn = some (.ins T.turns dx (turnsF A m))) (a b : Nat) : PAt T A (L2.upd H A.tn (.ins T.turns dx (turnsF A { m with turn := a, passes := b }))) { m with turn := a, passes := b } := by
  have nsx : NotStrike (H A.tn) := (by rw [hx]; exact ns_ins (by show (4 : Nat) ≠ 3; decide))
  have w := fun j {y : Addr} {u : HO} => wr (H := H) P.nd (i := 7) (x := A.tn) rfl (.ins T.turns dx (turnsF A { m with turn := a, passes := b })) j (y := y) (u := u)
  exact ⟨P.p.imp fun dx h => h.imp fun l h => ⟨w 0 rfl (by decide) h.1, h.2.upd nsx⟩, P.pn.imp fun dx h => w 1 rfl (by decide) h, w 2 rfl (by decide) P.fl, P.pl.imp fun dx h => w 3 rfl (by decide) h, w 4 rfl (by decide) P.rl, P.bx.imp fun dx h => w 5 rfl (by decide) h, w 6 rfl (by decide) P.sl, ⟨dx, upd_same⟩, w 8 rfl (by decide) P.tl, w 9 rfl (by decide) P.jl, w 10 rfl (by decide) P.al, P.nd⟩
theorem PAt.setPick (P : PAt T A H m) {dx : Addr} {l : V} (hx : H A.p = some (.ins T.pick dx (pickF A m l))) (ph ls : Nat) (o : Option (Nat × Nat × Nat)) (l' : V) (hl : LastAt T H o l') : PAt T A (L2.upd H A.p (.ins T.pick dx (pickF A { m with phase := ph, last := o, least := ls } l'))) { m with phase := ph, last := o, least := ls } := by
  have nsx : NotStrike (H A.p) := (by rw [hx]; exact ns_ins (by show (9 : Nat) ≠ 3; decide))
  have w := fun j {y : Addr} {u : HO} => wr (H := H) P.nd (i := 0) (x := A.p) rfl (.ins T.pick dx (pickF A { m with phase := ph, last := o, least := ls } l')) j (y := y) (u := u)
  exact ⟨⟨dx, l', upd_same, hl.upd nsx⟩, P.pn.imp fun dx h => w 1 rfl (by decide) h, w 2 rfl (by decide) P.fl, P.pl.imp fun dx h => w 3 rfl (by decide) h, w 4 rfl (by decide) P.rl, P.bx.imp fun dx h => w 5 rfl (by decide) h, w 6 rfl (by decide) P.sl, P.tn.imp fun dx h => w 7 rfl (by decide) h, w 8 rfl (by decide) P.tl, w 9 rfl (by decide) P.jl, w 10 rfl (by decide) P.al, P.nd⟩
theorem PAt.all_some (P : PAt T A H m) {a : Addr} (h : a ∈ A.all) : ∃ u, H a = some u ∧ NotStrike (some u) := by
  obtain ⟨dx, l, h0, _⟩ := P.p
  obtain ⟨d1, h1⟩ := P.pn
  obtain ⟨d3, h3⟩ := P.pl
  obtain ⟨d5, h5⟩ := P.bx
  obtain ⟨d7, h7⟩ := P.tn
  have h2 := P.fl
  have h4 := P.rl
  have h6 := P.sl
  have h8 := P.tl
  have h9 := P.jl
  have h10 := P.al
  unfold Ad.all at h
  simp only [List.mem_cons, List.not_mem_nil, or_false] at h
  rcases h with h | h | h | h | h | h | h | h | h | h | h
  · rw [h]; exact ⟨_, h0, ns_ins (by show (9 : Nat) ≠ 3; decide)⟩
  · rw [h]; exact ⟨_, h1, ns_ins (by show (1 : Nat) ≠ 3; decide)⟩
  · rw [h]; exact ⟨_, h2, ns_lst⟩
  · rw [h]; exact ⟨_, h3, ns_ins (by show (5 : Nat) ≠ 3; decide)⟩
  · rw [h]; exact ⟨_, h4, ns_lst⟩
  · rw [h]; exact ⟨_, h5, ns_ins (by show (1 : Nat) ≠ 3; decide)⟩
  · rw [h]; exact ⟨_, h6, ns_lst⟩
  · rw [h]; exact ⟨_, h7, ns_ins (by show (4 : Nat) ≠ 3; decide)⟩
  · rw [h]; exact ⟨_, h8, ns_lst⟩
  · rw [h]; exact ⟨_, h9, ns_lst⟩
  · rw [h]; exact ⟨_, h10, ns_lst⟩
theorem PAt.out (P : PAt T A H m) {a : Addr} (h : H a = none) : a ∉ A.all := fun z => by
  obtain ⟨u, e, _⟩ := P.all_some z
  rw [h] at e
  cases e
/-- from where all that is tracked of it is kept -/
theorem PAt.keep {H' : Hp} (P : PAt T A H m) (k : ∀ a u, a ∈ A.all → H a = some u → H' a = some u) (k2 : ∀ a u, H a = some u → ¬ NotStrike (some u) → H' a = some u) : PAt T A H' m := by
  have q : ∀ (j : Nat) {y : Addr} {u : HO}, A.all[j]? = some y → H y = some u → H' y = some u := fun j y u hy e => k y u (List.mem_of_getElem? hy) e
  exact ⟨P.p.imp fun dx h => h.imp fun l h => ⟨q 0 rfl h.1, h.2.keep k2⟩, P.pn.imp fun dx h => q 1 rfl h, q 2 rfl P.fl, P.pl.imp fun dx h => q 3 rfl h, q 4 rfl P.rl, P.bx.imp fun dx h => q 5 rfl h, q 6 rfl P.sl, P.tn.imp fun dx h => q 7 rfl h, q 8 rfl P.tl, q 9 rfl P.jl, q 10 rfl P.al, P.nd⟩
theorem PAt.ext {H' : Hp} (P : PAt T A H m) (k : ∀ a u, H a = some u → H' a = some u) : PAt T A H' m := P.keep (fun a u _ => k a u) fun a u e _ => k a u e
theorem PAt.newO (P : PAt T A H m) {q : Addr} (h : H q = none) (o : HO) : PAt T A (L2.upd H q o) m := P.ext fun a u e => by
  rw [upd_ne (ne_of_none e h)]; exact e
/-- an object outside changes -/
theorem PAt.side (P : PAt T A H m) {q : Addr} (h : q ∉ A.all) (n : NotStrike (H q)) (o : HO) : PAt T A (L2.upd H q o) m := P.keep (fun a u ha e => by
  rw [upd_ne (fun z => h (by rw [← z]; exact ha))]; exact e) fun a u e ns => by
  rw [upd_ne (fun z => ns (by rw [← e, z]; exact n))]; exact e
end
end Jp
namespace Jp
open PySem PySem.Spec PyProof.Rows L2
open Kg77 (State)
theorem nd_set : ∀ {l : List Addr} {x : Addr} (i : Nat), l.Nodup → x ∉ l → (l.set i x).Nodup
  | [], _, _, h, _ => h
  | a :: l, x, 0, h, hx => by
    rw [List.nodup_cons] at h
    exact List.nodup_cons.mpr ⟨fun z => hx (List.mem_cons_of_mem _ z), h.2⟩
  | a :: l, x, i + 1, h, hx => by
    rw [List.nodup_cons] at h
    refine List.nodup_cons.mpr ⟨fun z => ?_, nd_set i h.2 fun z => hx (List.mem_cons_of_mem _ z)⟩
    rcases List.mem_or_eq_of_mem_set z with z | z
    · exact h.1 z
    · exact hx (by rw [← z]; exact List.mem_cons_self)
theorem nd_set2 {l : List Addr} {x y : Addr} (i j : Nat) (h : l.Nodup) (hx : x ∉ l) (hy : y ∉ l) (n : y ≠ x) : ((l.set i x).set j y).Nodup := nd_set j (nd_set i h hx) fun z => by
  rcases List.mem_or_eq_of_mem_set z with z | z
  · exact hy z
  · exact n z
theorem mem_set2 {l : List Addr} {x y a : Addr} {i j : Nat} (h : a ∈ (l.set i x).set j y) : a ∈ l ∨ a = x ∨ a = y := by
  rcases List.mem_or_eq_of_mem_set h with z | z
  · rcases List.mem_or_eq_of_mem_set z with z | z
    · exact .inl z
    · exact .inr (.inl z)
  · exact .inr (.inr z)
section
variable {T : Ts} {A : Ad} {H : Hp} {m : State}
theorem ns_pick {dx : Addr} {l : V} (hx : H A.p = some (.ins T.pick dx (pickF A m l))) : NotStrike (H A.p) := by rw [hx]; exact ns_ins (by show (9 : Nat) ≠ 3; decide)
theorem PAt.putBox (P : PAt T A H m) {dx : Addr} {l : V} (hx : H A.p = some (.ins T.pick dx (pickF A m l))) (hl : LastAt T H m.last l) {b s d : Addr} {bx : List (Option Nat)} (hb : H b = some (.ins T.box d (boxF { A with sl := s }))) (hs : H s = some (.lst (oVs bx)))
    (nb : b ∉ A.all) (ns : s ∉ A.all) (n : s ≠ b) : PAt T { A with bx := b, sl := s } (L2.upd H A.p (.ins T.pick dx (pickF { A with bx := b, sl := s } m l))) { m with box := bx } := by
  have nsx := ns_pick hx
  have w := fun j {y : Addr} {u : HO} => wr (H := H) P.nd (i := 0) (x := A.p) rfl (.ins T.pick dx (pickF { A with bx := b, sl := s } m l)) j (y := y) (u := u)
  have nb0 : b ≠ A.p := fun z => nb (by rw [z]; exact List.mem_cons_self)
  have ns0 : s ≠ A.p := fun z => ns (by rw [z]; exact List.mem_cons_self)
  exact ⟨⟨dx, l, upd_same, hl.upd nsx⟩, P.pn.imp fun dx h => w 1 rfl (by decide) h, w 2 rfl (by decide) P.fl, P.pl.imp fun dx h => w 3 rfl (by decide) h, w 4 rfl (by decide) P.rl, ⟨d, by rw [upd_ne nb0]; exact hb⟩, by rw [upd_ne ns0]; exact hs,
    P.tn.imp fun dx h => w 7 rfl (by decide) h, w 8 rfl (by decide) P.tl, w 9 rfl (by decide) P.jl, w 10 rfl (by decide) P.al, nd_set2 5 6 P.nd nb ns n⟩
theorem PAt.putTurns (P : PAt T A H m) {dx : Addr} {l : V} (hx : H A.p = some (.ins T.pick dx (pickF A m l))) (hl : LastAt T H m.last l) {b s d : Addr} {t q x y : Nat} (hb : H b = some (.ins T.turns d (turnsF { A with tl := s } { m with turn := t, passes := q }))) (hs : H s = some (.lst [nV x, nV y]))
    (nb : b ∉ A.all) (ns : s ∉ A.all) (n : s ≠ b) : PAt T { A with tn := b, tl := s } (L2.upd H A.p (.ins T.pick dx (pickF { A with tn := b, tl := s } m l))) { m with turn := t, passes := q, leftA := x, leftB := y } := by
  have nsx := ns_pick hx
  have w := fun j {y : Addr} {u : HO} => wr (H := H) P.nd (i := 0) (x := A.p) rfl (.ins T.pick dx (pickF { A with tn := b, tl := s } m l)) j (y := y) (u := u)
  have nb0 : b ≠ A.p := fun z => nb (by rw [z]; exact List.mem_cons_self)
  have ns0 : s ≠ A.p := fun z => ns (by rw [z]; exact List.mem_cons_self)
  exact ⟨⟨dx, l, upd_same, hl.upd nsx⟩, P.pn.imp fun dx h => w 1 rfl (by decide) h, w 2 rfl (by decide) P.fl, P.pl.imp fun dx h => w 3 rfl (by decide) h, w 4 rfl (by decide) P.rl, P.bx.imp fun dx h => w 5 rfl (by decide) h, w 6 rfl (by decide) P.sl,
    ⟨d, by rw [upd_ne nb0]; exact hb⟩, by rw [upd_ne ns0]; exact hs, w 9 rfl (by decide) P.jl, w 10 rfl (by decide) P.al, nd_set2 7 8 P.nd nb ns n⟩
theorem PAt.putJury (P : PAt T A H m) {dx : Addr} {l : V} (hx : H A.p = some (.ins T.pick dx (pickF A m l))) (hl : LastAt T H m.last l) {b : Addr} {j : List Nat} (hb : H b = some (.lst (nVs j))) (nb : b ∉ A.all) :
    PAt T { A with jl := b } (L2.upd H A.p (.ins T.pick dx (pickF { A with jl := b } m l))) { m with jury := j } := by
  have nsx := ns_pick hx
  have w := fun j {y : Addr} {u : HO} => wr (H := H) P.nd (i := 0) (x := A.p) rfl (.ins T.pick dx (pickF { A with jl := b } m l)) j (y := y) (u := u)
  have nb0 : b ≠ A.p := fun z => nb (by rw [z]; exact List.mem_cons_self)
  exact ⟨⟨dx, l, upd_same, hl.upd nsx⟩, P.pn.imp fun dx h => w 1 rfl (by decide) h, w 2 rfl (by decide) P.fl, P.pl.imp fun dx h => w 3 rfl (by decide) h, w 4 rfl (by decide) P.rl, P.bx.imp fun dx h => w 5 rfl (by decide) h, w 6 rfl (by decide) P.sl,
    P.tn.imp fun dx h => w 7 rfl (by decide) h, w 8 rfl (by decide) P.tl, by rw [upd_ne nb0]; exact hb, w 10 rfl (by decide) P.al, nd_set 9 P.nd nb⟩
theorem PAt.putSpare (P : PAt T A H m) {dx : Addr} {l : V} (hx : H A.p = some (.ins T.pick dx (pickF A m l))) (hl : LastAt T H m.last l) {b : Addr} {j : List Nat} (hb : H b = some (.lst (nVs j))) (nb : b ∉ A.all) :
    PAt T { A with al := b } (L2.upd H A.p (.ins T.pick dx (pickF { A with al := b } m l))) { m with spare := j } := by
  have nsx := ns_pick hx
  have w := fun j {y : Addr} {u : HO} => wr (H := H) P.nd (i := 0) (x := A.p) rfl (.ins T.pick dx (pickF { A with al := b } m l)) j (y := y) (u := u)
  have nb0 : b ≠ A.p := fun z => nb (by rw [z]; exact List.mem_cons_self)
  exact ⟨⟨dx, l, upd_same, hl.upd nsx⟩, P.pn.imp fun dx h => w 1 rfl (by decide) h, w 2 rfl (by decide) P.fl, P.pl.imp fun dx h => w 3 rfl (by decide) h, w 4 rfl (by decide) P.rl, P.bx.imp fun dx h => w 5 rfl (by decide) h, w 6 rfl (by decide) P.sl,
    P.tn.imp fun dx h => w 7 rfl (by decide) h, w 8 rfl (by decide) P.tl, w 9 rfl (by decide) P.jl, by rw [upd_ne nb0]; exact hb, nd_set 10 P.nd nb⟩
/-- .. and what that changes -/
theorem To.p (A : Ad) (H : Hp) (o : HO) {L : List Addr} (h : ∀ a, a ∈ L → a ∈ A.all ∨ H a = none) : To A.all H L (L2.upd H A.p o) := (To.upd List.mem_cons_self).trans ⟨fun _ _ _ e => e, fun a ha => by
  rcases h a ha with z | z
  · exact .inl z
  · by_cases c : a ∈ A.all
    · exact .inl c
    · exact .inr (by rw [upd_ne (fun q => c (by rw [q]; exact List.mem_cons_self))]; exact z)⟩

/-! ### The fields of a picking's objects are read -/
/-- what the top says of the classes that bear a picking -/
structure ClsTxt (K : PySem.W.Frag) (T : Ts) : Prop where
  panel : Cls K T.panel
  box : Cls K T.box
  turns : Cls K T.turns
  plan : Cls K T.plan
  strike : Cls K T.strike
  pick : Cls K T.pick
  holder : Cls K T.holder
  panelN : NoAttr K T.panel "fates"
  boxN : NoAttr K T.box "seats"
  turnsN : NoAttr K T.turns "row" ∧ NoAttr K T.turns "strikes" ∧ NoAttr K T.turns "at" ∧ NoAttr K T.turns "passes"
  planN : NoAttr K T.plan "seats" ∧ NoAttr K T.plan "alternates" ∧ NoAttr K T.plan "for_alternates" ∧ NoAttr K T.plan "uses_up" ∧ NoAttr K T.plan "row"
  strikeN : NoAttr K T.strike "side" ∧ NoAttr K T.strike "who" ∧ NoAttr K T.strike "seat"
  pickN : (NoAttr K T.pick "panel" ∧ NoAttr K T.pick "plan" ∧ NoAttr K T.pick "phase" ∧ NoAttr K T.pick "box" ∧ NoAttr K T.pick "turns") ∧ NoAttr K T.pick "last" ∧ NoAttr K T.pick "jury" ∧ NoAttr K T.pick "alternates" ∧ NoAttr K T.pick "least"
  holderN : NoAttr K T.holder "picking"
end
end Jp
namespace Jp
open PySem PySem.Spec PyProof.Rows L2
open Kg77 (State)
/-! ### A def of the text with its promise, in short -/
structure Gx where
  P : Program
  w : World
  K : PySem.W.Frag
  mg : Str → Option Value
  base : Heap
def DefOk (K : PySem.W.Frag) (x qual : Str) (st : Stmt) (ps : List Str) (f : Addr) : Prop := ∃ fd, Fun K x qual st f fd ∧ Binds K fd ps []
def Pr (g : Gx) (CX : CXT) (k : Nat) (f : Addr) (ps : List Str) (sp : Sp) : Prop := ∃ fd, FnOk g.P g.w g.K g.mg g.base CX k f fd ps sp ∧ Binds g.K fd ps []
def MOk (g : Gx) (k : Nat) (C : Addr) (mm : Str) (ps : List Str) (sp : Sp) : Prop := ∃ f, Meth g.K C mm f ∧ Pr g CX0 k f ps sp
def FOk (g : Gx) (CX : CXT) (k : Nat) (x : Str) (ps : List Str) (sp : Sp) : Prop := ∃ f, g.mg x = some (.ref f) ∧ PySem.W.keepIn g.K (.ref f) = true ∧ Pr g CX k f ps sp
def NOk (g : Gx) (k : Nat) (C : Addr) (x : Str) (ps : List Str) (sp : Sp) : Prop := ∃ f, Mk g.K C f ∧ g.mg x = some (.ref C) ∧ Pr g CX0 k f ps sp
abbrev gOf (X : Cx) : Gx := ⟨X.prog, X.w, X.K, X.mg, X.base⟩
section
variable {X : Cx} {k j : Nat} {C : Addr} {ps : List Str} {sp : Sp} {x m : Str} {p pos apos : Pos} {e o : Expr} {es : List Expr} {ta : TE} {t : TA}
theorem pm {pl : Sem Bool} (M : MOk (gOf X) k C m ps sp) (c : Cls X.K C) (hr : Room j X.A) (hj : k ≤ j) (he : PE X o ta) (ha : PA X (e :: es) t)
    (hst : starEach (e :: es) X.env = (false, eval e X.env) :: starEach es X.env := by rfl) (hpl : (backTo pos (starEach es X.env)).any (·.1) = false := by rfl)
    (ht : eval (.Call (.Attribute o m apos) (e :: es) [] pos) X.env = (do
      let ov ← eval o X.env
      standAt apos.atName
      let (f, first) ← holding [ov] (getMethod ov m pl)
      callWith pos f first (backTo pos (starEach (e :: es) X.env)) (backToKw pos (keywordEach [] X.env))) := by rfl) :
    PE X (.Call (.Attribute o m apos) (e :: es) [] pos) (tMeth C m sp [] E0 ta t) := by
  obtain ⟨f, hm, fd, F, b⟩ := M
  exact pe_meth he c hm F (hr.mono hj) b .nil pass0 ha hst hpl ht
theorem pm0 {pl : Sem Bool} (M : MOk (gOf X) k C m ps sp) (c : Cls X.K C) (hr : Room j X.A) (hj : k ≤ j) (he : PE X o ta)
    (ht : eval (.Call (.Attribute o m apos) [] [] pos) X.env = (do
      let ov ← eval o X.env
      standAt apos.atName
      let (f, first) ← holding [ov] (getMethod ov m pl)
      callWith pos f first (backTo pos (starEach [] X.env)) (backToKw pos (keywordEach [] X.env))) := by rfl) :
    PE X (.Call (.Attribute o m apos) [] [] pos) (tMeth C m sp [] E0 ta tNil) := by
  obtain ⟨f, hm, fd, F, b⟩ := M
  exact pe_meth0 he c hm F (hr.mono hj) b .nil pass0 ht
theorem pf (M : FOk (gOf X) CX0 k x ps sp) (hr : Room j X.A) (hj : k ≤ j) (hg : Gl X x) (ha : PA X (e :: es) t) (hdb : (x == ("__debug__" : Str)) = false := by decide) (he : starEach (e :: es) X.env = (false, eval e X.env) :: starEach es X.env := by rfl) (hpl : (backTo pos (starEach es X.env)).any (·.1) = false := by rfl) :
    PE X (.Call (.Name x p) (e :: es) [] pos) (tCall sp [] E0 t) := by
  obtain ⟨f, hm, hk, fd, F, b⟩ := M
  exact pe_call F (hr.mono hj) hg hm hk b .nil pass0 ha hdb he hpl
theorem pf0 (M : FOk (gOf X) CX0 k x ps sp) (hr : Room j X.A) (hj : k ≤ j) (hg : Gl X x) (hdb : (x == ("__debug__" : Str)) = false := by decide) :
    PE X (.Call (.Name x p) [] [] pos) (tCall sp [] E0 tNil) := by
  obtain ⟨f, hm, hk, fd, F, b⟩ := M
  exact pe_call0 F (hr.mono hj) hg hm hk b .nil pass0 hdb
/-- a def that may raise, called in a def that may -/
theorem pfX {E : XK} (M : FOk (gOf X) (L2.CX X.prog X.w) k x ps sp) (hr : Room j X.A) (hj : k ≤ j) (hg : Gl X x) (tk : Takes X (fun cls d _ H => E cls d H)) (ha : PA X (e :: es) t) (hdb : (x == ("__debug__" : Str)) = false := by decide) (he : starEach (e :: es) X.env = (false, eval e X.env) :: starEach es X.env := by rfl) (hpl : (backTo pos (starEach es X.env)).any (·.1) = false := by rfl) :
    PE X (.Call (.Name x p) (e :: es) [] pos) (tCall sp [] E t) := by
  obtain ⟨f, hm, hk, fd, F, b⟩ := M
  exact pe_call F (hr.mono hj) hg hm hk b .nil (passes_call tk fun _ _ _ _ h => h) ha hdb he hpl
theorem pn (M : NOk (gOf X) k C x ps sp) (hr : Room j X.A) (hj : k + 1 ≤ j) (hg : Gl X x) (ha : PA X (e :: es) t) (hdb : (x == ("__debug__" : Str)) = false := by decide) (he : starEach (e :: es) X.env = (false, eval e X.env) :: starEach es X.env := by rfl) (hpl : (backTo pos (starEach es X.env)).any (·.1) = false := by rfl) :
    PE X (.Call (.Name x p) (e :: es) [] pos) (tMake C sp [] E0 t) := by
  obtain ⟨f, mk, hm, fd, F, b⟩ := M
  exact pe_make mk F (hr.mono hj) hg hm b .nil pass0 ha hdb he hpl
theorem pn0 (M : NOk (gOf X) k C x ps sp) (hr : Room j X.A) (hj : k + 1 ≤ j) (hg : Gl X x) (hdb : (x == ("__debug__" : Str)) = false := by decide) :
    PE X (.Call (.Name x p) [] [] pos) (tMake C sp [] E0 tNil) := by
  obtain ⟨f, mk, hm, fd, F, b⟩ := M
  exact pe_make0 mk F (hr.mono hj) hg hm b .nil pass0 hdb
end
/-- a module's constant -/
def Con0 (mg : Str → Option Value) (x : Str) (i : Int) : Prop := ∃ t, mg x = some (.int i t)
theorem pc0 {X : Cx} {x : Str} {i : Int} {pos : Pos} (h : Con0 X.mg x i) (hg : Gl X x) (hd : (x == ("__debug__" : Str)) = false := by decide) : PE X (.Name x pos) (tC (.int i)) := by
  obtain ⟨t, e⟩ := h
  exact pe_glob hg e ⟨t, rfl⟩ hd
structure Mg (mg : Str → Option Value) : Prop where
  nobody : Con0 mg "NOBODY" (-1)
  waits : Con0 mg "WAITS" 0
  sits : Con0 mg "SITS" 1
  excused : Con0 mg "EXCUSED" 2
  struck : Con0 mg "STRUCK" 3
  alternate : Con0 mg "ALTERNATE" 5
  letgo : Con0 mg "LET_GO" 6
  noside : Con0 mg "NO_SIDE" (-1)
  passes : Con0 mg "PASSES_THAT_END" 2
  atbox : Con0 mg "AT_BOX" 0
  atalts : Con0 mg "AT_ALTERNATES" 1
  sworn : Con0 mg "SWORN" 2
  toofew : Con0 mg "TOO_FEW" 3
  over : Con0 mg "OVER" 4
  mpanel : Con0 mg "MOST_PANEL" 60
  mseats : Con0 mg "MOST_SEATS" 12
  malts : Con0 mg "MOST_ALTERNATES" 4
  mstrikes : Con0 mg "MOST_STRIKES" 10
  mfor : Con0 mg "MOST_FOR_ALTERNATES" 3
  mrow : Con0 mg "LONGEST_ROW" 10
  range : mg "range" = none
  len : mg "len" = none
  sum : mg "sum" = none
  max : mg "max" = none
  list : mg "list" = none
/-! ### The text -/
def top (i : Nat) : Stmt := PySem.Challenge.pw_jurypick_s01_answers.main.body.getD i (.Pass ⟨0, 0, 0, 0⟩)
/-! ### Panel and Box -/
theorem flat_nVs (l : List Nat) : (nVs l).all flatV = true := by
  rw [List.all_eq_true]
  intro x hx
  obtain ⟨n, _, rfl⟩ := List.mem_map.mp hx
  rfl
theorem flat_oVs (l : List (Option Nat)) : (oVs l).all flatV = true := by
  rw [List.all_eq_true]
  intro x hx
  obtain ⟨n, _, rfl⟩ := List.mem_map.mp hx
  rfl
theorem nVs_rep (n k : Nat) : nVs (List.replicate n k) = List.replicate n (nV k) := List.map_replicate
theorem oVs_rep (n : Nat) : oVs (List.replicate n none) = List.replicate n (.int (-1)) := List.map_replicate
theorem rep_more {α : Type} (n : Nat) (a : α) : List.replicate n a ++ [a] = List.replicate (n + 1) a := List.replicate_succ'.symm
def small (n : Nat) : Prop := n ≤ 1000
theorem small_line {n : Nat} (h : n ≤ 1000) : n ≤ sizeLine := Nat.le_trans h (by decide)
abbrev sPanelI : Stmt := inClass (top 8) 0
theorem scPanelI : FnScope ["self", "many", "person"] ["self", "many"] (defScope sPanelI) := ⟨rfl, rfl, rfl, by decide +kernel, rfl, by decide +kernel, by decide +kernel⟩
def spPanelI (T : Ts) : Sp := fun vs H Q _ => ∃ (x dx : Addr) (n : Nat), vs = [.ref x, nV n] ∧ H x = some (.ins T.panel dx []) ∧ n ≤ 1000 ∧
  ∀ fl, H fl = none → Q .non (L2.upd (L2.upd H fl (.lst (nVs (List.replicate n 0)))) x (.ins T.panel dx [("fates", .ref fl)]))
section
variable {g : Gx} {T : Ts} {f : Addr}
theorem ok_panelI (D : DefOk g.K "__init__" "Panel.__init__" sPanelI ["self", "many"] f) (C : ClsTxt g.K T) (G : Mg g.mg) : Pr g CX0 1 f ["self", "many"] (spPanelI T) := by
  obtain ⟨fd, F, b⟩ := D
  refine ⟨fd, ?_, b⟩
  refine F.ok scPanelI (fun vs H Q E h => ?_) (fun cdv A outer s H vs Q E hr h => ?_)
  · obtain ⟨x, dx, n, rfl, _⟩ := h
    rfl
  · obtain ⟨x, dx, n, rfl, hx, hn, q⟩ := h
    refine ⟨_, pss_one (ps_fld (pv 0) (pe_lc (own := [("person", 2)]) (g := gName 2) (tt := tYes) rfl scPanelI.nd (pi_range1 rfl G.range (pa_cons (pv 1) pa_nil)) (blkOk_by (N := ["self", "many", "person"]) (sc := defScope sPanelI) (by decide +kernel)) (fun _ _ _ _ _ => pg_name (i := 2) scPanelI.nd rfl (Or.inl rfl)) (fun _ _ _ _ _ => pts_nil) (fun _ _ _ _ _ => pc0 G.waits rfl)) rfl), ?_⟩
    refine ⟨_, rfl, (n : Int), rfl, by omega, by omega, fun D hD => ?_⟩
    refine lc_range (lo := 0) (n := n) (fun i H' => H' = L2.upd H D (.lst (nVs (List.replicate i 0)))) rfl (fun i H' hi e => ?_) (fun H' e => ?_)
    · subst e
      refine ⟨rfl, nVs (List.replicate i 0), upd_same, ?_, ?_⟩
      · rw [nVs_rep, List.length_replicate]
        exact Nat.lt_of_le_of_lt (show i ≤ 1000 by omega) (by decide)
      · rw [upd_upd, nVs_rep, nVs_rep]
        show L2.upd H D (.lst (List.replicate i (nV 0) ++ [nV 0])) = _
        rw [rep_more]
    · subst e
      refine ⟨_, rfl, x, T.panel, dx, [], rfl, ?_, C.panel, C.panelN, by show 0 < 1000; decide, q D hD⟩
      rw [upd_ne (ne_of_none hx hD)]
      exact hx
end
end Jp
namespace Jp
open PySem PySem.Spec PyProof.Rows L2
open Kg77 (State)
/-! ### lists of whole numbers -/
theorem nVs_ints (l : List Nat) : nVs l = (nZ l).map V.int := by
  unfold nVs nZ
  rw [List.map_map]
  rfl
theorem oVs_ints (l : List (Option Nat)) : oVs l = (opts l).map V.int := by
  unfold oVs opts
  rw [List.map_map]
  rfl
theorem flat_ints (l : List Int) : (l.map V.int).all flatV = true := by
  rw [List.all_eq_true]
  intro x hx
  obtain ⟨n, _, rfl⟩ := List.mem_map.mp hx
  rfl
theorem inV_int (z : Int) : ∀ l : List Int, inV (.int z) (l.map V.int) = l.contains z
  | [] => rfl
  | a :: l => by
    show ((a == z) || inV (.int z) (l.map V.int)) = _
    rw [inV_int z l, List.contains_cons]
    congr 1
    exact Bool.beq_comm
theorem ixN_nat {n i : Nat} (h : i < n) : ixN n (i : Int) = some i := by
  unfold ixN
  rw [if_pos (by omega), if_pos (by omega)]
  rfl
theorem nVs_set (l : List Nat) (i n : Nat) : (nVs l).set i (nV n) = nVs (l.set i n) := by
  unfold nVs
  rw [List.map_set]
theorem oVs_set (l : List (Option Nat)) (i : Nat) (o : Option Nat) : (oVs l).set i (oV o) = oVs (l.set i o) := by
  unfold oVs
  rw [List.map_set]
theorem len_nVs (l : List Nat) : (nVs l).length = l.length := List.length_map _
theorem len_oVs (l : List (Option Nat)) : (oVs l).length = l.length := List.length_map _
/-- x in a list of whole numbers -/
theorem val_in {K : PySem.W.Frag} {σ : L2.St} {H : Hp} {ta tb : TE} {z : Int} {p : Addr} {l : List Int} (ha : Val ta σ H (.int z)) (hb : Val tb σ H (.ref p)) (hp : SqL K H p (l.map V.int)) : Val (tOp (rIn K false) ta tb) σ H (.bl (l.contains z)) :=
  val_op ha hb fun Q q => ⟨p, _, rfl, .inl hp, rfl, flat_ints l, by rw [← inV_int z l] at q; exact q⟩
theorem val_notin {K : PySem.W.Frag} {σ : L2.St} {H : Hp} {ta tb : TE} {z : Int} {p : Addr} {l : List Int} (ha : Val ta σ H (.int z)) (hb : Val tb σ H (.ref p)) (hp : SqL K H p (l.map V.int)) : Val (tOp (rIn K true) ta tb) σ H (.bl (!l.contains z)) :=
  val_op ha hb fun Q q => ⟨p, _, rfl, .inl hp, rfl, flat_ints l, by rw [← inV_int z l] at q; exact q⟩
/-- l.index(x) -/
theorem val_index {K : PySem.W.Frag} {σ : L2.St} {H : Hp} {to ta : TE} {z : Int} {p : Addr} {l : List Int} {j : Nat} (ho : Val to σ H (.ref p)) (ha : Val ta σ H (.int z)) (hp : SqL K H p (l.map V.int)) (hj : l[j]? = some z) (hn : ∀ i, i < j → l[i]? ≠ some z) :
    Val (tBM K "list" (rIndex K) to (tCons ta tNil)) σ H (.int (j : Nat)) := fun Q q =>
  ho _ ⟨.inl ⟨rfl, _, hp⟩, ha _ ⟨p, _, .int z, j, .int z, rfl, rfl, hp, rfl, flat_ints l, by rw [List.getElem?_map, hj]; rfl, by show (z == z) = true; exact beq_self_eq_true z, fun i z' hi hz => by
    rw [List.getElem?_map] at hz
    cases e : l[i]? with
    | none => rw [e] at hz; cases hz
    | some y =>
      rw [e] at hz
      have : z' = .int y := (Option.some.inj hz).symm
      subst this
      show (y == z) = false
      exact beq_eq_false_iff_ne.mpr fun q => hn i hi (by rw [e, q]), q⟩⟩
theorem val_count {K : PySem.W.Frag} {σ : L2.St} {H : Hp} {to ta : TE} {z : Int} {p : Addr} {l : List Int} (ho : Val to σ H (.ref p)) (ha : Val ta σ H (.int z)) (hp : SqL K H p (l.map V.int)) :
    Val (tBM K "list" (rCntI K) to (tCons ta tNil)) σ H (.int ((l.count z : Nat) : Int)) := fun Q q =>
  ho _ ⟨.inl ⟨rfl, _, hp⟩, ha _ ⟨p, l, z, rfl, rfl, hp, q⟩⟩
theorem val_ix {K : PySem.W.Frag} {σ : L2.St} {H : Hp} {to ti : TE} {p : Addr} {xs : List V} {i : Nat} {v : V} (ho : Val to σ H (.ref p)) (hi : Val ti σ H (.int (i : Int))) (hp : SqL K H p xs) (hv : xs[i]? = some v) : Val (tOp (rIxL K) to ti) σ H v :=
  val_op ho hi fun Q q => ⟨p, xs, _, v, rfl, rfl, hp, atI_nat hv, q⟩
theorem val_len {K : PySem.W.Frag} {σ : L2.St} {H : Hp} {to : TE} {p : Addr} {xs : List V} (ho : Val to σ H (.ref p)) (hp : SqL K H p xs) : Val (tCB (fun xs H Q => ∃ p ys, xs = [V.ref p] ∧ (SqL K H p ys ∨ SqT K H p ys) ∧ Q (.int ys.length) H) (tCons to tNil)) σ H (.int (xs.length : Nat)) := fun Q q =>
  ho _ ⟨p, xs, rfl, .inl hp, q⟩
/-- o[i] = v -/
theorem st_item {σ : L2.St} {H : Hp} {tv to ti : TE} {D : Ends} {p : Addr} {xs : List V} {i : Nat} {v : V} (hv : Val tv σ H v) (ho : Val to σ H (.ref p)) (hi : Val ti σ H (.int (i : Int))) (hp : H p = some (.lst xs)) (hl : i < xs.length) (q : D.nx σ (L2.upd H p (.lst (xs.set i v)))) :
    tAsg tv (gSub to ti rSetL) D σ H := hv _ (ho _ (hi _ ⟨p, xs, _, i, rfl, rfl, hp, ixN_nat hl, q⟩))
theorem st_for1 {σ : L2.St} {H : Hp} {ta : TA} {gg : TG} {tb : TS} {D : Ends} {n : Nat} (h : Args ta σ H [.int (n : Int)]) (hn : n ≤ 1000000)
    (q : ∃ W : Nat → Nat → L2.St → Hp → Prop, (∃ m, W 0 m σ H) ∧ ∀ i m σ H, W i m σ H →
  ((Itr 0 n).stop i H ∧ D.nx σ H) ∨ ((Itr 0 n).go i H ∧ ∃ N : L2.St → Hp → Prop, (∀ σ' H', N σ' H' → ∃ m', m' < m ∧ W (i + 1) m' σ' H') ∧ ∀ x H', (Itr 0 n).yld i H x H' → gg x σ H' fun σ2 H2 => tb { D with nx := N, ct := N, bk := D.nx } σ2 H2)) :
    tFor (iRng1 ta) gg tb D σ H := h _ ⟨(n : Int), rfl, by omega, by omega, q⟩
theorem ints_get {l : List Nat} {i n : Nat} (h : l[i]? = some n) : (nZ l)[i]? = some (n : Int) := by
  unfold nZ
  rw [List.getElem?_map, h]
  rfl
theorem ints_ne {l : List Nat} {i n : Nat} (h : l[i]? ≠ some n) : (nZ l)[i]? ≠ some (n : Int) := fun z => h (by
  unfold nZ at z
  rw [List.getElem?_map] at z
  cases e : l[i]? with
  | none => rw [e] at z; cases z
  | some y =>
    rw [e] at z
    have : (y : Int) = (n : Int) := Option.some.inj z
    rw [Int.ofNat.inj this])
theorem ints_contains (l : List Nat) (n : Nat) : (nZ l).contains (n : Int) = l.contains n := by
  rw [Bool.eq_iff_iff, List.contains_iff_mem, List.contains_iff_mem]
  unfold nZ
  rw [List.mem_map]
  exact ⟨fun ⟨a, h, e⟩ => Int.ofNat.inj e ▸ h, fun h => ⟨n, h, rfl⟩⟩
theorem ints_count (l : List Nat) (n : Nat) : (nZ l).count (n : Int) = l.count n := by
  induction l with
  | nil => rfl
  | cons a l ih =>
    show ((a : Int) :: nZ l).count (n : Int) = (a :: l).count n
    rw [List.count_cons, List.count_cons, ih]
    congr 1
    by_cases c : a = n
    · subst c; simp
    · have : ¬ (a : Int) = (n : Int) := fun z => c (Int.ofNat.inj z)
      simp [c, this]
theorem opts_none (b : List (Option Nat)) : (opts b).contains (-1) = true ↔ none ∈ b := by
  rw [List.contains_iff_mem]
  unfold opts
  rw [List.mem_map]
  constructor
  · rintro ⟨a, h, e⟩
    cases a with
    | none => exact h
    | some n =>
      have e' : (n : Int) = -1 := e
      omega
  · exact fun h => ⟨none, h, rfl⟩
theorem full_opts (m : State) : (!(opts m.box).contains (-1)) = m.full := by
  rw [Bool.eq_iff_iff]
  unfold State.full
  rw [List.all_eq_true, Bool.not_eq_true']
  constructor
  · intro h x hx
    cases x with
    | none => rw [(opts_none _).mpr hx] at h; cases h
    | some y => rfl
  · intro h
    cases e : (opts m.box).contains (-1) with
    | false => rfl
    | true => exact absurd (h none ((opts_none _).mp e)) (by decide)
/-! ### the parts of a picking, read -/
section
variable {K : PySem.W.Frag} {T : Ts} {A : Ad} {H : Hp} {m : State} {σ : L2.St} {ta : TE}
theorem PAt.vFates (P : PAt T A H m) (C : ClsTxt K T) (h : Val ta σ H (.ref A.pn)) : Val (tFld K ta "fates") σ H (.ref A.fl) := by
  obtain ⟨dx, e⟩ := P.pn
  exact val_fld h e C.panel C.panelN rfl
theorem PAt.vSeats (P : PAt T A H m) (C : ClsTxt K T) (h : Val ta σ H (.ref A.bx)) : Val (tFld K ta "seats") σ H (.ref A.sl) := by
  obtain ⟨dx, e⟩ := P.bx
  exact val_fld h e C.box C.boxN rfl
theorem PAt.fl' (P : PAt T A H m) : SqL K H A.fl ((nZ m.panel).map V.int) := SqL.of (by rw [← nVs_ints]; exact P.fl)
theorem PAt.sl' (P : PAt T A H m) : SqL K H A.sl ((opts m.box).map V.int) := SqL.of (by rw [← oVs_ints]; exact P.sl)
theorem PAt.jl' (P : PAt T A H m) : SqL K H A.jl ((nZ m.jury).map V.int) := SqL.of (by rw [← nVs_ints]; exact P.jl)
theorem PAt.al' (P : PAt T A H m) : SqL K H A.al ((nZ m.spare).map V.int) := SqL.of (by rw [← nVs_ints]; exact P.al)
end
abbrev sBoxI : Stmt := inClass (top 9) 0
theorem scBoxI : FnScope ["self", "seats", "seat"] ["self", "seats"] (defScope sBoxI) := ⟨rfl, rfl, rfl, by decide +kernel, rfl, by decide +kernel, by decide +kernel⟩
def spBoxI (T : Ts) : Sp := fun vs H Q _ => ∃ (x dx : Addr) (n : Nat), vs = [.ref x, nV n] ∧ H x = some (.ins T.box dx []) ∧ n ≤ 1000 ∧
  ∀ sl, H sl = none → Q .non (L2.upd (L2.upd H sl (.lst (oVs (List.replicate n none)))) x (.ins T.box dx [("seats", .ref sl)]))
section
variable {g : Gx} {T : Ts} {f : Addr}
theorem ok_boxI (D : DefOk g.K "__init__" "Box.__init__" sBoxI ["self", "seats"] f) (C : ClsTxt g.K T) (G : Mg g.mg) : Pr g CX0 1 f ["self", "seats"] (spBoxI T) := by
  obtain ⟨fd, F, b⟩ := D
  refine ⟨fd, ?_, b⟩
  refine F.ok scBoxI (fun vs H Q E h => ?_) (fun cdv A outer s H vs Q E hr h => ?_)
  · obtain ⟨x, dx, n, rfl, _⟩ := h
    rfl
  · obtain ⟨x, dx, n, rfl, hx, hn, q⟩ := h
    refine ⟨_, pss_one (ps_fld (pv 0) (pe_lc (own := [("seat", 2)]) (g := gName 2) (tt := tYes) rfl scBoxI.nd (pi_range1 rfl G.range (pa_cons (pv 1) pa_nil)) (blkOk_by (N := ["self", "seats", "seat"]) (sc := defScope sBoxI) (by decide +kernel)) (fun _ _ _ _ _ => pg_name (i := 2) scBoxI.nd rfl (Or.inl rfl)) (fun _ _ _ _ _ => pts_nil) (fun _ _ _ _ _ => pc0 G.nobody rfl)) rfl), ?_⟩
    refine ⟨_, rfl, (n : Int), rfl, by omega, by omega, fun D hD => ?_⟩
    refine lc_range (lo := 0) (n := n) (fun i H' => H' = L2.upd H D (.lst (oVs (List.replicate i none)))) rfl (fun i H' hi e => ?_) (fun H' e => ?_)
    · subst e
      refine ⟨rfl, oVs (List.replicate i none), upd_same, ?_, ?_⟩
      · rw [oVs_rep, List.length_replicate]
        exact Nat.lt_of_le_of_lt (show i ≤ 1000 by omega) (by decide)
      · rw [upd_upd, oVs_rep, oVs_rep, rep_more]
    · subst e
      refine ⟨_, rfl, x, T.box, dx, [], rfl, ?_, C.box, C.boxN, by show 0 < 1000; decide, q D hD⟩
      rw [upd_ne (ne_of_none hx hD)]
      exact hx
end
/-! first_waiting, many_waiting -/
abbrev sFirst : Stmt := inClass (top 8) 1
theorem scFirst : FnScope ["self"] ["self"] (defScope sFirst) := ⟨rfl, rfl, rfl, by decide +kernel, rfl, by decide +kernel, by decide +kernel⟩
def spFirst (T : Ts) : Sp := fun vs H Q _ => ∃ (A : Ad) (m : State), vs = [.ref A.pn] ∧ PAt T A H m ∧ Q (.int (Kg77.opt m.next)) H
abbrev sMany : Stmt := inClass (top 8) 2
theorem scMany : FnScope ["self"] ["self"] (defScope sMany) := ⟨rfl, rfl, rfl, by decide +kernel, rfl, by decide +kernel, by decide +kernel⟩
def spMany (T : Ts) : Sp := fun vs H Q _ => ∃ (A : Ad) (m : State), vs = [.ref A.pn] ∧ PAt T A H m ∧ Q (.int (waits m)) H
section
variable {g : Gx} {T : Ts} {f : Addr}
theorem ok_first (D : DefOk g.K "first_waiting" "Panel.first_waiting" sFirst ["self"] f) (C : ClsTxt g.K T) (G : Mg g.mg) : Pr g CX0 1 f ["self"] (spFirst T) := by
  obtain ⟨fd, F, b⟩ := D
  refine ⟨fd, ?_, b⟩
  refine F.ok scFirst (fun vs H Q E h => ?_) (fun cdv A0 outer s H vs Q E hr h => ?_)
  · obtain ⟨A, m, rfl, _⟩ := h
    rfl
  · obtain ⟨A, m, rfl, P, q⟩ := h
    refine ⟨_, pss_cons (ps_if (pt_cmpR op_in_seq (pc0 G.waits rfl) (pe_fld (pv 0) rfl) rfl) (pss_one (ps_ret (pe_bm PySem.F.plainAttrs_list PySem.F.slot_list_index PySem.F.type_list_index mt_index (pe_fld (pv 0) rfl) (pa_cons (pc0 G.waits rfl) pa_nil)))) pss_nil)
      (pss_one (ps_ret (pc0 G.nobody rfl))), ?_⟩
    have vf : Val (tFld g.K (tVar 0) "fates") (start ["self"] [.ref A.pn]) H (.ref A.fl) := P.vFates C (val_var rfl)
    refine st_seq (st_if (ans_v (val_in val_c vf P.fl')) (fun c => ?_) (fun c => ?_))
    · rw [show (0 : Int) = ((0 : Nat) : Int) from rfl, ints_contains, List.contains_iff_mem] at c
      cases e : m.next with
      | none => exact absurd rfl (next_none e 0 c)
      | some i =>
        obtain ⟨h1, h2⟩ := next_some e
        rw [e] at q
        exact st_ret (val_index vf val_c P.fl' (ints_get h1) fun j hj => ints_ne (h2 j hj)) q
    · rw [show (0 : Int) = ((0 : Nat) : Int) from rfl, ints_contains] at c
      cases e : m.next with
      | none =>
        rw [e] at q
        exact q
      | some i =>
        have := List.mem_of_getElem? (next_some e).1
        rw [← List.contains_iff_mem] at this
        rw [this] at c
        cases c
theorem ok_many (D : DefOk g.K "many_waiting" "Panel.many_waiting" sMany ["self"] f) (C : ClsTxt g.K T) (G : Mg g.mg) : Pr g CX0 1 f ["self"] (spMany T) := by
  obtain ⟨fd, F, b⟩ := D
  refine ⟨fd, ?_, b⟩
  refine F.ok scMany (fun vs H Q E h => ?_) (fun cdv A0 outer s H vs Q E hr h => ?_)
  · obtain ⟨A, m, rfl, _⟩ := h
    rfl
  · obtain ⟨A, m, rfl, P, q⟩ := h
    refine ⟨_, pss_one (ps_ret (pe_bm PySem.F.plainAttrs_list PySem.F.slot_list_count PySem.F.type_list_count mt_lcount (pe_fld (pv 0) rfl) (pa_cons (pc0 G.waits rfl) pa_nil))), ?_⟩
    refine st_ret (val_count (P.vFates C (val_var rfl)) val_c P.fl') ?_
    rw [show (0 : Int) = ((0 : Nat) : Int) from rfl, ints_count]
    exact q
end
end Jp
namespace Jp
open PySem PySem.Spec PyProof.Rows L2
open Kg77 (State)
theorem opt_neg {o : Option Nat} : Kg77.opt o = -1 ↔ o = none := by
  cases o with
  | none => exact ⟨fun _ => rfl, fun _ => rfl⟩
  | some n => exact ⟨fun h => by have e : (n : Int) = -1 := h; omega, fun h => by cases h⟩
theorem oV_neg {o : Option Nat} : oV o = .int (-1) ↔ o = none := by
  unfold oV
  rw [V.int.injEq]
  exact opt_neg
theorem mem0 (A : Ad) {i : Nat} {x : Addr} (h : A.all[i]? = some x := by rfl) : x ∈ A.all := List.mem_of_getElem? h
/-! Box.put -/
abbrev sPut : Stmt := inClass (top 9) 2
theorem scPut : FnScope ["self", "panel", "seat", "person"] ["self", "panel", "seat", "person"] (defScope sPut) := ⟨rfl, rfl, rfl, by decide +kernel, rfl, by decide +kernel, by decide +kernel⟩
def putM (m : State) (i p : Nat) : State := { (m.mark p 1) with box := m.box.set i (some p) }
def spPut (T : Ts) : Sp := fun vs H Q _ => ∃ (A : Ad) (m : State) (i p : Nat), vs = [.ref A.bx, .ref A.pn, nV i, nV p] ∧ PAt T A H m ∧ i < m.box.length ∧ p < m.panel.length ∧
  ∀ H', PAt T A H' (putM m i p) → To A.all H A.all H' → Q .non H'
section
variable {g : Gx} {T : Ts} {f : Addr}
theorem ok_put (D : DefOk g.K "put" "Box.put" sPut ["self", "panel", "seat", "person"] f) (C : ClsTxt g.K T) (G : Mg g.mg) : Pr g CX0 1 f ["self", "panel", "seat", "person"] (spPut T) := by
  obtain ⟨fd, F, b⟩ := D
  refine ⟨fd, ?_, b⟩
  refine F.ok scPut (fun vs H Q E h => ?_) (fun cdv A0 outer s H vs Q E hr h => ?_)
  · obtain ⟨A, m, i, p, rfl, _⟩ := h
    rfl
  · obtain ⟨A, m, i, p, rfl, P, hi, hp, q⟩ := h
    refine ⟨_, pss_cons (ps_asg (pv 3) (pg_sub (pe_fld (pv 0) rfl) (pv 2) set_list)) (pss_one (ps_asg (pc0 G.sits rfl) (pg_sub (pe_fld (pv 1) rfl) (pv 3) set_list))), ?_⟩
    refine st_seq (st_item (val_var rfl) (P.vSeats C (val_var rfl)) (val_var rfl) P.sl ?_ ?_)
    · rw [len_oVs]
      exact hi
    · have P1 : PAt T A (L2.upd H A.sl (.lst ((oVs m.box).set i (nV p)))) { m with box := m.box.set i (some p) } := by
        have := P.setBox (m.box.set i (some p))
        rw [← oVs_set] at this
        exact this
      refine st_item val_c (P1.vFates C (val_var rfl)) (val_var rfl) P1.fl ?_ ?_
      · rw [len_nVs]
        exact hp
      · refine q _ ?_ ((To.upd (mem0 A (i := 6))).trans (To.upd (mem0 A (i := 2))))
        have := P1.setPanel (m.panel.set p 1)
        rw [← nVs_set] at this
        exact this
end
/-! Box.leave -/
abbrev sLeave : Stmt := inClass (top 9) 3
theorem scLeave : FnScope ["self", "panel", "person", "fate", "seat"] ["self", "panel", "person", "fate"] (defScope sLeave) := ⟨rfl, rfl, rfl, by decide +kernel, rfl, by decide +kernel, by decide +kernel⟩
def spLeave (T : Ts) : Sp := fun vs H Q _ => ∃ (A : Ad) (m : State) (p n k : Nat), vs = [.ref A.bx, .ref A.pn, nV p, nV n] ∧ PAt T A H m ∧ seatP m p = some k ∧ p < m.panel.length ∧
  ∀ H', PAt T A H' (leaveP m p k n) → To A.all H A.all H' → Q (nV k) H'
theorem seat_first {m : State} {p k : Nat} (h : seatP m p = some k) : (opts m.box)[k]? = some (p : Int) ∧ ∀ j, j < k → (opts m.box)[j]? ≠ some (p : Int) := by
  have h1 := seat_iff h
  refine ⟨by unfold opts; rw [List.getElem?_map, h1]; rfl, fun j hj z => ?_⟩
  unfold seatP at h
  rw [List.findIdx?_eq_some_iff_getElem] at h
  obtain ⟨hk, _, h2⟩ := h
  have := h2 j hj
  unfold opts at z
  rw [List.getElem?_map, List.getElem?_eq_getElem (by omega)] at z
  have e : Kg77.opt m.box[j] = (p : Int) := Option.some.inj z
  cases e2 : m.box[j] with
  | none =>
    rw [e2] at e
    have e' : (-1 : Int) = (p : Int) := e
    omega
  | some y =>
    rw [e2] at e
    have e' : (y : Int) = (p : Int) := e
    have e3 : y = p := by omega
    rw [e2, e3] at this
    simp at this
section
variable {g : Gx} {T : Ts} {f : Addr}
theorem ok_leave (D : DefOk g.K "leave" "Box.leave" sLeave ["self", "panel", "person", "fate"] f) (C : ClsTxt g.K T) (G : Mg g.mg) : Pr g CX0 1 f ["self", "panel", "person", "fate"] (spLeave T) := by
  obtain ⟨fd, F, b⟩ := D
  refine ⟨fd, ?_, b⟩
  refine F.ok scLeave (fun vs H Q E h => ?_) (fun cdv A0 outer s H vs Q E hr h => ?_)
  · obtain ⟨A, m, p, n, k, rfl, _⟩ := h
    rfl
  · obtain ⟨A, m, p, n, k, rfl, P, hk, hp, q⟩ := h
    refine ⟨_, pss_cons (ps_set (i := 4) scLeave.nd rfl (Or.inl rfl) (pe_bm PySem.F.plainAttrs_list PySem.F.slot_list_index PySem.F.type_list_index mt_index (pe_fld (pv 0) rfl) (pa_cons (pv 2) pa_nil)))
      (pss_cons (ps_asg (pc0 G.nobody rfl) (pg_sub (pe_fld (pv 0) rfl) (pv 4) set_list)) (pss_cons (ps_asg (pv 3) (pg_sub (pe_fld (pv 1) rfl) (pv 2) set_list)) (pss_one (ps_ret (pv 4))))), ?_⟩
    have hki := seat_iff hk
    have hkl := (List.getElem?_eq_some_iff.mp hki).1
    obtain ⟨s1, s2⟩ := seat_first hk
    refine st_seq (st_set (val_index (P.vSeats C (val_var rfl)) (val_var rfl) P.sl' s1 s2) ?_)
    refine st_seq (st_item val_c (P.vSeats C (val_var rfl)) (val_var rfl) P.sl ?_ ?_)
    · rw [len_oVs]
      exact hkl
    · have P1 : PAt T A (L2.upd H A.sl (.lst ((oVs m.box).set k (oV none)))) { m with box := m.box.set k none } := by
        have := P.setBox (m.box.set k none)
        rw [← oVs_set] at this
        exact this
      refine st_seq (st_item (val_var rfl) (P1.vFates C (val_var rfl)) (val_var rfl) P1.fl ?_ ?_)
      · rw [len_nVs]
        exact hp
      · refine ⟨_, rfl, q _ ?_ ((To.upd (mem0 A (i := 6))).trans (To.upd (mem0 A (i := 2))))⟩
        have := P1.setPanel (m.panel.set p n)
        rw [← nVs_set] at this
        exact this
end
/-! Box.suffices -/
abbrev sSuff : Stmt := inClass (top 9) 4
theorem scSuff : FnScope ["self"] ["self"] (defScope sSuff) := ⟨rfl, rfl, rfl, by decide +kernel, rfl, by decide +kernel, by decide +kernel⟩
def spSuff (T : Ts) : Sp := fun vs H Q _ => ∃ (A : Ad) (m : State), vs = [.ref A.bx] ∧ PAt T A H m ∧ Q (.bl m.full) H
section
variable {g : Gx} {T : Ts} {f : Addr}
theorem ok_suff (D : DefOk g.K "suffices" "Box.suffices" sSuff ["self"] f) (C : ClsTxt g.K T) (G : Mg g.mg) : Pr g CX0 1 f ["self"] (spSuff T) := by
  obtain ⟨fd, F, b⟩ := D
  refine ⟨fd, ?_, b⟩
  refine F.ok scSuff (fun vs H Q E h => ?_) (fun cdv A0 outer s H vs Q E hr h => ?_)
  · obtain ⟨A, m, rfl, _⟩ := h
    rfl
  · obtain ⟨A, m, rfl, P, q⟩ := h
    refine ⟨_, pss_one (ps_ret (pe_cmpR op_notIn_seq (pc0 G.nobody rfl) (pe_fld (pv 0) rfl) rfl)), ?_⟩
    refine st_ret (val_notin val_c (P.vSeats C (val_var rfl)) P.sl') ?_
    rw [full_opts]
    exact q
end
/-! Box.fill -/
abbrev sFill : Stmt := inClass (top 9) 1
theorem scFill : FnScope ["self", "panel", "seat", "person"] ["self", "panel"] (defScope sFill) := ⟨rfl, rfl, rfl, by decide +kernel, rfl, by decide +kernel, by decide +kernel⟩
def spFill (T : Ts) : Sp := fun vs H Q _ => ∃ (A : Ad) (m : State), vs = [.ref A.bx, .ref A.pn] ∧ PAt T A H m ∧ m.box.length ≤ 1000 ∧
  ∀ H', PAt T A H' (m.fill m.box.length) → To A.all H A.all H' → Q .non H'
def fillN (m : State) (i : Nat) : State := (List.range i).foldl fillStep m
theorem fillN_succ (m : State) (i : Nat) : fillN m (i + 1) = fillStep (fillN m i) i := by
  unfold fillN
  rw [List.range_succ, List.foldl_append]
  rfl
theorem fillStep_len (m : State) (i : Nat) : (fillStep m i).box.length = m.box.length := by
  unfold fillStep
  split
  · exact List.length_set
  · rfl
theorem fillN_len (m : State) : ∀ i, (fillN m i).box.length = m.box.length
  | 0 => rfl
  | i + 1 => by rw [fillN_succ, fillStep_len, fillN_len m i]
theorem oVs_get {b : List (Option Nat)} {i : Nat} {o : Option Nat} (h : b[i]? = some o) : (oVs b)[i]? = some (oV o) := by
  unfold oVs
  rw [List.getElem?_map, h]
  rfl
section
variable {g : Gx} {T : Ts} {f : Addr}
theorem ok_fill (D : DefOk g.K "fill" "Box.fill" sFill ["self", "panel"] f) (C : ClsTxt g.K T) (G : Mg g.mg) (M1 : MOk g 1 T.panel "first_waiting" ["self"] (spFirst T)) (M2 : MOk g 1 T.box "put" ["self", "panel", "seat", "person"] (spPut T)) : Pr g CX0 2 f ["self", "panel"] (spFill T) := by
  obtain ⟨fd, F, b⟩ := D
  refine ⟨fd, ?_, b⟩
  refine F.ok scFill (fun vs H Q E h => ?_) (fun cdv A0 outer s H vs Q E hr h => ?_)
  · obtain ⟨A, m, rfl, _⟩ := h
    rfl
  · obtain ⟨A, m, rfl, P, hl, q⟩ := h
    refine ⟨_, pss_one (ps_for PassesOwn.never rfl (pi_range1 rfl G.range (pa_cons (pe_callB call_len_seq (by rfl) G.len PySem.boot_len (pa_cons (pe_fld (pv 0) rfl) pa_nil)) pa_nil)) (pg_name (i := 2) scFill.nd rfl (Or.inl rfl))
      (pss_cons (ps_set (i := 3) scFill.nd rfl (Or.inl rfl) (pm0 M1 C.panel hr (by decide) (pv 1)))
        (pss_one (ps_if (PW.pt (pw_and (pt_cmpR op_eq (pe_ix ix_list (pe_fld (pv 0) rfl) (pv 2) (fun _ _ => rfl)) (pc0 G.nobody rfl) (nomark _)) (pw_and1 (pt_cmpR op_ne (pv 3) (pc0 G.nobody rfl) (nomark _)))))
          (pss_one (ps_expr (pm M2 C.box hr (by decide) (pv 0) (pa_cons (pv 1) (pa_cons (pv 2) (pa_cons (pv 3) pa_nil)))))) pss_nil)))), ?_⟩
    refine st_for1 (n := m.box.length) ?_ (by omega) ?_
    · refine args_cons ?_ args_nil
      have := val_len (K := g.K) (P.vSeats C (ta := tVar 0) (σ := start ["self", "panel", "seat", "person"] [.ref A.bx, .ref A.pn]) (val_var rfl)) (SqL.of P.sl)
      rw [len_oVs] at this
      exact this
    · refine for_range (lo := 0) (n := m.box.length) (fun i σ H' => (∃ v w, σ = [some (.ref A.bx), some (.ref A.pn), v, w]) ∧ PAt T A H' (fillN m i) ∧ To A.all H A.all H') ⟨⟨none, none, rfl⟩, P, To.refl _ _⟩ ?_ ?_
      · rintro i σ H' hi ⟨⟨v, w, rfl⟩, P1, t1⟩
        have hi' : i < (fillN m i).box.length := by rw [fillN_len]; exact hi
        obtain ⟨dpn, hpn⟩ := P1.pn
        refine go_meth (a := A.pn) (val_var rfl) hpn rfl args_nil ⟨A, _, rfl, P1, ?_⟩
        have ee : (0 : Int) + (i : Int) = (i : Int) := by omega
        have hg : (fillN m i).box[i]? = some ((fillN m i).box[i]) := List.getElem?_eq_getElem hi'
        have vi : Val (tVar 2) [some (V.ref A.bx), some (V.ref A.pn), some (V.int (0 + (i : Int))), some (V.int (Kg77.opt (fillN m i).next))] H' (.int (i : Int)) := by
          rw [ee]; exact val_var rfl
        refine st_if (ans_and2 (ans_v (val_eq (val_ix (P1.vSeats C (val_var rfl)) vi (SqL.of P1.sl) (oVs_get hg)) val_c)) (ans_v (val_ne (val_var rfl) val_c))) (fun c => ?_) (fun c => ?_)
        · rw [Bool.and_eq_true, decide_eq_true_eq, Bool.not_eq_true', decide_eq_false_iff_not] at c
          have c1 := oV_neg.mp c.1
          have c2 : (fillN m i).next ≠ none := fun z => c.2 (by rw [z]; rfl)
          obtain ⟨p, hp⟩ := Option.ne_none_iff_exists'.mp c2
          have hpl := (List.getElem?_eq_some_iff.mp (next_some hp).1).1
          obtain ⟨dbx, hbx⟩ := P1.bx
          refine go_meth (a := A.bx) (vs := [.ref A.pn, nV i, nV p]) (val_var rfl) hbx rfl ?_ ⟨A, _, i, p, rfl, P1, hi', hpl, fun H2 P2 t2 => ?_⟩
          · refine args_cons (val_var rfl) (args_cons vi (args_cons (val_var ?_) args_nil))
            rw [hp]; rfl
          · refine ⟨⟨_, _, rfl⟩, ?_, t1.trans t2⟩
            rw [fillN_succ, fillStep_go (by rw [hg, c1]) hp]
            exact P2
        · refine ⟨⟨_, _, rfl⟩, ?_, t1⟩
          rw [fillN_succ, fillStep_stay]
          · exact P1
          · rw [Bool.and_eq_false_iff, decide_eq_false_iff_not, Bool.not_eq_false', decide_eq_true_eq] at c
            rcases c with c | c
            · refine .inl fun z => c (oV_neg.mpr ?_)
              rw [hg] at z
              exact Option.some.inj z
            · exact .inr (opt_neg.mp (V.int.inj c))
      · rintro σ H' ⟨_, P1, t1⟩
        refine q H' ?_ t1
        rw [← pyFill_eq]
        exact P1
end
end Jp
namespace Jp
open PySem PySem.Spec PyProof.Rows L2
open Kg77 (State)
/-! ### More words: or, a loop, xs[i] -= e, calls as values -/
theorem pget_list {X : Cx} : PGet X (rIxL X.K) := by
  intro pins s σ H x y v u Q I rx ry h
  obtain ⟨p, xs, i, z, rfl, rfl, hq, he, q⟩ := h
  cases rx
  obtain ⟨t, rfl⟩ := ry
  obtain ⟨its, r, pl, hz⟩ := I.list hq
  obtain ⟨j, h1, h2, h3, h4, h5⟩ := atI_get he
  obtain ⟨w, ew, rw'⟩ := r.get h2
  have hl := r.length
  have hn := line63
  have fin : EP X pins σ Q w s := ⟨z, H, I, rw', q⟩
  by_cases h0 : 0 ≤ i
  · have hj : i.toNat = j := by
      rw [seqIndex_of h0 h5] at h1
      exact Option.some.inj h1
    exact wpAny_getItem_list pl.isList h0 (by omega) (by rw [hj]; simpa using ew) fin
  · have hj : (i + (its.toArray.size : Int)).toNat = j := by
      rw [seqIndex_neg (by omega) h4] at h1
      rw [List.size_toArray, ← hl]
      exact Option.some.inj h1
    exact wpAny_getItem_list_neg pl.isList (by omega) (by rw [List.size_toArray] <;> omega) (by omega) (by rw [hj]; simpa using ew) fin
section
variable {σ : L2.St} {H : Hp} {ta tb te to ti : TE} {D : Ends}
theorem val_B {p : Int → Int → Bool} {i j : Int} (ha : Val ta σ H (.int i)) (hb : Val tb σ H (.int j)) : Val (tOp (rI0 fun i j => .bl (p i j)) ta tb) σ H (.bl (p i j)) :=
  val_op ha hb fun Q q => ⟨i, j, rfl, rfl, q⟩
theorem val_or {a b : Bool} (ha : Val ta σ H (.bl a)) (hb : Val tb σ H (.bl b)) : Val (tOrV ta tb) σ H (.bl (a || b)) := fun Q q => ha _ ⟨a, rfl, by
  cases a with
  | true => exact q
  | false => exact hb _ q⟩
theorem val_and {a b : Bool} (ha : Val ta σ H (.bl a)) (hb : Val tb σ H (.bl b)) : Val (tAndV ta tb) σ H (.bl (a && b)) := fun Q q => ha _ ⟨a, rfl, by
  cases a with
  | false => exact q
  | true => exact hb _ q⟩
theorem val_sum {K : PySem.W.Frag} {p : Addr} {l : List Int} (ha : Val ta σ H (.ref p)) (hp : SqL K H p (l.map V.int)) : Val (tCB (rSum K) (tCons ta tNil)) σ H (.int l.sum) := fun Q q => ha _ ⟨p, l, rfl, hp, q⟩
theorem val_mod {i j : Int} (ha : Val ta σ H (.int i)) (hb : Val tb σ H (.int j)) (hj : 0 < j) : Val (tOp (rI (fun _ j => 0 < j) fun i j => .int (i % j)) ta tb) σ H (.int (i % j)) :=
  val_op ha hb fun Q q => ⟨i, j, rfl, rfl, hj, q⟩
theorem val_meth {C : Addr} {mm : Str} {sp : Sp} {E : XK} {t : TA} {vs : List V} {a dx : Addr} {fs : List (Str × V)} {v : V} (ho : Val to σ H (.ref a)) (hi : H a = some (.ins C dx fs)) (hl : fs.lookup mm = none) (h : Args t σ H vs)
    (q : ∀ Q : VK, Q v H → sp (.ref a :: vs) H Q E) : Val (tMeth C mm sp [] E to t) σ H v := fun Q k => go_meth ho hi hl h (q Q k)
theorem val_call {sp : Sp} {E : XK} {t : TA} {vs : List V} {v : V} (h : Args t σ H vs) (q : ∀ Q : VK, Q v H → sp vs H Q E) : Val (tCall sp [] E t) σ H v := fun Q k => go_call h (q Q k)
theorem st_loop {c : TT} {tb : TS} (W : Nat → L2.St → Hp → Prop) (m : Nat) (w0 : W m σ H) (hs : ∀ m σ H, W m σ H → ∃ b, Ans c σ H b ∧ (b = true → ∀ N : L2.St → Hp → Prop, (∀ m' σ' H', m' < m → W m' σ' H' → N σ' H') → tb { D with nx := N, ct := N, bk := D.nx } σ H) ∧ (b = false → D.nx σ H)) : tWhile c tb D σ H := by
  refine ⟨W, ⟨m, w0⟩, fun m σ H w => ?_⟩
  obtain ⟨b, a, h1, h2⟩ := hs m σ H w
  refine a _ ?_
  cases b with
  | false => exact h2 rfl
  | true => exact ⟨fun σ' H' => ∃ m', m' < m ∧ W m' σ' H', fun _ _ n => n, h1 rfl _ fun m' σ' H' l w => ⟨m', l, w⟩⟩
/-- xs[i] -= e -/
theorem st_less {K : PySem.W.Frag} {p : Addr} {xs : List V} {i : Nat} {x y : Int} (ho : Val to σ H (.ref p)) (hi : Val ti σ H (.int (i : Int))) (he : Val te σ H (.int y)) (hp : H p = some (.lst xs)) (hx : xs[i]? = some (.int x)) (q : D.nx σ (L2.upd H p (.lst (xs.set i (.int (x - y)))))) :
    tAugS to ti te (rIxL K) (ipI fun i j => i - j) rSetL D σ H :=
  ho _ (hi _ ⟨p, xs, _, _, rfl, rfl, SqL.of hp, atI_nat hx, he _ ⟨x, y, rfl, rfl, p, xs, _, i, rfl, rfl, hp, ixN_nat (List.getElem?_eq_some_iff.mp hx).1, q⟩⟩)
end
section
variable {K : PySem.W.Frag} {T : Ts} {A : Ad} {H : Hp} {m : State} {σ : L2.St} {ta : TE}
theorem PAt.vRow (P : PAt T A H m) (C : ClsTxt K T) (h : Val ta σ H (.ref A.tn)) : Val (tFld K ta "row") σ H (.ref A.rl) := by
  obtain ⟨dx, e⟩ := P.tn
  exact val_fld h e C.turns C.turnsN.1 rfl
theorem PAt.vStrikes (P : PAt T A H m) (C : ClsTxt K T) (h : Val ta σ H (.ref A.tn)) : Val (tFld K ta "strikes") σ H (.ref A.tl) := by
  obtain ⟨dx, e⟩ := P.tn
  exact val_fld h e C.turns C.turnsN.2.1 rfl
theorem PAt.vAt (P : PAt T A H m) (C : ClsTxt K T) (h : Val ta σ H (.ref A.tn)) : Val (tFld K ta "at") σ H (nV m.turn) := by
  obtain ⟨dx, e⟩ := P.tn
  exact val_fld h e C.turns C.turnsN.2.2.1 rfl
theorem PAt.vPasses (P : PAt T A H m) (C : ClsTxt K T) (h : Val ta σ H (.ref A.tn)) : Val (tFld K ta "passes") σ H (nV m.passes) := by
  obtain ⟨dx, e⟩ := P.tn
  exact val_fld h e C.turns C.turnsN.2.2.2 rfl
theorem PAt.tl' (P : PAt T A H m) : SqL K H A.tl (([(m.leftA : Int), (m.leftB : Int)]).map V.int) := SqL.of P.tl
theorem left_at {m : State} {s : Nat} (h : s = 0 ∨ s = 1) : ([nV m.leftA, nV m.leftB] : List V)[s]? = some (nV (m.left s)) := by
  rcases h with h | h
  · subst h; rfl
  · subst h; rfl
theorem row_at {m : State} {j : Nat} (h : RowOk m.rules.turns) : (nVs m.rules.turns)[j % m.rules.turns.length]? = some (nV (sideAt m j)) := by
  unfold nVs sideAt
  have hl := Nat.mod_lt j h.pos
  rw [List.getElem?_map, List.getD_eq_getElem?_getD, List.getElem?_eq_getElem hl]
  rfl
end
/-! Turns.__init__ -/
abbrev sTurnsI : Stmt := inClass (top 13) 0
theorem scTurnsI : FnScope ["self", "row", "strikes"] ["self", "row", "strikes"] (defScope sTurnsI) := ⟨rfl, rfl, rfl, by decide +kernel, rfl, by decide +kernel, by decide +kernel⟩
def spTurnsI (T : Ts) : Sp := fun vs H Q _ => ∃ (x dx r s : Addr), vs = [.ref x, .ref r, .ref s] ∧ H x = some (.ins T.turns dx []) ∧
  Q .non (L2.upd H x (.ins T.turns dx [("row", .ref r), ("strikes", .ref s), ("at", nV 0), ("passes", nV 0)]))
section
variable {σ : L2.St} {H : Hp} {ta tv : TE} {D : Ends} {K : PySem.W.Frag} {a C dx : Addr} {fs fs' : List (Str × V)} {f : Str} {y : V}
/-- o.f = v, the fields then told -/
theorem st_fl (hv : Val tv σ H y) (ha : Val ta σ H (.ref a)) (ho : H a = some (.ins C dx fs)) (hc : Cls K C) (hn : NoAttr K C f) (hl : fs.length < 1000) (he : putF f y fs = fs') (q : D.nx σ (L2.upd H a (.ins C dx fs'))) : sFld K ta tv f D σ H :=
  st_fld hv ha ho hc hn hl (by rw [he]; exact q)
end
section
variable {g : Gx} {T : Ts} {f : Addr}
theorem ok_turnsI (D : DefOk g.K "__init__" "Turns.__init__" sTurnsI ["self", "row", "strikes"] f) (C : ClsTxt g.K T) (G : Mg g.mg) : Pr g CX0 1 f ["self", "row", "strikes"] (spTurnsI T) := by
  obtain ⟨fd, F, b⟩ := D
  refine ⟨fd, ?_, b⟩
  refine F.ok scTurnsI (fun vs H Q E h => ?_) (fun cdv A outer s H vs Q E hr h => ?_)
  · obtain ⟨x, dx, r, s, rfl, _⟩ := h
    rfl
  · obtain ⟨x, dx, r, s, rfl, hx, q⟩ := h
    refine ⟨_, pss_cons (ps_fld (pv 0) (pv 1) rfl) (pss_cons (ps_fld (pv 0) (pv 2) rfl) (pss_cons (ps_fld (pv 0) pe_int rfl) (pss_one (ps_fld (pv 0) pe_int rfl)))), ?_⟩
    refine st_seq (st_fl (val_var rfl) (val_var rfl) hx C.turns C.turnsN.1 (by show 0 < 1000; decide) rfl ?_)
    refine st_seq (st_fl (val_var rfl) (val_var rfl) upd_same C.turns C.turnsN.2.1 (by show 1 < 1000; decide) rfl ?_)
    refine st_seq (st_fl val_c (val_var rfl) upd_same C.turns C.turnsN.2.2.1 (by show 2 < 1000; decide) rfl ?_)
    refine st_fl val_c (val_var rfl) upd_same C.turns C.turnsN.2.2.2 (by show 3 < 1000; decide) rfl ?_
    show Q .non _
    rw [upd_upd, upd_upd, upd_upd]
    exact q
end
/-! Turns.are_over -/
abbrev sOver : Stmt := inClass (top 13) 1
theorem scOver : FnScope ["self"] ["self"] (defScope sOver) := ⟨rfl, rfl, rfl, by decide +kernel, rfl, by decide +kernel, by decide +kernel⟩
def spOver (T : Ts) : Sp := fun vs H Q _ => ∃ (A : Ad) (m : State), vs = [.ref A.tn] ∧ PAt T A H m ∧ Q (.bl m.closed) H
theorem closed_eq (m : State) : (decide ((2 : Int) ≤ (m.passes : Int)) || decide ((V.int ([(m.leftA : Int), (m.leftB : Int)].sum)) = V.int 0)) = m.closed := by
  unfold State.closed
  rw [Bool.eq_iff_iff, Bool.or_eq_true, Bool.or_eq_true, Bool.and_eq_true, decide_eq_true_eq, decide_eq_true_eq, decide_eq_true_eq, V.int.injEq, beq_iff_eq, beq_iff_eq]
  simp only [List.sum_cons, List.sum_nil]
  omega
section
variable {g : Gx} {T : Ts} {f : Addr}
theorem ok_over (D : DefOk g.K "are_over" "Turns.are_over" sOver ["self"] f) (C : ClsTxt g.K T) (G : Mg g.mg) : Pr g CX0 1 f ["self"] (spOver T) := by
  obtain ⟨fd, F, b⟩ := D
  refine ⟨fd, ?_, b⟩
  refine F.ok scOver (fun vs H Q E h => ?_) (fun cdv A0 outer s H vs Q E hr h => ?_)
  · obtain ⟨A, m, rfl, _⟩ := h
    rfl
  · obtain ⟨A, m, rfl, P, q⟩ := h
    refine ⟨_, pss_one (ps_ret (pe_or (pe_cmpR op_ge (pe_fld (pv 0) rfl) (pc0 G.passes rfl) (nomark _)) (pe_one (pe_cmpR op_eq (pe_callB (cr_sum rfl) (by rfl) G.sum (by decide +kernel) (pa_cons (pe_fld (pv 0) rfl) pa_nil)) pe_int (nomark _))))), ?_⟩
    refine st_ret (val_or (val_B (P.vPasses C (val_var rfl)) val_c) (val_eq (val_sum (P.vStrikes C (val_var rfl)) P.tl') val_c)) ?_
    rw [closed_eq]
    exact q
end
section
variable {K : PySem.W.Frag} {T : Ts} {A : Ad} {H : Hp} {m : State} {σ : L2.St} {ta : TE}
theorem PAt.vOver (P : PAt T A H m) (h : Val ta σ H (.ref A.tn)) : Val (tMeth T.turns "are_over" (spOver T) [] E0 ta tNil) σ H (.bl m.closed) := by
  obtain ⟨dx, e⟩ := P.tn
  exact val_meth h e rfl args_nil fun Q k => ⟨A, m, rfl, P, k⟩
end
/-! Turns.next_side -/
abbrev sNext : Stmt := inClass (top 13) 2
theorem scNext : FnScope ["self", "step", "side"] ["self"] (defScope sNext) := ⟨rfl, rfl, rfl, by decide +kernel, rfl, by decide +kernel, by decide +kernel⟩
def spNext (T : Ts) : Sp := fun vs H Q _ => ∃ (A : Ad) (m : State), vs = [.ref A.tn] ∧ PAt T A H m ∧ RowOk m.rules.turns ∧ Q (.int (nextSide m)) H
section
variable {g : Gx} {T : Ts} {f : Addr}
theorem ok_next (D : DefOk g.K "next_side" "Turns.next_side" sNext ["self"] f) (C : ClsTxt g.K T) (G : Mg g.mg) (M1 : MOk g 1 T.turns "are_over" ["self"] (spOver T)) : Pr g CX0 2 f ["self"] (spNext T) := by
  obtain ⟨fd, F, b⟩ := D
  refine ⟨fd, ?_, b⟩
  refine F.ok scNext (fun vs H Q E h => ?_) (fun cdv A0 outer s H vs Q E hr h => ?_)
  · obtain ⟨A, m, rfl, _⟩ := h
    rfl
  · obtain ⟨A, m, rfl, P, hrow, q⟩ := h
    refine ⟨_, pss_cons (ps_if (pt_val (pm0 M1 C.turns hr (by decide) (pv 0))) (pss_one (ps_ret (pc0 G.noside rfl))) pss_nil)
      (pss_cons (ps_for PassesOwn.never rfl (pi_range1 rfl G.range (pa_cons (pe_callB call_len_seq (by rfl) G.len PySem.boot_len (pa_cons (pe_fld (pv 0) rfl) pa_nil)) pa_nil)) (pg_name (i := 1) scNext.nd rfl (Or.inl rfl))
        (pss_cons (ps_set (i := 2) scNext.nd rfl (Or.inl rfl) (pe_ix ix_list (pe_fld (pv 0) rfl) (pe_op op_mod (pe_op op_add (pe_fld (pv 0) rfl) (pv 1)) (pe_callB call_len_seq (by rfl) G.len PySem.boot_len (pa_cons (pe_fld (pv 0) rfl) pa_nil))) (fun _ _ => rfl)))
          (pss_one (ps_if (pt_cmpR op_gt (pe_ix ix_list (pe_fld (pv 0) rfl) (pv 2) (fun _ _ => rfl)) pe_int (nomark _)) (pss_one (ps_ret (pv 2))) pss_nil))))
      (pss_one (ps_ret (pc0 G.noside rfl)))), ?_⟩
    have vlen : ∀ {σ : L2.St} {ta : TE}, Val ta σ H (.ref A.tn) → Val (tCB (fun xs H Q => ∃ p ys, xs = [V.ref p] ∧ (SqL g.K H p ys ∨ SqT g.K H p ys) ∧ Q (.int ys.length) H) (tCons (tFld g.K ta "row") tNil)) σ H (.int (m.rules.turns.length : Nat)) := fun h => by
      have := val_len (K := g.K) (P.vRow C h) (SqL.of P.rl)
      rw [len_nVs] at this
      exact this
    refine st_seq (st_if (ans_val (P.vOver (val_var rfl))) (fun c => ?_) (fun c => ?_))
    · refine st_ret val_c ?_
      have : nextSide m = -1 := if_pos c
      rw [this] at q
      exact q
    · have hs := hrow.short
      obtain ⟨a1, a2, a3⟩ := ahead_spec (avail_ex hrow c m.turn)
      refine st_seq (st_for1 (n := m.rules.turns.length) (args_cons (vlen (val_var rfl)) args_nil) (by omega) ?_)
      refine for_range (lo := 0) (n := m.rules.turns.length) (fun i σ H' => (∃ v w, σ = [some (.ref A.tn), v, w]) ∧ H' = H ∧ ∀ j, j < i → avail m (m.turn + j) = false) ⟨⟨none, none, rfl⟩, rfl, fun j hj => absurd hj (Nat.not_lt_zero _)⟩ ?_ ?_
      · rintro i σ H' hi ⟨⟨v, w, rfl⟩, rfl, hn⟩
        have e1 : ((m.turn : Int) + (0 + (i : Int))) % (m.rules.turns.length : Int) = (((m.turn + i) % m.rules.turns.length : Nat) : Int) := by
          rw [Int.natCast_emod]
          congr 1
          omega
        have v1 : Val (tOp (rI (fun _ j => 0 < j) fun i j => .int (i % j)) (tOp (rI0 fun i j => .int (i + j)) (tFld g.K (tVar 0) "at") (tVar 1)) (tCB (fun xs H Q => ∃ p ys, xs = [V.ref p] ∧ (SqL g.K H p ys ∨ SqT g.K H p ys) ∧ Q (.int ys.length) H) (tCons (tFld g.K (tVar 0) "row") tNil)))
            [some (V.ref A.tn), some (V.int (0 + (i : Int))), w] H' (.int (((m.turn + i) % m.rules.turns.length : Nat) : Int)) := by
          have := val_mod (val_I (g := fun i j => .int (i + j)) (P.vAt (K := g.K) C (ta := tVar 0) (σ := [some (V.ref A.tn), some (V.int (0 + (i : Int))), w]) (val_var rfl)) (val_var (i := 1) (v := V.int (0 + (i : Int))) rfl)) (vlen (ta := tVar 0) (val_var rfl)) (by have := hrow.pos; omega)
          rw [e1] at this
          exact this
        refine st_seq (st_set (val_ix (P.vRow C (val_var rfl)) v1 (SqL.of P.rl) (row_at hrow)) ?_)
        refine st_if (ans_v (val_B (val_ix (P.vStrikes C (val_var rfl)) (val_var rfl) (SqL.of P.tl) (left_at (sideAt_le hrow (m.turn + i)))) val_c)) (fun c2 => ?_) (fun c2 => ?_)
        · have av : avail m (m.turn + i) = true := by
            have := of_decide_eq_true c2
            exact decide_eq_true (by omega)
          have e2 := ahead_of (f := m.rules.turns.length) hn av hi
          refine st_ret (val_var rfl) ?_
          have e3 : nextSide m = (sideAt m (m.turn + i) : Nat) := by
            unfold nextSide nextP
            rw [if_neg (by rw [c]; decide), e2]
          rw [e3] at q
          exact q
        · refine ⟨⟨_, _, rfl⟩, rfl, fun j hj => ?_⟩
          by_cases e : j < i
          · exact hn j e
          · have : j = i := by omega
            subst this
            have := of_decide_eq_false c2
            exact decide_eq_false (by omega)
      · rintro σ H' ⟨_, rfl, hn⟩
        have := hn _ a1
        rw [a2] at this
        cases this
end
end Jp
namespace Jp
open PySem PySem.Spec PyProof.Rows L2
open Kg77 (State)
section
variable {K : PySem.W.Frag} {T : Ts} {A : Ad} {H : Hp} {m : State} {σ : L2.St} {ta tv : TE} {D : Ends}
theorem PAt.sAt (P : PAt T A H m) (C : ClsTxt K T) {a : Nat} (hv : Val tv σ H (nV a)) (ha : Val ta σ H (.ref A.tn)) (q : ∀ H', PAt T A H' { m with turn := a } → To A.all H A.all H' → D.nx σ H') : sFld K ta tv "at" D σ H := by
  obtain ⟨dx, e⟩ := P.tn
  exact st_fl hv ha e C.turns C.turnsN.2.2.1 (by show 4 < 1000; decide) rfl (q _ (P.setTurns e a m.passes) (To.upd (mem0 A (i := 7))))
theorem PAt.sPasses (P : PAt T A H m) (C : ClsTxt K T) {a : Nat} (hv : Val tv σ H (nV a)) (ha : Val ta σ H (.ref A.tn)) (q : ∀ H', PAt T A H' { m with passes := a } → To A.all H A.all H' → D.nx σ H') : sFld K ta tv "passes" D σ H := by
  obtain ⟨dx, e⟩ := P.tn
  exact st_fl hv ha e C.turns C.turnsN.2.2.2 (by show 4 < 1000; decide) rfl (q _ (P.setTurns e m.turn a) (To.upd (mem0 A (i := 7))))
theorem PAt.aPasses (P : PAt T A H m) (C : ClsTxt K T) (hv : Val tv σ H (.int 1)) (ha : Val ta σ H (.ref A.tn)) (q : ∀ H', PAt T A H' { m with passes := m.passes + 1 } → To A.all H A.all H' → D.nx σ H') : sFldAug K ta tv L2.rAdd "passes" D σ H := by
  obtain ⟨dx, e⟩ := P.tn
  exact st_aug (z := nV (m.passes + 1)) ha e C.turns C.turnsN.2.2.2 rfl hv (fun Q k => ⟨(m.passes : Int), 1, rfl, rfl, k⟩) (by show 4 < 1000; decide) (q _ (P.setTurns e m.turn (m.passes + 1)) (To.upd (mem0 A (i := 7))))
theorem PAt.vNext (P : PAt T A H m) (hr : RowOk m.rules.turns) (h : Val ta σ H (.ref A.tn)) : Val (tMeth T.turns "next_side" (spNext T) [] E0 ta tNil) σ H (.int (nextSide m)) := by
  obtain ⟨dx, e⟩ := P.tn
  exact val_meth h e rfl args_nil fun Q k => ⟨A, m, rfl, P, hr, k⟩
end
/-! Turns.go_on -/
abbrev sGo : Stmt := inClass (top 13) 3
theorem scGo : FnScope ["self"] ["self"] (defScope sGo) := ⟨rfl, rfl, rfl, by decide +kernel, rfl, by decide +kernel, by decide +kernel⟩
structure Turning (m : State) : Prop where
  row : RowOk m.rules.turns
  at_ : m.turn < m.rules.turns.length
  open_ : m.closed = false
def spGo (T : Ts) : Sp := fun vs H Q _ => ∃ (A : Ad) (m : State), vs = [.ref A.tn] ∧ PAt T A H m ∧ Turning m ∧ ∀ H', PAt T A H' (gone m) → To A.all H A.all H' → Q .non H'
theorem mod_step (a n : Nat) (h : 0 < n) : ((a : Int) + 1) % (n : Int) = (((a + 1) % n : Nat) : Int) := by
  rw [Int.natCast_emod]
  congr 1
section
variable {g : Gx} {T : Ts} {f : Addr}
theorem ok_go (D : DefOk g.K "go_on" "Turns.go_on" sGo ["self"] f) (C : ClsTxt g.K T) (G : Mg g.mg) : Pr g CX0 1 f ["self"] (spGo T) := by
  obtain ⟨fd, F, b⟩ := D
  refine ⟨fd, ?_, b⟩
  refine F.ok scGo (fun vs H Q E h => ?_) (fun cdv A0 outer s H vs Q E hr h => ?_)
  · obtain ⟨A, m, rfl, _⟩ := h
    rfl
  · obtain ⟨A, m, rfl, P, ⟨hrow, hat, hc⟩, q⟩ := h
    refine ⟨_, pss_cons (ps_while PassesOwn.never (pt_cmpR op_eq (pe_ix ix_list (pe_fld (pv 0) rfl) (pe_ix ix_list (pe_fld (pv 0) rfl) (pe_fld (pv 0) rfl) (fun _ _ => rfl)) (fun _ _ => rfl)) pe_int (nomark _))
        (pss_one (ps_fld (pv 0) (pe_op op_mod (pe_op op_add (pe_fld (pv 0) rfl) pe_int) (pe_callB call_len_seq (by rfl) G.len PySem.boot_len (pa_cons (pe_fld (pv 0) rfl) pa_nil))) rfl)))
      (pss_one (ps_fld (pv 0) (pe_op op_mod (pe_op op_add (pe_fld (pv 0) rfl) pe_int) (pe_callB call_len_seq (by rfl) G.len PySem.boot_len (pa_cons (pe_fld (pv 0) rfl) pa_nil))) rfl)), ?_⟩
    obtain ⟨a1, a2, a3⟩ := ahead_spec (avail_ex hrow hc m.turn)
    have hpos := hrow.pos
    have vat : ∀ {H' : Hp} {m' : State}, PAt T A H' m' → m'.rules = m.rules → Val (tOp (rI (fun _ j => 0 < j) fun i j => .int (i % j)) (tOp (rI0 fun i j => .int (i + j)) (tFld g.K (tVar 0) "at") (tC (.int 1))) (tCB (fun xs H Q => ∃ p ys, xs = [V.ref p] ∧ (SqL g.K H p ys ∨ SqT g.K H p ys) ∧ Q (.int ys.length) H) (tCons (tFld g.K (tVar 0) "row") tNil)))
        [some (V.ref A.tn)] H' (nV ((m'.turn + 1) % m.rules.turns.length)) := fun {H' m'} P' er => by
      have h1 := val_len (K := g.K) (P'.vRow C (ta := tVar 0) (σ := [some (V.ref A.tn)]) (val_var rfl)) (SqL.of P'.rl)
      rw [len_nVs, er] at h1
      have := val_mod (val_I (g := fun i j => .int (i + j)) (P'.vAt (K := g.K) C (ta := tVar 0) (σ := [some (V.ref A.tn)]) (val_var rfl)) (val_c (v := V.int 1))) h1 (by omega)
      rw [mod_step _ _ hpos] at this
      exact this
    refine st_seq (st_loop (fun k σ H' => ∃ i, k + i = ahead m m.rules.turns.length m.turn ∧ σ = [some (V.ref A.tn)] ∧ PAt T A H' { m with turn := (m.turn + i) % m.rules.turns.length } ∧ To A.all H A.all H') (ahead m m.rules.turns.length m.turn) ⟨0, rfl, rfl, ?_, To.refl _ _⟩ ?_)
    · rw [Nat.add_zero, Nat.mod_eq_of_lt hat]
      exact P
    · rintro k σ H' ⟨i, hk, rfl, P1, t1⟩
      refine ⟨_, ans_v (val_eq (val_ix (P1.vStrikes C (val_var rfl)) (val_ix (P1.vRow C (val_var rfl)) (P1.vAt C (val_var rfl)) (SqL.of P1.rl) (row_at (m := m) (j := m.turn + i) hrow)) (SqL.of P1.tl) (left_at (m := m) (sideAt_le hrow (m.turn + i)))) val_c), fun c N hN => ?_, fun c => ?_⟩
      · have c1 : m.left (sideAt m (m.turn + i)) = 0 := by
          have := V.int.inj (of_decide_eq_true c)
          omega
        have hi : i < ahead m m.rules.turns.length m.turn := by
          apply Nat.lt_of_le_of_ne (by omega)
          intro z
          rw [← z] at a2
          have := of_decide_eq_true a2
          omega
        refine P1.sAt C (vat P1 rfl) (val_var rfl) fun H2 P2 t2 => hN (k - 1) _ _ (by omega) ⟨i + 1, by omega, rfl, ?_, t1.trans t2⟩
        have e : ((m.turn + i) % m.rules.turns.length + 1) % m.rules.turns.length = (m.turn + (i + 1)) % m.rules.turns.length := by
          rw [Nat.mod_add_mod]
          rfl
        have P3 : PAt T A H2 { m with turn := ((m.turn + i) % m.rules.turns.length + 1) % m.rules.turns.length } := P2
        rw [e] at P3
        exact P3
      · have c1 : ¬ m.left (sideAt m (m.turn + i)) = 0 := fun z => (of_decide_eq_false c) (by rw [z]; rfl)
        have hi : i = ahead m m.rules.turns.length m.turn := by
          apply Nat.le_antisymm (by omega)
          apply Nat.le_of_not_lt
          intro z
          have := of_decide_eq_false (a3 i z)
          omega
        refine P1.sAt C (vat P1 rfl) (val_var rfl) fun H2 P2 t2 => q H2 ?_ (t1.trans t2)
        have e : ((m.turn + i) % m.rules.turns.length + 1) % m.rules.turns.length = (nextP m + 1) % m.rules.turns.length := by
          rw [Nat.mod_add_mod, hi]
          rfl
        have P3 : PAt T A H2 { m with turn := ((m.turn + i) % m.rules.turns.length + 1) % m.rules.turns.length } := P2
        rw [e] at P3
        exact P3
end
/-! Turns.strike, Turns.pass_by -/
abbrev sTStrike : Stmt := inClass (top 13) 4
theorem scTStrike : FnScope ["self", "side"] ["self"] (defScope sTStrike) := ⟨rfl, rfl, rfl, by decide +kernel, rfl, by decide +kernel, by decide +kernel⟩
def spTStrike (T : Ts) : Sp := fun vs H Q _ => ∃ (A : Ad) (m : State) (s : Nat), vs = [.ref A.tn] ∧ PAt T A H m ∧ Turning m ∧ nextSide m = (s : Int) ∧ ∀ H', PAt T A H' (struckT m s) → To A.all H A.all H' → Q .non H'
abbrev sTPass : Stmt := inClass (top 13) 5
theorem scTPass : FnScope ["self", "uses_up", "side"] ["self", "uses_up"] (defScope sTPass) := ⟨rfl, rfl, rfl, by decide +kernel, rfl, by decide +kernel, by decide +kernel⟩
def spTPass (T : Ts) : Sp := fun vs H Q _ => ∃ (A : Ad) (m : State) (s : Nat), vs = [.ref A.tn, bV m.rules.passCosts] ∧ PAt T A H m ∧ Turning m ∧ nextSide m = (s : Int) ∧ ∀ H', PAt T A H' (passedT m s) → To A.all H A.all H' → Q .non H'
/-- the side whose turn it is has a strike -/
theorem side_has {m : State} (t : Turning m) {s : Nat} (h : nextSide m = (s : Int)) : (s = 0 ∨ s = 1) ∧ 0 < m.left s := by
  have n := next_ok t.row t.open_
  unfold nextSide at h
  rw [if_neg (by rw [t.open_]; decide)] at h
  have e : s = sideAt m (nextP m) := by omega
  refine ⟨by rw [e]; exact sideAt_le t.row _, ?_⟩
  rw [e]
  exact of_decide_eq_true n.1
theorem spend_set {m : State} {s : Nat} (h : s = 0 ∨ s = 1) (hp : 0 < m.left s) : ([nV m.leftA, nV m.leftB] : List V).set s (.int ((m.left s : Int) - 1)) = [nV (m.spend s).leftA, nV (m.spend s).leftB] := by
  have e : ∀ n : Nat, 0 < n → ((n : Int) - 1) = ((n - 1 : Nat) : Int) := fun n h => by omega
  rcases h with h | h
  · subst h
    have hp' : 0 < m.leftA := hp
    show [V.int ((m.leftA : Int) - 1), nV m.leftB] = [nV (m.leftA - 1), nV m.leftB]
    rw [e _ hp']; rfl
  · subst h
    have hp' : 0 < m.leftB := hp
    show [nV m.leftA, V.int ((m.leftB : Int) - 1)] = [nV m.leftA, nV (m.leftB - 1)]
    rw [e _ hp']; rfl
theorem spend_is (m : State) (s : Nat) : m.spend s = { m with leftA := (m.spend s).leftA, leftB := (m.spend s).leftB } := by
  unfold State.spend
  split <;> rfl
theorem spend_none {m : State} {s : Nat} (h : s = 0 ∨ s = 1) : ([nV m.leftA, nV m.leftB] : List V).set s (.int ((m.left s : Int) - 0)) = [nV m.leftA, nV m.leftB] := by
  rcases h with h | h
  · subst h
    show [V.int ((m.leftA : Int) - 0), nV m.leftB] = _
    rw [Int.sub_zero]; rfl
  · subst h
    show [nV m.leftA, V.int ((m.leftB : Int) - 0)] = _
    rw [Int.sub_zero]; rfl
section
variable {g : Gx} {T : Ts} {f : Addr}
theorem ok_tstrike (D : DefOk g.K "strike" "Turns.strike" sTStrike ["self"] f) (C : ClsTxt g.K T) (G : Mg g.mg) (M1 : MOk g 2 T.turns "next_side" ["self"] (spNext T)) (M2 : MOk g 1 T.turns "go_on" ["self"] (spGo T)) : Pr g CX0 3 f ["self"] (spTStrike T) := by
  obtain ⟨fd, F, b⟩ := D
  refine ⟨fd, ?_, b⟩
  refine F.ok scTStrike (fun vs H Q E h => ?_) (fun cdv A0 outer s H vs Q E hr h => ?_)
  · obtain ⟨A, m, s, rfl, _⟩ := h
    rfl
  · obtain ⟨A, m, sd, rfl, P, t, hs, q⟩ := h
    refine ⟨_, pss_cons (ps_set (i := 1) scTStrike.nd rfl (Or.inl rfl) (pm0 M1 C.turns hr (by decide) (pv 0))) (pss_cons (ps_expr (pm0 M2 C.turns hr (by decide) (pv 0)))
      (pss_cons (ps_augS (pe_fld (pv 0) rfl) (pv 1) pget_list pe_int ip_sub set_list) (pss_one (ps_fld (pv 0) pe_int rfl)))), ?_⟩
    obtain ⟨h1, h2⟩ := side_has t hs
    refine st_seq (st_set (P.vNext t.row (val_var rfl)) ?_)
    rw [hs]
    obtain ⟨dx, e⟩ := P.tn
    refine go_meth (a := A.tn) (val_var rfl) e rfl args_nil ⟨A, m, rfl, P, t, fun H1 P1 t1 => ?_⟩
    refine st_seq (st_less (i := sd) (P1.vStrikes C (val_var rfl)) (val_var rfl) val_c P1.tl (left_at (m := m) h1) ?_)
    have P2 := P1.setLeft ((gone m).spend sd).leftA ((gone m).spend sd).leftB
    rw [← spend_set (m := gone m) h1 h2, ← spend_is] at P2
    exact P2.sPasses C (a := 0) val_c (val_var rfl) fun H3 P3 t3 => q H3 P3 ((t1.trans (To.upd (mem0 A (i := 8)))).trans t3)
theorem ok_tpass (D : DefOk g.K "pass_by" "Turns.pass_by" sTPass ["self", "uses_up"] f) (C : ClsTxt g.K T) (G : Mg g.mg) (M1 : MOk g 2 T.turns "next_side" ["self"] (spNext T)) (M2 : MOk g 1 T.turns "go_on" ["self"] (spGo T)) : Pr g CX0 3 f ["self", "uses_up"] (spTPass T) := by
  obtain ⟨fd, F, b⟩ := D
  refine ⟨fd, ?_, b⟩
  refine F.ok scTPass (fun vs H Q E h => ?_) (fun cdv A0 outer s H vs Q E hr h => ?_)
  · obtain ⟨A, m, s, rfl, _⟩ := h
    rfl
  · obtain ⟨A, m, sd, rfl, P, t, hs, q⟩ := h
    refine ⟨_, pss_cons (ps_set (i := 2) scTPass.nd rfl (Or.inl rfl) (pm0 M1 C.turns hr (by decide) (pv 0))) (pss_cons (ps_expr (pm0 M2 C.turns hr (by decide) (pv 0)))
      (pss_cons (ps_augS (pe_fld (pv 0) rfl) (pv 2) pget_list (pv 1) ip_sub set_list) (pss_one (ps_fldaug (pv 0) pe_int in_add)))), ?_⟩
    obtain ⟨h1, h2⟩ := side_has t hs
    refine st_seq (st_set (P.vNext t.row (val_var rfl)) ?_)
    rw [hs]
    obtain ⟨dx, e⟩ := P.tn
    refine go_meth (a := A.tn) (val_var rfl) e rfl args_nil ⟨A, m, rfl, P, t, fun H1 P1 t1 => ?_⟩
    by_cases c : m.rules.passCosts = true
    · rw [show bV m.rules.passCosts = .int 1 by unfold bV; rw [if_pos c]]
      refine st_seq (st_less (i := sd) (P1.vStrikes C (val_var rfl)) (val_var rfl) (val_var rfl) P1.tl (left_at (m := m) h1) ?_)
      have P2 := P1.setLeft ((gone m).spend sd).leftA ((gone m).spend sd).leftB
      rw [← spend_set (m := gone m) h1 h2, ← spend_is] at P2
      refine P2.aPasses C val_c (val_var rfl) fun H3 P3 t3 => q H3 ?_ ((t1.trans (To.upd (mem0 A (i := 8)))).trans t3)
      unfold passedT
      rw [if_pos c]
      have : ((gone m).spend sd).passes = m.passes := (spend_panel (gone m) sd).2.2.2.2.2.2.2.2
      rw [this] at P3
      exact P3
    · rw [show bV m.rules.passCosts = .int 0 by unfold bV; rw [if_neg c]]
      refine st_seq (st_less (i := sd) (P1.vStrikes C (val_var rfl)) (val_var rfl) (val_var rfl) P1.tl (left_at (m := m) h1) ?_)
      have P2 := P1.setLeft m.leftA m.leftB
      have e0 := spend_none (m := m) h1
      rw [← e0] at P2
      refine P2.aPasses C val_c (val_var rfl) fun H3 P3 t3 => q H3 ?_ ((t1.trans (To.upd (mem0 A (i := 8)))).trans t3)
      unfold passedT
      rw [if_neg c]
      exact P3
end
end Jp
namespace Jp
open PySem PySem.Spec PyProof.Rows L2
open Kg77 (State)
/-! ### The picking's own fields -/
def Ext (H H' : Hp) : Prop := ∀ a u, H a = some u → H' a = some u
theorem Ext.new {H : Hp} {x : Addr} {o : HO} (h : H x = none) : Ext H (L2.upd H x o) := fun a u e => by rw [upd_ne (ne_of_none e h)]; exact e
theorem Ext.trans {H H1 H2 : Hp} (a : Ext H H1) (b : Ext H1 H2) : Ext H H2 := fun x u e => b x u (a x u e)
theorem Ext.refl (H : Hp) : Ext H H := fun _ _ e => e
theorem Ext.free {H H' : Hp} (a : Ext H H') {x : Addr} (h : H' x = none) : H x = none := by
  cases q : H x with
  | none => rfl
  | some u => rw [a x u q] at h; cases h
theorem Ext.over {H H' : Hp} (a : Ext H H') {x : Addr} {o : HO} (h : H x = none) : Ext H (L2.upd H' x o) := fun y u e => by rw [upd_ne (ne_of_none e h)]; exact a y u e
theorem Ext.to {H H' : Hp} (a : Ext H H') (L : List Addr) : To L H L H' := ⟨fun x o _ e => a x o e, fun _ h => .inl h⟩
theorem Ext.take {H H' : Hp} (a : Ext H H') {L M : List Addr} (h : ∀ x, x ∈ M → x ∈ L ∨ H x = none) : To L H M H' := ⟨fun x o _ e => a x o e, h⟩
section
variable {K : PySem.W.Frag} {T : Ts} {A : Ad} {H : Hp} {m : State} {σ : L2.St} {ta tv : TE} {D : Ends}
theorem st_flH {f : Str} {R : V → Hp → Prop} (h : ValH tv σ H R) (k : ∀ v H', R v H' → sFld K ta (tC v) f D σ H') : sFld K ta tv f D σ H := h _ k
theorem PAt.vPanel (P : PAt T A H m) (C : ClsTxt K T) (h : Val ta σ H (.ref A.p)) : Val (tFld K ta "panel") σ H (.ref A.pn) := by
  obtain ⟨dx, l, e, _⟩ := P.p
  exact val_fld h e C.pick C.pickN.1.1 rfl
theorem PAt.vPlan (P : PAt T A H m) (C : ClsTxt K T) (h : Val ta σ H (.ref A.p)) : Val (tFld K ta "plan") σ H (.ref A.pl) := by
  obtain ⟨dx, l, e, _⟩ := P.p
  exact val_fld h e C.pick C.pickN.1.2.1 rfl
theorem PAt.vPhase (P : PAt T A H m) (C : ClsTxt K T) (h : Val ta σ H (.ref A.p)) : Val (tFld K ta "phase") σ H (nV m.phase) := by
  obtain ⟨dx, l, e, _⟩ := P.p
  exact val_fld h e C.pick C.pickN.1.2.2.1 rfl
theorem PAt.vBox (P : PAt T A H m) (C : ClsTxt K T) (h : Val ta σ H (.ref A.p)) : Val (tFld K ta "box") σ H (.ref A.bx) := by
  obtain ⟨dx, l, e, _⟩ := P.p
  exact val_fld h e C.pick C.pickN.1.2.2.2.1 rfl
theorem PAt.vTurns (P : PAt T A H m) (C : ClsTxt K T) (h : Val ta σ H (.ref A.p)) : Val (tFld K ta "turns") σ H (.ref A.tn) := by
  obtain ⟨dx, l, e, _⟩ := P.p
  exact val_fld h e C.pick C.pickN.1.2.2.2.2 rfl
theorem PAt.vJury (P : PAt T A H m) (C : ClsTxt K T) (h : Val ta σ H (.ref A.p)) : Val (tFld K ta "jury") σ H (.ref A.jl) := by
  obtain ⟨dx, l, e, _⟩ := P.p
  exact val_fld h e C.pick C.pickN.2.2.1 rfl
theorem PAt.vAlts (P : PAt T A H m) (C : ClsTxt K T) (h : Val ta σ H (.ref A.p)) : Val (tFld K ta "alternates") σ H (.ref A.al) := by
  obtain ⟨dx, l, e, _⟩ := P.p
  exact val_fld h e C.pick C.pickN.2.2.2.1 rfl
theorem PAt.vLeast (P : PAt T A H m) (C : ClsTxt K T) (h : Val ta σ H (.ref A.p)) : Val (tFld K ta "least") σ H (nV m.least) := by
  obtain ⟨dx, l, e, _⟩ := P.p
  exact val_fld h e C.pick C.pickN.2.2.2.2 rfl
/-- the field last: None, or the strike -/
theorem PAt.vLast (P : PAt T A H m) (C : ClsTxt K T) : ∃ l, LastAt T H m.last l ∧ ∀ {σ : L2.St} {ta : TE}, Val ta σ H (.ref A.p) → Val (tFld K ta "last") σ H l := by
  obtain ⟨dx, l, e, h⟩ := P.p
  exact ⟨l, h, fun hv => val_fld hv e C.pick C.pickN.2.1 rfl⟩
theorem LastAt.isNone {T : Ts} {H : Hp} {o : Option (Nat × Nat × Nat)} {l : V} (h : LastAt T H o l) : decide (l = V.non) = o.isNone := by
  cases o with
  | none =>
    have : l = .non := h
    subst this
    rfl
  | some x =>
    obtain ⟨la, dx, e, _⟩ := h
    subst e
    rfl
theorem PAt.pSeats (P : PAt T A H m) (C : ClsTxt K T) (h : Val ta σ H (.ref A.pl)) : Val (tFld K ta "seats") σ H (nV m.rules.seats) := by
  obtain ⟨dx, e⟩ := P.pl
  exact val_fld h e C.plan C.planN.1 rfl
theorem PAt.pAlts (P : PAt T A H m) (C : ClsTxt K T) (h : Val ta σ H (.ref A.pl)) : Val (tFld K ta "alternates") σ H (nV m.rules.alternates) := by
  obtain ⟨dx, e⟩ := P.pl
  exact val_fld h e C.plan C.planN.2.1 rfl
theorem PAt.pFor (P : PAt T A H m) (C : ClsTxt K T) (h : Val ta σ H (.ref A.pl)) : Val (tFld K ta "for_alternates") σ H (nV m.rules.extra) := by
  obtain ⟨dx, e⟩ := P.pl
  exact val_fld h e C.plan C.planN.2.2.1 rfl
theorem PAt.pUses (P : PAt T A H m) (C : ClsTxt K T) (h : Val ta σ H (.ref A.pl)) : Val (tFld K ta "uses_up") σ H (bV m.rules.passCosts) := by
  obtain ⟨dx, e⟩ := P.pl
  exact val_fld h e C.plan C.planN.2.2.2.1 rfl
theorem PAt.pRow (P : PAt T A H m) (C : ClsTxt K T) (h : Val ta σ H (.ref A.pl)) : Val (tFld K ta "row") σ H (.ref A.rl) := by
  obtain ⟨dx, e⟩ := P.pl
  exact val_fld h e C.plan C.planN.2.2.2.2 rfl
theorem PAt.sPhase (P : PAt T A H m) (C : ClsTxt K T) {a : Nat} (hv : Val tv σ H (nV a)) (ha : Val ta σ H (.ref A.p)) (q : ∀ H', PAt T A H' { m with phase := a } → To A.all H A.all H' → D.nx σ H') : sFld K ta tv "phase" D σ H := by
  obtain ⟨dx, l, e, hl⟩ := P.p
  exact st_fl hv ha e C.pick C.pickN.1.2.2.1 (by show 9 < 1000; decide) rfl (q _ (P.setPick e a m.least m.last l hl) (To.upd (mem0 A (i := 0))))
theorem PAt.sLeast (P : PAt T A H m) (C : ClsTxt K T) {a : Nat} (hv : Val tv σ H (nV a)) (ha : Val ta σ H (.ref A.p)) (q : ∀ H', PAt T A H' { m with least := a } → To A.all H A.all H' → D.nx σ H') : sFld K ta tv "least" D σ H := by
  obtain ⟨dx, l, e, hl⟩ := P.p
  exact st_fl hv ha e C.pick C.pickN.2.2.2.2 (by show 9 < 1000; decide) rfl (q _ (P.setPick e m.phase a m.last l hl) (To.upd (mem0 A (i := 0))))
theorem PAt.sLast (P : PAt T A H m) (C : ClsTxt K T) {o : Option (Nat × Nat × Nat)} {l' : V} (hl' : LastAt T H o l') (hv : Val tv σ H l') (ha : Val ta σ H (.ref A.p)) (q : ∀ H', PAt T A H' { m with last := o } → To A.all H A.all H' → D.nx σ H') : sFld K ta tv "last" D σ H := by
  obtain ⟨dx, l, e, hl⟩ := P.p
  exact st_fl hv ha e C.pick C.pickN.2.1 (by show 9 < 1000; decide) rfl (q _ (P.setPick e m.phase m.least o l' hl') (To.upd (mem0 A (i := 0))))
theorem PAt.sJury (P : PAt T A H m) (C : ClsTxt K T) {b : Addr} {j : List Nat} (hb : H b = some (.lst (nVs j))) (nb : b ∉ A.all) (hv : Val tv σ H (.ref b)) (ha : Val ta σ H (.ref A.p)) (q : ∀ H', PAt T { A with jl := b } H' { m with jury := j } → To (b :: A.all) H ({ A with jl := b } : Ad).all H' → D.nx σ H') : sFld K ta tv "jury" D σ H := by
  obtain ⟨dx, l, e, hl⟩ := P.p
  refine st_fl hv ha e C.pick C.pickN.2.2.1 (by show 9 < 1000; decide) rfl (q _ (P.putJury e hl hb nb) ((To.upd (List.mem_cons_of_mem _ (mem0 A (i := 0)))).trans (To.incl fun a h => .inl ?_)))
  rcases List.mem_or_eq_of_mem_set (show a ∈ A.all.set 9 b from h) with z | z
  · exact List.mem_cons_of_mem _ z
  · rw [z]; exact List.mem_cons_self
theorem PAt.sSpare (P : PAt T A H m) (C : ClsTxt K T) {b : Addr} {j : List Nat} (hb : H b = some (.lst (nVs j))) (nb : b ∉ A.all) (hv : Val tv σ H (.ref b)) (ha : Val ta σ H (.ref A.p)) (q : ∀ H', PAt T { A with al := b } H' { m with spare := j } → To (b :: A.all) H ({ A with al := b } : Ad).all H' → D.nx σ H') : sFld K ta tv "alternates" D σ H := by
  obtain ⟨dx, l, e, hl⟩ := P.p
  refine st_fl hv ha e C.pick C.pickN.2.2.2.1 (by show 9 < 1000; decide) rfl (q _ (P.putSpare e hl hb nb) ((To.upd (List.mem_cons_of_mem _ (mem0 A (i := 0)))).trans (To.incl fun a h => .inl ?_)))
  rcases List.mem_or_eq_of_mem_set (show a ∈ A.all.set 10 b from h) with z | z
  · exact List.mem_cons_of_mem _ z
  · rw [z]; exact List.mem_cons_self
theorem PAt.sBox (P : PAt T A H m) (C : ClsTxt K T) {b s d : Addr} {bx : List (Option Nat)} (hb : H b = some (.ins T.box d [("seats", .ref s)])) (hs : H s = some (.lst (oVs bx))) (nb : b ∉ A.all) (ns : s ∉ A.all) (n : s ≠ b) (hv : Val tv σ H (.ref b)) (ha : Val ta σ H (.ref A.p))
    (q : ∀ H', PAt T { A with bx := b, sl := s } H' { m with box := bx } → To (b :: s :: A.all) H ({ A with bx := b, sl := s } : Ad).all H' → D.nx σ H') : sFld K ta tv "box" D σ H := by
  obtain ⟨dx, l, e, hl⟩ := P.p
  refine st_fl hv ha e C.pick C.pickN.1.2.2.2.1 (by show 9 < 1000; decide) rfl (q _ (P.putBox e hl hb hs nb ns n) ((To.upd (List.mem_cons_of_mem _ (List.mem_cons_of_mem _ (mem0 A (i := 0))))).trans (To.incl fun a h => .inl ?_)))
  rcases mem_set2 (show a ∈ (A.all.set 5 b).set 6 s from h) with z | z | z
  · exact List.mem_cons_of_mem _ (List.mem_cons_of_mem _ z)
  · rw [z]; exact List.mem_cons_self
  · rw [z]; exact List.mem_cons_of_mem _ List.mem_cons_self
theorem PAt.sTurns (P : PAt T A H m) (C : ClsTxt K T) {b s d : Addr} {x y : Nat} (hb : H b = some (.ins T.turns d [("row", .ref A.rl), ("strikes", .ref s), ("at", nV 0), ("passes", nV 0)])) (hs : H s = some (.lst [nV x, nV y])) (nb : b ∉ A.all) (ns : s ∉ A.all) (n : s ≠ b) (hv : Val tv σ H (.ref b)) (ha : Val ta σ H (.ref A.p))
    (q : ∀ H', PAt T { A with tn := b, tl := s } H' { m with turn := 0, passes := 0, leftA := x, leftB := y } → To (b :: s :: A.all) H ({ A with tn := b, tl := s } : Ad).all H' → D.nx σ H') : sFld K ta tv "turns" D σ H := by
  obtain ⟨dx, l, e, hl⟩ := P.p
  refine st_fl hv ha e C.pick C.pickN.1.2.2.2.2 (by show 9 < 1000; decide) rfl (q _ (P.putTurns (t := 0) (q := 0) e hl hb hs nb ns n) ((To.upd (List.mem_cons_of_mem _ (List.mem_cons_of_mem _ (mem0 A (i := 0))))).trans (To.incl fun a h => .inl ?_)))
  rcases mem_set2 (show a ∈ (A.all.set 7 b).set 8 s from h) with z | z | z
  · exact List.mem_cons_of_mem _ (List.mem_cons_of_mem _ z)
  · rw [z]; exact List.mem_cons_self
  · rw [z]; exact List.mem_cons_of_mem _ List.mem_cons_self
end
/-! ### New objects -/
section
variable {K : PySem.W.Frag} {T : Ts} {H : Hp} {σ : L2.St} {te : TE} {t : TA}
theorem valH_list {p : Addr} {xs : List V} (h : Val te σ H (.ref p)) (hp : SqL K H p xs) : ValH (tCB (fun xs H Q => ∃ p ys, xs = [V.ref p] ∧ (SqL K H p ys ∨ SqT K H p ys) ∧ ∀ l, H l = none → Q (.ref l) (L2.upd H l (.lst ys))) (tCons te tNil)) σ H (fun v H' => ∃ l, v = .ref l ∧ H l = none ∧ H' = L2.upd H l (.lst xs)) := fun Q q =>
  h _ ⟨p, xs, rfl, .inl hp, fun l hl => q _ _ ⟨l, rfl, hl, rfl⟩⟩
theorem valH_box {n : Nat} (h : Args t σ H [nV n]) (hn : n ≤ 1000) : ValH (tMake T.box (spBoxI T) [] E0 t) σ H (fun v H' => ∃ x sl dx, v = .ref x ∧ H x = none ∧ H sl = none ∧ sl ≠ x ∧ Ext H H' ∧ H' x = some (.ins T.box dx [("seats", .ref sl)]) ∧ H' sl = some (.lst (oVs (List.replicate n none)))) := fun Q q =>
  go_make h fun x dx nx nd ne => ⟨x, dx, n, rfl, upd_same, hn, fun sl hsl => ⟨rfl, q _ _ (by
    have e1 : Ext H (L2.upd (L2.upd H dx (.own x)) x (.ins T.box dx [])) := (Ext.new nd).over nx
    have sx : sl ≠ x := fun z => by rw [z, upd_same] at hsl; cases hsl
    have s0 := e1.free hsl
    refine ⟨x, sl, dx, rfl, nx, s0, sx, (e1.trans (Ext.new hsl)).over nx, upd_same, ?_⟩
    rw [upd_ne sx, upd_same])⟩⟩
theorem valH_panel {n : Nat} (h : Args t σ H [nV n]) (hn : n ≤ 1000) : ValH (tMake T.panel (spPanelI T) [] E0 t) σ H (fun v H' => ∃ x sl dx, v = .ref x ∧ H x = none ∧ H sl = none ∧ sl ≠ x ∧ Ext H H' ∧ H' x = some (.ins T.panel dx [("fates", .ref sl)]) ∧ H' sl = some (.lst (nVs (List.replicate n 0)))) := fun Q q =>
  go_make h fun x dx nx nd ne => ⟨x, dx, n, rfl, upd_same, hn, fun sl hsl => ⟨rfl, q _ _ (by
    have e1 : Ext H (L2.upd (L2.upd H dx (.own x)) x (.ins T.panel dx [])) := (Ext.new nd).over nx
    have sx : sl ≠ x := fun z => by rw [z, upd_same] at hsl; cases hsl
    have s0 := e1.free hsl
    refine ⟨x, sl, dx, rfl, nx, s0, sx, (e1.trans (Ext.new hsl)).over nx, upd_same, ?_⟩
    rw [upd_ne sx, upd_same])⟩⟩
theorem makeH_turns {r s : Addr} {Q : VK} (q : ∀ v H', (∃ x dx, v = .ref x ∧ H x = none ∧ Ext H H' ∧ H' x = some (.ins T.turns dx [("row", .ref r), ("strikes", .ref s), ("at", nV 0), ("passes", nV 0)])) → Q v H') :
    ∀ x dx, H x = none → H dx = none → dx ≠ x → spTurnsI T (.ref x :: ([.ref r, .ref s] ++ [])) (L2.upd (L2.upd H dx (.own x)) x (.ins T.turns dx [])) (fun v H2 => v = .non ∧ Q (.ref x) H2) E0 := fun x dx nx nd ne => ⟨x, dx, r, s, rfl, upd_same, rfl, q _ _ (by
    have e1 : Ext H (L2.upd (L2.upd H dx (.own x)) x (.ins T.turns dx [])) := (Ext.new nd).over nx
    exact ⟨x, dx, rfl, nx, e1.over nx, upd_same⟩)⟩
end
/-! Plan.__init__, Strike.__init__ -/
abbrev sPlanI : Stmt := inClass (top 20) 0
theorem scPlanI : FnScope ["self", "seats", "alternates", "for_alternates", "uses_up", "row"] ["self", "seats", "alternates", "for_alternates", "uses_up", "row"] (defScope sPlanI) := ⟨rfl, rfl, rfl, by decide +kernel, rfl, by decide +kernel, by decide +kernel⟩
def spPlanI (T : Ts) : Sp := fun vs H Q _ => ∃ (x dx : Addr) (a b c d e : V), vs = [.ref x, a, b, c, d, e] ∧ H x = some (.ins T.plan dx []) ∧
  Q .non (L2.upd H x (.ins T.plan dx [("seats", a), ("alternates", b), ("for_alternates", c), ("uses_up", d), ("row", e)]))
abbrev sStrikeI : Stmt := inClass (top 21) 0
theorem scStrikeI : FnScope ["self", "side", "who", "seat"] ["self", "side", "who", "seat"] (defScope sStrikeI) := ⟨rfl, rfl, rfl, by decide +kernel, rfl, by decide +kernel, by decide +kernel⟩
def spStrikeI (T : Ts) : Sp := fun vs H Q _ => ∃ (x dx : Addr) (a b c : V), vs = [.ref x, a, b, c] ∧ H x = some (.ins T.strike dx []) ∧
  Q .non (L2.upd H x (.ins T.strike dx [("side", a), ("who", b), ("seat", c)]))
section
variable {g : Gx} {T : Ts} {f : Addr}
theorem ok_planI (D : DefOk g.K "__init__" "Plan.__init__" sPlanI ["self", "seats", "alternates", "for_alternates", "uses_up", "row"] f) (C : ClsTxt g.K T) (G : Mg g.mg) : Pr g CX0 1 f ["self", "seats", "alternates", "for_alternates", "uses_up", "row"] (spPlanI T) := by
  obtain ⟨fd, F, b⟩ := D
  refine ⟨fd, ?_, b⟩
  refine F.ok scPlanI (fun vs H Q E h => ?_) (fun cdv A outer s H vs Q E hr h => ?_)
  · obtain ⟨x, dx, a, b, c, d, e, rfl, _⟩ := h
    rfl
  · obtain ⟨x, dx, a, b, c, d, e, rfl, hx, q⟩ := h
    refine ⟨_, pss_cons (ps_fld (pv 0) (pv 1) rfl) (pss_cons (ps_fld (pv 0) (pv 2) rfl) (pss_cons (ps_fld (pv 0) (pv 3) rfl) (pss_cons (ps_fld (pv 0) (pv 4) rfl) (pss_one (ps_fld (pv 0) (pv 5) rfl))))), ?_⟩
    refine st_seq (st_fl (val_var rfl) (val_var rfl) hx C.plan C.planN.1 (by show 0 < 1000; decide) rfl ?_)
    refine st_seq (st_fl (val_var rfl) (val_var rfl) upd_same C.plan C.planN.2.1 (by show 1 < 1000; decide) rfl ?_)
    refine st_seq (st_fl (val_var rfl) (val_var rfl) upd_same C.plan C.planN.2.2.1 (by show 2 < 1000; decide) rfl ?_)
    refine st_seq (st_fl (val_var rfl) (val_var rfl) upd_same C.plan C.planN.2.2.2.1 (by show 3 < 1000; decide) rfl ?_)
    refine st_fl (val_var rfl) (val_var rfl) upd_same C.plan C.planN.2.2.2.2 (by show 4 < 1000; decide) rfl ?_
    show Q .non _
    rw [upd_upd, upd_upd, upd_upd, upd_upd]
    exact q
theorem ok_strikeI (D : DefOk g.K "__init__" "Strike.__init__" sStrikeI ["self", "side", "who", "seat"] f) (C : ClsTxt g.K T) (G : Mg g.mg) : Pr g CX0 1 f ["self", "side", "who", "seat"] (spStrikeI T) := by
  obtain ⟨fd, F, b⟩ := D
  refine ⟨fd, ?_, b⟩
  refine F.ok scStrikeI (fun vs H Q E h => ?_) (fun cdv A outer s H vs Q E hr h => ?_)
  · obtain ⟨x, dx, a, b, c, rfl, _⟩ := h
    rfl
  · obtain ⟨x, dx, a, b, c, rfl, hx, q⟩ := h
    refine ⟨_, pss_cons (ps_fld (pv 0) (pv 1) rfl) (pss_cons (ps_fld (pv 0) (pv 2) rfl) (pss_one (ps_fld (pv 0) (pv 3) rfl))), ?_⟩
    refine st_seq (st_fl (val_var rfl) (val_var rfl) hx C.strike C.strikeN.1 (by show 0 < 1000; decide) rfl ?_)
    refine st_seq (st_fl (val_var rfl) (val_var rfl) upd_same C.strike C.strikeN.2.1 (by show 1 < 1000; decide) rfl ?_)
    refine st_fl (val_var rfl) (val_var rfl) upd_same C.strike C.strikeN.2.2 (by show 2 < 1000; decide) rfl ?_
    show Q .non _
    rw [upd_upd, upd_upd]
    exact q
end
end Jp
namespace Jp
open PySem PySem.Spec PyProof.Rows L2
open Kg77 (State)
/-! ### Picking.swear -/
def marks (l : List Nat) (p : List Nat) : List Nat := l.foldl (fun p x => p.set x 5) p
theorem marks_len : ∀ (l p : List Nat), (marks l p).length = p.length
  | [], _ => rfl
  | x :: l, p => by
    show (marks l (p.set x 5)).length = _
    rw [marks_len l, List.length_set]
theorem marks_get : ∀ (l p : List Nat) (i : Nat), (marks l p)[i]? = if l.contains i = true ∧ i < p.length then some 5 else p[i]?
  | [], p, i => by simp [marks]
  | x :: l, p, i => by
    show (marks l (p.set x 5))[i]? = _
    rw [marks_get l, List.length_set]
    by_cases h : i < p.length
    · by_cases c : l.contains i = true
      · rw [if_pos ⟨c, h⟩, if_pos ⟨by rw [List.contains_cons, c, Bool.or_true], h⟩]
      · rw [if_neg (fun z => c z.1)]
        have c' : l.contains i = false := by simpa using c
        by_cases e : i = x
        · subst e
          rw [List.getElem?_set_self h, if_pos ⟨by rw [List.contains_cons, beq_self_eq_true, Bool.true_or], h⟩]
        · rw [List.getElem?_set_ne (Ne.symm e), if_neg (fun z => by
            have := z.1
            rw [List.contains_cons, c', Bool.or_false] at this
            exact e (eq_of_beq this))]
    · rw [if_neg (fun z => h z.2), if_neg (fun z => h z.2), List.getElem?_eq_none (by rw [List.length_set]; omega), List.getElem?_eq_none (by omega)]
theorem marks_eq (l p : List Nat) : marks l p = p.zipIdx.map fun (x : Nat × Nat) => if l.contains x.2 = true then 5 else x.1 := by
  refine List.ext_getElem? fun i => ?_
  rw [marks_get, List.getElem?_map, List.getElem?_zipIdx]
  by_cases h : i < p.length
  · rw [List.getElem?_eq_getElem h]
    show _ = some (if l.contains (0 + i) = true then 5 else p[i])
    rw [Nat.zero_add]
    by_cases c : l.contains i = true
    · rw [if_pos ⟨c, h⟩, if_pos c]
    · rw [if_neg (fun z => c z.1), if_neg c]
  · rw [if_neg (fun z => h z.2), List.getElem?_eq_none (by omega)]
    rfl
theorem take_more {α : Type} : ∀ {l : List α} {i : Nat} {x : α}, l[i]? = some x → l.take (i + 1) = l.take i ++ [x]
  | [], i, x, h => by simp at h
  | a :: l, 0, x, h => by
    have e : a = x := Option.some.inj h
    subst e
    rfl
  | a :: l, i + 1, x, h => by
    have ih := take_more (l := l) (i := i) (x := x) h
    show a :: l.take (i + 1) = a :: l.take i ++ [x]
    rw [ih]
    rfl
theorem marks_more {l p : List Nat} {i x : Nat} (h : l[i]? = some x) : marks (l.take (i + 1)) p = (marks (l.take i) p).set x 5 := by
  unfold marks
  rw [take_more h, List.foldl_append]
  rfl
theorem full_box {m : State} (h : m.full = true) : oVs m.box = nVs (Kg77.sitting m.box) := by
  have e := sitting_full (full_all h)
  have : oVs ((Kg77.sitting m.box).map some) = nVs (Kg77.sitting m.box) := by
    unfold oVs nVs
    rw [List.map_map]
    rfl
  rw [e] at this
  exact this
abbrev sSwear : Stmt := inClass (top 22) 3
theorem scSwear : FnScope ["self", "person"] ["self"] (defScope sSwear) := ⟨rfl, rfl, rfl, by decide +kernel, rfl, by decide +kernel, by decide +kernel⟩
def spSwear (T : Ts) : Sp := fun vs H Q _ => ∃ (A : Ad) (m : State), vs = [.ref A.p] ∧ PAt T A H m ∧ m.full = true ∧ m.last = none ∧ (∀ x ∈ Kg77.sitting m.box, x < m.panel.length) ∧
  ∀ A' H', PAt T A' H' (swearP m) → To A.all H A'.all H' → A'.p = A.p → Q .non H'
theorem st_forl {K : PySem.W.Frag} {σ : L2.St} {H : Hp} {te : TE} {gg : TG} {tb : TS} {D : Ends} {a : Addr} {xs : List V} (h : Val te σ H (.ref a)) (hp : SqL K H a xs)
    (q : ∃ W : Nat → Nat → L2.St → Hp → Prop, (∃ m, W 0 m σ H) ∧ ∀ i m σ H, W i m σ H →
      ((Itl K a).stop i H ∧ D.nx σ H) ∨ ((Itl K a).go i H ∧ ∃ N : L2.St → Hp → Prop, (∀ σ' H', N σ' H' → ∃ m', m' < m ∧ W (i + 1) m' σ' H') ∧ ∀ x H', (Itl K a).yld i H x H' → gg x σ H' fun σ2 H2 => tb { D with nx := N, ct := N, bk := D.nx } σ2 H2)) :
    tFor (iList K te) gg tb D σ H := h _ ⟨a, rfl, ⟨xs, hp⟩, q⟩
section
variable {g : Gx} {T : Ts} {f : Addr}
theorem ok_swear (D : DefOk g.K "swear" "Picking.swear" sSwear ["self"] f) (C : ClsTxt g.K T) (G : Mg g.mg) : Pr g CX0 1 f ["self"] (spSwear T) := by
  obtain ⟨fd, F, b⟩ := D
  refine ⟨fd, ?_, b⟩
  refine F.ok scSwear (fun vs H Q E h => ?_) (fun cdv A0 outer s H vs Q E hr h => ?_)
  · obtain ⟨A, m, rfl, _⟩ := h
    rfl
  · obtain ⟨A, m, rfl, P, hf, hl, hx, q⟩ := h
    refine ⟨_, pss_cons (ps_fld (pv 0) (pe_callTy call_list_of (by rfl) G.list (by decide +kernel) (pa_cons (pe_fld (pe_fld (pv 0) rfl) rfl) pa_nil)) rfl)
      (pss_cons (ps_for PassesOwn.never rfl (pi_list (pe_fld (pv 0) rfl)) (pg_name (i := 1) scSwear.nd rfl (Or.inl rfl)) (pss_one (ps_asg (pc0 G.alternate rfl) (pg_sub (pe_fld (pe_fld (pv 0) rfl) rfl) (pv 1) set_list))))
      (pss_cons (ps_fld (pv 0) (pc0 G.sworn rfl) rfl) (pss_one (ps_fld (pv 0) (pe_fld (pe_fld (pv 0) rfl) rfl) rfl)))), ?_⟩
    refine st_seq (st_flH (valH_list (P.vSeats C (P.vBox C (val_var rfl))) (SqL.of P.sl)) ?_)
    rintro _ _ ⟨b, rfl, hb, rfl⟩
    have P1 := P.newO hb (.lst (oVs m.box))
    have nb := P.out hb
    refine P1.sSpare C (j := Kg77.sitting m.box) (by rw [upd_same, full_box hf]) nb val_c (val_var rfl) fun H2 P2 t2 => ?_
    have t2' : To A.all H ({ A with al := b } : Ad).all H2 := (To.take hb).trans t2
    refine st_seq (st_forl (P2.vAlts C (val_var rfl)) (SqL.of P2.al) ?_)
    refine for_list (K := g.K) (a := b) (xs := nVs (Kg77.sitting m.box)) (fun i σ H' => (∃ v, σ = [some (.ref A.p), v]) ∧ PAt T { A with al := b } H' { m with spare := Kg77.sitting m.box, panel := marks ((Kg77.sitting m.box).take i) m.panel } ∧ To A.all H ({ A with al := b } : Ad).all H')
      ⟨⟨none, rfl⟩, P2, t2'⟩ (fun i σ H' _ h => SqL.of h.2.1.al) ?_ ?_
    · rintro i x σ H' hi ⟨⟨v, rfl⟩, P3, t3⟩
      obtain ⟨z, hz, rfl⟩ : ∃ z, (Kg77.sitting m.box)[i]? = some z ∧ x = nV z := by
        unfold nVs at hi
        rw [List.getElem?_map] at hi
        cases e : (Kg77.sitting m.box)[i]? with
        | none => rw [e] at hi; cases hi
        | some z => rw [e] at hi; exact ⟨z, rfl, (Option.some.inj hi).symm⟩
      have hzl := hx z (List.mem_of_getElem? hz)
      refine st_item val_c (P3.vFates C (P3.vPanel C (val_var rfl))) (val_var rfl) P3.fl ?_ ?_
      · rw [len_nVs, marks_len]
        exact hzl
      · refine ⟨⟨_, rfl⟩, ?_, t3.trans (To.upd (mem0 { A with al := b } (i := 2)))⟩
        rw [marks_more hz]
        have := P3.setPanel ((marks ((Kg77.sitting m.box).take i) m.panel).set z 5)
        rw [← nVs_set] at this
        exact this
    · rintro σ H' ⟨⟨v, rfl⟩, P3, t3⟩
      rw [len_nVs, List.take_length] at P3
      refine st_seq (P3.sPhase C (a := 2) val_c (val_var rfl) fun H4 P4 t4 => ?_)
      refine P4.sLeast C (P4.pSeats C (P4.vPlan C (val_var rfl))) (val_var rfl) fun H5 P5 t5 => q _ H5 ?_ ((t3.trans t4).trans t5) rfl
      have e : swearP m = { m with spare := Kg77.sitting m.box, panel := marks (Kg77.sitting m.box) m.panel, phase := 2, least := m.rules.seats } := by
        rw [marks_eq]
        unfold swearP State.swear
        rw [← hl]
      rw [e]
      exact P5
end
end Jp
namespace Jp
open PySem PySem.Spec PyProof.Rows L2
open Kg77 (State)
/-! ### xs == [] -/
theorem dp_ints {K : PySem.W.Frag} {H : Hp} : ∀ l : List Int, DpAll K H (l.map V.int) (l.map PyData.int)
  | [] => .nil
  | i :: l => .cons (.int i) (dp_ints l)
theorem lay_ints : ∀ l : List Int, PyData.canLayAll0 (l.map PyData.int) = true ∧ PyData.depthAll (l.map PyData.int) = 0
  | [] => ⟨rfl, rfl⟩
  | i :: l => by
    have ih := lay_ints l
    refine ⟨?_, ?_⟩
    · show (true && PyData.canLayAll0 (l.map PyData.int)) = true
      rw [ih.1]; rfl
    · show max 0 (PyData.depthAll (l.map PyData.int)) = 0
      rw [ih.2]; rfl
theorem shaped_list (l : List Int) : SeqAt.shaped (.list (l.map PyData.int)) = true := by
  have h := lay_ints l
  unfold SeqAt.shaped
  have a : (PyData.list (l.map PyData.int)).canLay0 = true := h.1
  have b : (PyData.list (l.map PyData.int)).depth = 1 := by show PyData.depthAll _ + 1 = 1; rw [h.2]
  rw [a, b]
  rfl
theorem eqv_nil (l : List Int) : PyData.eqv (.list (l.map PyData.int)) (.list []) = l.isEmpty := by
  cases l <;> rfl
/-- a test, the heap grown by the way -/
def AnsE (t : TT) (σ : L2.St) (H : Hp) (b : Bool) : Prop := ∀ Q : Bool → Hp → Prop, (∀ H', Ext H H' → Q b H') → t σ H Q
section
variable {K : PySem.W.Frag} {σ : L2.St} {H : Hp} {t u : TT} {a b : Bool} {D : Ends} {t1 t2 : TS} {ta : TE}
theorem Ans.e (h : Ans t σ H b) : AnsE t σ H b := fun Q q => h Q (q H (Ext.refl H))
theorem ansE_and (h1 : Ans t σ H a) (h2 : AnsE u σ H b) : AnsE (tAnd t u) σ H (a && b) := fun Q q => h1 _ (by
  cases a with
  | true => exact h2 Q q
  | false => exact q H (Ext.refl H))
theorem ansE_or (h1 : Ans t σ H a) (h2 : AnsE u σ H b) : AnsE (tOr t u) σ H (a || b) := fun Q q => h1 _ (by
  cases a with
  | true => exact q H (Ext.refl H)
  | false => exact h2 Q q)
theorem st_ifE (h : AnsE t σ H b) (h1 : b = true → ∀ H', Ext H H' → t1 D σ H') (h2 : b = false → ∀ H', Ext H H' → t2 D σ H') : tIfS t t1 t2 D σ H := h _ fun H' e => by
  cases b with
  | true => exact h1 rfl H' e
  | false => exact h2 rfl H' e
theorem ansE_empty {p : Addr} {l : List Int} (ha : Val ta σ H (.ref p)) (hp : SqL K H p (l.map V.int)) : AnsE (tTest (tOp (rEqD K) ta (tLst tNil))) σ H l.isEmpty := fun Q q =>
  ha _ ⟨Nat.zero_le _, fun n hn => ⟨.list (l.map PyData.int), .list [], .lst (by
    rcases hp with (hp | ⟨o, hp⟩) | hp
    · exact .inl (.inl (Ext.new hn _ _ hp))
    · exact .inl (.inr ⟨o, Ext.new hn _ _ hp⟩)
    · exact .inr hp) (dp_ints l), .lst (SqL.of upd_same) .nil, shaped_list l, by rfl, _, rfl, by rw [eqv_nil]; exact q _ (Ext.new hn)⟩⟩
theorem ansE_nempty {p : Addr} {l : List Int} (ha : Val ta σ H (.ref p)) (hp : SqL K H p (l.map V.int)) : AnsE (tTest (tOp (rNeD K) ta (tLst tNil))) σ H (!l.isEmpty) := fun Q q =>
  ha _ ⟨Nat.zero_le _, fun n hn => ⟨.list (l.map PyData.int), .list [], .lst (by
    rcases hp with (hp | ⟨o, hp⟩) | hp
    · exact .inl (.inl (Ext.new hn _ _ hp))
    · exact .inl (.inr ⟨o, Ext.new hn _ _ hp⟩)
    · exact .inr hp) (dp_ints l), .lst (SqL.of upd_same) .nil, shaped_list l, by rfl, _, rfl, by rw [eqv_nil]; exact q _ (Ext.new hn)⟩⟩
/-- a statement, what it brings, the rest -/
theorem st_then (R : L2.St → Hp → Prop) (h1 : ∀ N : L2.St → Hp → Prop, (∀ σ' H', R σ' H' → N σ' H') → t1 { D with nx := N } σ H) (h2 : ∀ σ' H', R σ' H' → t2 D σ' H') : tSeq t1 t2 D σ H := h1 _ h2
end
section
variable {K : PySem.W.Frag} {T : Ts} {H : Hp} {σ : L2.St} {te1 te2 te3 : TE}
theorem valH_turns {r : Addr} {x y : Nat} (h1 : Val te1 σ H (.ref r)) (h2 : Val te2 σ H (nV x)) (h3 : Val te3 σ H (nV y)) :
    ValH (tMake T.turns (spTurnsI T) [] E0 (tCons te1 (tCons (tLst (tCons te2 (tCons te3 tNil))) tNil))) σ H (fun v H' => ∃ b s dx, v = .ref b ∧ H b = none ∧ H s = none ∧ s ≠ b ∧ Ext H H' ∧ H' b = some (.ins T.turns dx [("row", .ref r), ("strikes", .ref s), ("at", nV 0), ("passes", nV 0)]) ∧ H' s = some (.lst [nV x, nV y])) := fun Q q =>
  h1 _ (h2 _ (h3 _ ⟨(by show 2 ≤ sizeLine; decide), fun s hs => makeH_turns (r := r) (s := s) fun v H' ⟨b, dx, e, nb, ext, hb⟩ => q v H' (by
    have sb : s ≠ b := fun z => by rw [← z, upd_same] at nb; cases nb
    have e1 : Ext H (L2.upd H s (.lst [nV x, nV y])) := Ext.new hs
    exact ⟨b, s, dx, e, e1.free nb, hs, sb, e1.trans ext, hb, ext _ _ upd_same⟩)⟩))
end
/-! ### Picking.begin_alternates -/
abbrev sAlt : Stmt := inClass (top 22) 2
theorem scAlt : FnScope ["self"] ["self"] (defScope sAlt) := ⟨rfl, rfl, rfl, by decide +kernel, rfl, by decide +kernel, by decide +kernel⟩
def spAlt (T : Ts) : Sp := fun vs H Q _ => ∃ (A : Ad) (m : State), vs = [.ref A.p] ∧ PAt T A H m ∧ m.full = true ∧ m.last = none ∧ m.rules.alternates ≤ 1000 ∧
  ∀ A' H', PAt T A' H' (beginAlt m) → To A.all H A'.all H' → A'.p = A.p → Q .non H'
theorem Ext.two {H H' : Hp} (e : Ext H H') {L : List Addr} {x y : Addr} (hx : H x = none) (hy : H y = none) : To L H (x :: y :: L) H' := e.take fun z hz => by
  rcases List.mem_cons.mp hz with q | hz
  · exact .inr (by rw [q]; exact hx)
  · rcases List.mem_cons.mp hz with q | hz
    · exact .inr (by rw [q]; exact hy)
    · exact .inl hz
section
variable {g : Gx} {T : Ts} {f : Addr}
theorem ok_alt (D : DefOk g.K "begin_alternates" "Picking.begin_alternates" sAlt ["self"] f) (C : ClsTxt g.K T) (G : Mg g.mg) (N1 : NOk g 1 T.box "Box" ["self", "seats"] (spBoxI T)) (N2 : NOk g 1 T.turns "Turns" ["self", "row", "strikes"] (spTurnsI T))
    (M1 : MOk g 2 T.box "fill" ["self", "panel"] (spFill T)) (M2 : MOk g 1 T.box "suffices" ["self"] (spSuff T)) : Pr g CX0 3 f ["self"] (spAlt T) := by
  obtain ⟨fd, F, b⟩ := D
  refine ⟨fd, ?_, b⟩
  refine F.ok scAlt (fun vs H Q E h => ?_) (fun cdv A0 outer s H vs Q E hr h => ?_)
  · obtain ⟨A, m, rfl, _⟩ := h
    rfl
  · obtain ⟨A, m, rfl, P, hf, hl, hn, q⟩ := h
    refine ⟨_, pss_cons (ps_fld (pv 0) (pe_callTy call_list_of (by rfl) G.list (by decide +kernel) (pa_cons (pe_fld (pe_fld (pv 0) rfl) rfl) pa_nil)) rfl)
      (pss_cons (ps_fld (pv 0) (pc0 G.atalts rfl) rfl)
      (pss_cons (ps_fld (pv 0) (pn N1 hr (by decide) rfl (pa_cons (pe_fld (pe_fld (pv 0) rfl) rfl) pa_nil)) rfl)
      (pss_cons (ps_fld (pv 0) (pn N2 hr (by decide) rfl (pa_cons (pe_fld (pe_fld (pv 0) rfl) rfl) (pa_cons (pe_lst (pa_cons (pe_fld (pe_fld (pv 0) rfl) rfl) (pa_cons (pe_fld (pe_fld (pv 0) rfl) rfl) pa_nil))) pa_nil))) rfl)
      (pss_cons (ps_expr (pm M1 C.box hr (by decide) (pe_fld (pv 0) rfl) (pa_cons (pe_fld (pv 0) rfl) pa_nil)))
      (pss_one (ps_if (pt_not (pt_val (pm0 M2 C.box hr (by decide) (pe_fld (pv 0) rfl)))) (pss_one (ps_fld (pv 0) (pc0 G.toofew rfl) rfl)) pss_nil)))))), ?_⟩
    refine st_seq (st_flH (valH_list (P.vSeats C (P.vBox C (val_var rfl))) (SqL.of P.sl)) ?_)
    rintro _ _ ⟨b, rfl, hb, rfl⟩
    have P1 := P.newO hb (.lst (oVs m.box))
    refine P1.sJury C (j := Kg77.sitting m.box) (by rw [upd_same, full_box hf]) (P.out hb) val_c (val_var rfl) fun H2 P2 t2 => ?_
    have t2' := (To.take hb).trans t2
    refine st_seq (P2.sPhase C (a := 1) val_c (val_var rfl) fun H3 P3 t3 => ?_)
    refine st_seq (st_flH (valH_box (args_cons (P3.pAlts C (P3.vPlan C (val_var rfl))) args_nil) hn) ?_)
    rintro _ H4 ⟨x, sl, dx, rfl, nx, ns, ne, ext, hx, hs⟩
    have P4 := P3.ext ext
    refine P4.sBox C hx hs (P3.out nx) (P3.out ns) ne val_c (val_var rfl) fun H5 P5 t5 => ?_
    have t5' := (t2'.trans t3).trans ((ext.two nx ns).trans t5)
    refine st_seq (st_flH (valH_turns (P5.pRow C (P5.vPlan C (val_var rfl))) (P5.pFor C (P5.vPlan C (val_var rfl))) (P5.pFor C (P5.vPlan C (val_var rfl)))) ?_)
    rintro _ H6 ⟨x2, s2, dx2, rfl, nx2, ns2, ne2, ext2, hx2, hs2⟩
    have P6 := P5.ext ext2
    refine P6.sTurns C hx2 hs2 (P5.out nx2) (P5.out ns2) ne2 val_c (val_var rfl) fun H7 P7 t7 => ?_
    have t7' := t5'.trans ((ext2.two nx2 ns2).trans t7)
    have P7' : PAt T { A with jl := b, bx := x, sl := sl, tn := x2, tl := s2 } H7 (alt0 m) := by
      have e : alt0 m = { m with jury := Kg77.sitting m.box, phase := 1, box := List.replicate m.rules.alternates none, turn := 0, passes := 0, leftA := m.rules.extra, leftB := m.rules.extra } := by
        unfold alt0
        rw [← hl]
      rw [e]
      exact P7
    obtain ⟨db, hbx⟩ := P7'.bx
    have hlen : (alt0 m).box.length = m.rules.alternates := List.length_replicate
    refine go_meth (a := x) (vs := [.ref A.pn]) (P7'.vBox C (val_var rfl)) hbx rfl (args_cons (P7'.vPanel C (val_var rfl)) args_nil) ⟨_, _, rfl, P7', by rw [hlen]; exact hn, fun H8 P8 t8 => ?_⟩
    have t8' := t7'.trans t8
    rw [hlen, ← toAlt_eq] at P8
    obtain ⟨db8, hbx8⟩ := P8.bx
    refine st_if (ans_not (ans_val (val_meth (P8.vBox C (val_var rfl)) hbx8 rfl args_nil fun Q k => ⟨_, _, rfl, P8, k⟩))) (fun c => ?_) (fun c => ?_)
    · refine P8.sPhase C (a := 3) val_c (val_var rfl) fun H9 P9 t9 => q _ H9 ?_ (t8'.trans t9) rfl
      unfold beginAlt
      rw [if_neg (fun z => by rw [z] at c; cases c)]
      exact P9
    · refine q _ H8 ?_ t8' rfl
      unfold beginAlt
      rw [if_pos (by cases e : m.toAlternates.full with | true => rfl | false => rw [e] at c; cases c)]
      exact P8
end
/-! ### Picking.settle -/
abbrev sSettle : Stmt := inClass (top 22) 1
theorem scSettle : FnScope ["self"] ["self"] (defScope sSettle) := ⟨rfl, rfl, rfl, by decide +kernel, rfl, by decide +kernel, by decide +kernel⟩
/-- what settle asks: Pre, or the picking ahead of all (no seats, nobody) -/
structure Ready (m : State) : Prop where
  box : m.box.length ≤ 1000
  alts : m.rules.alternates ≤ 1000
  range : (settle2 (settle1 m)).phase = 1 → (settle2 (settle1 m)).full = true ∧ ∀ x ∈ Kg77.sitting (settle2 (settle1 m)).box, x < (settle2 (settle1 m)).panel.length
  zero : (settle1 m).phase = 0 → (settle1 m).full = true
def spSettle (T : Ts) : Sp := fun vs H Q _ => ∃ (A : Ad) (m : State), vs = [.ref A.p] ∧ PAt T A H m ∧ Ready m ∧
  ∀ A' H', PAt T A' H' (settleP m) → To A.all H A'.all H' → A'.p = A.p → Q .non H'
theorem dec_nV (a b : Nat) : decide (nV a = V.int (b : Int)) = decide (a = b) := decide_eq_decide.mpr ⟨fun h => by have := V.int.inj h; omega, fun h => by rw [h]; rfl⟩
section
variable {g : Gx} {T : Ts} {f : Addr}
theorem ok_settle (D : DefOk g.K "settle" "Picking.settle" sSettle ["self"] f) (C : ClsTxt g.K T) (G : Mg g.mg) (M1 : MOk g 2 T.box "fill" ["self", "panel"] (spFill T)) (M2 : MOk g 1 T.box "suffices" ["self"] (spSuff T)) (M3 : MOk g 1 T.turns "are_over" ["self"] (spOver T))
    (M4 : MOk g 3 T.pick "begin_alternates" ["self"] (spAlt T)) (M5 : MOk g 1 T.pick "swear" ["self"] (spSwear T)) : Pr g CX0 4 f ["self"] (spSettle T) := by
  obtain ⟨fd, F, b⟩ := D
  refine ⟨fd, ?_, b⟩
  refine F.ok scSettle (fun vs H Q E h => ?_) (fun cdv A0 outer s H vs Q E hr h => ?_)
  · obtain ⟨A, m, rfl, _⟩ := h
    rfl
  · obtain ⟨A, m, rfl, P, R, q⟩ := h
    refine ⟨_, pss_cons (ps_expr (pm M1 C.box hr (by decide) (pe_fld (pv 0) rfl) (pa_cons (pe_fld (pv 0) rfl) pa_nil)))
      (pss_cons (ps_if (pt_not (pt_val (pm0 M2 C.box hr (by decide) (pe_fld (pv 0) rfl)))) (pss_cons (ps_fld (pv 0) (pc0 G.toofew rfl) rfl) (pss_one (ps_fld (pv 0) pe_non rfl))) pss_nil)
      (pss_cons (ps_if (PW.pt (pw_and (pt_cmpR op_eq (pe_fld (pv 0) rfl) (pc0 G.atbox rfl) (nomark _)) (pw_and (pt_val (pm0 M3 C.turns hr (by decide) (pe_fld (pv 0) rfl))) (pw_and1 (pt_cmpR op_isN (pe_fld (pv 0) rfl) pe_non (nomark _))))))
        (pss_one (ps_expr (pm0 M4 C.pick hr (by decide) (pv 0)))) pss_nil)
      (pss_one (ps_if (PW.pt (pw_and (pt_cmpR op_eq (pe_fld (pv 0) rfl) (pc0 G.atalts rfl) (nomark _)) (pw_and (pt_cmpR op_isN (pe_fld (pv 0) rfl) pe_non (nomark _)) (pw_and1 (PW.pt (pw_or (pt_val (pm0 M3 C.turns hr (by decide) (pe_fld (pv 0) rfl))) (pw_or1 (pt_cmpR (op_eqD hr.units) (pe_fld (pe_fld (pv 0) rfl) rfl) (pe_lst pa_nil) (nomark _)))))))))
        (pss_one (ps_expr (pm0 M5 C.pick hr (by decide) (pv 0)))) pss_nil)))), ?_⟩
    obtain ⟨db, hbx⟩ := P.bx
    refine go_meth (a := A.bx) (vs := [.ref A.pn]) (P.vBox C (val_var rfl)) hbx rfl (args_cons (P.vPanel C (val_var rfl)) args_nil) ⟨_, _, rfl, P, R.box, fun H1 P1 t1 => ?_⟩
    -- 1: does it suffice
    dsimp only
    refine st_then (fun σ' H' => σ' = [some (.ref A.p)] ∧ PAt T A H' (settle1 m) ∧ To A.all H A.all H') (fun N hN => ?_) ?_
    · obtain ⟨db1, hbx1⟩ := P1.bx
      refine st_if (ans_not (ans_val (val_meth (P1.vBox C (val_var rfl)) hbx1 rfl args_nil fun Q k => ⟨_, _, rfl, P1, k⟩))) (fun c => ?_) (fun c => ?_)
      · refine st_seq (P1.sPhase C (a := 3) val_c (val_var rfl) fun H2 P2 t2 => ?_)
        refine P2.sLast C (o := none) (l' := .non) rfl val_c (val_var rfl) fun H3 P3 t3 => hN _ _ ⟨rfl, ?_, (t1.trans t2).trans t3⟩
        unfold settle1
        rw [if_neg (fun z => by rw [z] at c; cases c)]
        exact P3
      · refine hN _ _ ⟨rfl, ?_, t1⟩
        unfold settle1
        rw [if_pos (by cases e : (m.fill m.box.length).full with | true => rfl | false => rw [e] at c; cases c)]
        exact P1
    rintro _ H2 ⟨rfl, P2, t2⟩
    -- 2: the alternates
    refine st_then (fun σ' H' => σ' = [some (.ref A.p)] ∧ ∃ A', PAt T A' H' (settle2 (settle1 m)) ∧ To A.all H A'.all H' ∧ A'.p = A.p) (fun N hN => ?_) ?_
    · obtain ⟨l, hl, vl⟩ := P2.vLast C
      refine st_if (b := decide ((settle1 m).phase = 0) && ((settle1 m).closed && (settle1 m).last.isNone)) ?_ (fun c => ?_) (fun c => ?_)
      · refine ans_and2 ?_ (ans_and2 (ans_val (P2.vOver (P2.vTurns C (val_var rfl)))) ?_)
        · have := ans_v (val_eq (P2.vPhase (K := g.K) C (ta := tVar 0) (σ := [some (V.ref A.p)]) (val_var rfl)) (val_c (v := V.int 0)))
          rw [show (0 : Int) = ((0 : Nat) : Int) from rfl, dec_nV] at this
          exact this
        · exact ans_isN (vl (val_var rfl)) hl.isNone
      · rw [Bool.and_eq_true, Bool.and_eq_true, decide_eq_true_eq] at c
        have hln : (settle1 m).last = none := Option.isNone_iff_eq_none.mp c.2.2
        obtain ⟨dp, lp, hp, _⟩ := P2.p
        have hrl : (settle1 m).rules = m.rules := by
          have := (fill_same m.box.length m).rules
          unfold settle1
          split <;> exact this
        refine go_meth (a := A.p) (val_var rfl) hp rfl args_nil ⟨A, _, rfl, P2, R.zero c.1, hln, by rw [hrl]; exact R.alts, fun A3 H3 P3 t3 e3 => hN _ _ ⟨rfl, A3, ?_, t2.trans t3, e3⟩⟩
        unfold settle2
        rw [if_pos ⟨c.1, c.2.1, hln⟩]
        exact P3
      · refine hN _ _ ⟨rfl, A, ?_, t2, rfl⟩
        unfold settle2
        rw [if_neg (fun z => by rw [z.1, z.2.1, z.2.2] at c; cases c)]
        exact P2
    rintro _ H3 ⟨rfl, A3, P3, t3, e3⟩
    -- 3: the oath
    rw [← e3]
    obtain ⟨l, hl, vl⟩ := P3.vLast C
    refine st_ifE (b := decide ((settle2 (settle1 m)).phase = 1) && ((settle2 (settle1 m)).last.isNone && ((settle2 (settle1 m)).closed || (opts (settle2 (settle1 m)).box).isEmpty))) ?_ (fun c H4 x4 => ?_) (fun c H4 x4 => ?_)
    · refine ansE_and ?_ (ansE_and ?_ (ansE_or (ans_val (P3.vOver (P3.vTurns C (val_var rfl)))) (ansE_empty (P3.vSeats C (P3.vBox C (val_var rfl))) P3.sl')))
      · have := ans_v (val_eq (P3.vPhase (K := g.K) C (ta := tVar 0) (σ := [some (V.ref A3.p)]) (val_var rfl)) (val_c (v := V.int 1)))
        rw [show (1 : Int) = ((1 : Nat) : Int) from rfl, dec_nV] at this
        exact this
      · exact ans_isN (vl (val_var rfl)) hl.isNone
    · rw [Bool.and_eq_true, Bool.and_eq_true, Bool.or_eq_true, decide_eq_true_eq] at c
      have hln : (settle2 (settle1 m)).last = none := Option.isNone_iff_eq_none.mp c.2.1
      have P4 := P3.ext x4
      obtain ⟨dp, lp, hp, _⟩ := P4.p
      obtain ⟨r1, r2⟩ := R.range c.1
      refine go_meth (a := A3.p) (val_var rfl) hp rfl args_nil ⟨A3, _, rfl, P4, r1, hln, r2, fun A5 H5 P5 t5 e5 => q A5 H5 ?_ ((t3.trans (x4.to _)).trans t5) (e5.trans e3)⟩
      unfold settleP settle3
      rw [if_pos ⟨c.1, hln, c.2.2.imp id fun z => by
        have : opts (settle2 (settle1 m)).box = [] := List.isEmpty_iff.mp z
        exact List.map_eq_nil_iff.mp this⟩]
      exact P5
    · refine q A3 H4 ?_ (t3.trans (x4.to _)) e3
      unfold settleP settle3
      rw [if_neg (fun z => by
        rw [z.1, z.2.1] at c
        rcases z.2.2 with w | w
        · rw [w] at c; cases c
        · rw [w] at c
          have : (opts ([] : List (Option Nat))).isEmpty = true := rfl
          rw [this, Bool.or_true] at c
          cases c)]
      exact P3.ext x4
end
end Jp
namespace Jp
open PySem PySem.Spec PyProof.Rows L2
open Kg77 (State)
/-! ### What settle asks, from Pre -/
theorem early_range {t : State} (e : Early t) : ∀ x ∈ Kg77.sitting t.box, x < t.panel.length := fun x hx =>
  (List.getElem?_eq_some_iff.mp (e.seated.one x (List.mem_append_right _ hx))).1
theorem Pre.ready {m : State} (p : Pre m) : Ready m := by
  have sm := fill_same m.box.length m
  have e : Early (m.fill m.box.length) := p.early.fill _
  have s1 : settle1 m = m.fill m.box.length ∧ (m.fill m.box.length).full = true ∨ (settle1 m).phase = 3 := by
    unfold settle1
    by_cases c : (m.fill m.box.length).full = true
    · rw [if_pos c]; exact .inl ⟨rfl, c⟩
    · rw [if_neg c]; exact .inr rfl
  refine ⟨Nat.le_trans p.sz.box (by decide), Nat.le_trans p.sz.alts (by decide), fun h => ?_, fun h => ?_⟩
  · rcases s1 with ⟨s1, c⟩ | s1
    · rw [s1] at h ⊢
      unfold settle2 at h ⊢
      by_cases d : (m.fill m.box.length).phase = 0 ∧ (m.fill m.box.length).closed = true ∧ (m.fill m.box.length).last = none
      · rw [if_pos d] at h ⊢
        unfold beginAlt at h ⊢
        by_cases z : (m.fill m.box.length).toAlternates.full = true
        · rw [if_pos z] at h ⊢
          exact ⟨z, early_range (e.toAlt d.1 c)⟩
        · rw [if_neg z] at h
          cases h
      · rw [if_neg d] at h ⊢
        exact ⟨c, early_range e⟩
    · unfold settle2 at h
      rw [if_neg (fun z => by have := z.1; omega)] at h
      omega
  · rcases s1 with ⟨s1, c⟩ | s1
    · rw [s1]; exact c
    · omega
theorem ready0 : Ready (fresh rules0 0 0 0) := ⟨by decide, by decide, fun _ => ⟨by decide, fun x hx => by
  have : x ∈ ([] : List Nat) := hx
  cases this⟩, fun _ => by decide⟩
section
variable {K : PySem.W.Frag} {T : Ts} {A : Ad} {H : Hp} {m : State} {σ : L2.St} {ta : TE}
theorem PAt.vLastF (P : PAt T A H m) (C : ClsTxt K T) {x : Nat × Nat × Nat} (hl : m.last = some x) (h : Val ta σ H (.ref A.p)) :
    Val (tFld K (tFld K ta "last") "side") σ H (nV x.2.2) ∧ Val (tFld K (tFld K ta "last") "who") σ H (nV x.1) ∧ Val (tFld K (tFld K ta "last") "seat") σ H (nV x.2.1) := by
  obtain ⟨l, hla, vl⟩ := P.vLast C
  rw [hl] at hla
  obtain ⟨la, dx, e, hh⟩ := hla
  subst e
  exact ⟨val_fld (vl h) hh C.strike C.strikeN.1 rfl, val_fld (vl h) hh C.strike C.strikeN.2.1 rfl, val_fld (vl h) hh C.strike C.strikeN.2.2 rfl⟩
theorem go_settle {Q : VK} (P : PAt T A H m) (R : Ready m) (h : Val ta σ H (.ref A.p)) (q : ∀ A' H', PAt T A' H' (settleP m) → To A.all H A'.all H' → A'.p = A.p → Q .non H') : tMeth T.pick "settle" (spSettle T) [] E0 ta tNil σ H Q := by
  obtain ⟨dx, l, e, _⟩ := P.p
  exact go_meth h e rfl args_nil ⟨A, m, rfl, P, R, q⟩
end
/-! ### Picking.excuse -/
abbrev sExc : Stmt := inClass (top 22) 4
theorem scExc : FnScope ["self", "who", "seat"] ["self", "who"] (defScope sExc) := ⟨rfl, rfl, rfl, by decide +kernel, rfl, by decide +kernel, by decide +kernel⟩
def spExc (T : Ts) : Sp := fun vs H Q _ => ∃ (A : Ad) (m : State) (i k : Nat), vs = [.ref A.p, nV i] ∧ PAt T A H m ∧ seatP m i = some k ∧ i < m.panel.length ∧ Ready { (leaveP m i k 2) with last := none } ∧
  ∀ A' H', PAt T A' H' (excuseP m i k) → To A.all H A'.all H' → A'.p = A.p → Q (nV k) H'
section
variable {g : Gx} {T : Ts} {f : Addr}
theorem ok_exc (D : DefOk g.K "excuse" "Picking.excuse" sExc ["self", "who"] f) (C : ClsTxt g.K T) (G : Mg g.mg) (M1 : MOk g 1 T.box "leave" ["self", "panel", "person", "fate"] (spLeave T)) (M2 : MOk g 4 T.pick "settle" ["self"] (spSettle T)) : Pr g CX0 5 f ["self", "who"] (spExc T) := by
  obtain ⟨fd, F, b⟩ := D
  refine ⟨fd, ?_, b⟩
  refine F.ok scExc (fun vs H Q E h => ?_) (fun cdv A0 outer s H vs Q E hr h => ?_)
  · obtain ⟨A, m, i, k, rfl, _⟩ := h
    rfl
  · obtain ⟨A, m, i, k, rfl, P, hk, hi, R, q⟩ := h
    refine ⟨_, pss_cons (ps_set (i := 2) scExc.nd rfl (Or.inl rfl) (pm M1 C.box hr (by decide) (pe_fld (pv 0) rfl) (pa_cons (pe_fld (pv 0) rfl) (pa_cons (pv 1) (pa_cons (pc0 G.excused rfl) pa_nil)))))
      (pss_cons (ps_fld (pv 0) pe_non rfl) (pss_cons (ps_expr (pm0 M2 C.pick hr (by decide) (pv 0))) (pss_one (ps_ret (pv 2))))), ?_⟩
    obtain ⟨db, hbx⟩ := P.bx
    refine go_meth (a := A.bx) (vs := [.ref A.pn, nV i, nV 2]) (P.vBox C (val_var rfl)) hbx rfl (args_cons (P.vPanel C (val_var rfl)) (args_cons (val_var rfl) (args_cons val_c args_nil))) ⟨A, m, i, 2, k, rfl, P, hk, hi, fun H1 P1 t1 => ?_⟩
    dsimp only
    refine st_seq (P1.sLast C (o := none) (l' := .non) rfl val_c (val_var rfl) fun H2 P2 t2 => ?_)
    refine go_settle P2 R (val_var rfl) fun A3 H3 P3 t3 e3 => ?_
    exact st_ret (val_var rfl) (q A3 H3 P3 ((t1.trans t2).trans t3) e3)
end
/-! ### Picking.strike -/
abbrev sStr : Stmt := inClass (top 22) 5
theorem scStr : FnScope ["self", "side", "who", "seat"] ["self", "side", "who"] (defScope sStr) := ⟨rfl, rfl, rfl, by decide +kernel, rfl, by decide +kernel, by decide +kernel⟩
def spStr (T : Ts) : Sp := fun vs H Q _ => ∃ (A : Ad) (m : State) (sd i k : Nat), vs = [.ref A.p, nV sd, nV i] ∧ PAt T A H m ∧ Turning m ∧ nextSide m = (sd : Int) ∧ seatP m i = some k ∧ i < m.panel.length ∧
  Ready { (struckT (leaveP m i k (3 + sd)) sd) with last := some (i, k, sd) } ∧ ∀ A' H', PAt T A' H' (strikeP m sd i k) → To A.all H A'.all H' → A'.p = A.p → Q (nV k) H'
theorem next_leave (m : State) (i k n : Nat) : nextSide (leaveP m i k n) = nextSide m := by
  unfold nextSide
  rw [nextP_leave]
  rfl
theorem valH_strike {T : Ts} {H : Hp} {σ : L2.St} {t : TA} {a b c : V} (h : Args t σ H [a, b, c]) : ValH (tMake T.strike (spStrikeI T) [] E0 t) σ H (fun v H' => ∃ x dx, v = .ref x ∧ Ext H H' ∧ H' x = some (.ins T.strike dx [("side", a), ("who", b), ("seat", c)])) := fun Q q =>
  go_make h fun x dx nx nd ne => ⟨x, dx, a, b, c, rfl, upd_same, rfl, q _ _ (by
    have e1 : Ext H (L2.upd (L2.upd H dx (.own x)) x (.ins T.strike dx [])) := (Ext.new nd).over nx
    exact ⟨x, dx, rfl, e1.over nx, upd_same⟩)⟩
section
variable {g : Gx} {T : Ts} {f : Addr}
theorem ok_str (D : DefOk g.K "strike" "Picking.strike" sStr ["self", "side", "who"] f) (C : ClsTxt g.K T) (G : Mg g.mg) (M1 : MOk g 1 T.box "leave" ["self", "panel", "person", "fate"] (spLeave T)) (M3 : MOk g 3 T.turns "strike" ["self"] (spTStrike T)) (N1 : NOk g 1 T.strike "Strike" ["self", "side", "who", "seat"] (spStrikeI T))
    (M2 : MOk g 4 T.pick "settle" ["self"] (spSettle T)) : Pr g CX0 5 f ["self", "side", "who"] (spStr T) := by
  obtain ⟨fd, F, b⟩ := D
  refine ⟨fd, ?_, b⟩
  refine F.ok scStr (fun vs H Q E h => ?_) (fun cdv A0 outer s H vs Q E hr h => ?_)
  · obtain ⟨A, m, sd, i, k, rfl, _⟩ := h
    rfl
  · obtain ⟨A, m, sd, i, k, rfl, P, tu, hs, hk, hi, R, q⟩ := h
    refine ⟨_, pss_cons (ps_set (i := 3) scStr.nd rfl (Or.inl rfl) (pm M1 C.box hr (by decide) (pe_fld (pv 0) rfl) (pa_cons (pe_fld (pv 0) rfl) (pa_cons (pv 2) (pa_cons (pe_op op_add (pc0 G.struck rfl) (pv 1)) pa_nil)))))
      (pss_cons (ps_expr (pm0 M3 C.turns hr (by decide) (pe_fld (pv 0) rfl)))
      (pss_cons (ps_fld (pv 0) (pn N1 hr (by decide) rfl (pa_cons (pv 1) (pa_cons (pv 2) (pa_cons (pv 3) pa_nil)))) rfl)
      (pss_cons (ps_expr (pm0 M2 C.pick hr (by decide) (pv 0))) (pss_one (ps_ret (pv 3)))))), ?_⟩
    obtain ⟨db, hbx⟩ := P.bx
    have v3 : Val (tOp (rI0 fun i j => V.int (i + j)) (tC (.int 3)) (tVar 1)) (start ["self", "side", "who", "seat"] [.ref A.p, nV sd, nV i]) H (nV (3 + sd)) := by
      have := val_I (g := fun i j => V.int (i + j)) (val_c (σ := start ["self", "side", "who", "seat"] [.ref A.p, nV sd, nV i]) (H := H) (v := V.int 3)) (val_var (i := 1) (v := V.int (sd : Int)) rfl)
      rw [show (3 : Int) + (sd : Int) = ((3 + sd : Nat) : Int) by omega] at this
      exact this
    refine go_meth (a := A.bx) (vs := [.ref A.pn, nV i, nV (3 + sd)]) (P.vBox C (val_var rfl)) hbx rfl (args_cons (P.vPanel C (val_var rfl)) (args_cons (val_var rfl) (args_cons v3 args_nil))) ⟨A, m, i, 3 + sd, k, rfl, P, hk, hi, fun H1 P1 t1 => ?_⟩
    dsimp only
    obtain ⟨dt, htn⟩ := P1.tn
    refine go_meth (a := A.tn) (P1.vTurns C (val_var rfl)) htn rfl args_nil ⟨A, _, sd, rfl, P1, ⟨tu.row, tu.at_, tu.open_⟩, (next_leave m i k _).trans hs, fun H2 P2 t2 => ?_⟩
    dsimp only
    refine st_seq (st_flH (valH_strike (args_cons (val_var rfl) (args_cons (val_var rfl) (args_cons (val_var rfl) args_nil)))) ?_)
    rintro _ H3 ⟨x, dx, rfl, ext, hx⟩
    have P3 := P2.ext ext
    refine P3.sLast C (o := some (i, k, sd)) (l' := .ref x) ⟨x, dx, rfl, hx⟩ val_c (val_var rfl) fun H4 P4 t4 => ?_
    dsimp only
    refine go_settle P4 R (val_var rfl) fun A5 H5 P5 t5 e5 => ?_
    exact st_ret (val_var rfl) (q A5 H5 P5 ((((t1.trans t2).trans (ext.to _)).trans t4).trans t5) e5)
end
/-! ### Picking.pass_turn -/
abbrev sPas : Stmt := inClass (top 22) 6
theorem scPas : FnScope ["self"] ["self"] (defScope sPas) := ⟨rfl, rfl, rfl, by decide +kernel, rfl, by decide +kernel, by decide +kernel⟩
def spPas (T : Ts) : Sp := fun vs H Q _ => ∃ (A : Ad) (m : State) (sd : Nat), vs = [.ref A.p] ∧ PAt T A H m ∧ Turning m ∧ nextSide m = (sd : Int) ∧
  Ready { (passedT m sd) with last := none } ∧ ∀ A' H', PAt T A' H' (passP m sd) → To A.all H A'.all H' → A'.p = A.p → Q .non H'
section
variable {g : Gx} {T : Ts} {f : Addr}
theorem ok_pas (D : DefOk g.K "pass_turn" "Picking.pass_turn" sPas ["self"] f) (C : ClsTxt g.K T) (G : Mg g.mg) (M3 : MOk g 3 T.turns "pass_by" ["self", "uses_up"] (spTPass T))
    (M2 : MOk g 4 T.pick "settle" ["self"] (spSettle T)) : Pr g CX0 5 f ["self"] (spPas T) := by
  obtain ⟨fd, F, b⟩ := D
  refine ⟨fd, ?_, b⟩
  refine F.ok scPas (fun vs H Q E h => ?_) (fun cdv A0 outer s H vs Q E hr h => ?_)
  · obtain ⟨A, m, sd, rfl, _⟩ := h
    rfl
  · obtain ⟨A, m, sd, rfl, P, tu, hs, R, q⟩ := h
    refine ⟨_, pss_cons (ps_expr (pm M3 C.turns hr (by decide) (pe_fld (pv 0) rfl) (pa_cons (pe_fld (pe_fld (pv 0) rfl) rfl) pa_nil)))
      (pss_cons (ps_fld (pv 0) pe_non rfl) (pss_one (ps_expr (pm0 M2 C.pick hr (by decide) (pv 0))))), ?_⟩
    obtain ⟨dt, htn⟩ := P.tn
    refine go_meth (a := A.tn) (vs := [bV m.rules.passCosts]) (P.vTurns C (val_var rfl)) htn rfl (args_cons (P.pUses C (P.vPlan C (val_var rfl))) args_nil) ⟨A, m, sd, rfl, P, tu, hs, fun H2 P2 t2 => ?_⟩
    dsimp only
    refine st_seq (P2.sLast C (o := none) (l' := .non) rfl val_c (val_var rfl) fun H3 P3 t3 => ?_)
    exact go_settle P3 R (val_var rfl) fun A4 H4 P4 t4 e4 => q A4 H4 P4 ((t2.trans t3).trans t4) e4
end
/-! ### Picking.answer_objection -/
abbrev sAns : Stmt := inClass (top 22) 7
theorem scAns : FnScope ["self", "upheld", "filler"] ["self", "upheld"] (defScope sAns) := ⟨rfl, rfl, rfl, by decide +kernel, rfl, by decide +kernel, by decide +kernel⟩
def spAnsO (T : Ts) : Sp := fun vs H Q _ => ∃ (A : Ad) (m : State) (up : Int) (x : Nat × Nat × Nat) (j : Nat), vs = [.ref A.p, .int up] ∧ PAt T A H m ∧ m.last = some x ∧ m.box[x.2.1]? = some (some j) ∧ j < m.panel.length ∧ x.1 < m.panel.length ∧
  Ready { (if decide (up = 1) = true then backP m x else m) with last := none } ∧ ∀ A' H', PAt T A' H' (objectP m (decide (up = 1)) x) → To A.all H A'.all H' → A'.p = A.p → Q .non H'
section
variable {g : Gx} {T : Ts} {f : Addr}
theorem ok_ans (D : DefOk g.K "answer_objection" "Picking.answer_objection" sAns ["self", "upheld"] f) (C : ClsTxt g.K T) (G : Mg g.mg) (M3 : MOk g 1 T.box "put" ["self", "panel", "seat", "person"] (spPut T))
    (M2 : MOk g 4 T.pick "settle" ["self"] (spSettle T)) : Pr g CX0 5 f ["self", "upheld"] (spAnsO T) := by
  obtain ⟨fd, F, b⟩ := D
  refine ⟨fd, ?_, b⟩
  refine F.ok scAns (fun vs H Q E h => ?_) (fun cdv A0 outer s H vs Q E hr h => ?_)
  · obtain ⟨A, m, up, x, j, rfl, _⟩ := h
    rfl
  · obtain ⟨A, m, up, x, j, rfl, P, hl, hb, hj, hw, R, q⟩ := h
    refine ⟨_, pss_cons (ps_if (pt_cmpR op_eq (pv 1) pe_int (nomark _))
        (pss_cons (ps_set (i := 2) scAns.nd rfl (Or.inl rfl) (pe_ix ix_list (pe_fld (pe_fld (pv 0) rfl) rfl) (pe_fld (pe_fld (pv 0) rfl) rfl) (fun _ _ => rfl)))
        (pss_cons (ps_asg (pc0 G.waits rfl) (pg_sub (pe_fld (pe_fld (pv 0) rfl) rfl) (pv 2) set_list))
        (pss_one (ps_expr (pm M3 C.box hr (by decide) (pe_fld (pv 0) rfl) (pa_cons (pe_fld (pv 0) rfl) (pa_cons (pe_fld (pe_fld (pv 0) rfl) rfl) (pa_cons (pe_fld (pe_fld (pv 0) rfl) rfl) pa_nil)))))))) pss_nil)
      (pss_cons (ps_fld (pv 0) pe_non rfl) (pss_one (ps_expr (pm0 M2 C.pick hr (by decide) (pv 0))))), ?_⟩
    have hbl := (List.getElem?_eq_some_iff.mp hb).1
    refine st_then (fun σ' H' => (∃ v, σ' = [some (.ref A.p), some (.int up), v]) ∧ PAt T A H' (if decide (up = 1) = true then backP m x else m) ∧ To A.all H A.all H') (fun N hN => ?_) ?_
    · refine st_if (b := decide (up = 1)) ?_ (fun c => ?_) (fun c => ?_)
      · have := ans_v (val_eq (val_var (σ := start ["self", "upheld", "filler"] [.ref A.p, .int up]) (H := H) (i := 1) (v := V.int up) rfl) (val_c (v := V.int 1)))
        rw [dec_int] at this
        exact this.to (by rw [Bool.eq_iff_iff, beq_iff_eq, decide_eq_true_eq])
      · have L1 := P.vLastF (K := g.K) C hl (ta := tVar 0) (σ := start ["self", "upheld", "filler"] [.ref A.p, .int up]) (val_var rfl)
        refine st_seq (st_set (val_ix (P.vSeats C (P.vBox C (val_var rfl))) L1.2.2 (SqL.of P.sl) (oVs_get hb)) ?_)
        refine st_seq (st_item val_c (P.vFates C (P.vPanel C (val_var rfl))) (val_var (i := 2) (v := V.int (j : Int)) rfl) P.fl (by rw [len_nVs]; exact hj) ?_)
        have P1 : PAt T A (L2.upd H A.fl (.lst ((nVs m.panel).set j (nV 0)))) (m.mark j 0) := by
          have := P.setPanel (m.panel.set j 0)
          rw [← nVs_set] at this
          exact this
        have L2' := P1.vLastF (K := g.K) C hl (ta := tVar 0) (σ := [some (V.ref A.p), some (V.int up), some (oV (some j))]) (val_var rfl)
        obtain ⟨db, hbx⟩ := P1.bx
        refine go_meth (a := A.bx) (vs := [.ref A.pn, nV x.2.1, nV x.1]) (P1.vBox C (val_var rfl)) hbx rfl (args_cons (P1.vPanel C (val_var rfl)) (args_cons L2'.2.2 (args_cons L2'.2.1 args_nil))) ⟨A, _, x.2.1, x.1, rfl, P1, hbl, by show _ < (m.panel.set j 0).length; rw [List.length_set]; exact hw, fun H2 P2 t2 => hN _ _ ⟨⟨_, rfl⟩, ?_, (To.upd (mem0 A (i := 2))).trans t2⟩⟩
        rw [if_pos c]
        have eb : backP m x = putM (m.mark j 0) x.2.1 x.1 := by
          unfold backP
          rw [List.getD_eq_getElem?_getD, hb]
          rfl
        rw [eb]
        exact P2
      · refine hN _ _ ⟨⟨_, rfl⟩, ?_, To.refl _ _⟩
        rw [if_neg (by rw [c]; decide)]
        exact P
    rintro _ H1 ⟨⟨v, rfl⟩, P1, t1⟩
    refine st_seq (P1.sLast C (o := none) (l' := .non) rfl val_c (val_var rfl) fun H3 P3 t3 => ?_)
    exact go_settle P3 R (val_var rfl) fun A4 H4 P4 t4 e4 => q A4 H4 P4 ((t1.trans t3).trans t4) e4
end
/-! ### Picking.turn, Picking.struck -/
abbrev sTurn : Stmt := inClass (top 22) 9
theorem scTurn : FnScope ["self"] ["self"] (defScope sTurn) := ⟨rfl, rfl, rfl, by decide +kernel, rfl, by decide +kernel, by decide +kernel⟩
def spTurn (T : Ts) : Sp := fun vs H Q _ => ∃ (A : Ad) (m : State), vs = [.ref A.p] ∧ PAt T A H m ∧ (m.phase ≤ 1 → RowOk m.rules.turns) ∧ Q (.int (turnP m)) H
abbrev sStruck : Stmt := inClass (top 22) 10
theorem scStruck : FnScope ["self"] ["self"] (defScope sStruck) := ⟨rfl, rfl, rfl, by decide +kernel, rfl, by decide +kernel, by decide +kernel⟩
def spStruck (T : Ts) : Sp := fun vs H Q _ => ∃ (A : Ad) (m : State), vs = [.ref A.p] ∧ PAt T A H m ∧ Q (.int (lastWho m)) H
section
variable {g : Gx} {T : Ts} {f : Addr}
theorem ok_turn (D : DefOk g.K "turn" "Picking.turn" sTurn ["self"] f) (C : ClsTxt g.K T) (G : Mg g.mg) (M1 : MOk g 2 T.turns "next_side" ["self"] (spNext T)) : Pr g CX0 3 f ["self"] (spTurn T) := by
  obtain ⟨fd, F, b⟩ := D
  refine ⟨fd, ?_, b⟩
  refine F.ok scTurn (fun vs H Q E h => ?_) (fun cdv A0 outer s H vs Q E hr h => ?_)
  · obtain ⟨A, m, rfl, _⟩ := h
    rfl
  · obtain ⟨A, m, rfl, P, hrow, q⟩ := h
    refine ⟨_, pss_cons (ps_if (pt_cmpR op_gt (pe_fld (pv 0) rfl) (pc0 G.atalts rfl) (nomark _)) (pss_one (ps_ret pe_int)) pss_nil)
      (pss_one (ps_ret (pe_callB (call_max2 rfl) (by rfl) G.max (by decide +kernel) (pa_cons pe_int (pa_cons (pm0 M1 C.turns hr (by decide) (pe_fld (pv 0) rfl)) pa_nil))))), ?_⟩
    refine st_seq (st_if (ans_v (val_B (P.vPhase C (val_var rfl)) val_c)) (fun c => ?_) (fun c => ?_))
    · have c' := of_decide_eq_true c
      refine st_ret val_c ?_
      have : turnP m = 0 := if_pos (by omega)
      rw [this] at q
      exact q
    · have c' := of_decide_eq_false c
      have e : turnP m = if nextSide m > 0 then nextSide m else 0 := if_neg (by omega)
      rw [e] at q
      exact P.vNext (hrow (by omega)) (P.vTurns C (val_var rfl)) _ ⟨0, nextSide m, rfl, q⟩
theorem ok_struck (D : DefOk g.K "struck" "Picking.struck" sStruck ["self"] f) (C : ClsTxt g.K T) (G : Mg g.mg) : Pr g CX0 1 f ["self"] (spStruck T) := by
  obtain ⟨fd, F, b⟩ := D
  refine ⟨fd, ?_, b⟩
  refine F.ok scStruck (fun vs H Q E h => ?_) (fun cdv A0 outer s H vs Q E hr h => ?_)
  · obtain ⟨A, m, rfl, _⟩ := h
    rfl
  · obtain ⟨A, m, rfl, P, q⟩ := h
    refine ⟨_, pss_cons (ps_if (pt_cmpR op_isN (pe_fld (pv 0) rfl) pe_non (nomark _)) (pss_one (ps_ret (pc0 G.nobody rfl))) pss_nil) (pss_one (ps_ret (pe_fld (pe_fld (pv 0) rfl) rfl))), ?_⟩
    obtain ⟨l, hl, vl⟩ := P.vLast C
    refine st_seq (st_if (ans_isN (vl (val_var rfl)) hl.isNone) (fun c => ?_) (fun c => ?_))
    · refine st_ret val_c ?_
      have e : m.last = none := Option.isNone_iff_eq_none.mp c
      unfold lastWho at q
      rw [e] at q
      exact q
    · cases e : m.last with
      | none => rw [e] at c; cases c
      | some x =>
        unfold lastWho at q
        rw [e] at q
        have := st_ret (D := { nx := fun _ H' => Q .non H', rt := Q }) (P.vLastF (K := g.K) C e (ta := tVar 0) (σ := start ["self"] [.ref A.p]) (val_var rfl)).2.1 q
        exact this
end
end Jp
namespace Jp
open PySem PySem.Spec PyProof.Rows L2
open Kg77 (State)
/-! ### Picking.let_go -/
theorem idx_at {l : List Nat} {i : Nat} (h : i ∈ l) : l[l.idxOf i]? = some i ∧ ∀ j, j < l.idxOf i → l[j]? ≠ some i := by
  have hk := List.idxOf_lt_length_of_mem h
  refine ⟨by rw [List.getElem?_eq_getElem hk, List.getElem_idxOf hk], fun j hj z => ?_⟩
  obtain ⟨hj', e⟩ := List.getElem?_eq_some_iff.mp z
  have := List.not_of_lt_findIdx (p := fun x => x == i) (xs := l) (i := j) hj
  rw [e] at this
  simp at this
theorem erase_at {l : List Nat} {i : Nat} : l.eraseIdx (l.idxOf i) = l.erase i := (List.erase_eq_eraseIdx_of_idxOf rfl).symm
theorem nZ_erase : ∀ (l : List Nat) (k : Nat), (nZ l).eraseIdx k = nZ (l.eraseIdx k)
  | [], _ => rfl
  | _ :: _, 0 => rfl
  | a :: l, k + 1 => congrArg (List.cons (a : Int)) (nZ_erase l k)
/-- l.remove(x) -/
theorem st_remove {K : PySem.W.Frag} {σ : L2.St} {H : Hp} {to ta : TE} {D : Ends} {p : Addr} {l : List Nat} {i : Nat} (ho : Val to σ H (.ref p)) (ha : Val ta σ H (nV i)) (hp : H p = some (.lst (nVs l))) (hi : i ∈ l) (q : D.nx σ (L2.upd H p (.lst (nVs (l.erase i))))) :
    tDrop (tBM K "list" rRemI to (tCons ta tNil)) D σ H := by
  obtain ⟨h1, h2⟩ := idx_at hi
  have hp' : H p = some (.lst ((nZ l).map V.int)) := by rw [← nVs_ints]; exact hp
  refine ho _ ⟨.inl ⟨rfl, _, SqL.of hp⟩, ha _ ⟨p, nZ l, (i : Int), l.idxOf i, rfl, rfl, hp', ints_get h1, fun j hj => ints_ne (h2 j hj), ?_⟩⟩
  rw [nZ_erase, erase_at, ← nVs_ints]
  exact q
abbrev sLet : Stmt := inClass (top 22) 8
theorem scLet : FnScope ["self", "who", "other"] ["self", "who"] (defScope sLet) := ⟨rfl, rfl, rfl, by decide +kernel, rfl, by decide +kernel, by decide +kernel⟩
def spLet (T : Ts) : Sp := fun vs H Q _ => ∃ (A : Ad) (m : State) (i : Nat), vs = [.ref A.p, nV i] ∧ PAt T A H m ∧ i < m.panel.length ∧ (m.jury.contains i || m.spare.contains i) = true ∧ (∀ x ∈ m.spare, x < m.panel.length) ∧
  ∀ H', PAt T A H' (letP m i).1 → To A.all H A.all H' → Q (nV (letP m i).2) H'
section
variable {g : Gx} {T : Ts} {f : Addr}
theorem ok_let (D : DefOk g.K "let_go" "Picking.let_go" sLet ["self", "who"] f) (C : ClsTxt g.K T) (G : Mg g.mg) : Pr g CX0 1 f ["self", "who"] (spLet T) := by
  obtain ⟨fd, F, b⟩ := D
  refine ⟨fd, ?_, b⟩
  refine F.ok scLet (fun vs H Q E h => ?_) (fun cdv A0 outer s H vs Q E hr h => ?_)
  · obtain ⟨A, m, i, rfl, _⟩ := h
    rfl
  · obtain ⟨A, m, i, rfl, P, hi, hin, hsp, q⟩ := h
    refine ⟨_, pss_cons (ps_asg (pc0 G.letgo rfl) (pg_sub (pe_fld (pe_fld (pv 0) rfl) rfl) (pv 1) set_list))
      (pss_cons (ps_if (pt_cmpR op_in_seq (pv 1) (pe_fld (pv 0) rfl) rfl) (pss_cons (ps_expr (pe_bm PySem.F.plainAttrs_list PySem.F.slot_list_remove PySem.F.type_list_remove mt_remove (pe_fld (pv 0) rfl) (pa_cons (pv 1) pa_nil))) (pss_one (ps_ret pe_int))) pss_nil)
      (pss_cons (ps_if (pt_cmpR (op_neD hr.units) (pe_fld (pv 0) rfl) (pe_lst pa_nil) (nomark _))
        (pss_cons (ps_set (i := 2) scLet.nd rfl (Or.inl rfl) (pe_bm PySem.F.plainAttrs_list PySem.F.slot_list_pop PySem.F.type_list_pop mt_popAt (pe_fld (pv 0) rfl) (pa_cons pe_int pa_nil)))
        (pss_cons (ps_asg (pc0 G.sits rfl) (pg_sub (pe_fld (pe_fld (pv 0) rfl) rfl) (pv 2) set_list))
        (pss_cons (ps_asg (pv 2) (pg_sub (pe_fld (pv 0) rfl) (pe_bm PySem.F.plainAttrs_list PySem.F.slot_list_index PySem.F.type_list_index mt_index (pe_fld (pv 0) rfl) (pa_cons (pv 1) pa_nil)) set_list))
        (pss_one (ps_ret pe_int))))) pss_nil)
      (pss_cons (ps_expr (pe_bm PySem.F.plainAttrs_list PySem.F.slot_list_remove PySem.F.type_list_remove mt_remove (pe_fld (pv 0) rfl) (pa_cons (pv 1) pa_nil)))
      (pss_cons (ps_if (pt_cmpR op_lt (pe_callB call_len_seq (by rfl) G.len PySem.boot_len (pa_cons (pe_fld (pv 0) rfl) pa_nil)) (pe_fld (pv 0) rfl) (nomark _)) (pss_one (ps_fld (pv 0) (pc0 G.over rfl) rfl)) pss_nil)
      (pss_one (ps_ret pe_int)))))), ?_⟩
    refine st_seq (st_item val_c (P.vFates C (P.vPanel C (val_var rfl))) (val_var (i := 1) (v := V.int (i : Int)) rfl) P.fl (by rw [len_nVs]; exact hi) ?_)
    have P1 : PAt T A (L2.upd H A.fl (.lst ((nVs m.panel).set i (nV 6)))) (m.mark i 6) := by
      have := P.setPanel (m.panel.set i 6)
      rw [← nVs_set] at this
      exact this
    have t1 : To A.all H A.all (L2.upd H A.fl (.lst ((nVs m.panel).set i (nV 6)))) := To.upd (mem0 A (i := 2))
    have va := ans_v (val_in (K := g.K) (val_var (σ := start ["self", "who", "other"] [.ref A.p, nV i]) (H := L2.upd H A.fl (.lst ((nVs m.panel).set i (nV 6)))) (i := 1) (v := V.int (i : Int)) rfl) (P1.vAlts C (ta := tVar 0) (val_var rfl)) P1.al')
    refine st_seq (st_if va (fun c => ?_) (fun c => ?_))
    · have c' : m.spare.contains i = true := by rw [← ints_contains]; exact c
      refine st_seq (st_remove (P1.vAlts C (val_var rfl)) (val_var rfl) P1.al (List.contains_iff_mem.mp c') ?_)
      dsimp only
      refine st_ret val_c ?_
      have P2 := P1.setSpare ((m.mark i 6).spare.erase i)
      have e : letP m i = ({ (m.mark i 6) with spare := m.spare.erase i }, 0) := if_pos c'
      rw [e] at q
      exact q _ P2 (t1.trans (To.upd (mem0 A (i := 10))))
    · have c' : m.spare.contains i = false := by rw [← ints_contains]; exact c
      have cj : m.jury.contains i = true := by rw [c', Bool.or_false] at hin; exact hin
      have mj := List.contains_iff_mem.mp cj
      have e : letP m i = match m.spare with
          | j :: l => ({ ((m.mark i 6).mark j 1) with spare := l, jury := m.jury.set (m.jury.idxOf i) j }, 1)
          | [] => (if (m.jury.erase i).length < m.least then { (m.mark i 6) with jury := m.jury.erase i, phase := 4 } else { (m.mark i 6) with jury := m.jury.erase i }, 2) := if_neg (by rw [c']; decide)
      refine st_seq (st_ifE (ansE_nempty (P1.vAlts C (val_var rfl)) P1.al') (fun c2 H2 x2 => ?_) (fun c2 H2 x2 => ?_))
      · cases es : m.spare with
        | nil =>
          have es' : (m.mark i 6).spare = [] := es
          rw [es'] at c2
          cases c2
        | cons j l =>
          have P2 := P1.ext x2
          have es' : (m.mark i 6).spare = j :: l := es
          rw [es] at e
          dsimp only at e
          rw [e] at q
          have hal : H2 A.al = some (.lst (nVs (j :: l))) := by rw [← es']; exact P2.al
          have hjl : j < m.panel.length := hsp j (by rw [es]; exact List.mem_cons_self)
          -- other = self.alternates.pop(0)
          have vpop : ∀ Q : VK, Q (nV j) (L2.upd H2 A.al (.lst (nVs l))) → tBM g.K "list" rPopAt (tFld g.K (tVar 0) "alternates") (tCons (tC (.int 0)) tNil) (start ["self", "who", "other"] [.ref A.p, nV i]) H2 Q := fun Q k =>
            P2.vAlts C (val_var rfl) _ ⟨.inl ⟨rfl, _, SqL.of hal⟩, A.al, nVs (j :: l), 0, 0, nV j, rfl, rfl, hal, by omega, by omega, by
              show seqIndex? 0 ((nVs l).length + 1) = some 0
              exact (seqIndex_of (k := 0) (by omega) (by omega)).trans rfl, rfl, k⟩
          refine st_seq (vpop _ ?_)
          have P3 := P2.setSpare l
          dsimp only [gName]
          refine st_seq (st_item (i := j) val_c (P3.vFates C (P3.vPanel C (val_var rfl))) (val_var rfl) P3.fl (by rw [len_nVs]; show _ < (m.panel.set i 6).length; rw [List.length_set]; exact hjl) ?_)
          have P4 := P3.setPanel ((m.mark i 6).panel.set j 1)
          rw [← nVs_set] at P4
          obtain ⟨i1, i2⟩ := idx_at mj
          refine st_seq (st_item (i := m.jury.idxOf i) (v := nV j) (val_var rfl) (P4.vJury C (val_var rfl)) (val_index (P4.vJury C (val_var rfl)) (val_var (v := V.int (i : Int)) rfl) P4.jl' (ints_get i1) fun j hj => ints_ne (i2 j hj)) P4.jl (by rw [len_nVs]; exact (List.getElem?_eq_some_iff.mp i1).1) ?_)
          dsimp only
          refine st_ret val_c ?_
          have P5 := P4.setJury (m.jury.set (m.jury.idxOf i) j)
          rw [← nVs_set] at P5
          exact q _ P5 ((((t1.trans (x2.to _)).trans (To.upd (mem0 A (i := 10)))).trans (To.upd (mem0 A (i := 2)))).trans (To.upd (mem0 A (i := 9))))
      · have es : m.spare = [] := by
          cases es : m.spare with
          | nil => rfl
          | cons j l =>
            have es' : (m.mark i 6).spare = j :: l := es
            rw [es'] at c2
            cases c2
        rw [es] at e
        dsimp only at e
        rw [e] at q
        have P2 := P1.ext x2
        dsimp only [tNext]
        refine st_seq (st_remove (P2.vJury C (val_var rfl)) (val_var rfl) P2.jl mj ?_)
        have P3 := P2.setJury ((m.mark i 6).jury.erase i)
        have t3 : To A.all H A.all (L2.upd H2 A.jl (.lst (nVs (m.jury.erase i)))) := (t1.trans (x2.to _)).trans (To.upd (mem0 A (i := 9)))
        have vl := val_len (K := g.K) (P3.vJury C (ta := tVar 0) (σ := start ["self", "who", "other"] [.ref A.p, nV i]) (val_var rfl)) (SqL.of P3.jl)
        rw [len_nVs] at vl
        refine st_seq (st_if (ans_v (val_B vl (P3.vLeast C (val_var rfl)))) (fun c3 => ?_) (fun c3 => ?_))
        · have c4 : (m.jury.erase i).length < m.least := by
            have := of_decide_eq_true c3
            exact Int.ofNat_lt.mp this
          rw [if_pos c4] at q
          refine P3.sPhase C (a := 4) val_c (val_var rfl) fun H4 P4 t4 => ?_
          dsimp only
          refine st_ret val_c ?_
          exact q H4 P4 (t3.trans t4)
        · have c4 : ¬ (m.jury.erase i).length < m.least := fun z => (of_decide_eq_false c3) (Int.ofNat_lt.mpr z)
          rw [if_neg c4] at q
          dsimp only [tNext]
          refine st_ret val_c ?_
          exact q _ P3 t3
end
end Jp
namespace Jp
open PySem PySem.Spec PyProof.Rows L2
open Kg77 (State Rules)
/-! ### Picking.__init__: the parts, as they come -/
structure Lay (H0 : Hp) (x : Addr) (B : List Addr) (H : Hp) (L : List (Addr × HO)) : Prop where
  at_ : ∀ p ∈ L, H p.1 = some p.2
  nd : (x :: L.map (·.1)).Nodup
  own : ∀ p ∈ L, p.1 ∈ B ∨ H0 p.1 = none
  keep : ∀ a u, a ≠ x → H0 a = some u → H a = some u
  self : ∃ u, H x = some u
section
variable {H0 H H' : Hp} {x : Addr} {B : List Addr} {L : List (Addr × HO)}
theorem Lay.ext (l : Lay H0 x B H L) (e : Ext H H') : Lay H0 x B H' L :=
  ⟨fun p hp => e _ _ (l.at_ p hp), l.nd, l.own, fun a u n h => e _ _ (l.keep a u n h), l.self.imp fun u h => e _ _ h⟩
theorem Lay.store (l : Lay H0 x B H L) (o : HO) : Lay H0 x B (L2.upd H x o) L := by
  have nx := (List.nodup_cons.mp l.nd).1
  refine ⟨fun p hp => ?_, l.nd, l.own, fun a u n h => by rw [upd_ne n]; exact l.keep a u n h, ⟨o, upd_same⟩⟩
  rw [upd_ne (fun z => nx (by rw [← z]; exact List.mem_map.mpr ⟨p, hp, rfl⟩))]
  exact l.at_ p hp
theorem Lay.out (l : Lay H0 x B H L) {n : Addr} (h : H n = none) : n ∉ x :: L.map (·.1) ∧ H0 n = none := by
  have nx : n ≠ x := fun z => by
    obtain ⟨u, e⟩ := l.self
    rw [z, e] at h
    cases h
  refine ⟨fun z => ?_, ?_⟩
  · rcases List.mem_cons.mp z with z | z
    · exact nx z
    · obtain ⟨p, hp, e⟩ := List.mem_map.mp z
      have := l.at_ p hp
      rw [e, h] at this
      cases this
  · cases q : H0 n with
    | none => rfl
    | some u => rw [l.keep n u nx q] at h; cases h
theorem Lay.add (l : Lay H0 x B H L) (e : Ext H H') {n : Addr} {o : HO} (hn : H n = none) (h : H' n = some o) : Lay H0 x B H' ((n, o) :: L) := by
  obtain ⟨o1, o2⟩ := l.out hn
  have l' := l.ext e
  refine ⟨fun p hp => ?_, ?_, fun p hp => ?_, l'.keep, l'.self⟩
  · rcases List.mem_cons.mp hp with z | z
    · rw [z]; exact h
    · exact l'.at_ p z
  · have h1 := List.nodup_cons.mp l.nd
    refine List.nodup_cons.mpr ⟨fun z => ?_, List.nodup_cons.mpr ⟨fun z => o1 (List.mem_cons_of_mem _ z), h1.2⟩⟩
    rcases List.mem_cons.mp z with z | z
    · have z' : x = n := z
      exact o1 (by rw [← z']; exact List.mem_cons_self)
    · exact h1.1 z
  · rcases List.mem_cons.mp hp with z | z
    · rw [z]; exact .inr o2
    · exact l.own p z
theorem Lay.add2 (l : Lay H0 x B H L) (e : Ext H H') {n k : Addr} {o u : HO} (hn : H n = none) (hk : H k = none) (ne : k ≠ n) (h : H' n = some o) (h2 : H' k = some u) : Lay H0 x B H' ((k, u) :: (n, o) :: L) := by
  have l1 := l.add e hn h
  obtain ⟨o1, o2⟩ := l.out hk
  refine ⟨fun p hp => ?_, ?_, fun p hp => ?_, l1.keep, l1.self⟩
  · rcases List.mem_cons.mp hp with z | z
    · rw [z]; exact h2
    · exact l1.at_ p z
  · have h1 := List.nodup_cons.mp l1.nd
    have nm : k ∉ x :: (((n, o) :: L).map (·.1)) := fun z => by
      rcases List.mem_cons.mp z with z | z
      · exact o1 (by rw [z]; exact List.mem_cons_self)
      · rcases List.mem_cons.mp z with z | z
        · exact ne z
        · exact o1 (List.mem_cons_of_mem _ z)
    refine List.nodup_cons.mpr ⟨fun z => ?_, List.nodup_cons.mpr ⟨fun z => nm (List.mem_cons_of_mem _ z), h1.2⟩⟩
    rcases List.mem_cons.mp z with z | z
    · have z' : x = k := z
      exact nm (by rw [← z']; exact List.mem_cons_self)
    · exact h1.1 z
  · rcases List.mem_cons.mp hp with z | z
    · rw [z]; exact .inr o2
    · exact l1.own p z
end
/-- the same addresses in another order -/
theorem nd_order {x a1 a2 a3 a4 a5 a6 a7 a8 a9 a10 : Addr} (h : [x, a1, a2, a3, a4, a5, a6, a7, a8, a9, a10].Nodup) : [x, a7, a6, a8, a9, a5, a4, a3, a10, a2, a1].Nodup := by
  have p : ([0, 1, 2, 3, 4, 5, 6, 7, 8, 9, 10] : List Nat).Perm [0, 7, 6, 8, 9, 5, 4, 3, 10, 2, 1] := by decide
  have q := p.map fun i => [x, a1, a2, a3, a4, a5, a6, a7, a8, a9, a10].getD i 0
  exact (List.Perm.nodup_iff q).mp h
abbrev sPickI : Stmt := inClass (top 22) 0
theorem scPickI : FnScope ["self", "many", "plan", "strikes"] ["self", "many", "plan", "strikes"] (defScope sPickI) := ⟨rfl, rfl, rfl, by decide +kernel, rfl, by decide +kernel, by decide +kernel⟩
def planL (r : Addr) (R : Rules) : List (Str × V) := [("seats", nV R.seats), ("alternates", nV R.alternates), ("for_alternates", nV R.extra), ("uses_up", bV R.passCosts), ("row", .ref r)]
def spPickI (T : Ts) : Sp := fun vs H Q _ => ∃ (x dx pl d r s : Addr) (R : Rules) (n a b : Nat), vs = [.ref x, nV n, .ref pl, .ref s] ∧ H x = some (.ins T.pick dx []) ∧ H pl = some (.ins T.plan d (planL r R)) ∧ H r = some (.lst (nVs R.turns)) ∧ H s = some (.lst [nV a, nV b]) ∧ r ≠ s ∧
  n ≤ 1000 ∧ R.seats ≤ 1000 ∧ Ready (fresh R n a b) ∧ ∀ A' H', PAt T A' H' (settleP (fresh R n a b)) → To [x, pl, r, s] H A'.all H' → A'.p = x → Q .non H'
theorem st_flU {σ : L2.St} {H : Hp} {ta tv : TE} {D : Ends} {K : PySem.W.Frag} {a C dx : Addr} {fs fs' : List (Str × V)} {f : Str} {y : V} (hv : Val tv σ (L2.upd H a (.ins C dx fs)) y) (ha : Val ta σ (L2.upd H a (.ins C dx fs)) (.ref a)) (hc : Cls K C) (hn : NoAttr K C f) (hl : fs.length < 1000) (he : putF f y fs = fs') (q : D.nx σ (L2.upd H a (.ins C dx fs'))) :
    sFld K ta tv f D σ (L2.upd H a (.ins C dx fs)) := st_fl hv ha upd_same hc hn hl he (by rw [upd_upd]; exact q)
/-- all parts stand: the picking ahead of its first settling -/
theorem lay_at {C : PySem.W.Frag} {T : Ts} {H HF : Hp} {x dx pl d r s al jl tn d3 sl bx d2 fl pn' d1 : Addr} {R : Rules} {n a b : Nat}
    (l : Lay H x [x, pl, r, s] HF [(al, .lst []), (jl, .lst []), (tn, .ins T.turns d3 [("row", .ref r), ("strikes", .ref s), ("at", nV 0), ("passes", nV 0)]), (sl, .lst (oVs (List.replicate R.seats none))), (bx, .ins T.box d2 [("seats", .ref sl)]), (fl, .lst (nVs (List.replicate n 0))), (pn', .ins T.panel d1 [("fates", .ref fl)]), (pl, .ins T.plan d (planL r R)), (r, .lst (nVs R.turns)), (s, .lst [nV a, nV b])])
    (hx : HF x = some (.ins T.pick dx [("panel", .ref pn'), ("plan", .ref pl), ("phase", .int 0), ("box", .ref bx), ("turns", .ref tn), ("last", .non), ("jury", .ref jl), ("alternates", .ref al), ("least", .int 0)])) :
    PAt T ⟨x, pn', fl, pl, r, bx, sl, tn, s, jl, al⟩ HF (fresh R n a b) ∧ To [x, pl, r, s] H (Ad.all ⟨x, pn', fl, pl, r, bx, sl, tn, s, jl, al⟩) HF := by
  have nd := nd_order l.nd
  refine ⟨⟨⟨dx, .non, hx, rfl⟩, ⟨d1, ?_⟩, ?_, ⟨d, ?_⟩, ?_, ⟨d2, ?_⟩, ?_, ⟨d3, ?_⟩, ?_, ?_, ?_, nd⟩, ⟨fun y u hy e => l.keep y u (fun z => hy (by rw [z]; exact List.mem_cons_self)) e, fun y hy => ?_⟩⟩
  · exact l.at_ (pn', _) (List.mem_of_getElem? (i := 6) rfl)
  · exact l.at_ (fl, _) (List.mem_of_getElem? (i := 5) rfl)
  · exact l.at_ (pl, _) (List.mem_of_getElem? (i := 7) rfl)
  · exact l.at_ (r, _) (List.mem_of_getElem? (i := 8) rfl)
  · exact l.at_ (bx, _) (List.mem_of_getElem? (i := 4) rfl)
  · exact l.at_ (sl, _) (List.mem_of_getElem? (i := 3) rfl)
  · exact l.at_ (tn, _) (List.mem_of_getElem? (i := 2) rfl)
  · exact l.at_ (s, _) (List.mem_of_getElem? (i := 9) rfl)
  · exact l.at_ (jl, _) (List.mem_of_getElem? (i := 1) rfl)
  · exact l.at_ (al, _) (List.mem_of_getElem? (i := 0) rfl)
  · unfold Ad.all at hy
    simp only [List.mem_cons, List.not_mem_nil, or_false] at hy
    have o := fun (i : Nat) {p : Addr × HO} h => l.own p (List.mem_of_getElem? (i := i) h)
    rcases hy with e | e | e | e | e | e | e | e | e | e | e
    · exact .inl (by rw [e]; exact List.mem_cons_self)
    · rw [e]; exact o 6 rfl
    · rw [e]; exact o 5 rfl
    · rw [e]; exact o 7 rfl
    · rw [e]; exact o 8 rfl
    · rw [e]; exact o 4 rfl
    · rw [e]; exact o 3 rfl
    · rw [e]; exact o 2 rfl
    · rw [e]; exact o 9 rfl
    · rw [e]; exact o 1 rfl
    · rw [e]; exact o 0 rfl
section
variable {g : Gx} {T : Ts} {f : Addr}
theorem ok_pickI (D : DefOk g.K "__init__" "Picking.__init__" sPickI ["self", "many", "plan", "strikes"] f) (C : ClsTxt g.K T) (G : Mg g.mg) (N0 : NOk g 1 T.panel "Panel" ["self", "many"] (spPanelI T)) (N1 : NOk g 1 T.box "Box" ["self", "seats"] (spBoxI T)) (N2 : NOk g 1 T.turns "Turns" ["self", "row", "strikes"] (spTurnsI T))
    (M2 : MOk g 4 T.pick "settle" ["self"] (spSettle T)) : Pr g CX0 5 f ["self", "many", "plan", "strikes"] (spPickI T) := by
  obtain ⟨fd, F, b⟩ := D
  refine ⟨fd, ?_, b⟩
  refine F.ok scPickI (fun vs H Q E h => ?_) (fun cdv A0 outer s0 H vs Q E hr h => ?_)
  · obtain ⟨x, dx, pl, d, r, s, R, n, a, b, rfl, _⟩ := h
    rfl
  · obtain ⟨x, dx, pl, d, r, s, R, n, a, b, rfl, hx, hpl, hrr, hs, nrs, hn, hse, rdy, q⟩ := h
    refine ⟨_, pss_cons (ps_fld (pv 0) (pn N0 hr (by decide) rfl (pa_cons (pv 1) pa_nil)) rfl)
      (pss_cons (ps_fld (pv 0) (pv 2) rfl)
      (pss_cons (ps_fld (pv 0) (pc0 G.atbox rfl) rfl)
      (pss_cons (ps_fld (pv 0) (pn N1 hr (by decide) rfl (pa_cons (pe_fld (pv 2) rfl) pa_nil)) rfl)
      (pss_cons (ps_fld (pv 0) (pn N2 hr (by decide) rfl (pa_cons (pe_fld (pv 2) rfl) (pa_cons (pv 3) pa_nil))) rfl)
      (pss_cons (ps_fld (pv 0) pe_non rfl)
      (pss_cons (ps_fld (pv 0) (pe_lst pa_nil) rfl)
      (pss_cons (ps_fld (pv 0) (pe_lst pa_nil) rfl)
      (pss_cons (ps_fld (pv 0) pe_int rfl)
      (pss_one (ps_expr (pm0 M2 C.pick hr (by decide) (pv 0)))))))))))), ?_⟩
    have l0 : Lay H x [x, pl, r, s] H [(pl, .ins T.plan d (planL r R)), (r, .lst (nVs R.turns)), (s, .lst [nV a, nV b])] := by
      refine ⟨fun p hp => ?_, ?_, fun p hp => .inl ?_, fun _ _ _ e => e, ⟨_, hx⟩⟩
      · simp only [List.mem_cons, List.not_mem_nil, or_false] at hp
        rcases hp with e | e | e
        · rw [e]; exact hpl
        · rw [e]; exact hrr
        · rw [e]; exact hs
      · have n1 : x ≠ pl := ne_of hx hpl fun z => by
          injection z with _ _ z
          cases z
        have n2 : x ≠ r := ne_of hx hrr fun z => by cases z
        have n3 : x ≠ s := ne_of hx hs fun z => by cases z
        have n4 : pl ≠ r := ne_of hpl hrr fun z => by cases z
        have n5 : pl ≠ s := ne_of hpl hs fun z => by cases z
        show [x, pl, r, s].Nodup
        simp [n1, n2, n3, n4, n5, nrs]
      · simp only [List.mem_cons, List.not_mem_nil, or_false] at hp
        rcases hp with e | e | e <;> rw [e] <;> simp
    -- panel
    dsimp only
    refine st_seq (st_flH (valH_panel (args_cons (val_var rfl) args_nil) hn) ?_)
    rintro _ H1 ⟨pn', fl, d1, rfl, f1, f2, f3, e1, h1, h2⟩
    have l1 := l0.add2 e1 f1 f2 f3 h1 h2
    refine st_fl (fs' := [("panel", .ref pn')]) val_c (val_var rfl) (e1 _ _ hx) C.pick C.pickN.1.1 (by show 0 < 1000; decide) rfl ?_
    -- plan, phase
    dsimp only
    refine st_seq (st_flU (fs' := [("panel", .ref pn'), ("plan", .ref pl)]) (val_var rfl) (val_var rfl) C.pick C.pickN.1.2.1 (by show 1 < 1000; decide) rfl ?_)
    dsimp only
    refine st_seq (st_flU (fs' := [("panel", .ref pn'), ("plan", .ref pl), ("phase", .int 0)]) val_c (val_var rfl) C.pick C.pickN.1.2.2.1 (by show 2 < 1000; decide) rfl ?_)
    -- box
    have l2 := l1.store (.ins T.pick dx [("panel", .ref pn'), ("plan", .ref pl), ("phase", .int 0)])
    have gpl : ∀ {H' : Hp} {L : List (Addr × HO)}, Lay H x [x, pl, r, s] H' L → (pl, HO.ins T.plan d (planL r R)) ∈ L → H' pl = some (.ins T.plan d (planL r R)) := fun l hm => l.at_ _ hm
    dsimp only
    refine st_seq (st_flH (valH_box (n := R.seats) (args_cons (val_fld (val_var rfl) (gpl l2 (by simp)) C.plan C.planN.1 rfl) args_nil) hse) ?_)
    rintro _ H2 ⟨bx, sl, d2, rfl, f4, f5, f6, e2, h3, h4⟩
    have l3 := l2.add2 e2 f4 f5 f6 h3 h4
    refine st_fl (fs' := [("panel", .ref pn'), ("plan", .ref pl), ("phase", .int 0), ("box", .ref bx)]) val_c (val_var rfl) (e2 _ _ upd_same) C.pick C.pickN.1.2.2.2.1 (by show 3 < 1000; decide) rfl ?_
    have l4 := l3.store (.ins T.pick dx [("panel", .ref pn'), ("plan", .ref pl), ("phase", .int 0), ("box", .ref bx)])
    -- turns
    have vt : ValH (tMake T.turns (spTurnsI T) [] E0 (tCons (tFld g.K (tVar 2) "row") (tCons (tVar 3) tNil))) (start ["self", "many", "plan", "strikes"] [.ref x, nV n, .ref pl, .ref s]) (L2.upd H2 x (.ins T.pick dx [("panel", .ref pn'), ("plan", .ref pl), ("phase", .int 0), ("box", .ref bx)]))
        (fun v H' => ∃ y dy, v = .ref y ∧ (L2.upd H2 x (.ins T.pick dx [("panel", .ref pn'), ("plan", .ref pl), ("phase", .int 0), ("box", .ref bx)])) y = none ∧ Ext (L2.upd H2 x (.ins T.pick dx [("panel", .ref pn'), ("plan", .ref pl), ("phase", .int 0), ("box", .ref bx)])) H' ∧ H' y = some (.ins T.turns dy [("row", .ref r), ("strikes", .ref s), ("at", nV 0), ("passes", nV 0)])) := fun Q k =>
      (args_cons (val_fld (val_var rfl) (gpl l4 (by simp)) C.plan C.planN.2.2.2.2 rfl) (args_cons (val_var rfl) args_nil)) _ (makeH_turns (r := r) (s := s) k)
    dsimp only
    refine st_seq (st_flH vt ?_)
    rintro _ H3 ⟨tn, d3, rfl, f7, e3, h5⟩
    have l5 := l4.add e3 f7 h5
    refine st_fl (fs' := [("panel", .ref pn'), ("plan", .ref pl), ("phase", .int 0), ("box", .ref bx), ("turns", .ref tn)]) val_c (val_var rfl) (e3 _ _ upd_same) C.pick C.pickN.1.2.2.2.2 (by show 4 < 1000; decide) rfl ?_
    -- last
    dsimp only
    refine st_seq (st_flU (fs' := [("panel", .ref pn'), ("plan", .ref pl), ("phase", .int 0), ("box", .ref bx), ("turns", .ref tn), ("last", .non)]) val_c (val_var rfl) C.pick C.pickN.2.1 (by show 5 < 1000; decide) rfl ?_)
    have l6 := l5.store (.ins T.pick dx [("panel", .ref pn'), ("plan", .ref pl), ("phase", .int 0), ("box", .ref bx), ("turns", .ref tn), ("last", .non)])
    -- jury
    have vl : ∀ {σ : L2.St} {H' : Hp}, ValH (tLst tNil) σ H' (fun v H'' => ∃ y, v = .ref y ∧ H' y = none ∧ H'' = L2.upd H' y (.lst [])) := fun Q k => ⟨Nat.zero_le _, fun y hy => k _ _ ⟨y, rfl, hy, rfl⟩⟩
    dsimp only
    refine st_seq (st_flH vl ?_)
    rintro _ _ ⟨jl, rfl, f8, rfl⟩
    have l7 := l6.add (Ext.new (o := .lst []) f8) f8 upd_same
    refine st_fl (fs' := [("panel", .ref pn'), ("plan", .ref pl), ("phase", .int 0), ("box", .ref bx), ("turns", .ref tn), ("last", .non), ("jury", .ref jl)]) val_c (val_var rfl) (Ext.new f8 _ _ upd_same) C.pick C.pickN.2.2.1 (by show 6 < 1000; decide) rfl ?_
    have l8 := l7.store (.ins T.pick dx [("panel", .ref pn'), ("plan", .ref pl), ("phase", .int 0), ("box", .ref bx), ("turns", .ref tn), ("last", .non), ("jury", .ref jl)])
    -- alternates
    dsimp only
    refine st_seq (st_flH vl ?_)
    rintro _ _ ⟨al, rfl, f9, rfl⟩
    have l9 := l8.add (Ext.new (o := .lst []) f9) f9 upd_same
    refine st_fl (fs' := [("panel", .ref pn'), ("plan", .ref pl), ("phase", .int 0), ("box", .ref bx), ("turns", .ref tn), ("last", .non), ("jury", .ref jl), ("alternates", .ref al)]) val_c (val_var rfl) (Ext.new f9 _ _ upd_same) C.pick C.pickN.2.2.2.1 (by show 7 < 1000; decide) rfl ?_
    -- least
    dsimp only
    refine st_seq (st_flU (fs' := [("panel", .ref pn'), ("plan", .ref pl), ("phase", .int 0), ("box", .ref bx), ("turns", .ref tn), ("last", .non), ("jury", .ref jl), ("alternates", .ref al), ("least", .int 0)]) val_c (val_var rfl) C.pick C.pickN.2.2.2.2 (by show 8 < 1000; decide) rfl ?_)
    have l10 := l9.store (.ins T.pick dx [("panel", .ref pn'), ("plan", .ref pl), ("phase", .int 0), ("box", .ref bx), ("turns", .ref tn), ("last", .non), ("jury", .ref jl), ("alternates", .ref al), ("least", .int 0)])
    dsimp only
    obtain ⟨P, t⟩ := lay_at (C := g.K) l10 upd_same
    refine go_settle P rdy (val_var rfl) fun A' H' P' t' e' => q A' H' P' (t.trans t') e'
end
end Jp
namespace Jp
open PySem PySem.Spec PyProof.Rows L2
open Kg77 (State Rules)
/-! ### no_picking, Holder.__init__ -/
theorem makeH_plan {T : Ts} {H : Hp} {a b c d e : V} {Q : VK} (q : ∀ v H', (∃ x dx, v = .ref x ∧ H x = none ∧ Ext H H' ∧ H' x = some (.ins T.plan dx [("seats", a), ("alternates", b), ("for_alternates", c), ("uses_up", d), ("row", e)])) → Q v H') :
    ∀ x dx, H x = none → H dx = none → dx ≠ x → spPlanI T (.ref x :: ([a, b, c, d, e] ++ [])) (L2.upd (L2.upd H dx (.own x)) x (.ins T.plan dx [])) (fun v H2 => v = .non ∧ Q (.ref x) H2) E0 := fun x dx nx nd ne => ⟨x, dx, a, b, c, d, e, rfl, upd_same, rfl, q _ _ (by
    have e1 : Ext H (L2.upd (L2.upd H dx (.own x)) x (.ins T.plan dx [])) := (Ext.new nd).over nx
    exact ⟨x, dx, rfl, nx, e1.over nx, upd_same⟩)⟩
/-- Picking(n, plan, strikes), plan and strikes made for it -/
theorem makeH_pick {T : Ts} {H0 H : Hp} {pl d r s : Addr} {R : Rules} {n a b : Nat} {Q : VK} {B : List Addr} (e : Ext H0 H) (hpl : H pl = some (.ins T.plan d (planL r R))) (hr : H r = some (.lst (nVs R.turns))) (hs : H s = some (.lst [nV a, nV b])) (nrs : r ≠ s)
    (b1 : pl ∈ B ∨ H0 pl = none) (b2 : r ∈ B ∨ H0 r = none) (b3 : s ∈ B ∨ H0 s = none) (hn : n ≤ 1000) (hse : R.seats ≤ 1000) (rdy : Ready (fresh R n a b))
    (q : ∀ A' H', PAt T A' H' (settleP (fresh R n a b)) → To B H0 A'.all H' → Q (.ref A'.p) H') :
    ∀ x dx, H x = none → H dx = none → dx ≠ x → spPickI T (.ref x :: ([nV n, .ref pl, .ref s] ++ [])) (L2.upd (L2.upd H dx (.own x)) x (.ins T.pick dx [])) (fun v H2 => v = .non ∧ Q (.ref x) H2) E0 := fun x dx nx nd ne => by
  have e1 : Ext H (L2.upd (L2.upd H dx (.own x)) x (.ins T.pick dx [])) := (Ext.new nd).over nx
  refine ⟨x, dx, pl, d, r, s, R, n, a, b, rfl, upd_same, e1 _ _ hpl, e1 _ _ hr, e1 _ _ hs, nrs, hn, hse, rdy, fun A' H' P t e2 => ⟨rfl, ?_⟩⟩
  have t0 : To B H0 [x, pl, r, s] (L2.upd (L2.upd H dx (.own x)) x (.ins T.pick dx [])) := ⟨fun y u _ h => e1 _ _ (e _ _ h), fun y hy => by
    simp only [List.mem_cons, List.not_mem_nil, or_false] at hy
    rcases hy with z | z | z | z
    · rw [z]; exact .inr (e.free nx)
    · rw [z]; exact b1
    · rw [z]; exact b2
    · rw [z]; exact b3⟩
  rw [← e2]
  exact q A' H' P (t0.trans t)
theorem valH_pick {T : Ts} {σ : L2.St} {H : Hp} {te1 te2 te3 : TE} {R : Rules} {n a b : Nat} {B : List Addr} (h1 : Val te1 σ H (nV n)) (h2 : ValH te2 σ H (fun v H' => ∃ pl d r, v = .ref pl ∧ H pl = none ∧ (r ∈ B ∨ H r = none) ∧ Ext H H' ∧ H' pl = some (.ins T.plan d (planL r R)) ∧ H' r = some (.lst (nVs R.turns))))
    (h3 : ∀ H', Ext H H' → ValH te3 σ H' (fun v H'' => ∃ s, v = .ref s ∧ H' s = none ∧ H'' = L2.upd H' s (.lst [nV a, nV b]))) (hn : n ≤ 1000) (hse : R.seats ≤ 1000) (rdy : Ready (fresh R n a b)) :
    ValH (tMake T.pick (spPickI T) [] E0 (tCons te1 (tCons te2 (tCons te3 tNil)))) σ H (fun v H' => ∃ A', v = .ref A'.p ∧ PAt T A' H' (settleP (fresh R n a b)) ∧ To B H A'.all H') := fun Q q =>
  h1 _ (h2 _ fun v H1 ⟨pl, d, r, e1, n1, n2, x1, p1, p2⟩ => by
    subst e1
    refine h3 H1 x1 _ fun v2 H2 ⟨s, e2, n3, e3⟩ => ?_
    subst e2 e3
    have x2 : Ext H1 (L2.upd H1 s (.lst [nV a, nV b])) := Ext.new n3
    refine makeH_pick (T := T) (H0 := H) (pl := pl) (d := d) (r := r) (s := s) (R := R) (n := n) (a := a) (b := b) (B := B) (x1.trans x2) (x2 _ _ p1) (x2 _ _ p2) upd_same (fun z => ?_) (.inr n1) n2 (.inr (x1.free n3)) hn hse rdy fun A' H' P t => q _ _ ⟨A', rfl, P, t⟩
    rw [z, n3] at p2
    cases p2)
theorem valH_pair {σ : L2.St} {H : Hp} {te1 te2 : TE} {x y : V} (h1 : Val te1 σ H x) (h2 : Val te2 σ H y) : ValH (tLst (tCons te1 (tCons te2 tNil))) σ H (fun v H' => ∃ s, v = .ref s ∧ H s = none ∧ H' = L2.upd H s (.lst [x, y])) := fun Q q =>
  h1 _ (h2 _ ⟨(by show 2 ≤ sizeLine; decide), fun s hs => q _ _ ⟨s, rfl, hs, rfl⟩⟩)
theorem valH_plan0 {T : Ts} {σ : L2.St} {H : Hp} : ValH (tMake T.plan (spPlanI T) [] E0 (tCons (tC (.int 0)) (tCons (tC (.int 0)) (tCons (tC (.int 0)) (tCons (tC (.int 0)) (tCons (tLst (tCons (tC (.int 0)) (tCons (tC (.int 1)) tNil))) tNil)))))) σ H
    (fun v H' => ∃ pl d r, v = .ref pl ∧ H pl = none ∧ (r ∈ ([] : List Addr) ∨ H r = none) ∧ Ext H H' ∧ H' pl = some (.ins T.plan d (planL r rules0)) ∧ H' r = some (.lst (nVs rules0.turns))) := fun Q q =>
  ⟨(by show 2 ≤ sizeLine; decide), fun r hr => makeH_plan (a := .int 0) (b := .int 0) (c := .int 0) (d := .int 0) (e := .ref r) fun v H' ⟨x, dx, e, nx, ext, hx⟩ => q v H' ⟨x, dx, r, e, (Ext.new hr).free nx, .inr hr, (Ext.new hr).trans ext, hx, ext _ _ upd_same⟩⟩
abbrev sNoP : Stmt := top 23
theorem scNoP : FnScope ["found"] [] (defScope sNoP) := ⟨rfl, rfl, rfl, by decide +kernel, rfl, by decide +kernel, by decide +kernel⟩
def spNoP (T : Ts) : Sp := fun vs H Q _ => vs = [] ∧ ∀ A' H', PAt T A' H' m0 → To [] H A'.all H' → Q (.ref A'.p) H'
section
variable {g : Gx} {T : Ts} {f : Addr}
theorem ok_nop (D : DefOk g.K "no_picking" "no_picking" sNoP [] f) (C : ClsTxt g.K T) (G : Mg g.mg) (N0 : NOk g 5 T.pick "Picking" ["self", "many", "plan", "strikes"] (spPickI T)) (N1 : NOk g 1 T.plan "Plan" ["self", "seats", "alternates", "for_alternates", "uses_up", "row"] (spPlanI T)) : Pr g CX0 7 f [] (spNoP T) := by
  obtain ⟨fd, F, b⟩ := D
  refine ⟨fd, ?_, b⟩
  refine F.ok scNoP (fun vs H Q E h => ?_) (fun cdv A0 outer s0 H vs Q E hr h => ?_)
  · obtain ⟨rfl, _⟩ := h
    rfl
  · obtain ⟨rfl, q⟩ := h
    refine ⟨_, pss_cons (ps_set (i := 0) scNoP.nd rfl (Or.inl rfl) (pn N0 hr (by decide) rfl (pa_cons pe_int (pa_cons (pn N1 hr (by decide) rfl (pa_cons pe_int (pa_cons pe_int (pa_cons pe_int (pa_cons pe_int (pa_cons (pe_lst (pa_cons pe_int (pa_cons pe_int pa_nil))) pa_nil)))))) (pa_cons (pe_lst (pa_cons pe_int (pa_cons pe_int pa_nil))) pa_nil)))))
      (pss_cons (ps_fld (pv 0) (pc0 G.over rfl) rfl) (pss_one (ps_ret (pv 0)))), ?_⟩
    refine st_seq (st_setH (valH_pick (T := T) (n := 0) (a := 0) (b := 0) (R := rules0) (B := []) val_c valH_plan0 (fun H' _ => valH_pair val_c val_c) (by decide) (by decide) ready0) ?_)
    rintro _ H2 ⟨A', rfl, P, t⟩
    dsimp only
    refine st_seq (P.sPhase C (a := 4) val_c (val_var rfl) fun H3 P3 t3 => ?_)
    dsimp only
    refine st_ret (val_var rfl) (q A' H3 P3 (t.trans t3))
end
abbrev sHoldI : Stmt := inClass (top 32) 0
theorem scHoldI : FnScope ["self"] ["self"] (defScope sHoldI) := ⟨rfl, rfl, rfl, by decide +kernel, rfl, by decide +kernel, by decide +kernel⟩
def spHoldI (T : Ts) : Sp := fun vs H Q _ => ∃ (x dx : Addr), vs = [.ref x] ∧ H x = some (.ins T.holder dx []) ∧
  ∀ A' H', PAt T A' H' m0 → H' x = some (.ins T.holder dx [("picking", .ref A'.p)]) → x ∉ A'.all → To [x] H (x :: A'.all) H' → Q .non H'
section
variable {g : Gx} {T : Ts} {f : Addr}
theorem ok_holdI (D : DefOk g.K "__init__" "Holder.__init__" sHoldI ["self"] f) (C : ClsTxt g.K T) (G : Mg g.mg) (F1 : FOk g CX0 7 "no_picking" [] (spNoP T)) : Pr g CX0 8 f ["self"] (spHoldI T) := by
  obtain ⟨fd, F, b⟩ := D
  refine ⟨fd, ?_, b⟩
  refine F.ok scHoldI (fun vs H Q E h => ?_) (fun cdv A0 outer s0 H vs Q E hr h => ?_)
  · obtain ⟨x, dx, rfl, _⟩ := h
    rfl
  · obtain ⟨x, dx, rfl, hx, q⟩ := h
    refine ⟨_, pss_one (ps_fld (pv 0) (pf0 F1 hr (by decide) rfl) rfl), ?_⟩
    have vh : ValH (tCall (spNoP T) [] E0 tNil) (start ["self"] [.ref x]) H (fun v H' => ∃ A', v = .ref A'.p ∧ PAt T A' H' m0 ∧ To [] H A'.all H') := fun Q k => go_call (vs := []) args_nil ⟨rfl, fun A' H' P t => k _ _ ⟨A', rfl, P, t⟩⟩
    refine st_flH vh ?_
    rintro _ H1 ⟨A', rfl, P, t⟩
    have hx1 : H1 x = some (.ins T.holder dx []) := t.keep x _ (by simp) hx
    have nx : x ∉ A'.all := fun z => by
      rcases t.own x z with w | w
      · cases w
      · rw [hx] at w; cases w
    refine st_fl (fs' := [("picking", .ref A'.p)]) val_c (val_var rfl) hx1 C.holder C.holderN (by show 0 < 1000; decide) rfl ?_
    refine q A' _ (P.side nx (by rw [hx1]; exact ns_ins (by show (0 : Nat) ≠ 3; decide)) _) upd_same nx ⟨fun y u hy e => ?_, fun y hy => ?_⟩
    · rw [upd_ne (fun z => hy (by rw [z]; exact List.mem_cons_self))]
      exact t.keep y u (by simp) e
    · rcases List.mem_cons.mp hy with z | z
      · exact .inl (by rw [z]; exact List.mem_cons_self)
      · rcases t.own y z with w | w
        · cases w
        · exact .inr w
end
end Jp
namespace Jp
open PySem PySem.Spec PyProof.Rows L2
open Kg77 (State Rules)
/-! ### asking: small defs -/
section
variable {K : PySem.W.Frag} {σ : L2.St} {H : Hp} {ta tb tc te : TE} {D : Ends}
theorem val_chain {p p' : Int → Int → Bool} {a b c : Int} (h1 : Val ta σ H (.int a)) (h2 : Val tb σ H (.int b)) (h3 : Val tc σ H (.int c)) : Val (tChain (rI0 fun i j => .bl (p i j)) (rI0 fun i j => .bl (p' i j)) ta tb tc) σ H (.bl (p a b && p' b c)) := fun Q q =>
  h1 _ (h2 _ ⟨a, b, rfl, rfl, p a b, rfl, by
    cases e : p a b with
    | false =>
      rw [e] at q
      exact q
    | true =>
      rw [e] at q
      exact h3 _ ⟨b, c, rfl, rfl, q⟩⟩)
theorem val_neg {i : Int} (h : Val ta σ H (.int i)) : Val (tUn (rU fun i => .int (-i)) ta) σ H (.int (-i)) := fun Q q => h _ ⟨i, rfl, q⟩
/-- a new list -/
def NewL (te : TE) (σ : L2.St) (H : Hp) (xs : List V) : Prop := ValH te σ H (fun v H' => ∃ l, v = .ref l ∧ H l = none ∧ Ext H H' ∧ H' l = some (.lst xs))
theorem newL_one {v : V} (h : Val te σ H v) : NewL (tLst (tCons te tNil)) σ H [v] := fun Q q => h _ ⟨(by show 1 ≤ sizeLine; decide), fun l hl => q _ _ ⟨l, rfl, hl, Ext.new hl, upd_same⟩⟩
theorem newL_two {v w : V} (h : Val ta σ H v) (h2 : Val tb σ H w) : NewL (tLst (tCons ta (tCons tb tNil))) σ H [v, w] := fun Q q => h _ (h2 _ ⟨(by show 2 ≤ sizeLine; decide), fun l hl => q _ _ ⟨l, rfl, hl, Ext.new hl, upd_same⟩⟩)
theorem newL_cat {xs ys : List V} (h1 : NewL ta σ H xs) (h2 : ∀ H1, Ext H H1 → NewL tb σ H1 ys) (hl : xs.length + ys.length ≤ sizeLine) : NewL (tOp rCat ta tb) σ H (xs ++ ys) := fun Q q =>
  h1 _ fun v H1 ⟨l, e, n1, x1, p1⟩ => h2 H1 x1 _ fun v2 H2 ⟨l2, e2, n2, x2, p2⟩ => ⟨l, l2, xs, ys, e, e2, x2 _ _ p1, p2, hl, fun p hp => q _ _ ⟨p, rfl, (x1.trans x2).free hp, (x1.trans x2).trans (Ext.new hp), upd_same⟩⟩
theorem newL_catV {xs ys : List V} (h1 : NewL ta σ H xs) (h2 : ∀ H1, Ext H H1 → ∃ b, Val tb σ H1 (.ref b) ∧ H1 b = some (.lst ys)) (hl : xs.length + ys.length ≤ sizeLine) : NewL (tOp rCat ta tb) σ H (xs ++ ys) := fun Q q =>
  h1 _ fun v H1 ⟨l, e, n1, x1, p1⟩ => by
    obtain ⟨b, vb, hb⟩ := h2 H1 x1
    exact vb _ ⟨l, b, xs, ys, e, rfl, p1, hb, hl, fun p hp => q _ _ ⟨p, rfl, x1.free hp, x1.trans (Ext.new hp), upd_same⟩⟩
theorem st_retN {xs : List V} (h : NewL te σ H xs) (q : ∀ l H', H l = none → Ext H H' → H' l = some (.lst xs) → D.rt (.ref l) H') : tRet te D σ H := h _ fun v H' ⟨l, e, n, x, p⟩ => by
  rw [e]
  exact q l H' n x p
end
/-- Refused(n) is raised -/
def Rz (T : Ts) (E : XK) (H : Hp) (n : Int) : Prop := ∀ d, H d = none → E (.ref T.ref) (some d) (L2.upd H d (.xd [("number", .int n)]))
/-! need -/
abbrev sNeed : Stmt := top 33
theorem scNeed : FnScope ["fulfilled", "number"] ["fulfilled", "number"] (defScope sNeed) := ⟨rfl, rfl, rfl, by decide +kernel, rfl, by decide +kernel, by decide +kernel⟩
def spNeed (T : Ts) : Sp := fun vs H Q E => ∃ (b : Bool) (n : Int), vs = [.bl b, .int n] ∧ (b = true → Q .non H) ∧ (b = false → Rz T E H n)
section
variable {g : Gx} {T : Ts} {f : Addr}
theorem ok_need (D : DefOk g.K "need" "need" sNeed ["fulfilled", "number"] f) (R : PySem.LowX.LowTxt g.K g.mg T.ref T.refI) : Pr g (L2.CX g.P g.w) 3 f ["fulfilled", "number"] (spNeed T) := by
  obtain ⟨fd, F, b⟩ := D
  refine ⟨fd, ?_, b⟩
  refine F.okX scNeed (fun vs H Q E h => ?_) (fun cdv A0 outer s0 H vs Q E hr h => ?_)
  · obtain ⟨b, n, rfl, _⟩ := h
    rfl
  · obtain ⟨b, n, rfl, q1, q2⟩ := h
    refine ⟨_, pss_one (ps_if (pt_not (pt_val (pv 0))) (pss_one (ps_raiseLow rfl R hr (takes_of rfl rfl rfl rfl) (by exact (pa_cons (pv 1) pa_nil)))) pss_nil), ?_⟩
    refine st_if (ans_not (ans_val (val_var (v := V.bl b) rfl))) (fun c => ?_) (fun c => ?_)
    · have c' : b = false := by cases b with | false => rfl | true => cases c
      exact ⟨_, rfl, _, rfl, fun d hd => q2 c' d hd⟩
    · have c' : b = true := by cases b with | true => rfl | false => cases c
      exact q1 c'
end
section
variable {T : Ts} {σ : L2.St} {H : Hp} {tb tn : TE} {D : Ends} {E : XK}
theorem st_need {b : Bool} {n : Int} (h : Val tb σ H (.bl b)) (hn : Val tn σ H (.int n)) (q1 : b = true → D.nx σ H) (q2 : b = false → Rz T E H n) : tDrop (tCall (spNeed T) [] E (tCons tb (tCons tn tNil))) D σ H :=
  h _ (hn _ ⟨b, n, rfl, q1, q2⟩)
theorem st_needE {b : Bool} {n : Int} (h : ValH tb σ H (fun v H' => v = .bl b ∧ Ext H H')) (hn : ∀ H', Val tn σ H' (.int n)) (q1 : b = true → ∀ H', Ext H H' → D.nx σ H') (q2 : b = false → ∀ H', Ext H H' → Rz T E H' n) : tDrop (tCall (spNeed T) [] E (tCons tb (tCons tn tNil))) D σ H :=
  h _ fun v H' ⟨e, x⟩ => by
    subst e
    exact hn H' _ ⟨b, n, rfl, fun c => q1 c H' x, fun c => q2 c H' x⟩
end
/-! is_bit, are_bits -/
abbrev sBit : Stmt := top 34
theorem scBit : FnScope ["number"] ["number"] (defScope sBit) := ⟨rfl, rfl, rfl, by decide +kernel, rfl, by decide +kernel, by decide +kernel⟩
def spBit : Sp := fun vs H Q _ => ∃ z : Int, vs = [.int z] ∧ Q (.bl (isBit z)) H
abbrev sBits : Stmt := top 35
theorem scBits : FnScope ["some", "number"] ["some"] (defScope sBits) := ⟨rfl, rfl, rfl, by decide +kernel, rfl, by decide +kernel, by decide +kernel⟩
def spBits (K : PySem.W.Frag) : Sp := fun vs H Q _ => ∃ (a : Addr) (l : List Int), vs = [.ref a] ∧ SqL K H a (l.map V.int) ∧ l.length ≤ 100000 ∧ ∀ H', Ext H H' → Q (.bl (l.all isBit)) H'
theorem Ext.seq {K : PySem.W.Frag} {H H' : Hp} (e : Ext H H') {a : Addr} {xs : List V} (h : SqL K H a xs) : SqL K H' a xs := by
  rcases h with (h | ⟨o, h⟩) | h
  · exact .inl (.inl (e _ _ h))
  · exact .inl (.inr ⟨o, e _ _ h⟩)
  · exact .inr h
theorem bits_filter : ∀ l : List Int, (l.filter fun z => !isBit z).isEmpty = l.all isBit
  | [] => rfl
  | z :: l => by
    have ih := bits_filter l
    rw [List.all_cons]
    cases e : isBit z with
    | true => rw [List.filter_cons_of_neg (by rw [e]; decide), ih, Bool.true_and]
    | false => rw [List.filter_cons_of_pos (by rw [e]; rfl)]; rfl
section
variable {g : Gx} {f : Addr}
theorem ok_bit (D : DefOk g.K "is_bit" "is_bit" sBit ["number"] f) : Pr g CX0 1 f ["number"] spBit := by
  obtain ⟨fd, F, b⟩ := D
  refine ⟨fd, ?_, b⟩
  refine F.ok scBit (fun vs H Q E h => ?_) (fun cdv A0 outer s0 H vs Q E hr h => ?_)
  · obtain ⟨z, rfl, _⟩ := h
    rfl
  · obtain ⟨z, rfl, q⟩ := h
    refine ⟨_, pss_one (ps_ret (pe_chain op_le op_le pe_int (pv 0) pe_int)), ?_⟩
    exact st_ret (val_chain val_c (val_var rfl) val_c) q
theorem val_bit {σ : L2.St} {H : Hp} {ta : TE} {z : Int} (h : Val ta σ H (.int z)) : Val (tCall spBit [] E0 (tCons ta tNil)) σ H (.bl (isBit z)) := val_call (args_cons h args_nil) fun Q k => ⟨z, rfl, k⟩
theorem ok_bits (D : DefOk g.K "are_bits" "are_bits" sBits ["some"] f) (F1 : FOk g CX0 1 "is_bit" ["number"] spBit) : Pr g CX0 2 f ["some"] (spBits g.K) := by
  obtain ⟨fd, F, b⟩ := D
  refine ⟨fd, ?_, b⟩
  refine F.ok scBits (fun vs H Q E h => ?_) (fun cdv A0 outer s0 H vs Q E hr h => ?_)
  · obtain ⟨a, l, rfl, _⟩ := h
    rfl
  · obtain ⟨a, l, rfl, ha, hl, q⟩ := h
    refine ⟨_, pss_one (ps_ret (pe_cmpR (op_eqD hr.units) (pe_lc (own := [("number", 1)]) (g := gName 1) rfl scBits.nd (pi_list (pv 0)) (blkOk_by (N := ["some", "number"]) (sc := defScope sBits) (by decide +kernel)) (fun _ _ _ _ _ => pg_name (i := 1) scBits.nd rfl (Or.inl rfl)) (fun _ _ _ _ _ => pts_one (pt_not (pt_val (pf F1 hr (by decide) rfl (pa_cons (pv 1) pa_nil))))) (fun _ _ _ _ _ => pv 1)) (pe_lst pa_nil) (nomark _))), ?_⟩
    refine ⟨_, rfl, a, rfl, ⟨_, ha⟩, fun D hD => ?_⟩
    refine lc_list (K := g.K) (a := a) (xs := l.map V.int) (fun i H' => H' = L2.upd H D (.lst (((l.take i).filter fun z => !isBit z).map V.int))) rfl (fun i H' _ e => by rw [e]; exact (Ext.new hD).seq ha) (fun i x H' hx e => ?_) (fun H' e => ?_)
    · subst e
      obtain ⟨z, hz, rfl⟩ : ∃ z, l[i]? = some z ∧ x = .int z := by
        rw [List.getElem?_map] at hx
        cases e : l[i]? with
        | none => rw [e] at hx; cases hx
        | some z => rw [e] at hx; exact ⟨z, rfl, (Option.some.inj hx).symm⟩
      refine ⟨rfl, ans_not (ans_val (val_bit (val_var rfl))) _ ?_⟩
      rw [take_more hz, List.filter_append]
      cases c : isBit z with
      | true =>
        show _ = _
        rw [List.filter_cons_of_neg (by rw [c]; decide)]
        show _ = L2.upd H D (.lst ((_ ++ []).map V.int))
        rw [List.append_nil]
      | false =>
        refine ⟨_, rfl, _, upd_same, ?_, ?_⟩
        · rw [List.length_map]
          refine Nat.lt_of_le_of_lt (Nat.le_trans (List.length_filter_le _ _) (List.length_take_le _ _)) ?_
          have := (List.getElem?_eq_some_iff.mp hz).1
          exact Nat.lt_of_lt_of_le (show i < 100000 by omega) (by decide)
        · rw [upd_upd, List.filter_cons_of_pos (by rw [c]; rfl), List.map_append]
          rfl
    · subst e
      rw [List.length_map, List.take_length]
      refine ⟨Nat.zero_le _, fun n hn => ?_⟩
      have x1 : Ext (L2.upd H D (.lst ((l.filter fun z => !isBit z).map V.int))) (L2.upd (L2.upd H D (.lst ((l.filter fun z => !isBit z).map V.int))) n (.lst [])) := Ext.new hn
      refine ⟨.list ((l.filter fun z => !isBit z).map PyData.int), .list [], .lst (SqL.of (x1 _ _ upd_same)) (dp_ints _), .lst (SqL.of upd_same) .nil, shaped_list _, by rfl, ?_⟩
      rw [eqv_nil, bits_filter]
      exact q _ ((Ext.new hD).trans x1)
theorem valH_bits {K : PySem.W.Frag} {σ : L2.St} {H : Hp} {ta : TE} {a : Addr} {l : List Int} (h : Val ta σ H (.ref a)) (ha : SqL K H a (l.map V.int)) (hl : l.length ≤ 100000) : ValH (tCall (spBits K) [] E0 (tCons ta tNil)) σ H (fun v H' => v = .bl (l.all isBit) ∧ Ext H H') := fun Q k =>
  go_call (args_cons h args_nil) ⟨a, l, rfl, ha, hl, fun H' x => k _ _ ⟨rfl, x⟩⟩
end
/-! stands -/
abbrev sStands : Stmt := top 36
theorem scStands : FnScope ["picking"] ["picking"] (defScope sStands) := ⟨rfl, rfl, rfl, by decide +kernel, rfl, by decide +kernel, by decide +kernel⟩
def spStands (T : Ts) : Sp := fun vs H Q _ => ∃ (A : Ad) (m : State), vs = [.ref A.p] ∧ PAt T A H m ∧ (m.phase ≤ 1 → RowOk m.rules.turns) ∧ ∀ l H', H l = none → Ext H H' → H' l = some (.lst ((standsP m).map V.int)) → Q (.ref l) H'
section
variable {g : Gx} {T : Ts} {f : Addr}
theorem ok_stands (D : DefOk g.K "stands" "stands" sStands ["picking"] f) (C : ClsTxt g.K T) (M1 : MOk g 3 T.pick "turn" ["self"] (spTurn T)) : Pr g CX0 4 f ["picking"] (spStands T) := by
  obtain ⟨fd, F, b⟩ := D
  refine ⟨fd, ?_, b⟩
  refine F.ok scStands (fun vs H Q E h => ?_) (fun cdv A0 outer s0 H vs Q E hr h => ?_)
  · obtain ⟨A, m, rfl, _⟩ := h
    rfl
  · obtain ⟨A, m, rfl, P, hrow, q⟩ := h
    refine ⟨_, pss_one (ps_ret (pe_op op_cat (pe_lst (pa_cons (pe_fld (pv 0) rfl) (pa_cons (pm0 M1 C.pick hr (by decide) (pv 0)) pa_nil))) (pe_fld (pe_fld (pv 0) rfl) rfl))), ?_⟩
    obtain ⟨dx, l, e, _⟩ := P.p
    have vt : Val (tMeth T.pick "turn" (spTurn T) [] E0 (tVar 0) tNil) (start ["picking"] [.ref A.p]) H (.int (turnP m)) := val_meth (val_var rfl) e rfl args_nil fun Q k => ⟨A, m, rfl, P, hrow, k⟩
    refine st_retN (newL_catV (ys := [nV m.leftA, nV m.leftB]) (newL_two (P.vPhase C (val_var rfl)) vt) (fun H1 x => ⟨A.tl, (P.ext x).vStrikes C ((P.ext x).vTurns C (val_var rfl)), (P.ext x).tl⟩) (by show 4 ≤ sizeLine; decide)) fun l H' n x p => q l H' n x p
theorem newL_stands {σ : L2.St} {H : Hp} {ta : TE} {A : Ad} {m : State} (P : PAt T A H m) (hrow : m.phase ≤ 1 → RowOk m.rules.turns) (h : Val ta σ H (.ref A.p)) : NewL (tCall (spStands T) [] E0 (tCons ta tNil)) σ H ((standsP m).map V.int) := fun Q k =>
  go_call (args_cons h args_nil) ⟨A, m, rfl, P, hrow, fun l H' n x p => k _ _ ⟨l, rfl, n, x, p⟩⟩
end
/-! need_person, need_early -/
abbrev sPerson : Stmt := top 37
theorem scPerson : FnScope ["picking", "who"] ["picking", "who"] (defScope sPerson) := ⟨rfl, rfl, rfl, by decide +kernel, rfl, by decide +kernel, by decide +kernel⟩
def spPerson (T : Ts) : Sp := fun vs H Q E => ∃ (A : Ad) (m : State) (who : Int), vs = [.ref A.p, .int who] ∧ PAt T A H m ∧ (isPerson m who = true → Q .non H) ∧ (isPerson m who = false → Rz T E H (-1))
abbrev sEarly : Stmt := top 38
theorem scEarly : FnScope ["picking"] ["picking"] (defScope sEarly) := ⟨rfl, rfl, rfl, by decide +kernel, rfl, by decide +kernel, by decide +kernel⟩
def spEarly (T : Ts) : Sp := fun vs H Q E => ∃ (A : Ad) (m : State), vs = [.ref A.p] ∧ PAt T A H m ∧ (m.phase ≤ 1 → Q .non H) ∧ (1 < m.phase → Rz T E H (-3))
section
variable {g : Gx} {T : Ts} {f : Addr}
theorem ok_person (D : DefOk g.K "need_person" "need_person" sPerson ["picking", "who"] f) (C : ClsTxt g.K T) (G : Mg g.mg) (F1 : FOk g (L2.CX g.P g.w) 3 "need" ["fulfilled", "number"] (spNeed T)) : Pr g (L2.CX g.P g.w) 4 f ["picking", "who"] (spPerson T) := by
  obtain ⟨fd, F, b⟩ := D
  refine ⟨fd, ?_, b⟩
  refine F.okX scPerson (fun vs H Q E h => ?_) (fun cdv A0 outer s0 H vs Q E hr h => ?_)
  · obtain ⟨A, m, who, rfl, _⟩ := h
    rfl
  · obtain ⟨A, m, who, rfl, P, q1, q2⟩ := h
    refine ⟨_, pss_one (ps_expr (pfX (E := E) F1 hr (by decide) rfl (takes_of rfl rfl rfl rfl) (pa_cons (pe_chain op_le op_lt pe_int (pv 1) (pe_callB call_len_seq (by rfl) G.len PySem.boot_len (pa_cons (pe_fld (pe_fld (pv 0) rfl) rfl) pa_nil))) (pa_cons (pe_un un_neg pe_int) pa_nil)))), ?_⟩
    have vl := val_len (K := g.K) (P.vFates C (P.vPanel C (ta := tVar 0) (σ := start ["picking", "who"] [.ref A.p, .int who]) (val_var rfl))) (SqL.of P.fl)
    rw [len_nVs] at vl
    exact st_need (val_chain val_c (val_var rfl) vl) (val_neg val_c) q1 q2
theorem ok_early (D : DefOk g.K "need_early" "need_early" sEarly ["picking"] f) (C : ClsTxt g.K T) (G : Mg g.mg) (F1 : FOk g (L2.CX g.P g.w) 3 "need" ["fulfilled", "number"] (spNeed T)) : Pr g (L2.CX g.P g.w) 4 f ["picking"] (spEarly T) := by
  obtain ⟨fd, F, b⟩ := D
  refine ⟨fd, ?_, b⟩
  refine F.okX scEarly (fun vs H Q E h => ?_) (fun cdv A0 outer s0 H vs Q E hr h => ?_)
  · obtain ⟨A, m, rfl, _⟩ := h
    rfl
  · obtain ⟨A, m, rfl, P, q1, q2⟩ := h
    refine ⟨_, pss_one (ps_expr (pfX (E := E) F1 hr (by decide) rfl (takes_of rfl rfl rfl rfl) (pa_cons (pe_cmpR op_le (pe_fld (pv 0) rfl) (pc0 G.atalts rfl) (nomark _)) (pa_cons (pe_un un_neg pe_int) pa_nil)))), ?_⟩
    refine st_need (val_B (P.vPhase C (val_var rfl)) val_c) (val_neg val_c) (fun c => q1 ?_) (fun c => q2 ?_)
    · have := of_decide_eq_true c
      omega
    · have := of_decide_eq_false c
      omega
end
section
variable {T : Ts} {σ : L2.St} {H : Hp} {tp tw : TE} {D : Ends} {E : XK} {A : Ad} {m : State}
theorem st_person {who : Int} (P : PAt T A H m) (hp : Val tp σ H (.ref A.p)) (hw : Val tw σ H (.int who)) (q1 : isPerson m who = true → D.nx σ H) (q2 : isPerson m who = false → Rz T E H (-1)) : tDrop (tCall (spPerson T) [] E (tCons tp (tCons tw tNil))) D σ H :=
  hp _ (hw _ ⟨A, m, who, rfl, P, q1, q2⟩)
theorem st_early (P : PAt T A H m) (hp : Val tp σ H (.ref A.p)) (q1 : m.phase ≤ 1 → D.nx σ H) (q2 : 1 < m.phase → Rz T E H (-3)) : tDrop (tCall (spEarly T) [] E (tCons tp tNil)) D σ H :=
  hp _ ⟨A, m, rfl, P, q1, q2⟩
end
end Jp
namespace Jp
open PySem PySem.Spec PyProof.Rows L2
open Kg77 (State Rules)
/-! ### asking: the calls on a picking -/
def Outcome (T : Ts) (A : Ad) (H : Hp) (r : Res) (Q : VK) (E : XK) : Prop := match r with
  | .error n => ∀ H', Ext H H' → Rz T E H' n
  | .ok (m', out) => ∀ A' H' q, PAt T A' H' m' → To A.all H A'.all H' → H' q = some (.lst (out.map V.int)) → (∀ a u, a ∉ A.all → H a = some u → a ≠ q) → A'.p = A.p → Q (.ref q) H'
section
variable {T : Ts} {A A1 : Ad} {H H1 : Hp} {m1 : State} {σ : L2.St} {te : TE} {Q : VK} {E : XK} {D : Ends}
theorem fresh_to (t : To A.all H A1.all H1) {q : Addr} (h : H1 q = none) : ∀ a u, a ∉ A.all → H a = some u → a ≠ q := fun a u ha e z => by
  have := t.keep a u ha e
  rw [z, h] at this
  cases this
/-- return [z] + stands(picking) -/
theorem st_fin {z : Int} (P1 : PAt T A1 H1 m1) (t : To A.all H A1.all H1) (e : A1.p = A.p) (hrow : m1.phase ≤ 1 → RowOk m1.rules.turns) (hv : Val te σ H1 (.int z)) (hp : σ[0]? = some (some (.ref A1.p))) (q : Outcome T A H (.ok (m1, z :: standsP m1)) Q E) (hD : D.rt = Q) :
    tRet (tOp rCat (tLst (tCons te tNil)) (tCall (spStands T) [] E0 (tCons (tVar 0) tNil))) D σ H1 := by
  subst hD
  exact st_retN (newL_cat (newL_one hv) (fun H2 x => newL_stands (P1.ext x) hrow (val_var hp)) (by show 1 + 4 ≤ sizeLine; decide)) fun l H' n x p => q A1 H' l (P1.ext x) (t.trans (x.to _)) p (fresh_to t n) e
end
theorem who_nat {m : State} {who : Int} (h : isPerson m who = true) : ∃ i : Nat, who = (i : Int) ∧ i < m.panel.length := by
  unfold isPerson at h
  rw [Bool.and_eq_true] at h
  have a := of_decide_eq_true h.1
  have b := of_decide_eq_true h.2
  exact ⟨who.toNat, by omega, by omega⟩
theorem not_true {b : Bool} (h : b = true) : ¬ b = false := by rw [h]; decide
/-! excuse -/
abbrev sAExc : Stmt := top 40
theorem scAExc : FnScope ["picking", "who", "seat"] ["picking", "who"] (defScope sAExc) := ⟨rfl, rfl, rfl, by decide +kernel, rfl, by decide +kernel, by decide +kernel⟩
def spAExc (T : Ts) : Sp := fun vs H Q E => ∃ (A : Ad) (m : State) (who : Int), vs = [.ref A.p, .int who] ∧ PAt T A H m ∧ Inv m ∧ Outcome T A H (pyExcuse m who) Q E
section
variable {g : Gx} {T : Ts} {f : Addr}
theorem ok_aexc (D : DefOk g.K "excuse" "excuse" sAExc ["picking", "who"] f) (C : ClsTxt g.K T) (F1 : FOk g (L2.CX g.P g.w) 3 "need" ["fulfilled", "number"] (spNeed T)) (F2 : FOk g (L2.CX g.P g.w) 4 "need_person" ["picking", "who"] (spPerson T)) (F3 : FOk g (L2.CX g.P g.w) 4 "need_early" ["picking"] (spEarly T))
    (F4 : FOk g CX0 4 "stands" ["picking"] (spStands T)) (M1 : MOk g 5 T.pick "excuse" ["self", "who"] (spExc T)) : Pr g (L2.CX g.P g.w) 6 f ["picking", "who"] (spAExc T) := by
  obtain ⟨fd, F, b⟩ := D
  refine ⟨fd, ?_, b⟩
  refine F.okX scAExc (fun vs H Q E h => ?_) (fun cdv A0 outer s0 H vs Q E hr h => ?_)
  · obtain ⟨A, m, who, rfl, _⟩ := h
    rfl
  · obtain ⟨A, m, who, rfl, P, I, q⟩ := h
    refine ⟨_, pss_cons (ps_expr (pfX (E := E) F2 hr (by decide) rfl (takes_of rfl rfl rfl rfl) (pa_cons (pv 0) (pa_cons (pv 1) pa_nil))))
      (pss_cons (ps_expr (pfX (E := E) F3 hr (by decide) rfl (takes_of rfl rfl rfl rfl) (pa_cons (pv 0) pa_nil)))
      (pss_cons (ps_expr (pfX (E := E) F1 hr (by decide) rfl (takes_of rfl rfl rfl rfl) (pa_cons (pe_cmpR op_in_seq (pv 1) (pe_fld (pe_fld (pv 0) rfl) rfl) rfl) (pa_cons (pe_un un_neg pe_int) pa_nil))))
      (pss_cons (ps_set (i := 2) scAExc.nd rfl (Or.inl rfl) (pm M1 C.pick hr (by decide) (pv 0) (pa_cons (pv 1) pa_nil)))
      (pss_one (ps_ret (pe_op op_cat (pe_lst (pa_cons (pv 2) pa_nil)) (pf F4 hr (by decide) rfl (pa_cons (pv 0) pa_nil)))))))), ?_⟩
    unfold pyExcuse at q
    refine st_seq (st_person P (val_var rfl) (val_var rfl) (fun c1 => ?_) (fun c1 => ?_))
    case _ =>
      rw [if_neg (not_true c1)] at q
      dsimp only
      refine st_seq (st_early P (val_var rfl) (fun c2 => ?_) (fun c2 => ?_))
      case _ =>
        rw [if_neg (show ¬ 1 < m.phase by omega)] at q
        obtain ⟨i, rfl, hi⟩ := who_nat c1
        rw [Int.toNat_natCast] at q
        dsimp only
        refine st_seq (st_need (val_in (val_var rfl) (P.vSeats C (P.vBox C (val_var rfl))) P.sl') (val_neg val_c) (fun c3 => ?_) (fun c3 => ?_))
        case _ =>
          obtain ⟨k, hk⟩ := Option.ne_none_iff_exists'.mp (seatP_contains.mp c3)
          rw [hk] at q
          dsimp only at q ⊢
          have pre := pre_excuse I c2 (seat_iff hk)
          obtain ⟨dx, l, e, _⟩ := P.p
          refine go_meth (a := A.p) (vs := [nV i]) (val_var rfl) e rfl (args_cons (val_var rfl) args_nil) ⟨A, m, i, k, rfl, P, hk, hi, pre.ready, fun A1 H1 P1 t1 e1 => ?_⟩
          dsimp only [gName]
          exact st_fin (z := (k : Int)) P1 t1 e1 (settle_inv pre).row (val_var (i := 2) rfl) (by rw [e1]; rfl) q rfl
        case _ =>
          have hn : seatP m i = none := by
            cases e : seatP m i with
            | none => rfl
            | some k =>
              have := seatP_contains.mpr (show seatP m i ≠ none by rw [e]; simp)
              rw [this] at c3
              cases c3
          rw [hn] at q
          exact q H (Ext.refl H)
      case _ =>
        rw [if_pos c2] at q
        exact q H (Ext.refl H)
    case _ =>
      rw [if_pos c1] at q
      exact q H (Ext.refl H)
end
end Jp
namespace Jp
open PySem PySem.Spec PyProof.Rows L2
open Kg77 (State Rules)
theorem turning_of {m : State} (I : Inv m) (hp : m.phase ≤ 1) (hc : m.closed = false) : Turning m := ⟨(I.early hp).1.row, (I.early hp).1.at_, hc⟩
theorem bit_nat {z : Int} (h : isBit z = true) : ∃ i : Nat, z = (i : Int) ∧ (i = 0 ∨ i = 1) := by
  rcases bit_cases h with e | e
  · exact ⟨0, e, .inl rfl⟩
  · exact ⟨1, e, .inr rfl⟩
theorem dec_Int (a b : Int) : decide (V.int a = V.int b) = decide (a = b) := decide_eq_decide.mpr ⟨fun h => V.int.inj h, fun h => by rw [h]⟩
/-! strike -/
abbrev sAStr : Stmt := top 41
theorem scAStr : FnScope ["picking", "side", "who", "seat"] ["picking", "side", "who"] (defScope sAStr) := ⟨rfl, rfl, rfl, by decide +kernel, rfl, by decide +kernel, by decide +kernel⟩
def spAStr (T : Ts) : Sp := fun vs H Q E => ∃ (A : Ad) (m : State) (side who : Int), vs = [.ref A.p, .int side, .int who] ∧ PAt T A H m ∧ Inv m ∧ Outcome T A H (pyStrike m side who) Q E
section
variable {g : Gx} {T : Ts} {f : Addr}
theorem ok_astr (D : DefOk g.K "strike" "strike" sAStr ["picking", "side", "who"] f) (C : ClsTxt g.K T) (F1 : FOk g (L2.CX g.P g.w) 3 "need" ["fulfilled", "number"] (spNeed T)) (F2 : FOk g (L2.CX g.P g.w) 4 "need_person" ["picking", "who"] (spPerson T)) (F3 : FOk g (L2.CX g.P g.w) 4 "need_early" ["picking"] (spEarly T))
    (F4 : FOk g CX0 4 "stands" ["picking"] (spStands T)) (F5 : FOk g CX0 1 "is_bit" ["number"] spBit) (M0 : MOk g 2 T.turns "next_side" ["self"] (spNext T)) (M1 : MOk g 5 T.pick "strike" ["self", "side", "who"] (spStr T)) : Pr g (L2.CX g.P g.w) 6 f ["picking", "side", "who"] (spAStr T) := by
  obtain ⟨fd, F, b⟩ := D
  refine ⟨fd, ?_, b⟩
  refine F.okX scAStr (fun vs H Q E h => ?_) (fun cdv A0 outer s0 H vs Q E hr h => ?_)
  · obtain ⟨A, m, side, who, rfl, _⟩ := h
    rfl
  · obtain ⟨A, m, side, who, rfl, P, I, q⟩ := h
    refine ⟨_, pss_cons (ps_expr (pfX (E := E) F2 hr (by decide) rfl (takes_of rfl rfl rfl rfl) (pa_cons (pv 0) (pa_cons (pv 2) pa_nil))))
      (pss_cons (ps_expr (pfX (E := E) F1 hr (by decide) rfl (takes_of rfl rfl rfl rfl) (pa_cons (pf F5 hr (by decide) rfl (pa_cons (pv 1) pa_nil)) (pa_cons (pe_un un_neg pe_int) pa_nil))))
      (pss_cons (ps_expr (pfX (E := E) F3 hr (by decide) rfl (takes_of rfl rfl rfl rfl) (pa_cons (pv 0) pa_nil)))
      (pss_cons (ps_expr (pfX (E := E) F1 hr (by decide) rfl (takes_of rfl rfl rfl rfl) (pa_cons (pe_cmpR op_eq (pm0 M0 C.turns hr (by decide) (pe_fld (pv 0) rfl)) (pv 1) (nomark _)) (pa_cons (pe_un un_neg pe_int) pa_nil))))
      (pss_cons (ps_expr (pfX (E := E) F1 hr (by decide) rfl (takes_of rfl rfl rfl rfl) (pa_cons (pe_cmpR op_in_seq (pv 2) (pe_fld (pe_fld (pv 0) rfl) rfl) rfl) (pa_cons (pe_un un_neg pe_int) pa_nil))))
      (pss_cons (ps_set (i := 3) scAStr.nd rfl (Or.inl rfl) (pm M1 C.pick hr (by decide) (pv 0) (pa_cons (pv 1) (pa_cons (pv 2) pa_nil))))
      (pss_one (ps_ret (pe_op op_cat (pe_lst (pa_cons (pv 3) pa_nil)) (pf F4 hr (by decide) rfl (pa_cons (pv 0) pa_nil)))))))))), ?_⟩
    unfold pyStrike at q
    refine st_seq (st_person P (val_var rfl) (val_var rfl) (fun c1 => ?_) (fun c1 => ?_))
    case _ =>
      rw [if_neg (not_true c1)] at q
      dsimp only
      refine st_seq (st_need (val_bit (val_var rfl)) (val_neg val_c) (fun c0 => ?_) (fun c0 => ?_))
      case _ =>
        rw [if_neg (not_true c0)] at q
        dsimp only
        refine st_seq (st_early P (val_var rfl) (fun c2 => ?_) (fun c2 => ?_))
        case _ =>
          rw [if_neg (show ¬ 1 < m.phase by omega)] at q
          dsimp only
          refine st_seq (st_need (val_eq (P.vNext (I.row c2) (P.vTurns C (val_var rfl))) (val_var rfl)) (val_neg val_c) (fun c4 => ?_) (fun c4 => ?_))
          case _ =>
            rw [dec_Int, decide_eq_true_eq] at c4
            rw [if_neg (not_not_intro c4)] at q
            obtain ⟨i, rfl, hi⟩ := who_nat c1
            obtain ⟨sd, rfl, hsd⟩ := bit_nat c0
            rw [Int.toNat_natCast, Int.toNat_natCast] at q
            dsimp only
            refine st_seq (st_need (val_in (val_var rfl) (P.vSeats C (P.vBox C (val_var rfl))) P.sl') (val_neg val_c) (fun c3 => ?_) (fun c3 => ?_))
            case _ =>
              obtain ⟨k, hk⟩ := Option.ne_none_iff_exists'.mp (seatP_contains.mp c3)
              rw [hk] at q
              dsimp only at q ⊢
              have pre := pre_strike I c2 c0 (seat_iff hk)
              rw [Int.toNat_natCast] at pre
              obtain ⟨dx, l, e, _⟩ := P.p
              refine go_meth (a := A.p) (vs := [nV sd, nV i]) (val_var rfl) e rfl (args_cons (val_var rfl) (args_cons (val_var rfl) args_nil)) ⟨A, m, sd, i, k, rfl, P, turning_of I c2 (closed_not c0 c4), c4, hk, hi, pre.ready, fun A1 H1 P1 t1 e1 => ?_⟩
              dsimp only [gName]
              exact st_fin (z := (k : Int)) P1 t1 e1 (settle_inv pre).row (val_var (i := 3) rfl) (by rw [e1]; rfl) q rfl
            case _ =>
              have hn : seatP m i = none := by
                cases e : seatP m i with
                | none => rfl
                | some k =>
                  have := seatP_contains.mpr (show seatP m i ≠ none by rw [e]; simp)
                  rw [this] at c3
                  cases c3
              rw [hn] at q
              exact q H (Ext.refl H)
          case _ =>
            rw [dec_Int, decide_eq_false_iff_not] at c4
            rw [if_pos c4] at q
            exact q H (Ext.refl H)
        case _ =>
          rw [if_pos c2] at q
          exact q H (Ext.refl H)
      case _ =>
        rw [if_pos c0] at q
        exact q H (Ext.refl H)
    case _ =>
      rw [if_pos c1] at q
      exact q H (Ext.refl H)
end
/-! pass_by -/
abbrev sAPas : Stmt := top 42
theorem scAPas : FnScope ["picking", "side"] ["picking", "side"] (defScope sAPas) := ⟨rfl, rfl, rfl, by decide +kernel, rfl, by decide +kernel, by decide +kernel⟩
def spAPas (T : Ts) : Sp := fun vs H Q E => ∃ (A : Ad) (m : State) (side : Int), vs = [.ref A.p, .int side] ∧ PAt T A H m ∧ Inv m ∧ Outcome T A H (pyPass m side) Q E
section
variable {g : Gx} {T : Ts} {f : Addr}
theorem ok_apas (D : DefOk g.K "pass_by" "pass_by" sAPas ["picking", "side"] f) (C : ClsTxt g.K T) (F1 : FOk g (L2.CX g.P g.w) 3 "need" ["fulfilled", "number"] (spNeed T)) (F3 : FOk g (L2.CX g.P g.w) 4 "need_early" ["picking"] (spEarly T))
    (F4 : FOk g CX0 4 "stands" ["picking"] (spStands T)) (F5 : FOk g CX0 1 "is_bit" ["number"] spBit) (M0 : MOk g 2 T.turns "next_side" ["self"] (spNext T)) (M1 : MOk g 5 T.pick "pass_turn" ["self"] (spPas T)) : Pr g (L2.CX g.P g.w) 6 f ["picking", "side"] (spAPas T) := by
  obtain ⟨fd, F, b⟩ := D
  refine ⟨fd, ?_, b⟩
  refine F.okX scAPas (fun vs H Q E h => ?_) (fun cdv A0 outer s0 H vs Q E hr h => ?_)
  · obtain ⟨A, m, side, rfl, _⟩ := h
    rfl
  · obtain ⟨A, m, side, rfl, P, I, q⟩ := h
    refine ⟨_, pss_cons (ps_expr (pfX (E := E) F1 hr (by decide) rfl (takes_of rfl rfl rfl rfl) (pa_cons (pf F5 hr (by decide) rfl (pa_cons (pv 1) pa_nil)) (pa_cons (pe_un un_neg pe_int) pa_nil))))
      (pss_cons (ps_expr (pfX (E := E) F3 hr (by decide) rfl (takes_of rfl rfl rfl rfl) (pa_cons (pv 0) pa_nil)))
      (pss_cons (ps_expr (pfX (E := E) F1 hr (by decide) rfl (takes_of rfl rfl rfl rfl) (pa_cons (pe_cmpR op_eq (pm0 M0 C.turns hr (by decide) (pe_fld (pv 0) rfl)) (pv 1) (nomark _)) (pa_cons (pe_un un_neg pe_int) pa_nil))))
      (pss_cons (ps_expr (pm0 M1 C.pick hr (by decide) (pv 0)))
      (pss_one (ps_ret (pe_op op_cat (pe_lst (pa_cons pe_int pa_nil)) (pf F4 hr (by decide) rfl (pa_cons (pv 0) pa_nil)))))))), ?_⟩
    unfold pyPass at q
    refine st_seq (st_need (val_bit (val_var rfl)) (val_neg val_c) (fun c0 => ?_) (fun c0 => ?_))
    case _ =>
      rw [if_neg (not_true c0)] at q
      dsimp only
      refine st_seq (st_early P (val_var rfl) (fun c2 => ?_) (fun c2 => ?_))
      case _ =>
        rw [if_neg (show ¬ 1 < m.phase by omega)] at q
        dsimp only
        refine st_seq (st_need (val_eq (P.vNext (I.row c2) (P.vTurns C (val_var rfl))) (val_var rfl)) (val_neg val_c) (fun c4 => ?_) (fun c4 => ?_))
        case _ =>
          rw [dec_Int, decide_eq_true_eq] at c4
          rw [if_neg (not_not_intro c4)] at q
          obtain ⟨sd, rfl, hsd⟩ := bit_nat c0
          rw [Int.toNat_natCast] at q
          have pre := pre_pass I c2 sd
          obtain ⟨dx, l, e, _⟩ := P.p
          dsimp only
          refine go_meth (a := A.p) (val_var rfl) e rfl args_nil ⟨A, m, sd, rfl, P, turning_of I c2 (closed_not c0 c4), c4, pre.ready, fun A1 H1 P1 t1 e1 => ?_⟩
          dsimp only
          exact st_fin (z := 0) P1 t1 e1 (settle_inv pre).row val_c (by rw [e1]; rfl) q rfl
        case _ =>
          rw [dec_Int, decide_eq_false_iff_not] at c4
          rw [if_pos c4] at q
          exact q H (Ext.refl H)
      case _ =>
        rw [if_pos c2] at q
        exact q H (Ext.refl H)
    case _ =>
      rw [if_pos c0] at q
      exact q H (Ext.refl H)
end
/-! objection -/
abbrev sAObj : Stmt := top 43
theorem scAObj : FnScope ["picking", "side", "upheld"] ["picking", "side", "upheld"] (defScope sAObj) := ⟨rfl, rfl, rfl, by decide +kernel, rfl, by decide +kernel, by decide +kernel⟩
def spAObj (T : Ts) : Sp := fun vs H Q E => ∃ (A : Ad) (m : State) (side up : Int), vs = [.ref A.p, .int side, .int up] ∧ PAt T A H m ∧ Inv m ∧ Outcome T A H (pyObject m side up) Q E
section
variable {g : Gx} {T : Ts} {f : Addr}
theorem ok_aobj (D : DefOk g.K "objection" "objection" sAObj ["picking", "side", "upheld"] f) (C : ClsTxt g.K T) (F1 : FOk g (L2.CX g.P g.w) 3 "need" ["fulfilled", "number"] (spNeed T)) (F3 : FOk g (L2.CX g.P g.w) 4 "need_early" ["picking"] (spEarly T))
    (F4 : FOk g CX0 4 "stands" ["picking"] (spStands T)) (F5 : FOk g CX0 1 "is_bit" ["number"] spBit) (M1 : MOk g 5 T.pick "answer_objection" ["self", "upheld"] (spAnsO T)) : Pr g (L2.CX g.P g.w) 6 f ["picking", "side", "upheld"] (spAObj T) := by
  obtain ⟨fd, F, b⟩ := D
  refine ⟨fd, ?_, b⟩
  refine F.okX scAObj (fun vs H Q E h => ?_) (fun cdv A0 outer s0 H vs Q E hr h => ?_)
  · obtain ⟨A, m, side, up, rfl, _⟩ := h
    rfl
  · obtain ⟨A, m, side, up, rfl, P, I, q⟩ := h
    refine ⟨_, pss_cons (ps_expr (pfX (E := E) F1 hr (by decide) rfl (takes_of rfl rfl rfl rfl) (pa_cons (pe_and (pf F5 hr (by decide) rfl (pa_cons (pv 1) pa_nil)) (pe_one (pf F5 hr (by decide) rfl (pa_cons (pv 2) pa_nil)))) (pa_cons (pe_un un_neg pe_int) pa_nil))))
      (pss_cons (ps_expr (pfX (E := E) F3 hr (by decide) rfl (takes_of rfl rfl rfl rfl) (pa_cons (pv 0) pa_nil)))
      (pss_cons (ps_expr (pfX (E := E) F1 hr (by decide) rfl (takes_of rfl rfl rfl rfl) (pa_cons (pe_cmpR op_notN (pe_fld (pv 0) rfl) pe_non (nomark _)) (pa_cons (pe_un un_neg pe_int) pa_nil))))
      (pss_cons (ps_expr (pfX (E := E) F1 hr (by decide) rfl (takes_of rfl rfl rfl rfl) (pa_cons (pe_cmpR op_ne (pe_fld (pe_fld (pv 0) rfl) rfl) (pv 1) (nomark _)) (pa_cons (pe_un un_neg pe_int) pa_nil))))
      (pss_cons (ps_expr (pm M1 C.pick hr (by decide) (pv 0) (pa_cons (pv 2) pa_nil)))
      (pss_one (ps_ret (pe_op op_cat (pe_lst (pa_cons (pv 2) pa_nil)) (pf F4 hr (by decide) rfl (pa_cons (pv 0) pa_nil))))))))), ?_⟩
    unfold pyObject at q
    refine st_seq (st_need (val_and (val_bit (val_var rfl)) (val_bit (val_var rfl))) (val_neg val_c) (fun c0 => ?_) (fun c0 => ?_))
    case _ =>
      rw [if_neg (not_true c0)] at q
      rw [Bool.and_eq_true] at c0
      dsimp only
      refine st_seq (st_early P (val_var rfl) (fun c2 => ?_) (fun c2 => ?_))
      case _ =>
        rw [if_neg (show ¬ 1 < m.phase by omega)] at q
        obtain ⟨l, hl, vl⟩ := P.vLast C
        have vn : Val (tOp (fun x y H Q => y = V.non ∧ Q (V.bl (!decide (x = V.non))) H) (tFld g.K (tVar 0) "last") (tC V.non)) (start ["picking", "side", "upheld"] [.ref A.p, .int side, .int up]) H (.bl (!m.last.isNone)) := by
          have := val_op (r := fun x y H Q => y = V.non ∧ Q (V.bl (!decide (x = V.non))) H) (z := .bl (!decide (l = V.non))) (vl (ta := tVar 0) (σ := start ["picking", "side", "upheld"] [.ref A.p, .int side, .int up]) (val_var rfl)) (val_c (v := V.non)) fun Q q => ⟨rfl, q⟩
          rw [hl.isNone] at this
          exact this
        dsimp only
        refine st_seq (st_need vn (val_neg val_c) (fun c3 => ?_) (fun c3 => ?_))
        case _ =>
          obtain ⟨x, hx⟩ : ∃ x, m.last = some x := by
            cases e : m.last with
            | none => rw [e] at c3; cases c3
            | some x => exact ⟨x, rfl⟩
          rw [hx] at q
          dsimp only at q ⊢
          have L1 := P.vLastF (K := g.K) C hx (ta := tVar 0) (σ := start ["picking", "side", "upheld"] [.ref A.p, .int side, .int up]) (val_var rfl)
          refine st_seq (st_need (val_ne L1.1 (val_var (i := 1) (v := V.int side) rfl)) (val_neg val_c) (fun c4 => ?_) (fun c4 => ?_))
          case _ =>
            have c4' : ¬ (x.2.2 : Int) = side := fun z => by
              unfold nV at c4
              rw [dec_Int, Bool.not_eq_true', decide_eq_false_iff_not] at c4
              exact c4 z
            rw [if_neg c4'] at q
            obtain ⟨_, j, hj, hjl⟩ := back_pre I c2 hx
            have pre := pre_object I c2 hx (decide (up = 1))
            obtain ⟨dx, l, e, _⟩ := P.p
            dsimp only
            refine go_meth (a := A.p) (vs := [.int up]) (val_var rfl) e rfl (args_cons (val_var rfl) args_nil) ⟨A, m, up, x, j, rfl, P, hx, hj, hjl, ((I.early c2).1.last x hx).1, pre.ready, fun A1 H1 P1 t1 e1 => ?_⟩
            dsimp only
            exact st_fin (z := up) P1 t1 e1 (settle_inv pre).row (val_var (i := 2) rfl) (by rw [e1]; rfl) q rfl
          case _ =>
            have c4' : (x.2.2 : Int) = side := by
              unfold nV at c4
              rw [dec_Int, Bool.not_eq_false', decide_eq_true_eq] at c4
              exact c4
            rw [if_pos c4'] at q
            exact q H (Ext.refl H)
        case _ =>
          have hx : m.last = none := by
            cases e : m.last with
            | none => rfl
            | some x => rw [e] at c3; cases c3
          rw [hx] at q
          exact q H (Ext.refl H)
      case _ =>
        rw [if_pos c2] at q
        exact q H (Ext.refl H)
    case _ =>
      rw [if_pos c0] at q
      exact q H (Ext.refl H)
end
end Jp
namespace Jp
open PySem PySem.Spec PyProof.Rows L2
open Kg77 (State Rules)
theorem row_late {m : State} (h : 2 ≤ m.phase) : m.phase ≤ 1 → RowOk m.rules.turns := fun z => by omega
/-! let -/
abbrev sALet : Stmt := top 44
theorem scALet : FnScope ["picking", "who", "found"] ["picking", "who"] (defScope sALet) := ⟨rfl, rfl, rfl, by decide +kernel, rfl, by decide +kernel, by decide +kernel⟩
def spALet (T : Ts) : Sp := fun vs H Q E => ∃ (A : Ad) (m : State) (who : Int), vs = [.ref A.p, .int who] ∧ PAt T A H m ∧ Inv m ∧ Outcome T A H (pyLet m who) Q E
theorem letP_phase {m : State} (h : m.phase = 2) (i : Nat) : 2 ≤ (letP m i).1.phase := by
  unfold letP
  split
  · exact Nat.le_of_eq h.symm
  · split
    · exact Nat.le_of_eq h.symm
    · show 2 ≤ (if (m.jury.erase i).length < m.least then _ else _ : State).phase
      split
      · show 2 ≤ 4; decide
      · exact Nat.le_of_eq h.symm
section
variable {g : Gx} {T : Ts} {f : Addr}
theorem ok_alet (D : DefOk g.K "let" "let" sALet ["picking", "who"] f) (C : ClsTxt g.K T) (G : Mg g.mg) (F1 : FOk g (L2.CX g.P g.w) 3 "need" ["fulfilled", "number"] (spNeed T)) (F2 : FOk g (L2.CX g.P g.w) 4 "need_person" ["picking", "who"] (spPerson T))
    (F4 : FOk g CX0 4 "stands" ["picking"] (spStands T)) (M1 : MOk g 1 T.pick "let_go" ["self", "who"] (spLet T)) : Pr g (L2.CX g.P g.w) 6 f ["picking", "who"] (spALet T) := by
  obtain ⟨fd, F, b⟩ := D
  refine ⟨fd, ?_, b⟩
  refine F.okX scALet (fun vs H Q E h => ?_) (fun cdv A0 outer s0 H vs Q E hr h => ?_)
  · obtain ⟨A, m, who, rfl, _⟩ := h
    rfl
  · obtain ⟨A, m, who, rfl, P, I, q⟩ := h
    refine ⟨_, pss_cons (ps_expr (pfX (E := E) F2 hr (by decide) rfl (takes_of rfl rfl rfl rfl) (pa_cons (pv 0) (pa_cons (pv 1) pa_nil))))
      (pss_cons (ps_expr (pfX (E := E) F1 hr (by decide) rfl (takes_of rfl rfl rfl rfl) (pa_cons (pe_cmpR op_eq (pe_fld (pv 0) rfl) (pc0 G.sworn rfl) (nomark _)) (pa_cons (pe_un un_neg pe_int) pa_nil))))
      (pss_cons (ps_expr (pfX (E := E) F1 hr (by decide) rfl (takes_of rfl rfl rfl rfl) (pa_cons (pe_or (pe_cmpR op_in_seq (pv 1) (pe_fld (pv 0) rfl) rfl) (pe_one (pe_cmpR op_in_seq (pv 1) (pe_fld (pv 0) rfl) rfl))) (pa_cons (pe_un un_neg pe_int) pa_nil))))
      (pss_cons (ps_set (i := 2) scALet.nd rfl (Or.inl rfl) (pm M1 C.pick hr (by decide) (pv 0) (pa_cons (pv 1) pa_nil)))
      (pss_one (ps_ret (pe_op op_cat (pe_lst (pa_cons (pv 2) pa_nil)) (pf F4 hr (by decide) rfl (pa_cons (pv 0) pa_nil)))))))), ?_⟩
    unfold pyLet at q
    refine st_seq (st_person P (val_var rfl) (val_var rfl) (fun c1 => ?_) (fun c1 => ?_))
    case _ =>
      rw [if_neg (not_true c1)] at q
      dsimp only
      refine st_seq (st_need (val_eq (P.vPhase C (val_var rfl)) val_c) (val_neg val_c) (fun c2 => ?_) (fun c2 => ?_))
      case _ =>
        have h2 : m.phase = 2 := by
          rw [show (2 : Int) = ((2 : Nat) : Int) from rfl, dec_nV, decide_eq_true_eq] at c2
          exact c2
        rw [if_neg (not_not_intro h2)] at q
        obtain ⟨i, rfl, hi⟩ := who_nat c1
        rw [Int.toNat_natCast] at q
        dsimp only
        refine st_seq (st_need (val_or (val_in (val_var rfl) (P.vJury C (val_var rfl)) P.jl') (val_in (val_var rfl) (P.vAlts C (val_var rfl)) P.al')) (val_neg val_c) (fun c3 => ?_) (fun c3 => ?_))
        case _ =>
          rw [ints_contains, ints_contains] at c3
          rw [if_neg (not_true c3)] at q
          obtain ⟨dx, l, e, _⟩ := P.p
          dsimp only
          refine go_meth (a := A.p) (vs := [nV i]) (val_var rfl) e rfl (args_cons (val_var rfl) args_nil) ⟨A, m, i, rfl, P, hi, c3, fun x hx => (I.sworn h2).range x (List.mem_append_right _ hx), fun H1 P1 t1 => ?_⟩
          dsimp only [gName]
          exact st_fin (z := ((letP m i).2 : Int)) P1 t1 rfl (row_late (letP_phase h2 i)) (val_var (i := 2) rfl) rfl q rfl
        case _ =>
          rw [ints_contains, ints_contains] at c3
          rw [if_pos c3] at q
          exact q H (Ext.refl H)
      case _ =>
        have h2 : m.phase ≠ 2 := by
          rw [show (2 : Int) = ((2 : Nat) : Int) from rfl, dec_nV, decide_eq_false_iff_not] at c2
          exact c2
        rw [if_pos h2] at q
        exact q H (Ext.refl H)
    case _ =>
      rw [if_pos c1] at q
      exact q H (Ext.refl H)
end
/-! agree -/
abbrev sAAgr : Stmt := top 45
theorem scAAgr : FnScope ["picking", "least"] ["picking", "least"] (defScope sAAgr) := ⟨rfl, rfl, rfl, by decide +kernel, rfl, by decide +kernel, by decide +kernel⟩
def spAAgr (T : Ts) : Sp := fun vs H Q E => ∃ (A : Ad) (m : State) (n : Int), vs = [.ref A.p, .int n] ∧ PAt T A H m ∧ Outcome T A H (pyAgree m n) Q E
section
variable {g : Gx} {T : Ts} {f : Addr}
theorem ok_aagr (D : DefOk g.K "agree" "agree" sAAgr ["picking", "least"] f) (C : ClsTxt g.K T) (G : Mg g.mg) (F1 : FOk g (L2.CX g.P g.w) 3 "need" ["fulfilled", "number"] (spNeed T)) : Pr g (L2.CX g.P g.w) 6 f ["picking", "least"] (spAAgr T) := by
  obtain ⟨fd, F, b⟩ := D
  refine ⟨fd, ?_, b⟩
  refine F.okX scAAgr (fun vs H Q E h => ?_) (fun cdv A0 outer s0 H vs Q E hr h => ?_)
  · obtain ⟨A, m, n, rfl, _⟩ := h
    rfl
  · obtain ⟨A, m, n, rfl, P, q⟩ := h
    refine ⟨_, pss_cons (ps_expr (pfX (E := E) F1 hr (by decide) rfl (takes_of rfl rfl rfl rfl) (pa_cons (pe_chain op_le op_le pe_int (pv 1) (pc0 G.mseats rfl)) (pa_cons (pe_un un_neg pe_int) pa_nil))))
      (pss_cons (ps_expr (pfX (E := E) F1 hr (by decide) rfl (takes_of rfl rfl rfl rfl) (pa_cons (pe_cmpR op_eq (pe_fld (pv 0) rfl) (pc0 G.sworn rfl) (nomark _)) (pa_cons (pe_un un_neg pe_int) pa_nil))))
      (pss_cons (ps_expr (pfX (E := E) F1 hr (by decide) rfl (takes_of rfl rfl rfl rfl) (pa_cons (pe_cmpR op_le (pv 1) (pe_fld (pv 0) rfl) (nomark _)) (pa_cons (pe_un un_neg pe_int) pa_nil))))
      (pss_cons (ps_fld (pv 0) (pv 1) rfl) (pss_one (ps_ret (pe_lst (pa_cons (pv 1) pa_nil))))))), ?_⟩
    unfold pyAgree at q
    refine st_seq (st_need (val_chain val_c (val_var rfl) val_c) (val_neg val_c) (fun c1 => ?_) (fun c1 => ?_))
    case _ =>
      rw [if_neg (not_true c1)] at q
      dsimp only
      refine st_seq (st_need (val_eq (P.vPhase C (val_var rfl)) val_c) (val_neg val_c) (fun c2 => ?_) (fun c2 => ?_))
      case _ =>
        have h2 : m.phase = 2 := by
          rw [show (2 : Int) = ((2 : Nat) : Int) from rfl, dec_nV, decide_eq_true_eq] at c2
          exact c2
        rw [if_neg (not_not_intro h2)] at q
        dsimp only
        refine st_seq (st_need (val_B (val_var rfl) (P.vLeast C (val_var rfl))) (val_neg val_c) (fun c3 => ?_) (fun c3 => ?_))
        case _ =>
          have h3 := of_decide_eq_true c3
          rw [if_neg (not_not_intro h3)] at q
          rw [Bool.and_eq_true, decide_eq_true_eq, decide_eq_true_eq] at c1
          obtain ⟨i, rfl⟩ : ∃ i : Nat, n = (i : Int) := ⟨n.toNat, by omega⟩
          rw [Int.toNat_natCast] at q
          dsimp only
          refine st_seq (P.sLeast C (a := i) (val_var rfl) (val_var rfl) fun H1 P1 t1 => ?_)
          dsimp only
          exact st_retN (newL_one (val_var rfl)) fun l H' n x p => q A H' l (P1.ext x) (t1.trans (x.to _)) p (fresh_to t1 n) rfl
        case _ =>
          have h3 := of_decide_eq_false c3
          rw [if_pos h3] at q
          exact q H (Ext.refl H)
      case _ =>
        have h2 : m.phase ≠ 2 := by
          rw [show (2 : Int) = ((2 : Nat) : Int) from rfl, dec_nV, decide_eq_false_iff_not] at c2
          exact c2
        rw [if_pos h2] at q
        exact q H (Ext.refl H)
    case _ =>
      rw [if_pos c1] at q
      exact q H (Ext.refl H)
end
/-! verdict -/
abbrev sAVer : Stmt := top 46
theorem scAVer : FnScope ["picking", "says"] ["picking", "says"] (defScope sAVer) := ⟨rfl, rfl, rfl, by decide +kernel, rfl, by decide +kernel, by decide +kernel⟩
def spAVer (K : PySem.W.Frag) (T : Ts) : Sp := fun vs H Q E => ∃ (A : Ad) (m : State) (a : Addr) (l : List Int), vs = [.ref A.p, .ref a] ∧ PAt T A H m ∧ Inv m ∧ SqL K H a (l.map V.int) ∧ a ∉ A.all ∧ l.length ≤ 100000 ∧ Outcome T A H (pyVerdict m l) Q E
theorem To.seq {K : PySem.W.Frag} {L L' : List Addr} {H H' : Hp} (t : To L H L' H') {a : Addr} {xs : List V} (ha : a ∉ L) (h : SqL K H a xs) : SqL K H' a xs := by
  rcases h with (h | ⟨o, h⟩) | h
  · exact .inl (.inl (t.keep _ _ ha h))
  · exact .inl (.inr ⟨o, t.keep _ _ ha h⟩)
  · exact .inr h
section
variable {g : Gx} {T : Ts} {f : Addr}
theorem ok_aver (D : DefOk g.K "verdict" "verdict" sAVer ["picking", "says"] f) (C : ClsTxt g.K T) (G : Mg g.mg) (F1 : FOk g (L2.CX g.P g.w) 3 "need" ["fulfilled", "number"] (spNeed T)) (F2 : FOk g CX0 2 "are_bits" ["some"] (spBits g.K))
    (F4 : FOk g CX0 4 "stands" ["picking"] (spStands T)) : Pr g (L2.CX g.P g.w) 6 f ["picking", "says"] (spAVer g.K T) := by
  obtain ⟨fd, F, b⟩ := D
  refine ⟨fd, ?_, b⟩
  refine F.okX scAVer (fun vs H Q E h => ?_) (fun cdv A0 outer s0 H vs Q E hr h => ?_)
  · obtain ⟨A, m, a, l, rfl, _⟩ := h
    rfl
  · obtain ⟨A, m, a, l, rfl, P, I, ha, na, hl, q⟩ := h
    refine ⟨_, pss_cons (ps_expr (pfX (E := E) F1 hr (by decide) rfl (takes_of rfl rfl rfl rfl) (pa_cons (pf F2 hr (by decide) rfl (pa_cons (pv 1) pa_nil)) (pa_cons (pe_un un_neg pe_int) pa_nil))))
      (pss_cons (ps_expr (pfX (E := E) F1 hr (by decide) rfl (takes_of rfl rfl rfl rfl) (pa_cons (pe_cmpR op_eq (pe_fld (pv 0) rfl) (pc0 G.sworn rfl) (nomark _)) (pa_cons (pe_un un_neg pe_int) pa_nil))))
      (pss_cons (ps_expr (pfX (E := E) F1 hr (by decide) rfl (takes_of rfl rfl rfl rfl) (pa_cons (pe_cmpR op_eq (pe_callB call_len_seq (by rfl) G.len PySem.boot_len (pa_cons (pv 1) pa_nil)) (pe_callB call_len_seq (by rfl) G.len PySem.boot_len (pa_cons (pe_fld (pv 0) rfl) pa_nil)) (nomark _)) (pa_cons (pe_un un_neg pe_int) pa_nil))))
      (pss_cons (ps_if (PW.pt (pw_and (pt_cmpR op_in_seq pe_int (pv 1) rfl) (pw_and1 (pt_cmpR op_in_seq pe_int (pv 1) rfl)))) (pss_one (ps_ret (pe_op op_cat (pe_lst (pa_cons pe_int pa_nil)) (pf F4 hr (by decide) rfl (pa_cons (pv 0) pa_nil))))) pss_nil)
      (pss_cons (ps_fld (pv 0) (pc0 G.over rfl) rfl)
      (pss_one (ps_ret (pe_op op_cat (pe_lst (pa_cons (pe_ix ix_list (pv 1) pe_int (fun _ _ => rfl)) pa_nil)) (pf F4 hr (by decide) rfl (pa_cons (pv 0) pa_nil))))))))), ?_⟩
    unfold pyVerdict at q
    refine st_seq (st_needE (valH_bits (val_var rfl) ha hl) (fun H' => val_neg val_c) (fun c1 H1 x1 => ?_) (fun c1 H1 x1 => ?_))
    case _ =>
      rw [if_neg (not_true c1)] at q
      have P1 := P.ext x1
      have ha1 := x1.seq ha
      dsimp only
      refine st_seq (st_need (val_eq (P1.vPhase C (val_var rfl)) val_c) (val_neg val_c) (fun c2 => ?_) (fun c2 => ?_))
      case _ =>
        have h2 : m.phase = 2 := by
          rw [show (2 : Int) = ((2 : Nat) : Int) from rfl, dec_nV, decide_eq_true_eq] at c2
          exact c2
        rw [if_neg (not_not_intro h2)] at q
        dsimp only
        refine st_seq (st_need (val_eq (val_len (val_var rfl) ha1) (val_len (P1.vJury C (val_var rfl)) (SqL.of P1.jl))) (val_neg val_c) (fun c3 => ?_) (fun c3 => ?_))
        case _ =>
          have h3 : l.length = m.jury.length := by
            rw [dec_Int, decide_eq_true_eq, List.length_map, len_nVs] at c3
            exact Int.ofNat.inj c3
          rw [if_neg (not_not_intro h3)] at q
          dsimp only
          refine st_seq (st_if (ans_and2 (ans_v (val_in val_c (val_var rfl) ha1)) (ans_v (val_in val_c (val_var rfl) ha1))) (fun c4 => ?_) (fun c4 => ?_))
          case _ =>
            rw [if_pos c4] at q
            exact st_fin (z := 2) P1 (x1.to _) rfl (row_late (by omega)) val_c rfl q rfl
          case _ =>
            rw [if_neg (by rw [c4]; decide)] at q
            dsimp only [tNext]
            refine st_seq (P1.sPhase C (a := 4) val_c (val_var rfl) fun H2 P2 t2 => ?_)
            have sw := I.sworn h2
            have hp := sw.pos
            have hm := sw.most
            cases l with
            | nil =>
              have h3' : 0 = m.jury.length := h3
              omega
            | cons z r =>
              have ha2 : SqL g.K H2 a ((z :: r).map V.int) := ((x1.to _).trans t2).seq na ha
              dsimp only
              exact st_fin (z := z) P2 ((x1.to _).trans t2) rfl (row_late (by show 2 ≤ 4; decide)) (val_ix (i := 0) (val_var rfl) val_c ha2 rfl) rfl q rfl
        case _ =>
          have h3 : l.length ≠ m.jury.length := fun z => by
            rw [dec_Int, decide_eq_false_iff_not, List.length_map, len_nVs] at c3
            exact c3 (congrArg _ z)
          rw [if_pos h3] at q
          exact q H1 x1
      case _ =>
        have h2 : m.phase ≠ 2 := by
          rw [show (2 : Int) = ((2 : Nat) : Int) from rfl, dec_nV, decide_eq_false_iff_not] at c2
          exact c2
        rw [if_pos h2] at q
        exact q H1 x1
    case _ =>
      rw [if_pos c1] at q
      exact q H1 x1
end
/-! now, box, fates -/
theorem newL_catL {σ : L2.St} {H : Hp} {ta tb : TE} {b : Addr} {xs ys : List V} (h1 : Val ta σ H (.ref b)) (hb : H b = some (.lst xs)) (h2 : NewL tb σ H ys) (hl : xs.length + ys.length ≤ sizeLine) : NewL (tOp rCat ta tb) σ H (xs ++ ys) := fun Q q =>
  h1 _ (h2 _ fun v H1 ⟨l, e, n1, x1, p1⟩ => ⟨b, l, xs, ys, rfl, e, x1 _ _ hb, p1, hl, fun p hp => q _ _ ⟨p, rfl, x1.free hp, x1.trans (Ext.new hp), upd_same⟩⟩)
abbrev sANow : Stmt := top 47
theorem scANow : FnScope ["picking", "panel", "found"] ["picking"] (defScope sANow) := ⟨rfl, rfl, rfl, by decide +kernel, rfl, by decide +kernel, by decide +kernel⟩
def spANow (T : Ts) : Sp := fun vs H Q E => ∃ (A : Ad) (m : State), vs = [.ref A.p] ∧ PAt T A H m ∧ Inv m ∧ Outcome T A H (pyNow m) Q E
abbrev sABox : Stmt := top 48
theorem scABox : FnScope ["picking"] ["picking"] (defScope sABox) := ⟨rfl, rfl, rfl, by decide +kernel, rfl, by decide +kernel, by decide +kernel⟩
def spABox (T : Ts) : Sp := fun vs H Q E => ∃ (A : Ad) (m : State), vs = [.ref A.p] ∧ PAt T A H m ∧ Inv m ∧ Outcome T A H (pyBox m) Q E
abbrev sAFat : Stmt := top 49
theorem scAFat : FnScope ["picking"] ["picking"] (defScope sAFat) := ⟨rfl, rfl, rfl, by decide +kernel, rfl, by decide +kernel, by decide +kernel⟩
def spAFat (T : Ts) : Sp := fun vs H Q E => ∃ (A : Ad) (m : State), vs = [.ref A.p] ∧ PAt T A H m ∧ Inv m ∧ Outcome T A H (pyFates m) Q E
theorem size_100 {n : Nat} (h : n ≤ 100) : n ≤ sizeLine := Nat.le_trans h (by decide)
section
variable {g : Gx} {T : Ts} {f : Addr}
theorem ok_anow (D : DefOk g.K "now" "now" sANow ["picking"] f) (C : ClsTxt g.K T) (F4 : FOk g CX0 4 "stands" ["picking"] (spStands T)) (M1 : MOk g 1 T.panel "first_waiting" ["self"] (spFirst T)) (M2 : MOk g 1 T.panel "many_waiting" ["self"] (spMany T)) (M3 : MOk g 1 T.pick "struck" ["self"] (spStruck T)) :
    Pr g CX0 6 f ["picking"] (spANow T) := by
  obtain ⟨fd, F, b⟩ := D
  refine ⟨fd, ?_, b⟩
  refine F.ok scANow (fun vs H Q E h => ?_) (fun cdv A0 outer s0 H vs Q E hr h => ?_)
  · obtain ⟨A, m, rfl, _⟩ := h
    rfl
  · obtain ⟨A, m, rfl, P, I, q⟩ := h
    refine ⟨_, pss_cons (ps_set (i := 1) scANow.nd rfl (Or.inl rfl) (pe_fld (pv 0) rfl))
      (pss_cons (ps_set (i := 2) scANow.nd rfl (Or.inl rfl) (pe_op op_cat (pe_op op_cat (pe_lst (pa_cons (pe_fld (pv 0) rfl) pa_nil)) (pf F4 hr (by decide) rfl (pa_cons (pv 0) pa_nil))) (pe_lst (pa_cons (pm0 M1 C.panel hr (by decide) (pv 1)) (pa_cons (pm0 M2 C.panel hr (by decide) (pv 1)) pa_nil)))))
      (pss_one (ps_ret (pe_op op_cat (pv 2) (pe_lst (pa_cons (pe_fld (pv 0) rfl) (pa_cons (pm0 M3 C.pick hr (by decide) (pv 0)) pa_nil))))))), ?_⟩
    refine st_seq (st_set (P.vPanel C (val_var rfl)) ?_)
    dsimp only
    refine st_seq (st_setH (newL_cat (newL_cat (newL_one (P.vPhase C (val_var rfl))) (fun H1 x => newL_stands (P.ext x) I.row (val_var rfl)) (by show 1 + 4 ≤ sizeLine; decide)) (fun H1 x => newL_two (v := .int (Kg77.opt m.next)) (w := .int (waits m)) ?_ ?_) (by show 5 + 2 ≤ sizeLine; decide)) ?_)
    · obtain ⟨dn, e⟩ := (P.ext x).pn
      exact val_meth (a := A.pn) (val_var rfl) e rfl args_nil fun Q k => ⟨A, m, rfl, P.ext x, k⟩
    · obtain ⟨dn, e⟩ := (P.ext x).pn
      exact val_meth (a := A.pn) (val_var rfl) e rfl args_nil fun Q k => ⟨A, m, rfl, P.ext x, k⟩
    · rintro _ H1 ⟨l, rfl, n, x, p⟩
      have P1 := P.ext x
      obtain ⟨dp, lp, e, _⟩ := P1.p
      dsimp only
      refine st_retN (newL_catL (val_var rfl) p (newL_two (w := .int (lastWho m)) (P1.vLeast C (val_var rfl)) (val_meth (val_var rfl) e rfl args_nil fun Q k => ⟨A, m, rfl, P1, k⟩)) (by show 7 + 2 ≤ sizeLine; decide)) fun l2 H2 n2 x2 p2 => ?_
      refine q A H2 l2 (P1.ext x2) ((x.trans x2).to _) ?_ (fun a u ha e z => ?_) rfl
      · rw [p2]
        rfl
      · have := x _ _ e
        rw [z, n2] at this
        cases this
theorem ok_abox (D : DefOk g.K "box" "box" sABox ["picking"] f) (C : ClsTxt g.K T) (G : Mg g.mg) : Pr g CX0 6 f ["picking"] (spABox T) := by
  obtain ⟨fd, F, b⟩ := D
  refine ⟨fd, ?_, b⟩
  refine F.ok scABox (fun vs H Q E h => ?_) (fun cdv A0 outer s0 H vs Q E hr h => ?_)
  · obtain ⟨A, m, rfl, _⟩ := h
    rfl
  · obtain ⟨A, m, rfl, P, I, q⟩ := h
    refine ⟨_, pss_cons (ps_if (pt_cmpR op_in_seq (pe_fld (pv 0) rfl) (pe_tup (pa_cons (pc0 G.sworn rfl) (pa_cons (pc0 G.over rfl) pa_nil))) rfl)
        (pss_one (ps_ret (pe_op op_cat (pe_op op_cat (pe_lst (pa_cons (pe_callB call_len_seq (by rfl) G.len PySem.boot_len (pa_cons (pe_fld (pv 0) rfl) pa_nil)) pa_nil)) (pe_fld (pv 0) rfl)) (pe_fld (pv 0) rfl)))) pss_nil)
      (pss_one (ps_ret (pe_op op_cat (pe_op op_cat (pe_lst (pa_cons (pe_callB call_len_seq (by rfl) G.len PySem.boot_len (pa_cons (pe_fld (pe_fld (pv 0) rfl) rfl) pa_nil)) pa_nil)) (pe_fld (pe_fld (pv 0) rfl) rfl)) (pe_fld (pv 0) rfl)))), ?_⟩
    have sz := I.sz
    have tt : AnsE (tTest (tOp (rIn g.K false) (tFld g.K (tVar 0) "phase") (tTup (tCons (tC (.int 2)) (tCons (tC (.int 4)) tNil))))) (start ["picking"] [.ref A.p]) H (decide (m.phase = 2 ∨ m.phase = 4)) := fun Q k =>
      P.vPhase C (val_var rfl) _ ⟨(by show 2 ≤ sizeLine; decide), fun p hp => ⟨p, _, rfl, .inr (SqT.of upd_same), rfl, rfl, _, rfl, by
        have e : inV (nV m.phase) [.int 2, .int 4] = decide (m.phase = 2 ∨ m.phase = 4) := by
          show ((2 == (m.phase : Int)) || ((4 == (m.phase : Int)) || false)) = _
          rw [Bool.eq_iff_iff, Bool.or_eq_true, Bool.or_false, beq_iff_eq, beq_iff_eq, decide_eq_true_eq]
          omega
        show Q (inV (nV m.phase) [.int 2, .int 4]) _
        rw [e]
        exact k _ (Ext.new hp)⟩⟩
    have lenN : ∀ {σ : L2.St} {H' : Hp} {te : TE} {a : Addr} {xs : List V}, Val te σ H' (.ref a) → H' a = some (.lst xs) → NewL (tLst (tCons (tCB (fun xs H Q => ∃ p ys, xs = [V.ref p] ∧ (SqL g.K H p ys ∨ SqT g.K H p ys) ∧ Q (.int ys.length) H) (tCons te tNil)) tNil)) σ H' [.int (xs.length : Nat)] := fun h hp => newL_one (val_len h (SqL.of hp))
    refine st_seq (st_ifE tt (fun c H1 x1 => ?_) (fun c H1 x1 => ?_))
    · have P1 := P.ext x1
      have c' := of_decide_eq_true c
      have h1 := sz.jury
      have h2 := sz.spare
      refine st_retN (newL_catV (newL_catV (lenN (P1.vJury C (val_var rfl)) P1.jl) (fun H2 x2 => ⟨A.jl, (P1.ext x2).vJury C (val_var rfl), (P1.ext x2).jl⟩) (size_100 (by rw [len_nVs]; show 1 + m.jury.length ≤ 100; omega))) (fun H2 x2 => ⟨A.al, (P1.ext x2).vAlts C (val_var rfl), (P1.ext x2).al⟩) (size_100 (by rw [List.length_append, len_nVs, len_nVs]; show 1 + m.jury.length + m.spare.length ≤ 100; omega))) fun l2 H2 n2 x2 p2 => ?_
      have q' : Outcome T A H (.ok (m, (m.jury.length : Int) :: (nZ m.jury ++ nZ m.spare))) Q E := by
        have : pyBox m = .ok (m, (m.jury.length : Int) :: (nZ m.jury ++ nZ m.spare)) := by unfold pyBox; rw [if_pos c']
        rw [this] at q
        exact q
      refine q' A H2 l2 (P1.ext x2) ((x1.trans x2).to _) ?_ (fun a u ha e z => ?_) rfl
      · rw [p2, nVs_ints, nVs_ints, List.length_map]
        show some (HO.lst ([V.int ((nZ m.jury).length : Nat)] ++ _ ++ _)) = some (HO.lst (V.int (m.jury.length : Int) :: ((nZ m.jury ++ nZ m.spare).map V.int)))
        rw [List.map_append, show (nZ m.jury).length = m.jury.length from List.length_map _]
        rfl
      · have := x1 _ _ e
        rw [z, n2] at this
        cases this
    · have P1 := P.ext x1
      have c' := of_decide_eq_false c
      have h1 := sz.jury
      have h2 := sz.box
      dsimp only [tNext]
      refine st_retN (newL_catV (newL_catV (lenN (P1.vSeats C (P1.vBox C (val_var rfl))) P1.sl) (fun H2 x2 => ⟨A.sl, (P1.ext x2).vSeats C ((P1.ext x2).vBox C (val_var rfl)), (P1.ext x2).sl⟩) (size_100 (by rw [len_oVs]; show 1 + m.box.length ≤ 100; omega))) (fun H2 x2 => ⟨A.jl, (P1.ext x2).vJury C (val_var rfl), (P1.ext x2).jl⟩) (size_100 (by rw [List.length_append, len_nVs, len_oVs]; show 1 + m.box.length + m.jury.length ≤ 100; omega))) fun l2 H2 n2 x2 p2 => ?_
      have q' : Outcome T A H (.ok (m, (m.box.length : Int) :: (opts m.box ++ nZ m.jury))) Q E := by
        have : pyBox m = .ok (m, (m.box.length : Int) :: (opts m.box ++ nZ m.jury)) := by unfold pyBox; rw [if_neg c']
        rw [this] at q
        exact q
      refine q' A H2 l2 (P1.ext x2) ((x1.trans x2).to _) ?_ (fun a u ha e z => ?_) rfl
      · rw [p2, nVs_ints, oVs_ints, List.length_map]
        show some (HO.lst ([V.int ((opts m.box).length : Nat)] ++ _ ++ _)) = some (HO.lst (V.int (m.box.length : Int) :: ((opts m.box ++ nZ m.jury).map V.int)))
        rw [List.map_append, show (opts m.box).length = m.box.length from List.length_map _]
        rfl
      · have := x1 _ _ e
        rw [z, n2] at this
        cases this
theorem ok_afat (D : DefOk g.K "fates" "fates" sAFat ["picking"] f) (C : ClsTxt g.K T) (G : Mg g.mg) : Pr g CX0 6 f ["picking"] (spAFat T) := by
  obtain ⟨fd, F, b⟩ := D
  refine ⟨fd, ?_, b⟩
  refine F.ok scAFat (fun vs H Q E h => ?_) (fun cdv A0 outer s0 H vs Q E hr h => ?_)
  · obtain ⟨A, m, rfl, _⟩ := h
    rfl
  · obtain ⟨A, m, rfl, P, I, q⟩ := h
    refine ⟨_, pss_one (ps_ret (pe_op op_cat (pe_lst (pa_cons (pe_callB call_len_seq (by rfl) G.len PySem.boot_len (pa_cons (pe_fld (pe_fld (pv 0) rfl) rfl) pa_nil)) pa_nil)) (pe_fld (pe_fld (pv 0) rfl) rfl))), ?_⟩
    have h1 := I.sz.panel
    refine st_retN (newL_catV (newL_one (val_len (P.vFates C (P.vPanel C (val_var rfl))) (SqL.of P.fl))) (fun H2 x2 => ⟨A.fl, (P.ext x2).vFates C ((P.ext x2).vPanel C (val_var rfl)), (P.ext x2).fl⟩) (size_100 (by rw [len_nVs]; show 1 + m.panel.length ≤ 100; omega))) fun l2 H2 n2 x2 p2 => ?_
    refine q A H2 l2 (P.ext x2) (x2.to _) ?_ (fun a u ha e z => ?_) rfl
    · rw [p2, nVs_ints, List.length_map]
      show some (HO.lst (V.int ((nZ m.panel).length : Nat) :: _)) = some (HO.lst (V.int (m.panel.length : Int) :: ((nZ m.panel).map V.int)))
      rw [show (nZ m.panel).length = m.panel.length from List.length_map _]
      rfl
    · rw [z, n2] at e
      cases e
end
end Jp
namespace Jp
open PySem PySem.Spec PyProof.Rows L2
open Kg77 (State Rules)
/-! begin -/
abbrev sABeg : Stmt := top 39
abbrev nBeg : List Str := ["holder", "given", "row", "panel", "seats", "alternates", "first", "second", "for_alternates", "uses_up"]
theorem scABeg : FnScope ["holder", "given", "row", "panel", "seats", "alternates", "first", "second", "for_alternates", "uses_up"] ["holder", "given", "row"] (defScope sABeg) := ⟨rfl, rfl, rfl, by decide +kernel, rfl, by decide +kernel, by decide +kernel⟩
def BOut (T : Ts) (hd dx r : Addr) (H : Hp) (res : Res) (Q : VK) (E : XK) : Prop := match res with
 | .error n => ∀ H', Ext H H' → Rz T E H' n
 | .ok (m', out) => ∀ A' H' q, PAt T A' H' m' → H' hd = some (.ins T.holder dx [("picking", .ref A'.p)]) → hd ∉ A'.all → To [r, hd] H (hd :: A'.all) H' → H' q = some (.lst (out.map V.int)) → (∀ a u, a ∉ [r, hd] → H a = some u → a ≠ q) → Q (.ref q) H'
def spABeg (T : Ts) : Sp := fun vs H Q E => ∃ (hd dx p0 gv r : Addr) (n k a0 a b e p : Int) (row : List Int), vs = [.ref hd, .ref gv, .ref r] ∧ H hd = some (.ins T.holder dx [("picking", .ref p0)]) ∧ H gv = some (.lst ([n, k, a0, a, b, e, p].map V.int)) ∧ H r = some (.lst (row.map V.int)) ∧ row.length ≤ 100000 ∧
  BOut T hd dx r H (pyBegin n k a0 a b e p row) Q E
theorem st_un7 {K : PySem.W.Frag} {σ : L2.St} {H : Hp} {te : TE} {D : Ends} {a : Addr} {v1 v2 v3 v4 v5 v6 v7 : V} (h : Val te σ H (.ref a)) (ha : H a = some (.lst [v1, v2, v3, v4, v5, v6, v7])) (q : D.nx (((((((σ.set 3 (some v1)).set 4 (some v2)).set 5 (some v3)).set 6 (some v4)).set 7 (some v5)).set 8 (some v6)).set 9 (some v7)) H) :
    tAsg te (gLst K 7 (gCons (gName 3) (gCons (gName 4) (gCons (gName 5) (gCons (gName 6) (gCons (gName 7) (gCons (gName 8) (gCons (gName 9) gNil)))))))) D σ H :=
  h _ ⟨a, _, rfl, SqL.of ha, rfl, _, _, rfl, _, _, rfl, _, _, rfl, _, _, rfl, _, _, rfl, _, _, rfl, _, _, rfl, rfl, q⟩
theorem valH_and {σ : L2.St} {H : Hp} {ta tb : TE} {a b : Bool} (h : ValH ta σ H (fun v H' => v = .bl a ∧ Ext H H')) (h2 : ∀ H', Ext H H' → Val tb σ H' (.bl b)) : ValH (tAndV ta tb) σ H (fun v H' => v = .bl (a && b) ∧ Ext H H') := fun Q q =>
  h _ fun v H' ⟨e, x⟩ => ⟨a, e, by
    cases a with
    | true => exact h2 H' x _ (q _ _ ⟨rfl, x⟩)
    | false => exact q _ _ ⟨rfl, x⟩⟩
theorem bits_row {t : List Int} (h : t.all isBit = true) : t.map V.int = nVs (t.map Int.toNat) := by
  unfold nVs
  rw [List.map_map]
  refine List.map_congr_left fun z hz => ?_
  have := List.all_eq_true.mp h z hz
  rcases bit_cases this with e | e <;> rw [e] <;> rfl
theorem begins_eq (n k m a b e p : Int) (t : List Int) : begins n k m a b e p t =
    (((((decide (1 ≤ n) && decide (n ≤ 60)) && ((decide (1 ≤ k) && decide (k ≤ 12)) && (decide (0 ≤ m) && decide (m ≤ 4)))) && ((decide (0 ≤ a) && decide (a ≤ 10)) && (decide (0 ≤ b) && decide (b ≤ 10)))) && ((decide (0 ≤ e) && decide (e ≤ 3)) && isBit p)) &&
    (t.all isBit && (t.contains 0 && (t.contains 1 && decide ((t.length : Int) ≤ 10))))) := by
  unfold begins
  congr 4
  exact decide_eq_decide.mpr ⟨fun h => by omega, fun h => by omega⟩
section
variable {g : Gx} {T : Ts} {f : Addr}
theorem ok_abeg (D : DefOk g.K "begin" "begin" sABeg ["holder", "given", "row"] f) (C : ClsTxt g.K T) (G : Mg g.mg) (F1 : FOk g (L2.CX g.P g.w) 3 "need" ["fulfilled", "number"] (spNeed T)) (F2 : FOk g CX0 2 "are_bits" ["some"] (spBits g.K)) (F4 : FOk g CX0 4 "stands" ["picking"] (spStands T)) (F5 : FOk g CX0 1 "is_bit" ["number"] spBit)
    (N0 : NOk g 5 T.pick "Picking" ["self", "many", "plan", "strikes"] (spPickI T)) (N1 : NOk g 1 T.plan "Plan" ["self", "seats", "alternates", "for_alternates", "uses_up", "row"] (spPlanI T)) : Pr g (L2.CX g.P g.w) 7 f ["holder", "given", "row"] (spABeg T) := by
  obtain ⟨fd, F, b0⟩ := D
  refine ⟨fd, ?_, b0⟩
  refine F.okX scABeg (fun vs H Q E h => ?_) (fun cdv A0 outer s0 H vs Q E hr h => ?_)
  · obtain ⟨hd, dx, p0, gv, r, n, k, a0, a, b, e, p, row, rfl, _⟩ := h
    rfl
  · obtain ⟨hd, dx, p0, gv, r, n, k, a0, a, b, e, p, row, rfl, hhd, hgv, hrr, hrl, q⟩ := h
    refine ⟨_, pss_cons (ps_asg (pv 1) (pg_lst rfl (pgs_cons (pg_name (i := 3) scABeg.nd rfl (Or.inl rfl)) (pgs_cons (pg_name (i := 4) scABeg.nd rfl (Or.inl rfl)) (pgs_cons (pg_name (i := 5) scABeg.nd rfl (Or.inl rfl)) (pgs_cons (pg_name (i := 6) scABeg.nd rfl (Or.inl rfl)) (pgs_cons (pg_name (i := 7) scABeg.nd rfl (Or.inl rfl)) (pgs_cons (pg_name (i := 8) scABeg.nd rfl (Or.inl rfl)) (pgs_cons (pg_name (i := 9) scABeg.nd rfl (Or.inl rfl)) pgs_nil)))))))))
      (pss_cons (ps_expr (pfX (E := E) F1 hr (by decide) rfl (takes_of rfl rfl rfl rfl) (pa_cons (pe_and (pe_chain op_le op_le pe_int (pv 3) (pc0 G.mpanel rfl)) (pe_and (pe_chain op_le op_le pe_int (pv 4) (pc0 G.mseats rfl)) (pe_one (pe_chain op_le op_le pe_int (pv 5) (pc0 G.malts rfl))))) (pa_cons (pe_un un_neg pe_int) pa_nil))))
      (pss_cons (ps_expr (pfX (E := E) F1 hr (by decide) rfl (takes_of rfl rfl rfl rfl) (pa_cons (pe_and (pe_chain op_le op_le pe_int (pv 6) (pc0 G.mstrikes rfl)) (pe_one (pe_chain op_le op_le pe_int (pv 7) (pc0 G.mstrikes rfl)))) (pa_cons (pe_un un_neg pe_int) pa_nil))))
      (pss_cons (ps_expr (pfX (E := E) F1 hr (by decide) rfl (takes_of rfl rfl rfl rfl) (pa_cons (pe_and (pe_chain op_le op_le pe_int (pv 8) (pc0 G.mfor rfl)) (pe_one (pf F5 hr (by decide) rfl (pa_cons (pv 9) pa_nil)))) (pa_cons (pe_un un_neg pe_int) pa_nil))))
      (pss_cons (ps_expr (pfX (E := E) F1 hr (by decide) rfl (takes_of rfl rfl rfl rfl) (pa_cons (pe_and (pf F2 hr (by decide) rfl (pa_cons (pv 2) pa_nil)) (pe_and (pe_cmpR op_in_seq pe_int (pv 2) rfl) (pe_and (pe_cmpR op_in_seq pe_int (pv 2) rfl) (pe_one (pe_cmpR op_le (pe_callB call_len_seq (by rfl) G.len PySem.boot_len (pa_cons (pv 2) pa_nil)) (pc0 G.mrow rfl) (nomark _)))))) (pa_cons (pe_un un_neg pe_int) pa_nil))))
      (pss_cons (ps_fld (pv 0) (pn N0 hr (by decide) rfl (pa_cons (pv 3) (pa_cons (pn N1 hr (by decide) rfl (pa_cons (pv 4) (pa_cons (pv 5) (pa_cons (pv 8) (pa_cons (pv 9) (pa_cons (pv 2) pa_nil)))))) (pa_cons (pe_lst (pa_cons (pv 6) (pa_cons (pv 7) pa_nil))) pa_nil)))) rfl)
      (pss_one (ps_ret (pe_op op_cat (pe_lst (pa_cons pe_int pa_nil)) (pf F4 hr (by decide) rfl (pa_cons (pe_fld (pv 0) rfl) pa_nil)))))))))), ?_⟩
    unfold pyBegin at q
    rw [begins_eq] at q
    refine st_seq (st_un7 (val_var rfl) hgv ?_)
    dsimp only [L2.start, List.map, List.set, List.length, List.replicate, List.append]
    refine st_seq (st_need (val_and (val_chain val_c (val_var rfl) val_c) (val_and (val_chain val_c (val_var rfl) val_c) (val_chain val_c (val_var rfl) val_c))) (val_neg val_c) (fun c1 => ?_) (fun c1 => ?_))
    case _ =>
      rw [c1, Bool.true_and] at q
      dsimp only
      refine st_seq (st_need (val_and (val_chain val_c (val_var rfl) val_c) (val_chain val_c (val_var rfl) val_c)) (val_neg val_c) (fun c2 => ?_) (fun c2 => ?_))
      case _ =>
        rw [c2, Bool.true_and] at q
        dsimp only
        refine st_seq (st_need (val_and (val_chain val_c (val_var rfl) val_c) (val_bit (val_var rfl))) (val_neg val_c) (fun c3 => ?_) (fun c3 => ?_))
        case _ =>
          rw [c3, Bool.true_and] at q
          have vlr : ∀ {σ : L2.St} {H' : Hp} {te : TE}, Ext H H' → Val te σ H' (.ref r) → Val (tCB (fun xs H Q => ∃ p ys, xs = [V.ref p] ∧ (SqL g.K H p ys ∨ SqT g.K H p ys) ∧ Q (.int ys.length) H) (tCons te tNil)) σ H' (.int (row.length : Nat)) := fun x h => by
            have := val_len (K := g.K) h (SqL.of (x _ _ hrr))
            rw [List.length_map] at this
            exact this
          dsimp only
          refine st_seq (st_needE (valH_and (valH_bits (val_var rfl) (SqL.of hrr) hrl) (fun H' x => val_and (val_in val_c (val_var rfl) (SqL.of (x _ _ hrr))) (val_and (val_in val_c (val_var rfl) (SqL.of (x _ _ hrr))) (val_B (vlr x (val_var rfl)) val_c)))) (fun H' => val_neg val_c) (fun c4 H1 x1 => ?_) (fun c4 H1 x1 => ?_))
          case _ =>
            have hb : begins n k a0 a b e p row = true := by
              rw [begins_eq, c1, c2, c3, c4]
              rfl
            rw [c4, if_neg (by decide)] at q
            rw [Bool.and_eq_true] at c4
            have rdy := (fresh_pre hb).ready
            have inv := settle_inv (fresh_pre hb)
            simp only [Bool.and_eq_true, decide_eq_true_eq] at c1 c2 c3
            obtain ⟨n', rfl⟩ : ∃ i : Nat, n = (i : Int) := ⟨n.toNat, by omega⟩
            obtain ⟨k', rfl⟩ : ∃ i : Nat, k = (i : Int) := ⟨k.toNat, by omega⟩
            obtain ⟨m', rfl⟩ : ∃ i : Nat, a0 = (i : Int) := ⟨a0.toNat, by omega⟩
            obtain ⟨a', rfl⟩ : ∃ i : Nat, a = (i : Int) := ⟨a.toNat, by omega⟩
            obtain ⟨b', rfl⟩ : ∃ i : Nat, b = (i : Int) := ⟨b.toNat, by omega⟩
            obtain ⟨e', rfl⟩ : ∃ i : Nat, e = (i : Int) := ⟨e.toNat, by omega⟩
            have hp : V.int p = bV (p == 1) := by
              rcases bit_cases c3.2 with z | z <;> rw [z] <;> rfl
            have eR : rulesOf k' m' a' b' e' p row = ⟨k', m', a', b', e', row.map Int.toNat, p == 1⟩ := by unfold rulesOf; simp only [Int.toNat_natCast]
            have hr1 : H1 r = some (.lst (nVs (rulesOf k' m' a' b' e' p row).turns)) := by
              rw [x1 _ _ hrr, bits_row c4.1]
              rfl
            have hrl1 := x1 _ _ hrr
            have hhd1 := x1 _ _ hhd
            have hne : hd ≠ r := ne_of hhd hrr fun z => by cases z
            have vplan : ∀ {σ : L2.St} {t : TA}, Args t σ H1 [nV k', nV m', nV e', V.int p, .ref r] → ValH (tMake T.plan (spPlanI T) [] E0 t) σ H1 (fun v H' => ∃ pl d r', v = .ref pl ∧ H1 pl = none ∧ (r' ∈ [r] ∨ H1 r' = none) ∧ Ext H1 H' ∧ H' pl = some (.ins T.plan d (planL r' (rulesOf k' m' a' b' e' p row))) ∧ H' r' = some (.lst (nVs (rulesOf k' m' a' b' e' p row).turns))) := fun h Q kk =>
              h _ (makeH_plan (a := nV k') (b := nV m') (c := nV e') (d := V.int p) (e := .ref r) fun v H' ⟨x, dx, ev, nx, ext, hx⟩ => kk v H' ⟨x, dx, r, ev, nx, .inl List.mem_cons_self, ext, by
                rw [hx, hp, eR]
                rfl, ext _ _ hr1⟩)
            dsimp only
            refine st_seq (st_flH (valH_pick (T := T) (n := n') (a := a') (b := b') (R := rulesOf k' m' a' b' e' p row) (B := [r]) (val_var rfl) (vplan (args_cons (val_var rfl) (args_cons (val_var rfl) (args_cons (val_var rfl) (args_cons (val_var rfl) (args_cons (val_var rfl) args_nil)))))) (fun H' _ => valH_pair (val_var rfl) (val_var rfl)) (by omega) (by rw [eR]; show k' ≤ 1000; omega) rdy) ?_)
            rintro _ H2 ⟨A', rfl, P2, t2⟩
            have hhd2 : H2 hd = some (.ins T.holder dx [("picking", .ref p0)]) := t2.keep hd _ (by simp [hne]) hhd1
            have nh : hd ∉ A'.all := fun z => by
              rcases t2.own hd z with w | w
              · exact hne (List.mem_singleton.mp w)
              · rw [hhd1] at w; cases w
            refine st_fl (fs' := [("picking", .ref A'.p)]) val_c (val_var rfl) hhd2 C.holder C.holderN (by show 1 < 1000; decide) rfl ?_
            have P3 := P2.side nh (by rw [hhd2]; exact ns_ins (by show (1 : Nat) ≠ 3; decide)) (.ins T.holder dx [("picking", .ref A'.p)])
            dsimp only
            refine st_retN (newL_cat (newL_one (v := .int 0) val_c) (fun H4 x4 => newL_stands (P3.ext x4) inv.row (val_fld (val_var rfl) (x4 _ _ upd_same) C.holder C.holderN rfl)) (by show 1 + 4 ≤ sizeLine; decide)) fun l H' nl x4 p4 => ?_
            refine q A' H' l ?_ (x4 _ _ upd_same) nh ⟨fun y u hy ey => ?_, fun y hy => ?_⟩ p4 (fun y u hy ey z => ?_)
            · have := P3.ext x4
              exact this
            · refine x4 _ _ ?_
              rw [upd_ne (fun z => hy (by rw [z]; simp))]
              exact t2.keep y u (fun z => hy (by rw [List.mem_singleton.mp z]; simp)) (x1 _ _ ey)
            · rcases List.mem_cons.mp hy with z | z
              · exact .inl (by rw [z]; simp)
              · rcases t2.own y z with w | w
                · exact .inl (by rw [List.mem_singleton.mp w]; simp)
                · exact .inr (x1.free w)
            · have h2 := t2.keep y u (fun w => hy (by rw [List.mem_singleton.mp w]; simp)) (x1 _ _ ey)
              have yh : y ≠ hd := fun w => hy (by rw [w]; simp)
              rw [← z, upd_ne yh, h2] at nl
              cases nl
          case _ =>
            rw [c4, if_pos rfl] at q
            exact q H1 x1
        case _ =>
          rw [c3, Bool.false_and, if_pos rfl] at q
          exact q H (Ext.refl H)
      case _ =>
        rw [c2, Bool.false_and, Bool.false_and, if_pos rfl] at q
        exact q H (Ext.refl H)
    case _ =>
      rw [c1, Bool.false_and, Bool.false_and, Bool.false_and, if_pos rfl] at q
      exact q H (Ext.refl H)
end
end Jp
namespace Jp
open PySem PySem.Spec PyProof.Rows L2
open Kg77 (State Rules)
/-! ### answered, answer -/
/-- the holder, its picking, the numbers handed in -/
structure Held (T : Ts) (hd dx gv r : Addr) (A : Ad) (H : Hp) (m : State) (gs row : List Int) : Prop where
  P : PAt T A H m
  I : Inv m
  hold : H hd = some (.ins T.holder dx [("picking", .ref A.p)])
  out : hd ∉ A.all
  gvn : H gv = some (.lst (gs.map V.int))
  rw : H r = some (.lst (row.map V.int))
  rout : r ∉ A.all
  few : row.length ≤ 100000
def HOut (T : Ts) (hd dx r : Addr) (A : Ad) (H : Hp) (res : Res) (Q : VK) (E : XK) : Prop := match res with
 | .error n => ∀ H', Ext H H' → Rz T E H' n
 | .ok (m', out) => ∀ A' H' q, PAt T A' H' m' → H' hd = some (.ins T.holder dx [("picking", .ref A'.p)]) → hd ∉ A'.all → To (r :: hd :: A.all) H (hd :: A'.all) H' → H' q = some (.lst (out.map V.int)) → (∀ a u, a ∉ r :: hd :: A.all → H a = some u → a ≠ q) → Q (.ref q) H'
theorem HOut.pick {T : Ts} {hd dx r : Addr} {A : Ad} {H : Hp} {res : Res} {Q : VK} {E : XK} (h : HOut T hd dx r A H res Q E) (hh : H hd = some (.ins T.holder dx [("picking", .ref A.p)])) (ho : hd ∉ A.all) : Outcome T A H res Q E := by
  cases res with
  | error n => exact h
  | ok x =>
    obtain ⟨m', out⟩ := x
    intro A' H' q P t p fr e
    have nh : hd ∉ A'.all := fun z => by
      rcases t.own hd z with w | w
      · exact ho w
      · rw [hh] at w; cases w
    refine h A' H' q P (by rw [e]; exact t.keep hd _ ho hh) nh ⟨fun a u ha ea => t.keep a u (fun z => ha (by simp [z])) ea, fun a ha => ?_⟩ p fun a u ha ea => fr a u (fun z => ha (by simp [z])) ea
    rcases List.mem_cons.mp ha with z | z
    · exact .inl (by rw [z]; simp)
    · exact (t.own a z).imp (fun w => by simp [w]) id
theorem HOut.new {T : Ts} {hd dx r : Addr} {A : Ad} {H : Hp} {res : Res} {Q : VK} {E : XK} (h : HOut T hd dx r A H res Q E) : BOut T hd dx r H res Q E := by
  cases res with
  | error n => exact h
  | ok x =>
    obtain ⟨m', out⟩ := x
    intro A' H' q P hh nh t p fr
    refine h A' H' q P hh nh ⟨fun a u ha ea => t.keep a u (fun z => ha ?_) ea, fun a ha => (t.own a ha).imp (fun w => ?_) id⟩ p fun a u ha ea => fr a u (fun z => ha ?_) ea
    · simp only [List.mem_cons, List.not_mem_nil, or_false] at z ⊢
      rcases z with z | z
      · exact .inl z
      · exact .inr (.inl z)
    · simp only [List.mem_cons, List.not_mem_nil, or_false] at w ⊢
      rcases w with w | w
      · exact .inl w
      · exact .inr (.inl w)
    · simp only [List.mem_cons, List.not_mem_nil, or_false] at z ⊢
      rcases z with z | z
      · exact .inl z
      · exact .inr (.inl z)
abbrev sAnswered : Stmt := top 53
theorem scAnswered : FnScope ["holder", "call", "given", "row"] ["holder", "call", "given", "row"] (defScope sAnswered) := ⟨rfl, rfl, rfl, by decide +kernel, rfl, by decide +kernel, by decide +kernel⟩
def spAnswered (T : Ts) : Sp := fun vs H Q E => ∃ (hd dx gv r : Addr) (A : Ad) (m : State) (c : Int) (gs row : List Int) (k : Kg77.Call), vs = [.ref hd, .int c, .ref gv, .ref r] ∧ Held T hd dx gv r A H m gs row ∧ IsCall c gs row k ∧ HOut T hd dx r A H (pyCall m k) Q E
section
variable {σ : L2.St} {H : Hp} {D : Ends} {t1 rest : TS} {c j : Int}
theorem st_skip (h : σ[1]? = some (some (.int c))) (n : c ≠ j) (q : rest D σ H) : tSeq (tIfS (tTest (tOp rEq (tVar 1) (tC (.int j)))) t1 tNext) rest D σ H := by
  refine st_seq (st_if (ans_v (val_eq (val_var h) val_c)) (fun z => ?_) (fun _ => q))
  rw [dec_Int, decide_eq_true_eq] at z
  exact absurd z n
theorem st_take (h : σ[1]? = some (some (.int c))) (n : c = j) (q : t1 { D with nx := rest D } σ H) : tSeq (tIfS (tTest (tOp rEq (tVar 1) (tC (.int j)))) t1 tNext) rest D σ H := by
  refine st_seq (st_if (ans_v (val_eq (val_var h) val_c)) (fun _ => q) (fun z => ?_))
  rw [dec_Int, decide_eq_false_iff_not] at z
  exact absurd n z
end
structure Asks (g : Gx) (T : Ts) : Prop where
  beg : FOk g (L2.CX g.P g.w) 7 "begin" ["holder", "given", "row"] (spABeg T)
  exc : FOk g (L2.CX g.P g.w) 6 "excuse" ["picking", "who"] (spAExc T)
  str : FOk g (L2.CX g.P g.w) 6 "strike" ["picking", "side", "who"] (spAStr T)
  pas : FOk g (L2.CX g.P g.w) 6 "pass_by" ["picking", "side"] (spAPas T)
  obj : FOk g (L2.CX g.P g.w) 6 "objection" ["picking", "side", "upheld"] (spAObj T)
  lt : FOk g (L2.CX g.P g.w) 6 "let" ["picking", "who"] (spALet T)
  agr : FOk g (L2.CX g.P g.w) 6 "agree" ["picking", "least"] (spAAgr T)
  ver : FOk g (L2.CX g.P g.w) 6 "verdict" ["picking", "says"] (spAVer g.K T)
  nw : FOk g CX0 6 "now" ["picking"] (spANow T)
  bx : FOk g CX0 6 "box" ["picking"] (spABox T)
  fat : FOk g CX0 6 "fates" ["picking"] (spAFat T)
section
variable {g : Gx} {T : Ts} {f : Addr}
theorem ok_answered (D : DefOk g.K "answered" "answered" sAnswered ["holder", "call", "given", "row"] f) (C : ClsTxt g.K T) (S : Asks g T) : Pr g (L2.CX g.P g.w) 8 f ["holder", "call", "given", "row"] (spAnswered T) := by
  obtain ⟨fd, F, b0⟩ := D
  refine ⟨fd, ?_, b0⟩
  refine F.okX scAnswered (fun vs H Q E h => ?_) (fun cdv A0 outer s0 H vs Q E hr h => ?_)
  · obtain ⟨hd, dx, gv, r, A, m, c, gs, row, k, rfl, _⟩ := h
    rfl
  · obtain ⟨hd, dx, gv, r, A, m, c, gs, row, k, rfl, ⟨P, I, hh, ho, hgv, hrw, hro, hfew⟩, ic, q⟩ := h
    refine ⟨_, pss_cons (ps_if (pt_cmpR op_eq (pv 1) pe_int (nomark _)) (pss_one (ps_ret (pfX (E := E) S.beg hr (by decide) rfl (takes_of rfl rfl rfl rfl) (pa_cons (pv 0) (pa_cons (pv 2) (pa_cons (pv 3) pa_nil)))))) pss_nil)
      (pss_cons (ps_if (pt_cmpR op_eq (pv 1) pe_int (nomark _)) (pss_one (ps_ret (pfX (E := E) S.exc hr (by decide) rfl (takes_of rfl rfl rfl rfl) (pa_cons (pe_fld (pv 0) rfl) (pa_cons (pe_ix ix_list (pv 2) pe_int (fun _ _ => rfl)) pa_nil))))) pss_nil)
      (pss_cons (ps_if (pt_cmpR op_eq (pv 1) pe_int (nomark _)) (pss_one (ps_ret (pfX (E := E) S.str hr (by decide) rfl (takes_of rfl rfl rfl rfl) (pa_cons (pe_fld (pv 0) rfl) (pa_cons (pe_ix ix_list (pv 2) pe_int (fun _ _ => rfl)) (pa_cons (pe_ix ix_list (pv 2) pe_int (fun _ _ => rfl)) pa_nil)))))) pss_nil)
      (pss_cons (ps_if (pt_cmpR op_eq (pv 1) pe_int (nomark _)) (pss_one (ps_ret (pfX (E := E) S.pas hr (by decide) rfl (takes_of rfl rfl rfl rfl) (pa_cons (pe_fld (pv 0) rfl) (pa_cons (pe_ix ix_list (pv 2) pe_int (fun _ _ => rfl)) pa_nil))))) pss_nil)
      (pss_cons (ps_if (pt_cmpR op_eq (pv 1) pe_int (nomark _)) (pss_one (ps_ret (pfX (E := E) S.obj hr (by decide) rfl (takes_of rfl rfl rfl rfl) (pa_cons (pe_fld (pv 0) rfl) (pa_cons (pe_ix ix_list (pv 2) pe_int (fun _ _ => rfl)) (pa_cons (pe_ix ix_list (pv 2) pe_int (fun _ _ => rfl)) pa_nil)))))) pss_nil)
      (pss_cons (ps_if (pt_cmpR op_eq (pv 1) pe_int (nomark _)) (pss_one (ps_ret (pfX (E := E) S.lt hr (by decide) rfl (takes_of rfl rfl rfl rfl) (pa_cons (pe_fld (pv 0) rfl) (pa_cons (pe_ix ix_list (pv 2) pe_int (fun _ _ => rfl)) pa_nil))))) pss_nil)
      (pss_cons (ps_if (pt_cmpR op_eq (pv 1) pe_int (nomark _)) (pss_one (ps_ret (pfX (E := E) S.agr hr (by decide) rfl (takes_of rfl rfl rfl rfl) (pa_cons (pe_fld (pv 0) rfl) (pa_cons (pe_ix ix_list (pv 2) pe_int (fun _ _ => rfl)) pa_nil))))) pss_nil)
      (pss_cons (ps_if (pt_cmpR op_eq (pv 1) pe_int (nomark _)) (pss_one (ps_ret (pfX (E := E) S.ver hr (by decide) rfl (takes_of rfl rfl rfl rfl) (pa_cons (pe_fld (pv 0) rfl) (pa_cons (pv 3) pa_nil))))) pss_nil)
      (pss_cons (ps_if (pt_cmpR op_eq (pv 1) pe_int (nomark _)) (pss_one (ps_ret (pf S.nw hr (by decide) rfl (pa_cons (pe_fld (pv 0) rfl) pa_nil)))) pss_nil)
      (pss_cons (ps_if (pt_cmpR op_eq (pv 1) pe_int (nomark _)) (pss_one (ps_ret (pf S.bx hr (by decide) rfl (pa_cons (pe_fld (pv 0) rfl) pa_nil)))) pss_nil)
      (pss_one (ps_ret (pf S.fat hr (by decide) rfl (pa_cons (pe_fld (pv 0) rfl) pa_nil))))))))))))), ?_⟩
    have vp : Val (tFld g.K (tVar 0) "picking") (L2.start ["holder", "call", "given", "row"] [.ref hd, .int c, .ref gv, .ref r]) H (.ref A.p) := val_fld (val_var rfl) hh C.holder C.holderN rfl
    have vg : ∀ {i : Nat} {z : Int}, gs[i]? = some z → Val (tOp (rIxL g.K) (tVar 2) (tC (.int (i : Int)))) (L2.start ["holder", "call", "given", "row"] [.ref hd, .int c, .ref gv, .ref r]) H (.int z) := fun h => val_ix (val_var rfl) val_c (SqL.of hgv) (by rw [List.getElem?_map, h]; rfl)
    cases k with
    | begin_ n k' a0 a b e p t =>
      obtain ⟨rfl, rfl, rfl⟩ := ic
      refine st_take rfl rfl ?_
      exact go_call (args_cons (val_var rfl) (args_cons (val_var rfl) (args_cons (val_var rfl) args_nil))) ⟨hd, dx, A.p, gv, r, n, k', a0, a, b, e, p, row, rfl, hh, hgv, hrw, hfew, q.new⟩
    | excuse i =>
      obtain ⟨rfl, rfl⟩ := ic
      refine st_skip rfl (by decide) (st_take rfl rfl ?_)
      exact go_call (args_cons vp (args_cons (vg (i := 0) rfl) args_nil)) ⟨A, m, i, rfl, P, I, q.pick hh ho⟩
    | strike side i =>
      obtain ⟨rfl, rfl⟩ := ic
      refine st_skip rfl (by decide) (st_skip rfl (by decide) (st_take rfl rfl ?_))
      exact go_call (args_cons vp (args_cons (vg (i := 0) rfl) (args_cons (vg (i := 1) rfl) args_nil))) ⟨A, m, side, i, rfl, P, I, q.pick hh ho⟩
    | pass side =>
      obtain ⟨rfl, rfl⟩ := ic
      refine st_skip rfl (by decide) (st_skip rfl (by decide) (st_skip rfl (by decide) (st_take rfl rfl ?_)))
      exact go_call (args_cons vp (args_cons (vg (i := 0) rfl) args_nil)) ⟨A, m, side, rfl, P, I, q.pick hh ho⟩
    | object side up =>
      obtain ⟨rfl, rfl⟩ := ic
      refine st_skip rfl (by decide) (st_skip rfl (by decide) (st_skip rfl (by decide) (st_skip rfl (by decide) (st_take rfl rfl ?_))))
      exact go_call (args_cons vp (args_cons (vg (i := 0) rfl) (args_cons (vg (i := 1) rfl) args_nil))) ⟨A, m, side, up, rfl, P, I, q.pick hh ho⟩
    | let_ i =>
      obtain ⟨rfl, rfl⟩ := ic
      refine st_skip rfl (by decide) (st_skip rfl (by decide) (st_skip rfl (by decide) (st_skip rfl (by decide) (st_skip rfl (by decide) (st_take rfl rfl ?_)))))
      exact go_call (args_cons vp (args_cons (vg (i := 0) rfl) args_nil)) ⟨A, m, i, rfl, P, I, q.pick hh ho⟩
    | agree n =>
      obtain ⟨rfl, rfl⟩ := ic
      refine st_skip rfl (by decide) (st_skip rfl (by decide) (st_skip rfl (by decide) (st_skip rfl (by decide) (st_skip rfl (by decide) (st_skip rfl (by decide) (st_take rfl rfl ?_))))))
      exact go_call (args_cons vp (args_cons (vg (i := 0) rfl) args_nil)) ⟨A, m, n, rfl, P, q.pick hh ho⟩
    | verdict l =>
      obtain ⟨rfl, rfl⟩ := ic
      refine st_skip rfl (by decide) (st_skip rfl (by decide) (st_skip rfl (by decide) (st_skip rfl (by decide) (st_skip rfl (by decide) (st_skip rfl (by decide) (st_skip rfl (by decide) (st_take rfl rfl ?_)))))))
      exact go_call (args_cons vp (args_cons (val_var rfl) args_nil)) ⟨A, m, r, row, rfl, P, I, SqL.of hrw, hro, hfew, q.pick hh ho⟩
    | now =>
      have ic' : c = 9 := ic
      subst ic'
      refine st_skip rfl (by decide) (st_skip rfl (by decide) (st_skip rfl (by decide) (st_skip rfl (by decide) (st_skip rfl (by decide) (st_skip rfl (by decide) (st_skip rfl (by decide) (st_skip rfl (by decide) (st_take rfl rfl ?_))))))))
      exact go_call (args_cons vp args_nil) ⟨A, m, rfl, P, I, q.pick hh ho⟩
    | box =>
      have ic' : c = 10 := ic
      subst ic'
      refine st_skip rfl (by decide) (st_skip rfl (by decide) (st_skip rfl (by decide) (st_skip rfl (by decide) (st_skip rfl (by decide) (st_skip rfl (by decide) (st_skip rfl (by decide) (st_skip rfl (by decide) (st_skip rfl (by decide) (st_take rfl rfl ?_)))))))))
      exact go_call (args_cons vp args_nil) ⟨A, m, rfl, P, I, q.pick hh ho⟩
    | fates =>
      have ic' : c = 11 := ic
      subst ic'
      refine st_skip rfl (by decide) (st_skip rfl (by decide) (st_skip rfl (by decide) (st_skip rfl (by decide) (st_skip rfl (by decide) (st_skip rfl (by decide) (st_skip rfl (by decide) (st_skip rfl (by decide) (st_skip rfl (by decide) (st_skip rfl (by decide) ?_)))))))))
      exact go_call (args_cons vp args_nil) ⟨A, m, rfl, P, I, q.pick hh ho⟩
end
end Jp
namespace Jp
open PySem PySem.Spec PyProof.Rows L2
open Kg77 (State Rules)
/-! answer -/
abbrev sAnswer : Stmt := top 54
theorem scAnswer : FnScope ["holder", "call", "given", "row", "refused"] ["holder", "call", "given", "row"] (defScope sAnswer) := ⟨rfl, rfl, rfl, by decide +kernel, rfl, by decide +kernel, by decide +kernel⟩
def spAnswer (T : Ts) : Sp := fun vs H Q _ => ∃ (hd dx gv r : Addr) (A : Ad) (m : State) (c : Int) (gs row : List Int) (k : Kg77.Call), vs = [.ref hd, .int c, .ref gv, .ref r] ∧ Held T hd dx gv r A H m gs row ∧ IsCall c gs row k ∧
  ∀ A' H' q, PAt T A' H' (stateOf m (pyCall m k)) → H' hd = some (.ins T.holder dx [("picking", .ref A'.p)]) → hd ∉ A'.all → To (r :: hd :: A.all) H (hd :: A'.all) H' → H' q = some (.lst ((answerOf (pyCall m k)).map V.int)) → (∀ a u, a ∉ r :: hd :: A.all → H a = some u → a ≠ q) → Q (.ref q) H'
section
variable {g : Gx} {T : Ts} {f : Addr}
def tSuite (T : Ts) : Addr → Value → Option Addr → TS := fun a cls d => tRet (tLst (tCons (tByLow T.ref a cls d (tVar 4)) tNil))
theorem ok_answer (D : DefOk g.K "answer" "answer" sAnswer ["holder", "call", "given", "row"] f) (C : ClsTxt g.K T) (R : PySem.LowX.LowTxt g.K g.mg T.ref T.refI) (S : FOk g (L2.CX g.P g.w) 8 "answered" ["holder", "call", "given", "row"] (spAnswered T)) : Pr g CX0 9 f ["holder", "call", "given", "row"] (spAnswer T) := by
  obtain ⟨fd, F, b0⟩ := D
  obtain ⟨fS, hmS, hkS, fdS, FS, bS⟩ := S
  refine ⟨fd, ?_, b0⟩
  refine F.ok scAnswer (fun vs H Q E h => ?_) (fun cdv A0 outer s0 H vs Q E hr h => ?_)
  · obtain ⟨hd, dx, gv, r, A, m, c, gs, row, k, rfl, _⟩ := h
    rfl
  · obtain ⟨hd, dx, gv, r, A, m, c, gs, row, k, rfl, hH, ic, q⟩ := h
    refine ⟨_, pss_one (ps_try_as (i := 4) (tb := fun W => tRet (tCallS (spAnswered T) (WE W) (tCons (tVar 0) (tCons (tVar 1) (tCons (tVar 2) (tCons (tVar 3) tNil)))))) (ts := tSuite T) (Wout := fun _ _ _ _ => False) rfl rfl scAnswer.nd rfl rfl ⟨rfl, by decide, Or.inl R.gC⟩ takes0
      (fun W pn xe tk _ => pss_one (ps_ret (by exact (pe_callS FS hr rfl hmS hkS bS (fun σ => passAt tk σ) (by exact (pa_cons (pv 0) (pa_cons (pv 1) (pa_cons (pv 2) (pa_cons (pv 3) pa_nil)))))))))
      (fun a oe cls d pn hz hf => pss_one (ps_ret (by exact (pe_lst (pa_cons (pe_byLow R hz hf (pv 4)) pa_nil)))))), ?_⟩
    refine ⟨_, rfl, _, rfl, _, rfl, _, rfl, ?_⟩
    refine ⟨hd, dx, gv, r, A, m, c, gs, row, k, rfl, hH, ic, ?_⟩
    cases e : pyCall m k with
    | ok x =>
      obtain ⟨m', out⟩ := x
      rw [e] at q
      exact q
    | error n =>
      rw [e] at q
      intro H' x d hd0
      refine ⟨true, R.te, fun _ a0 _ => ?_, fun z => Bool.noConfusion z⟩
      refine ⟨_, rfl, rfl, rfl, d, _, rfl, upd_same, (by show 1 ≤ sizeLine; decide), fun p hp => ?_⟩
      have x2 : Ext H' (L2.upd H' d (.xd [("number", .int n)])) := Ext.new hd0
      have x3 : Ext H (L2.upd (L2.upd H' d (.xd [("number", .int n)])) p (.lst [.int n])) := (x.trans x2).trans (Ext.new hp)
      exact q A _ p (hH.P.ext x3) (x3 _ _ hH.hold) hH.out ⟨fun a u _ ea => x3 a u ea, fun a ha => .inl (List.mem_cons_of_mem _ ha)⟩ upd_same fun a u _ ea z => by
        have := (x.trans x2) _ _ ea
        rw [z, hp] at this
        cases this
end
/-! call_at -/
structure Tabs (K : PySem.W.Frag) (mg : Str → Option Value) (wn wr : Addr) : Prop where
  gn : mg "WHOLE_NUMBERS" = some (.ref wn)
  gr : mg "WITH_ROW" = some (.ref wr)
  n : ∀ H, SqT K H wn (([0, 7, 1, 2, 1, 2, 1, 1, 0, 0, 0, 0] : List Int).map V.int)
  r : ∀ H, SqT K H wr (([1, 8] : List Int).map V.int)
abbrev sCallAt : Stmt := top 55
theorem scCallAt : FnScope ["calls", "at", "call", "end", "given", "behind"] ["calls", "at"] (defScope sCallAt) := ⟨rfl, rfl, rfl, by decide +kernel, rfl, by decide +kernel, by decide +kernel⟩
def spCallAt (K : PySem.W.Frag) : Sp := fun vs H Q _ => ∃ (a : Addr) (ns : List Int) (i : Nat) (c : Int) (gs row tl : List Int) (e : Nat), vs = [.ref a, nV i] ∧ SqL K H a (ns.map V.int) ∧ PyKg77.shape c = some (gs.length, e) ∧ (e = 0 ∧ row = [] ∨ e = 1) ∧ ns.drop i = c :: (codeOf e gs row ++ tl) ∧
  ∀ t gv r H', H' t = some (.tup [.int c, .ref gv, .ref r, nV (ns.length - tl.length)]) → H' gv = some (.lst (gs.map V.int)) → H' r = some (.lst (row.map V.int)) → H gv = none → H r = none → Ext H H' → Q (.ref t) H'
theorem whole_at {c : Int} {k e : Nat} (h : PyKg77.shape c = some (k, e)) : ∃ i : Nat, c = (i : Int) ∧ ((([0, 7, 1, 2, 1, 2, 1, 1, 0, 0, 0, 0] : List Int).map V.int)[i]? = some (.int (k : Int))) ∧ (([1, 8] : List Int).contains c = decide (e = 1)) := by
  rcases shape_cases h with ⟨h1, h2, h3⟩ | ⟨h1, h2, h3⟩ | ⟨h1, h2, h3⟩ | ⟨h1, h2, h3⟩ | ⟨h1, h2, h3⟩ | ⟨h1, h2, h3⟩ | ⟨h1, h2, h3⟩ | ⟨h1, h2, h3⟩ | ⟨h1, h2, h3⟩ | ⟨h1, h2, h3⟩ | ⟨h1, h2, h3⟩ <;> subst h1 h2 h3
  · exact ⟨1, rfl, rfl, by decide⟩
  · exact ⟨2, rfl, rfl, by decide⟩
  · exact ⟨3, rfl, rfl, by decide⟩
  · exact ⟨4, rfl, rfl, by decide⟩
  · exact ⟨5, rfl, rfl, by decide⟩
  · exact ⟨6, rfl, rfl, by decide⟩
  · exact ⟨7, rfl, rfl, by decide⟩
  · exact ⟨8, rfl, rfl, by decide⟩
  · exact ⟨9, rfl, rfl, by decide⟩
  · exact ⟨10, rfl, rfl, by decide⟩
  · exact ⟨11, rfl, rfl, by decide⟩
theorem cut_at {ns : List Int} {i w : Nat} {x y : List Int} (h : ns.drop i = x ++ y) (hw : x.length = w) : cutV (ns.map V.int) (some (i : Int)) (some ((i + w : Nat) : Int)) = x.map V.int := by
  have hl : i + w ≤ ns.length ∨ w = 0 := by
    have := congrArg List.length h
    rw [List.length_drop, List.length_append, hw] at this
    omega
  unfold cutV
  rw [HT.sIx_nat, HT.sIx_nat, List.length_map]
  rcases hl with hl | hl
  · rw [Nat.min_eq_left (by omega), Nat.min_eq_left (by omega), ← List.map_drop, h, ← List.map_take, show i + w - i = x.length by omega, List.take_left']
    rfl
  · subst hl
    have : x = [] := List.length_eq_zero_iff.mp hw
    subst this
    rw [Nat.add_zero, Nat.sub_self]
    rfl
theorem val_slice {K : PySem.W.Frag} {σ : L2.St} {H : Hp} {te tl th : TE} {a : Addr} {xs : List V} {lo hi : Int} (h : Val te σ H (.ref a)) (h1 : Val tl σ H (.int lo)) (h2 : Val th σ H (.int hi)) (ha : SqL K H a xs) :
    NewL (tSl (rSlL K) te (tPart tl) (tPart th)) σ H (cutV xs (some lo) (some hi)) := fun Q q =>
  h _ (h1 _ ⟨lo, rfl, h2 _ ⟨hi, rfl, a, xs, rfl, ha, fun p hp => q _ _ ⟨p, rfl, hp, Ext.new hp, upd_same⟩⟩⟩)
section
variable {g : Gx} {T : Ts} {f : Addr} {wn wr : Addr}
theorem ok_callat (D : DefOk g.K "call_at" "call_at" sCallAt ["calls", "at"] f) (B : Tabs g.K g.mg wn wr) : Pr g CX0 1 f ["calls", "at"] (spCallAt g.K) := by
  obtain ⟨fd, F, b0⟩ := D
  refine ⟨fd, ?_, b0⟩
  refine F.ok scCallAt (fun vs H Q E h => ?_) (fun cdv A0 outer s0 H vs Q E hr h => ?_)
  · obtain ⟨a, ns, i, c, gs, row, tl, e, rfl, _⟩ := h
    rfl
  · obtain ⟨a, ns, i, c, gs, row, tl, e, rfl, ha, hsh, he, hd, q⟩ := h
    refine ⟨_, pss_cons (ps_set (i := 2) scCallAt.nd rfl (Or.inl rfl) (pe_ix ix_list (pv 0) (pv 1) (fun _ _ => rfl)))
      (pss_cons (ps_set (i := 3) scCallAt.nd rfl (Or.inl rfl) (pe_op op_add (pe_op op_add (pv 1) pe_int) (pe_ix ix_tup (pe_glob (v := .ref wn) rfl B.gn rfl) (pv 2) (fun _ _ => rfl))))
      (pss_cons (ps_set (i := 4) scCallAt.nd rfl (Or.inl rfl) (pe_slice sl_list (pv 0) (po_some (pe_op op_add (pv 1) pe_int)) (po_some (pv 3))))
      (pss_cons (ps_if (pt_cmpR op_notIn_seq (pv 2) (pe_glob (v := .ref wr) rfl B.gr rfl) rfl) (pss_one (ps_ret (pe_tup (pa_cons (pv 2) (pa_cons (pv 4) (pa_cons (pe_lst pa_nil) (pa_cons (pv 3) pa_nil))))))) pss_nil)
      (pss_cons (ps_set (i := 5) scCallAt.nd rfl (Or.inl rfl) (pe_op op_add (pe_op op_add (pv 3) pe_int) (pe_ix ix_list (pv 0) (pv 3) (fun _ _ => rfl))))
      (pss_one (ps_ret (pe_tup (pa_cons (pv 2) (pa_cons (pv 4) (pa_cons (pe_slice sl_list (pv 0) (po_some (pe_op op_add (pv 3) pe_int)) (po_some (pv 5))) (pa_cons (pv 5) pa_nil))))))))))), ?_⟩
    obtain ⟨ci, hci, hw, hr8⟩ := whole_at hsh
    have hlen := congrArg List.length hd
    rw [List.length_drop, List.length_cons, List.length_append] at hlen
    have hget : (ns.map V.int)[i]? = some (.int c) := by
      rw [List.getElem?_map]
      have : ns[i]? = (ns.drop i)[0]? := by rw [List.getElem?_drop]; rfl
      rw [this, hd]
      rfl
    refine st_seq (st_set (val_ix (val_var rfl) (val_var (v := V.int (i : Int)) rfl) ha hget) ?_)
    have v3 : Val (tOp (rI0 fun i j => V.int (i + j)) (tOp (rI0 fun i j => V.int (i + j)) (tVar 1) (tC (.int 1))) (tOp (rIxT g.K) (tC (.ref wn)) (tVar 2))) [some (.ref a), some (nV i), some (.int c), none, none, none] H (nV (i + 1 + gs.length)) := by
      have h1 := val_I (g := fun i j => V.int (i + j)) (val_var (σ := [some (.ref a), some (nV i), some (.int c), none, none, none]) (H := H) (i := 1) (v := V.int (i : Int)) rfl) (val_c (v := V.int 1))
      have h2 : Val (tOp (rIxT g.K) (tC (.ref wn)) (tVar 2)) [some (.ref a), some (nV i), some (.int c), none, none, none] H (.int (gs.length : Int)) :=
        val_op val_c (val_var (v := V.int c) rfl) fun Q k => ⟨wn, _, c, _, rfl, rfl, B.n H, by rw [hci]; exact atI_nat hw, k⟩
      have := val_I (g := fun i j => V.int (i + j)) h1 h2
      rw [show (i : Int) + 1 + (gs.length : Int) = ((i + 1 + gs.length : Nat) : Int) by omega] at this
      exact this
    dsimp only
    refine st_seq (st_set v3 ?_)
    -- the whole numbers
    have hd1 : ns.drop (i + 1) = codeOf e gs row ++ tl := by
      have : ns.drop (i + 1) = (ns.drop i).drop 1 := by rw [List.drop_drop]
      rw [this, hd]
      rfl
    have hgs : ∃ y, ns.drop (i + 1) = gs ++ y := by
      rw [hd1]
      unfold codeOf
      by_cases h0 : e = 0
      · rw [if_pos h0]; exact ⟨_, rfl⟩
      · rw [if_neg h0, List.append_assoc]; exact ⟨_, rfl⟩
    obtain ⟨y, hy⟩ := hgs
    have v4 : NewL (tSl (rSlL g.K) (tVar 0) (tPart (tOp (rI0 fun i j => V.int (i + j)) (tVar 1) (tC (.int 1)))) (tPart (tVar 3))) [some (.ref a), some (nV i), some (.int c), some (nV (i + 1 + gs.length)), none, none] H (gs.map V.int) := by
      have h1 := val_I (g := fun i j => V.int (i + j)) (val_var (σ := [some (.ref a), some (nV i), some (.int c), some (nV (i + 1 + gs.length)), none, none]) (H := H) (i := 1) (v := V.int (i : Int)) rfl) (val_c (v := V.int 1))
      have := val_slice (K := g.K) (val_var (i := 0) (v := V.ref a) rfl) h1 (val_var (i := 3) (v := V.int ((i + 1 + gs.length : Nat) : Int)) rfl) ha
      rw [show (i : Int) + 1 = ((i + 1 : Nat) : Int) by omega, cut_at hy rfl] at this
      exact this
    dsimp only
    refine st_seq (st_setH v4 ?_)
    rintro _ H1 ⟨gv, rfl, n1, x1, p1⟩
    have vt : Val (tOp (rIn g.K true) (tVar 2) (tC (.ref wr))) [some (.ref a), some (nV i), some (.int c), some (nV (i + 1 + gs.length)), some (.ref gv), none] H1 (.bl (!decide (e = 1))) := by
      refine val_op (val_var (v := V.int c) rfl) val_c fun Q k => ⟨wr, _, rfl, .inr (B.r H1), rfl, flat_ints _, ?_⟩
      rw [inV_int, hr8]
      exact k
    dsimp only
    refine st_seq (st_if (ans_v vt) (fun c0 => ?_) (fun c0 => ?_))
    · have e0 : e ≠ 1 := by
        rw [Bool.not_eq_true', decide_eq_false_iff_not] at c0
        exact c0
      obtain ⟨rfl, rfl⟩ := he.resolve_right e0
      refine ⟨_, rfl, _, rfl, Nat.zero_le _, fun r hr1 => ?_⟩
      refine ⟨_, rfl, (by show 4 ≤ sizeLine; decide), fun t ht => ?_⟩
      have x2 : Ext H1 (L2.upd H1 r (.lst [])) := Ext.new hr1
      have x3 : Ext (L2.upd H1 r (.lst [])) (L2.upd (L2.upd H1 r (.lst [])) t (.tup [.int c, .ref gv, .ref r, nV (i + 1 + gs.length)])) := Ext.new ht
      have el : ns.length - tl.length = i + 1 + gs.length := by
        have : (codeOf 0 gs ([] : List Int)).length = gs.length := rfl
        rw [this] at hlen
        omega
      refine q t gv r _ ?_ (x3 _ _ (x2 _ _ p1)) (x3 _ _ upd_same) n1 (x1.free hr1) ((x1.trans x2).trans x3)
      rw [el]
      exact upd_same
    · have e1 : e = 1 := by
        rw [Bool.not_eq_false', decide_eq_true_eq] at c0
        exact c0
      subst e1
      have ec : codeOf 1 gs row = gs ++ ((row.length : Int) :: row) := rfl
      rw [ec] at hd1 hlen
      rw [List.length_append, List.length_cons] at hlen
      have hd2 : ns.drop (i + 1 + gs.length) = (row.length : Int) :: (row ++ tl) := by
        have : ns.drop (i + 1 + gs.length) = (ns.drop (i + 1)).drop gs.length := by rw [List.drop_drop]
        rw [this, hd1, List.append_assoc, List.drop_left']
        rfl
        rfl
      have hget2 : (ns.map V.int)[i + 1 + gs.length]? = some (.int (row.length : Int)) := by
        rw [List.getElem?_map]
        have : ns[i + 1 + gs.length]? = (ns.drop (i + 1 + gs.length))[0]? := by rw [List.getElem?_drop]; rfl
        rw [this, hd2]
        rfl
      have hd3 : ns.drop (i + 1 + gs.length + 1) = row ++ tl := by
        have : ns.drop (i + 1 + gs.length + 1) = (ns.drop (i + 1 + gs.length)).drop 1 := by rw [List.drop_drop]
        rw [this, hd2]
        rfl
      have ha1 := x1.seq ha
      have v5 : Val (tOp (rI0 fun i j => V.int (i + j)) (tOp (rI0 fun i j => V.int (i + j)) (tVar 3) (tC (.int 1))) (tOp (rIxL g.K) (tVar 0) (tVar 3))) [some (.ref a), some (nV i), some (.int c), some (nV (i + 1 + gs.length)), some (.ref gv), none] H1 (nV (i + 1 + gs.length + 1 + row.length)) := by
        have h1 := val_I (g := fun i j => V.int (i + j)) (val_var (σ := [some (.ref a), some (nV i), some (.int c), some (nV (i + 1 + gs.length)), some (.ref gv), none]) (H := H1) (i := 3) (v := V.int ((i + 1 + gs.length : Nat) : Int)) rfl) (val_c (v := V.int 1))
        have h2 := val_ix (K := g.K) (val_var (σ := [some (.ref a), some (nV i), some (.int c), some (nV (i + 1 + gs.length)), some (.ref gv), none]) (i := 0) (v := V.ref a) rfl) (val_var (i := 3) (v := V.int ((i + 1 + gs.length : Nat) : Int)) rfl) ha1 hget2
        have := val_I (g := fun i j => V.int (i + j)) h1 h2
        rw [show ((i + 1 + gs.length : Nat) : Int) + 1 + (row.length : Int) = ((i + 1 + gs.length + 1 + row.length : Nat) : Int) by omega] at this
        exact this
      dsimp only [tNext]
      refine st_seq (st_set v5 ?_)
      have v6 : NewL (tSl (rSlL g.K) (tVar 0) (tPart (tOp (rI0 fun i j => V.int (i + j)) (tVar 3) (tC (.int 1)))) (tPart (tVar 5))) [some (.ref a), some (nV i), some (.int c), some (nV (i + 1 + gs.length)), some (.ref gv), some (nV (i + 1 + gs.length + 1 + row.length))] H1 (row.map V.int) := by
        have h1 := val_I (g := fun i j => V.int (i + j)) (val_var (σ := [some (.ref a), some (nV i), some (.int c), some (nV (i + 1 + gs.length)), some (.ref gv), some (nV (i + 1 + gs.length + 1 + row.length))]) (H := H1) (i := 3) (v := V.int ((i + 1 + gs.length : Nat) : Int)) rfl) (val_c (v := V.int 1))
        have := val_slice (K := g.K) (val_var (i := 0) (v := V.ref a) rfl) h1 (val_var (i := 5) (v := V.int ((i + 1 + gs.length + 1 + row.length : Nat) : Int)) rfl) ha1
        rw [show ((i + 1 + gs.length : Nat) : Int) + 1 = ((i + 1 + gs.length + 1 : Nat) : Int) by omega, cut_at hd3 rfl] at this
        exact this
      dsimp only
      refine ⟨_, rfl, _, rfl, v6 _ ?_⟩
      rintro _ H2 ⟨r, rfl, n2, x2, p2⟩
      refine ⟨_, rfl, (by show 4 ≤ sizeLine; decide), fun t ht => ?_⟩
      have x3 : Ext H2 (L2.upd H2 t (.tup [.int c, .ref gv, .ref r, nV (i + 1 + gs.length + 1 + row.length)])) := Ext.new ht
      have el : ns.length - tl.length = i + 1 + gs.length + 1 + row.length := by omega
      refine q t gv r _ ?_ (x3 _ _ (x2 _ _ p1)) (x3 _ _ p2) n1 (x1.free n2) ((x1.trans x2).trans x3)
      rw [el]
      exact upd_same
end
end Jp
namespace Jp
open PySem PySem.Spec PyProof.Rows L2
open Kg77 (State Rules)
/-! answers -/
abbrev sMain : Stmt := top 56
theorem scMain : FnScope ["calls", "holder", "found", "at", "call", "given", "row", "told"] ["calls"] (defScope sMain) := ⟨rfl, rfl, rfl, by decide +kernel, rfl, by decide +kernel, by decide +kernel⟩
def spMain (K : PySem.W.Frag) : Sp := fun vs H Q _ => ∃ (a : Addr) (ns : List Int), vs = [.ref a] ∧ SqL K H a (ns.map V.int) ∧ ns.length ≤ 30000 ∧ PyKg77.answers_asked ns = true ∧ ∀ (H' : Hp) (p : Addr), H' p = some (.lst ((PyKg77.answers ns).map V.int)) → Q (.ref p) H'
/-- between two turns: i the place, rest the calls left, F what's found -/
structure Turn (T : Ts) (H0 : Hp) (ns : List Int) (hd fa : Addr) (i : Nat) (H : Hp) : Prop where
  ex : ∃ (A : Ad) (m s : State) (rest : List (List (List Int))) (F : List Int) (dx : Addr), PAt T A H m ∧ Out m s ∧ H hd = some (.ins T.holder dx [("picking", .ref A.p)]) ∧ hd ∉ A.all ∧ fa ∉ A.all ∧ fa ≠ hd ∧
    H fa = some (.lst (F.map V.int)) ∧ i ≤ ns.length ∧ ns.drop i = PyFlat.put rest ∧ (∀ c ∈ rest, PyFlat.okCall PyKg77.shape c) ∧ F ++ toldFrom s rest = PyKg77.answers ns ∧ To [] H0 (fa :: hd :: A.all) H
theorem st_un4 {K : PySem.W.Frag} {σ : L2.St} {H : Hp} {D : Ends} {v1 v2 v3 v4 : V} {te : TE} {R : Hp → Addr → Addr → Prop} {c : Int} {j : Nat} (h : ValH te σ H (fun v H' => ∃ t gv r, v = .ref t ∧ H' t = some (.tup [.int c, .ref gv, .ref r, nV j]) ∧ R H' gv r))
    (q : ∀ gv r H', R H' gv r → D.nx ((((σ.set 4 (some (.int c))).set 5 (some (.ref gv))).set 6 (some (.ref r))).set 3 (some (nV j))) H') :
    tAsg te (gTup K 4 (gCons (gName 4) (gCons (gName 5) (gCons (gName 6) (gCons (gName 3) gNil))))) D σ H :=
  h _ fun v H' ⟨t, gv, r, e, ht, hr⟩ => ⟨t, _, e, SqT.of ht, rfl, _, _, rfl, _, _, rfl, _, _, rfl, _, _, rfl, rfl, q gv r H' hr⟩
theorem big_line {n : Nat} (h : n ≤ 10000000) : n ≤ sizeLine := Nat.le_trans h (by decide)
theorem big_lt {n : Nat} (h : n ≤ 10000000) : n < sizeLine := Nat.lt_of_le_of_lt h (by decide)
section
variable {g : Gx} {T : Ts} {f : Addr}
theorem ok_main {fd : FuncData} (F : Fun g.K "answers" "answers" sMain f fd) (C : ClsTxt g.K T) (G : Mg g.mg) (N0 : NOk g 8 T.holder "Holder" ["self"] (spHoldI T)) (F1 : FOk g CX0 1 "call_at" ["calls", "at"] (spCallAt g.K)) (F2 : FOk g CX0 9 "answer" ["holder", "call", "given", "row"] (spAnswer T)) : FnOk g.P g.w g.K g.mg g.base CX0 10 f fd ["calls"] (spMain g.K) := by
  refine F.ok scMain (fun vs H Q E h => ?_) (fun cdv A0 outer s0 H vs Q E hr h => ?_)
  · obtain ⟨a, ns, rfl, _⟩ := h
    rfl
  · obtain ⟨a, ns, rfl, ha, hlen, hask, q⟩ := h
    refine ⟨_, pss_cons (ps_set (i := 1) scMain.nd rfl (Or.inl rfl) (pn0 N0 hr (by decide) rfl))
      (pss_cons (ps_set (i := 2) scMain.nd rfl (Or.inl rfl) (pe_lst pa_nil))
      (pss_cons (ps_set (i := 3) scMain.nd rfl (Or.inl rfl) pe_int)
      (pss_cons (ps_while PassesOwn.never (pt_cmpR op_lt (pv 3) (pe_callB call_len_seq (by rfl) G.len PySem.boot_len (pa_cons (pv 0) pa_nil)) (nomark _))
        (pss_cons (ps_asg (pf F1 hr (by decide) rfl (pa_cons (pv 0) (pa_cons (pv 3) pa_nil))) (pg_tup rfl (pgs_cons (pg_name (i := 4) scMain.nd rfl (Or.inl rfl)) (pgs_cons (pg_name (i := 5) scMain.nd rfl (Or.inl rfl)) (pgs_cons (pg_name (i := 6) scMain.nd rfl (Or.inl rfl)) (pgs_cons (pg_name (i := 3) scMain.nd rfl (Or.inl rfl)) pgs_nil))))))
        (pss_cons (ps_set (i := 7) scMain.nd rfl (Or.inl rfl) (pf F2 hr (by decide) rfl (pa_cons (pv 1) (pa_cons (pv 4) (pa_cons (pv 5) (pa_cons (pv 6) pa_nil))))))
        (pss_cons (ps_expr (pe_bm PySem.F.plainAttrs_list PySem.F.slot_list_append PySem.F.type_list_append mt_append (pv 2) (pa_cons (pe_callB call_len_seq (by rfl) G.len PySem.boot_len (pa_cons (pv 7) pa_nil)) pa_nil)))
        (pss_one (ps_expr (pe_bm PySem.F.plainAttrs_list PySem.F.slot_list_extend PySem.F.type_list_extend mt_extend (pv 2) (pa_cons (pv 7) pa_nil))))))))
      (pss_one (ps_ret (pv 2)))))), ?_⟩
    obtain ⟨cs, hput, hok, hans, hshort⟩ := asked_form hask
    -- holder = Holder()
    have vh : ValH (tMake T.holder (spHoldI T) [] E0 tNil) (L2.start ["calls", "holder", "found", "at", "call", "given", "row", "told"] [.ref a]) H (fun v H' => ∃ x dx A, v = .ref x ∧ PAt T A H' m0 ∧ H' x = some (.ins T.holder dx [("picking", .ref A.p)]) ∧ x ∉ A.all ∧ To [] H (x :: A.all) H') := fun Q kk =>
      go_make (vs := []) args_nil fun x dx nx nd ne => ⟨x, dx, rfl, upd_same, fun A' H' P hh nh t => ⟨rfl, kk _ _ (by
        have e1 : Ext H (L2.upd (L2.upd H dx (.own x)) x (.ins T.holder dx [])) := (Ext.new nd).over nx
        refine ⟨x, dx, A', rfl, P, hh, nh, To.trans (e1.take (M := [x]) fun y hy => .inr ?_) t⟩
        rw [List.mem_singleton.mp hy]
        exact nx)⟩⟩
    refine st_seq (st_setH vh ?_)
    rintro _ H1 ⟨hd, dx, A, rfl, P1, hh1, nh1, t1⟩
    -- found = []
    have vl : NewL (tLst tNil) [some (.ref a), some (.ref hd), none, none, none, none, none, none] H1 [] := fun Q k => ⟨Nat.zero_le _, fun y hy => k _ _ ⟨y, rfl, hy, Ext.new hy, upd_same⟩⟩
    dsimp only
    refine st_seq (st_setH vl ?_)
    rintro _ H2 ⟨fa, rfl, nf, x2, pf2⟩
    dsimp only
    refine st_seq (st_set val_c ?_)
    have nfa : fa ≠ hd := fun z => by rw [z, hh1] at nf; cases nf
    have w0 : Turn T H ns hd fa 0 H2 := ⟨A, m0, Kg77.init, cs, [], dx, P1.ext x2, start_out, x2 _ _ hh1, nh1, P1.out nf, nfa, pf2, Nat.zero_le _, by rw [List.drop_zero]; exact hput, hok, by rw [List.nil_append]; exact hans.symm, t1.trans (x2.take fun y hy => by
      rcases List.mem_cons.mp hy with z | z
      · exact .inr (by rw [z]; exact nf)
      · exact .inl z)⟩
    dsimp only
    refine st_seq (st_loop (fun k σ H' => ∃ i, k + i = ns.length ∧ (∃ v4 v5 v6 v7, σ = [some (.ref a), some (.ref hd), some (.ref fa), some (nV i), v4, v5, v6, v7]) ∧ Turn T H ns hd fa i H') ns.length ⟨0, rfl, ⟨none, none, none, none, rfl⟩, w0⟩ ?_)
    rintro k σ H3 ⟨i, hk, ⟨v4, v5, v6, v7, rfl⟩, ⟨A3, m, s, rest, Fo, dx3, P3, o3, hh3, nh3, nfa3, nfh, pfa, hi, hdr, hok3, heq, t3⟩⟩
    have ha3 : SqL g.K H3 a (ns.map V.int) := t3.seq (by simp) ha
    have vlen := val_len (K := g.K) (val_var (σ := [some (.ref a), some (.ref hd), some (.ref fa), some (nV i), v4, v5, v6, v7]) (i := 0) (v := V.ref a) rfl) ha3
    rw [List.length_map] at vlen
    refine ⟨_, ans_v (val_B (val_var (i := 3) (v := V.int (i : Int)) rfl) vlen), fun c N hN => ?_, fun c => ?_⟩
    · have hil : i < ns.length := by
        have := of_decide_eq_true c
        omega
      cases rest with
      | nil =>
        have := congrArg List.length hdr
        rw [List.length_drop] at this
        have e0 : (PyFlat.put []).length = 0 := rfl
        omega
      | cons cl rest =>
        obtain ⟨p, gs, row, kc, e, ep, hsh, he, ic, hcall⟩ := call_form (hok3 cl List.mem_cons_self)
        obtain ⟨s', o', htold⟩ := told_cons (cs := rest) o3 hcall
        have hdr2 : ns.drop i = p :: (codeOf e gs row ++ PyFlat.put rest) := by
          rw [hdr]
          show PyFlat.put1 cl ++ PyFlat.put rest = _
          rw [ep]
          rfl
        have hl2 := congrArg List.length hdr2
        rw [List.length_drop, List.length_cons, List.length_append] at hl2
        have hrow : row.length ≤ 100000 := by
          rcases he with ⟨_, h⟩ | h
          · rw [h]; exact Nat.zero_le _
          · subst h
            have ec : codeOf 1 gs row = gs ++ ((row.length : Int) :: row) := rfl
            rw [ec, List.length_append, List.length_cons] at hl2
            omega
        have vc : ValH (tCall (spCallAt g.K) [] E0 (tCons (tVar 0) (tCons (tVar 3) tNil))) [some (.ref a), some (.ref hd), some (.ref fa), some (nV i), v4, v5, v6, v7] H3
            (fun v H' => ∃ t gv r, v = .ref t ∧ H' t = some (.tup [.int p, .ref gv, .ref r, nV (ns.length - (PyFlat.put rest).length)]) ∧ (H' gv = some (.lst (gs.map V.int)) ∧ H' r = some (.lst (row.map V.int)) ∧ H3 gv = none ∧ H3 r = none ∧ Ext H3 H')) := fun Q kk =>
          go_call (args_cons (val_var rfl) (args_cons (val_var rfl) args_nil)) ⟨a, ns, i, p, gs, row, PyFlat.put rest, e, rfl, ha3, hsh, he, hdr2, fun t gv r H' a1 a2 a3 a4 a5 a6 => kk _ _ ⟨t, gv, r, rfl, a1, a2, a3, a4, a5, a6⟩⟩
        refine st_seq (st_un4 (v1 := .non) (v2 := .non) (v3 := .non) (v4 := .non) (R := fun H' gv r => H' gv = some (.lst (gs.map V.int)) ∧ H' r = some (.lst (row.map V.int)) ∧ H3 gv = none ∧ H3 r = none ∧ Ext H3 H') vc ?_)
        rintro gv r H4 ⟨g1, g2, g3, g4, x4⟩
        have P4 := P3.ext x4
        have held : Held T hd dx3 gv r A3 H4 m gs row := ⟨P4, o3.inv, x4 _ _ hh3, nh3, g1, g2, P3.out g4, hrow⟩
        have nfl : fa ∉ r :: hd :: A3.all := fun z => by
          rcases List.mem_cons.mp z with z | z
          · rw [z, g4] at pfa; cases pfa
          · rcases List.mem_cons.mp z with z | z
            · exact nfh z
            · exact nfa3 z
        have va : ValH (tCall (spAnswer T) [] E0 (tCons (tVar 1) (tCons (tVar 4) (tCons (tVar 5) (tCons (tVar 6) tNil))))) [some (.ref a), some (.ref hd), some (.ref fa), some (nV (ns.length - (PyFlat.put rest).length)), some (.int p), some (.ref gv), some (.ref r), v7] H4
            (fun v H' => ∃ q A', v = .ref q ∧ PAt T A' H' (stateOf m (pyCall m kc)) ∧ H' hd = some (.ins T.holder dx3 [("picking", .ref A'.p)]) ∧ hd ∉ A'.all ∧ To (r :: hd :: A3.all) H4 (hd :: A'.all) H' ∧ H' q = some (.lst ((answerOf (pyCall m kc)).map V.int)) ∧ (∀ a u, a ∉ r :: hd :: A3.all → H4 a = some u → a ≠ q)) := fun Q kk =>
          go_call (args_cons (val_var rfl) (args_cons (val_var rfl) (args_cons (val_var rfl) (args_cons (val_var rfl) args_nil)))) ⟨hd, dx3, gv, r, A3, m, p, gs, row, kc, rfl, held, ic, fun A' H' q b1 b2 b3 b4 b5 b6 => kk _ _ ⟨q, A', rfl, b1, b2, b3, b4, b5, b6⟩⟩
        dsimp only [List.set]
        refine st_seq (st_setH va ?_)
        rintro _ H5 ⟨qt, A5, rfl, P5, hh5, nh5, t5, pq, fr⟩
        have pfa4 := x4 _ _ pfa
        have nfq : fa ≠ qt := fr fa _ nfl pfa4
        have pfa5 : H5 fa = some (.lst (Fo.map V.int)) := t5.keep fa _ nfl pfa4
        have nfa5 : fa ∉ A5.all := fun z => by
          rcases t5.own fa (List.mem_cons_of_mem _ z) with w | w
          · exact nfl w
          · rw [pfa4] at w; cases w
        -- what is found so far is a part of all answers
        have hall : (Fo ++ [((answerOf (pyCall m kc)).length : Int)] ++ answerOf (pyCall m kc)) ++ toldFrom s' rest = PyKg77.answers ns := by
          rw [← heq, htold]
          simp [List.append_assoc]
        have hsz : Fo.length + 1 + (answerOf (pyCall m kc)).length ≤ 10000000 := by
          have := congrArg List.length hall
          rw [List.length_append, List.length_append, List.length_append] at this
          simp only [List.length_cons, List.length_nil] at this
          omega
        have vlq := val_len (K := g.K) (val_var (σ := [some (.ref a), some (.ref hd), some (.ref fa), some (nV (ns.length - (PyFlat.put rest).length)), some (.int p), some (.ref gv), some (.ref r), some (.ref qt)]) (i := 7) (v := V.ref qt) rfl) (SqL.of pq)
        rw [List.length_map] at vlq
        -- found.append(len(told))
        have sap : ∀ {D : Ends}, D.nx [some (.ref a), some (.ref hd), some (.ref fa), some (nV (ns.length - (PyFlat.put rest).length)), some (.int p), some (.ref gv), some (.ref r), some (.ref qt)] (L2.upd H5 fa (.lst ((Fo ++ [((answerOf (pyCall m kc)).length : Int)]).map V.int))) →
            tDrop (tBM g.K "list" rAppend (tVar 2) (tCons (tCB (fun xs H Q => ∃ p ys, xs = [V.ref p] ∧ (SqL g.K H p ys ∨ SqT g.K H p ys) ∧ Q (.int ys.length) H) (tCons (tVar 7) tNil)) tNil)) D [some (.ref a), some (.ref hd), some (.ref fa), some (nV (ns.length - (PyFlat.put rest).length)), some (.int p), some (.ref gv), some (.ref r), some (.ref qt)] H5 := fun {D} kq =>
          ⟨_, rfl, .inl ⟨rfl, _, SqL.of pfa5⟩, vlq _ ⟨fa, _, _, rfl, rfl, pfa5, (by rw [List.length_map]; exact big_lt (by omega)), by
            rw [List.map_append] at kq
            exact kq⟩⟩
        dsimp only [List.set]
        refine st_seq (sap ?_)
        -- found.extend(told)
        have pq6 : (L2.upd H5 fa (.lst ((Fo ++ [((answerOf (pyCall m kc)).length : Int)]).map V.int))) qt = some (.lst ((answerOf (pyCall m kc)).map V.int)) := by
          rw [upd_ne (Ne.symm nfq)]; exact pq
        refine ⟨_, rfl, .inl ⟨rfl, _, SqL.of upd_same⟩, _, rfl, fa, qt, _, _, rfl, rfl, upd_same, pq6, (by rw [List.length_map, List.length_map, List.length_append]; exact big_line (by simp only [List.length_cons, List.length_nil]; omega)), ?_⟩
        rw [upd_upd, ← List.map_append]
        have hjl : (PyFlat.put rest).length ≤ ns.length := by omega
        refine hN (PyFlat.put rest).length _ _ (by omega) ⟨ns.length - (PyFlat.put rest).length, by omega, ⟨_, _, _, _, rfl⟩, ⟨A5, _, s', rest, Fo ++ [((answerOf (pyCall m kc)).length : Int)] ++ answerOf (pyCall m kc), dx3, P5.side nfa5 (by rw [pfa5]; exact ns_lst) _, o', ?_, nh5, nfa5, nfh, upd_same, Nat.sub_le _ _, ?_, fun c hc => hok3 c (List.mem_cons_of_mem _ hc), hall, ?_⟩⟩
        · rw [upd_ne (Ne.symm nfh)]; exact hh5
        · have : ns.drop (ns.length - (PyFlat.put rest).length) = (ns.drop i).drop (ns.length - (PyFlat.put rest).length - i) := by
            rw [List.drop_drop]
            congr 1
            omega
          rw [this, hdr2, show ns.length - (PyFlat.put rest).length - i = (p :: codeOf e gs row).length by rw [List.length_cons]; omega]
          show List.drop _ ((p :: codeOf e gs row) ++ PyFlat.put rest) = _
          exact List.drop_left' rfl
        · -- what is kept of the beginning
          have own0 : ∀ y, y ∈ fa :: hd :: A3.all → H y = none := fun y hy => by
            rcases t3.own y hy with w | w
            · cases w
            · exact w
          have k4 : ∀ y u, H y = some u → H4 y = some u := fun y u hy => x4 _ _ (t3.keep y u (by simp) hy)
          have free4 : ∀ y, H4 y = none → H y = none := fun y hy => by
            cases z : H y with
            | none => rfl
            | some u => rw [k4 y u z] at hy; cases hy
          refine ⟨fun y u _ hy => ?_, fun y hy => .inr ?_⟩
          · have n1 : y ≠ fa := fun z => by rw [z, own0 fa List.mem_cons_self] at hy; cases hy
            rw [upd_ne n1]
            refine t5.keep y u (fun z => ?_) (k4 y u hy)
            rcases List.mem_cons.mp z with z | z
            · have := t3.keep y u (by simp) hy
              rw [z, g4] at this
              cases this
            · rw [own0 y (List.mem_cons_of_mem _ z)] at hy; cases hy
          · rcases List.mem_cons.mp hy with z | z
            · rw [z]; exact own0 fa List.mem_cons_self
            · rcases t5.own y z with w | w
              · rcases List.mem_cons.mp w with w | w
                · rw [w]
                  cases z : H r with
                  | none => rfl
                  | some u => rw [t3.keep r u (by simp) z] at g4; cases g4
                · exact own0 y (List.mem_cons_of_mem _ w)
              · exact free4 y w
    · have hil : ¬ i < ns.length := by
        have := of_decide_eq_false c
        omega
      cases rest with
      | cons cl rest =>
        have := congrArg List.length hdr
        obtain ⟨p, gs, row, kc, e, ep, _⟩ := call_form (hok3 cl List.mem_cons_self)
        have e1 : PyFlat.put (cl :: rest) = PyFlat.put1 cl ++ PyFlat.put rest := rfl
        rw [List.length_drop, e1, List.length_append, ep, List.length_cons] at this
        omega
      | nil =>
        have e0 : toldFrom s [] = [] := rfl
        rw [e0, List.append_nil] at heq
        rw [heq] at pfa
        dsimp only
        exact st_ret (val_var rfl) (q H3 fa pfa)
end
end Jp
namespace Jp
open PySem PySem.Spec PyProof.Rows L2
open Kg77 (State Rules)
/-! ### The end: what the top has written, every address a letter; all promises from it -/
theorem def_mk {K : PySem.W.Frag} {x qual : Str} {st : Stmt} {ps : List Str} {f : Addr} {oc : Value} {od an : Option Addr} {osl : Array (Option Value)} {kV doc pm cdv ct : Value} (l : K.lookup f = some ⟨oc, od, .func (PySem.W.fnOf x qual (defArgs st) (defBody st) (defScope st) .none kV doc pm an cdv ct), osl⟩)
    (c : PySem.W.codeIn K cdv qual = true) (k : PySem.W.keepIn K (.ref f) = true) (h : ∀ (kV doc pm : Value) (an : Option Addr) (cdv ct : Value) (us : List Value), us.length = ps.length → bindArgs (PySem.W.fnOf x qual (defArgs st) (defBody st) (defScope st) .none kV doc pm an cdv ct) ⟨us, []⟩ = pure (ps.zip us)) : DefOk K x qual st ps f :=
  ⟨_, fun_mk l c k, (fun_mk l c k).binds h⟩
theorem abs_int {u : Value} {i : Int} (h : absV u = some (V.int i)) : RelV (.int i) u := by
  cases u with
  | int j t =>
    have e : V.int j = V.int i := Option.some.inj h
    rw [V.int.inj e]
    exact ⟨t, rfl⟩
  | _ => cases h
theorem vals_abs : ∀ {us : List Value} {l : List Int}, us.map absV = l.map (fun i => some (V.int i)) → Vals (l.map V.int) us
  | [], [], _ => .nil
  | [], _ :: _, h => by cases h
  | _ :: _, [], h => by cases h
  | u :: us, i :: l, h => by
    obtain ⟨h1, h2⟩ := List.cons.inj h
    exact .cons (abs_int h1) (vals_abs h2)
theorem sqT_mk {K : PySem.W.Frag} {a : Addr} {od : Option Addr} {its : Array Value} {n : Nat} {sl : Array (Option Value)} {l : List Int} (h : K.lookup a = some ⟨.type "tuple", od, .seq its n, sl⟩) (w : its.toList.map absV = l.map fun i => some (V.int i)) (hl : l.length ≤ 1000) (H : Hp) : SqT K H a (l.map V.int) := by
  refine .inr ⟨_, its, n, h, rfl, rfl, ?_, vals_abs w⟩
  have := congrArg List.length w
  rw [List.length_map, List.length_map, Array.length_toList] at this
  rw [this]
  exact Nat.le_trans hl (by decide)
/-- an error of the class at S is what «except S» names -/
theorem exm_self {K : PySem.W.Frag} {S : Addr} (h1 : PySem.W.subIn K (.ref S) (.type "BaseException") = some true) (h2 : PySem.W.isClsIn K S = true) (h3 : PySem.W.typeIn K (.ref S) = some (.type "type")) (h4 : PySem.W.subIn K (.ref S) (.ref S) = some true) :
    PySem.W.exmOne K (.ref S) (.ref S) = some true := by
  have e1 : (PySem.W.subIn K (.ref S) (.type "BaseException") == some true) = true := by rw [h1] <;> rfl
  have e2 : ((PySem.W.clsIn K S).isSome && PySem.W.typeIn K (.ref S) == some (.type "type")) = true := by
    have h2' : (PySem.W.clsIn K S).isSome = true := h2
    rw [h2', h3] <;> rfl
  show (if (PySem.W.subIn K (.ref S) (.type "BaseException") == some true) = true then (if ((PySem.W.clsIn K S).isSome && PySem.W.typeIn K (.ref S) == some (.type "type")) = true then PySem.W.subIn K (.ref S) (.ref S) else none) else none) = some true
  rw [if_pos e1, if_pos e2]
  exact h4
theorem all_mk {P : Program} {w : World} {K : PySem.W.Frag} {h : Heap} {mg : Str → Option Value} {fa : Addr} (X : K.In h) (G : h.Ns mainGlobals mg) (hfa : mg "answers" = some (.ref fa))
    {c_panel c_box c_turns c_plan c_strike c_pick c_holder f_panelI f_first f_many f_boxI f_put f_leave f_suff f_fill f_turnsI f_over f_next f_go f_tstrike f_tpass f_planI f_strikeI f_swear f_alt f_settle f_exc f_str f_pas f_ans f_let f_turn f_struck f_pickI f_nop f_holdI f_need f_bit f_bits f_stands f_person f_early f_abeg f_aexc f_astr f_apas f_aobj f_alet f_aagr f_aver f_anow f_abox f_afat f_answered f_answer f_callat f_main c_wn c_wr c_ref f_ref : Addr}
    {od_panelI an_panelI od_first an_first od_many an_many od_boxI an_boxI od_put an_put od_leave an_leave od_suff an_suff od_fill an_fill od_turnsI an_turnsI od_over an_over od_next an_next od_go an_go od_tstrike an_tstrike od_tpass an_tpass od_planI an_planI od_strikeI an_strikeI od_swear an_swear od_alt an_alt od_settle an_settle od_exc an_exc od_str an_str od_pas an_pas od_ans an_ans od_let an_let od_turn an_turn od_struck an_struck od_pickI an_pickI od_nop an_nop od_holdI an_holdI od_need an_need od_bit an_bit od_bits an_bits od_stands an_stands od_person an_person od_early an_early od_abeg an_abeg od_aexc an_aexc od_astr an_astr od_apas an_apas od_aobj an_aobj od_alet an_alet od_aagr an_aagr od_aver an_aver od_anow an_anow od_abox an_abox od_afat an_afat od_answered an_answered od_answer an_answer od_callat an_callat od_main an_main od_wn od_wr od_ref an_ref : Option Addr} {sl_panelI sl_first sl_many sl_boxI sl_put sl_leave sl_suff sl_fill sl_turnsI sl_over sl_next sl_go sl_tstrike sl_tpass sl_planI sl_strikeI sl_swear sl_alt sl_settle sl_exc sl_str sl_pas sl_ans sl_let sl_turn sl_struck sl_pickI sl_nop sl_holdI sl_need sl_bit sl_bits sl_stands sl_person sl_early sl_abeg sl_aexc sl_astr sl_apas sl_aobj sl_alet sl_aagr sl_aver sl_anow sl_abox sl_afat sl_answered sl_answer sl_callat sl_main sl_wn sl_wr sl_ref : Array (Option Value)} {oc_panelI kV_panelI dc_panelI pm_panelI cd_panelI ct_panelI oc_first kV_first dc_first pm_first cd_first ct_first oc_many kV_many dc_many pm_many cd_many ct_many oc_boxI kV_boxI dc_boxI pm_boxI cd_boxI ct_boxI oc_put kV_put dc_put pm_put cd_put ct_put oc_leave kV_leave dc_leave pm_leave cd_leave ct_leave oc_suff kV_suff dc_suff pm_suff cd_suff ct_suff oc_fill kV_fill dc_fill pm_fill cd_fill ct_fill oc_turnsI kV_turnsI dc_turnsI pm_turnsI cd_turnsI ct_turnsI oc_over kV_over dc_over pm_over cd_over ct_over oc_next kV_next dc_next pm_next cd_next ct_next oc_go kV_go dc_go pm_go cd_go ct_go oc_tstrike kV_tstrike dc_tstrike pm_tstrike cd_tstrike ct_tstrike oc_tpass kV_tpass dc_tpass pm_tpass cd_tpass ct_tpass oc_planI kV_planI dc_planI pm_planI cd_planI ct_planI oc_strikeI kV_strikeI dc_strikeI pm_strikeI cd_strikeI ct_strikeI oc_swear kV_swear dc_swear pm_swear cd_swear ct_swear oc_alt kV_alt dc_alt pm_alt cd_alt ct_alt oc_settle kV_settle dc_settle pm_settle cd_settle ct_settle oc_exc kV_exc dc_exc pm_exc cd_exc ct_exc oc_str kV_str dc_str pm_str cd_str ct_str oc_pas kV_pas dc_pas pm_pas cd_pas ct_pas oc_ans kV_ans dc_ans pm_ans cd_ans ct_ans oc_let kV_let dc_let pm_let cd_let ct_let oc_turn kV_turn dc_turn pm_turn cd_turn ct_turn oc_struck kV_struck dc_struck pm_struck cd_struck ct_struck oc_pickI kV_pickI dc_pickI pm_pickI cd_pickI ct_pickI oc_nop kV_nop dc_nop pm_nop cd_nop ct_nop oc_holdI kV_holdI dc_holdI pm_holdI cd_holdI ct_holdI oc_need kV_need dc_need pm_need cd_need ct_need oc_bit kV_bit dc_bit pm_bit cd_bit ct_bit oc_bits kV_bits dc_bits pm_bits cd_bits ct_bits oc_stands kV_stands dc_stands pm_stands cd_stands ct_stands oc_person kV_person dc_person pm_person cd_person ct_person oc_early kV_early dc_early pm_early cd_early ct_early oc_abeg kV_abeg dc_abeg pm_abeg cd_abeg ct_abeg oc_aexc kV_aexc dc_aexc pm_aexc cd_aexc ct_aexc oc_astr kV_astr dc_astr pm_astr cd_astr ct_astr oc_apas kV_apas dc_apas pm_apas cd_apas ct_apas oc_aobj kV_aobj dc_aobj pm_aobj cd_aobj ct_aobj oc_alet kV_alet dc_alet pm_alet cd_alet ct_alet oc_aagr kV_aagr dc_aagr pm_aagr cd_aagr ct_aagr oc_aver kV_aver dc_aver pm_aver cd_aver ct_aver oc_anow kV_anow dc_anow pm_anow cd_anow ct_anow oc_abox kV_abox dc_abox pm_abox cd_abox ct_abox oc_afat kV_afat dc_afat pm_afat cd_afat ct_afat oc_answered kV_answered dc_answered pm_answered cd_answered ct_answered oc_answer kV_answer dc_answer pm_answer cd_answer ct_answer oc_callat kV_callat dc_callat pm_callat cd_callat ct_callat oc_main kV_main dc_main pm_main cd_main ct_main oc_ref dc_ref pm_ref cd_ref ct_ref : Value} {t_nobody t_waits t_sits t_excused t_struck t_alternate t_letgo t_noside t_passes t_atbox t_atalts t_sworn t_toofew t_over t_mpanel t_mseats t_malts t_mstrikes t_mfor t_mrow : Tok} {its_wn its_wr : Array Value} {sz_wn sz_wr : Nat}
    {nm q : Str} {N : Addr} {bs : List Value} {sn : List Str} {sub : List Value} {ab : Bool} {col : Option Bool} {dd : Option Addr} {m0 m1 m2 m3 m5 : Option Value}
    (g_panel : PySem.W.nsIn K mainGlobals "Panel" = some (some (.ref c_panel)))
    (pg_panel : PySem.W.plainGet K c_panel Str.empty = true)
    (hd_panel : PySem.W.hasDictIn K c_panel = true)
    (po_panel : PySem.W.plainOver K c_panel = true)
    (sa_panel : PySem.W.findIn K (.ref c_panel) "__setattr__" = some (some (.builtin "object.__setattr__")))
    (mk_panel : PySem.W.makesIn K c_panel = true)
    (kc_panel : PySem.W.keepIn K (.ref c_panel) = true)
    (n_panel_fates : PySem.W.findIn K (.ref c_panel) "fates" = some none)
    (g_box : PySem.W.nsIn K mainGlobals "Box" = some (some (.ref c_box)))
    (pg_box : PySem.W.plainGet K c_box Str.empty = true)
    (hd_box : PySem.W.hasDictIn K c_box = true)
    (po_box : PySem.W.plainOver K c_box = true)
    (sa_box : PySem.W.findIn K (.ref c_box) "__setattr__" = some (some (.builtin "object.__setattr__")))
    (mk_box : PySem.W.makesIn K c_box = true)
    (kc_box : PySem.W.keepIn K (.ref c_box) = true)
    (n_box_seats : PySem.W.findIn K (.ref c_box) "seats" = some none)
    (g_turns : PySem.W.nsIn K mainGlobals "Turns" = some (some (.ref c_turns)))
    (pg_turns : PySem.W.plainGet K c_turns Str.empty = true)
    (hd_turns : PySem.W.hasDictIn K c_turns = true)
    (po_turns : PySem.W.plainOver K c_turns = true)
    (sa_turns : PySem.W.findIn K (.ref c_turns) "__setattr__" = some (some (.builtin "object.__setattr__")))
    (mk_turns : PySem.W.makesIn K c_turns = true)
    (kc_turns : PySem.W.keepIn K (.ref c_turns) = true)
    (n_turns_row : PySem.W.findIn K (.ref c_turns) "row" = some none)
    (n_turns_strikes : PySem.W.findIn K (.ref c_turns) "strikes" = some none)
    (n_turns_at : PySem.W.findIn K (.ref c_turns) "at" = some none)
    (n_turns_passes : PySem.W.findIn K (.ref c_turns) "passes" = some none)
    (g_plan : PySem.W.nsIn K mainGlobals "Plan" = some (some (.ref c_plan)))
    (pg_plan : PySem.W.plainGet K c_plan Str.empty = true)
    (hd_plan : PySem.W.hasDictIn K c_plan = true)
    (po_plan : PySem.W.plainOver K c_plan = true)
    (sa_plan : PySem.W.findIn K (.ref c_plan) "__setattr__" = some (some (.builtin "object.__setattr__")))
    (mk_plan : PySem.W.makesIn K c_plan = true)
    (kc_plan : PySem.W.keepIn K (.ref c_plan) = true)
    (n_plan_seats : PySem.W.findIn K (.ref c_plan) "seats" = some none)
    (n_plan_alternates : PySem.W.findIn K (.ref c_plan) "alternates" = some none)
    (n_plan_for_alternates : PySem.W.findIn K (.ref c_plan) "for_alternates" = some none)
    (n_plan_uses_up : PySem.W.findIn K (.ref c_plan) "uses_up" = some none)
    (n_plan_row : PySem.W.findIn K (.ref c_plan) "row" = some none)
    (g_strike : PySem.W.nsIn K mainGlobals "Strike" = some (some (.ref c_strike)))
    (pg_strike : PySem.W.plainGet K c_strike Str.empty = true)
    (hd_strike : PySem.W.hasDictIn K c_strike = true)
    (po_strike : PySem.W.plainOver K c_strike = true)
    (sa_strike : PySem.W.findIn K (.ref c_strike) "__setattr__" = some (some (.builtin "object.__setattr__")))
    (mk_strike : PySem.W.makesIn K c_strike = true)
    (kc_strike : PySem.W.keepIn K (.ref c_strike) = true)
    (n_strike_side : PySem.W.findIn K (.ref c_strike) "side" = some none)
    (n_strike_who : PySem.W.findIn K (.ref c_strike) "who" = some none)
    (n_strike_seat : PySem.W.findIn K (.ref c_strike) "seat" = some none)
    (g_pick : PySem.W.nsIn K mainGlobals "Picking" = some (some (.ref c_pick)))
    (pg_pick : PySem.W.plainGet K c_pick Str.empty = true)
    (hd_pick : PySem.W.hasDictIn K c_pick = true)
    (po_pick : PySem.W.plainOver K c_pick = true)
    (sa_pick : PySem.W.findIn K (.ref c_pick) "__setattr__" = some (some (.builtin "object.__setattr__")))
    (mk_pick : PySem.W.makesIn K c_pick = true)
    (kc_pick : PySem.W.keepIn K (.ref c_pick) = true)
    (n_pick_panel : PySem.W.findIn K (.ref c_pick) "panel" = some none)
    (n_pick_plan : PySem.W.findIn K (.ref c_pick) "plan" = some none)
    (n_pick_phase : PySem.W.findIn K (.ref c_pick) "phase" = some none)
    (n_pick_box : PySem.W.findIn K (.ref c_pick) "box" = some none)
    (n_pick_turns : PySem.W.findIn K (.ref c_pick) "turns" = some none)
    (n_pick_last : PySem.W.findIn K (.ref c_pick) "last" = some none)
    (n_pick_jury : PySem.W.findIn K (.ref c_pick) "jury" = some none)
    (n_pick_alternates : PySem.W.findIn K (.ref c_pick) "alternates" = some none)
    (n_pick_least : PySem.W.findIn K (.ref c_pick) "least" = some none)
    (g_holder : PySem.W.nsIn K mainGlobals "Holder" = some (some (.ref c_holder)))
    (pg_holder : PySem.W.plainGet K c_holder Str.empty = true)
    (hd_holder : PySem.W.hasDictIn K c_holder = true)
    (po_holder : PySem.W.plainOver K c_holder = true)
    (sa_holder : PySem.W.findIn K (.ref c_holder) "__setattr__" = some (some (.builtin "object.__setattr__")))
    (mk_holder : PySem.W.makesIn K c_holder = true)
    (kc_holder : PySem.W.keepIn K (.ref c_holder) = true)
    (n_holder_picking : PySem.W.findIn K (.ref c_holder) "picking" = some none)
    (a_panelI : PySem.W.findIn K (.ref c_panel) "__init__" = some (some (.ref f_panelI)))
    (i_panelI : PySem.W.isFn K (.ref f_panelI) = true)
    (l_panelI : K.lookup f_panelI = some ⟨oc_panelI, od_panelI, .func (PySem.W.fnOf "__init__" "Panel.__init__" (defArgs sPanelI) (defBody sPanelI) (defScope sPanelI) .none kV_panelI dc_panelI pm_panelI an_panelI cd_panelI ct_panelI), sl_panelI⟩)
    (c_panelI : PySem.W.codeIn K cd_panelI "Panel.__init__" = true)
    (k_panelI : PySem.W.keepIn K (.ref f_panelI) = true)
    (a_first : PySem.W.findIn K (.ref c_panel) "first_waiting" = some (some (.ref f_first)))
    (i_first : PySem.W.isFn K (.ref f_first) = true)
    (l_first : K.lookup f_first = some ⟨oc_first, od_first, .func (PySem.W.fnOf "first_waiting" "Panel.first_waiting" (defArgs sFirst) (defBody sFirst) (defScope sFirst) .none kV_first dc_first pm_first an_first cd_first ct_first), sl_first⟩)
    (c_first : PySem.W.codeIn K cd_first "Panel.first_waiting" = true)
    (k_first : PySem.W.keepIn K (.ref f_first) = true)
    (a_many : PySem.W.findIn K (.ref c_panel) "many_waiting" = some (some (.ref f_many)))
    (i_many : PySem.W.isFn K (.ref f_many) = true)
    (l_many : K.lookup f_many = some ⟨oc_many, od_many, .func (PySem.W.fnOf "many_waiting" "Panel.many_waiting" (defArgs sMany) (defBody sMany) (defScope sMany) .none kV_many dc_many pm_many an_many cd_many ct_many), sl_many⟩)
    (c_many : PySem.W.codeIn K cd_many "Panel.many_waiting" = true)
    (k_many : PySem.W.keepIn K (.ref f_many) = true)
    (a_boxI : PySem.W.findIn K (.ref c_box) "__init__" = some (some (.ref f_boxI)))
    (i_boxI : PySem.W.isFn K (.ref f_boxI) = true)
    (l_boxI : K.lookup f_boxI = some ⟨oc_boxI, od_boxI, .func (PySem.W.fnOf "__init__" "Box.__init__" (defArgs sBoxI) (defBody sBoxI) (defScope sBoxI) .none kV_boxI dc_boxI pm_boxI an_boxI cd_boxI ct_boxI), sl_boxI⟩)
    (c_boxI : PySem.W.codeIn K cd_boxI "Box.__init__" = true)
    (k_boxI : PySem.W.keepIn K (.ref f_boxI) = true)
    (a_put : PySem.W.findIn K (.ref c_box) "put" = some (some (.ref f_put)))
    (i_put : PySem.W.isFn K (.ref f_put) = true)
    (l_put : K.lookup f_put = some ⟨oc_put, od_put, .func (PySem.W.fnOf "put" "Box.put" (defArgs sPut) (defBody sPut) (defScope sPut) .none kV_put dc_put pm_put an_put cd_put ct_put), sl_put⟩)
    (c_put : PySem.W.codeIn K cd_put "Box.put" = true)
    (k_put : PySem.W.keepIn K (.ref f_put) = true)
    (a_leave : PySem.W.findIn K (.ref c_box) "leave" = some (some (.ref f_leave)))
    (i_leave : PySem.W.isFn K (.ref f_leave) = true)
    (l_leave : K.lookup f_leave = some ⟨oc_leave, od_leave, .func (PySem.W.fnOf "leave" "Box.leave" (defArgs sLeave) (defBody sLeave) (defScope sLeave) .none kV_leave dc_leave pm_leave an_leave cd_leave ct_leave), sl_leave⟩)
    (c_leave : PySem.W.codeIn K cd_leave "Box.leave" = true)
    (k_leave : PySem.W.keepIn K (.ref f_leave) = true)
    (a_suff : PySem.W.findIn K (.ref c_box) "suffices" = some (some (.ref f_suff)))
    (i_suff : PySem.W.isFn K (.ref f_suff) = true)
    (l_suff : K.lookup f_suff = some ⟨oc_suff, od_suff, .func (PySem.W.fnOf "suffices" "Box.suffices" (defArgs sSuff) (defBody sSuff) (defScope sSuff) .none kV_suff dc_suff pm_suff an_suff cd_suff ct_suff), sl_suff⟩)
    (c_suff : PySem.W.codeIn K cd_suff "Box.suffices" = true)
    (k_suff : PySem.W.keepIn K (.ref f_suff) = true)
    (a_fill : PySem.W.findIn K (.ref c_box) "fill" = some (some (.ref f_fill)))
    (i_fill : PySem.W.isFn K (.ref f_fill) = true)
    (l_fill : K.lookup f_fill = some ⟨oc_fill, od_fill, .func (PySem.W.fnOf "fill" "Box.fill" (defArgs sFill) (defBody sFill) (defScope sFill) .none kV_fill dc_fill pm_fill an_fill cd_fill ct_fill), sl_fill⟩)
    (c_fill : PySem.W.codeIn K cd_fill "Box.fill" = true)
    (k_fill : PySem.W.keepIn K (.ref f_fill) = true)
    (a_turnsI : PySem.W.findIn K (.ref c_turns) "__init__" = some (some (.ref f_turnsI)))
    (i_turnsI : PySem.W.isFn K (.ref f_turnsI) = true)
    (l_turnsI : K.lookup f_turnsI = some ⟨oc_turnsI, od_turnsI, .func (PySem.W.fnOf "__init__" "Turns.__init__" (defArgs sTurnsI) (defBody sTurnsI) (defScope sTurnsI) .none kV_turnsI dc_turnsI pm_turnsI an_turnsI cd_turnsI ct_turnsI), sl_turnsI⟩)
    (c_turnsI : PySem.W.codeIn K cd_turnsI "Turns.__init__" = true)
    (k_turnsI : PySem.W.keepIn K (.ref f_turnsI) = true)
    (a_over : PySem.W.findIn K (.ref c_turns) "are_over" = some (some (.ref f_over)))
    (i_over : PySem.W.isFn K (.ref f_over) = true)
    (l_over : K.lookup f_over = some ⟨oc_over, od_over, .func (PySem.W.fnOf "are_over" "Turns.are_over" (defArgs sOver) (defBody sOver) (defScope sOver) .none kV_over dc_over pm_over an_over cd_over ct_over), sl_over⟩)
    (c_over : PySem.W.codeIn K cd_over "Turns.are_over" = true)
    (k_over : PySem.W.keepIn K (.ref f_over) = true)
    (a_next : PySem.W.findIn K (.ref c_turns) "next_side" = some (some (.ref f_next)))
    (i_next : PySem.W.isFn K (.ref f_next) = true)
    (l_next : K.lookup f_next = some ⟨oc_next, od_next, .func (PySem.W.fnOf "next_side" "Turns.next_side" (defArgs sNext) (defBody sNext) (defScope sNext) .none kV_next dc_next pm_next an_next cd_next ct_next), sl_next⟩)
    (c_next : PySem.W.codeIn K cd_next "Turns.next_side" = true)
    (k_next : PySem.W.keepIn K (.ref f_next) = true)
    (a_go : PySem.W.findIn K (.ref c_turns) "go_on" = some (some (.ref f_go)))
    (i_go : PySem.W.isFn K (.ref f_go) = true)
    (l_go : K.lookup f_go = some ⟨oc_go, od_go, .func (PySem.W.fnOf "go_on" "Turns.go_on" (defArgs sGo) (defBody sGo) (defScope sGo) .none kV_go dc_go pm_go an_go cd_go ct_go), sl_go⟩)
    (c_go : PySem.W.codeIn K cd_go "Turns.go_on" = true)
    (k_go : PySem.W.keepIn K (.ref f_go) = true)
    (a_tstrike : PySem.W.findIn K (.ref c_turns) "strike" = some (some (.ref f_tstrike)))
    (i_tstrike : PySem.W.isFn K (.ref f_tstrike) = true)
    (l_tstrike : K.lookup f_tstrike = some ⟨oc_tstrike, od_tstrike, .func (PySem.W.fnOf "strike" "Turns.strike" (defArgs sTStrike) (defBody sTStrike) (defScope sTStrike) .none kV_tstrike dc_tstrike pm_tstrike an_tstrike cd_tstrike ct_tstrike), sl_tstrike⟩)
    (c_tstrike : PySem.W.codeIn K cd_tstrike "Turns.strike" = true)
    (k_tstrike : PySem.W.keepIn K (.ref f_tstrike) = true)
    (a_tpass : PySem.W.findIn K (.ref c_turns) "pass_by" = some (some (.ref f_tpass)))
    (i_tpass : PySem.W.isFn K (.ref f_tpass) = true)
    (l_tpass : K.lookup f_tpass = some ⟨oc_tpass, od_tpass, .func (PySem.W.fnOf "pass_by" "Turns.pass_by" (defArgs sTPass) (defBody sTPass) (defScope sTPass) .none kV_tpass dc_tpass pm_tpass an_tpass cd_tpass ct_tpass), sl_tpass⟩)
    (c_tpass : PySem.W.codeIn K cd_tpass "Turns.pass_by" = true)
    (k_tpass : PySem.W.keepIn K (.ref f_tpass) = true)
    (a_planI : PySem.W.findIn K (.ref c_plan) "__init__" = some (some (.ref f_planI)))
    (i_planI : PySem.W.isFn K (.ref f_planI) = true)
    (l_planI : K.lookup f_planI = some ⟨oc_planI, od_planI, .func (PySem.W.fnOf "__init__" "Plan.__init__" (defArgs sPlanI) (defBody sPlanI) (defScope sPlanI) .none kV_planI dc_planI pm_planI an_planI cd_planI ct_planI), sl_planI⟩)
    (c_planI : PySem.W.codeIn K cd_planI "Plan.__init__" = true)
    (k_planI : PySem.W.keepIn K (.ref f_planI) = true)
    (a_strikeI : PySem.W.findIn K (.ref c_strike) "__init__" = some (some (.ref f_strikeI)))
    (i_strikeI : PySem.W.isFn K (.ref f_strikeI) = true)
    (l_strikeI : K.lookup f_strikeI = some ⟨oc_strikeI, od_strikeI, .func (PySem.W.fnOf "__init__" "Strike.__init__" (defArgs sStrikeI) (defBody sStrikeI) (defScope sStrikeI) .none kV_strikeI dc_strikeI pm_strikeI an_strikeI cd_strikeI ct_strikeI), sl_strikeI⟩)
    (c_strikeI : PySem.W.codeIn K cd_strikeI "Strike.__init__" = true)
    (k_strikeI : PySem.W.keepIn K (.ref f_strikeI) = true)
    (a_swear : PySem.W.findIn K (.ref c_pick) "swear" = some (some (.ref f_swear)))
    (i_swear : PySem.W.isFn K (.ref f_swear) = true)
    (l_swear : K.lookup f_swear = some ⟨oc_swear, od_swear, .func (PySem.W.fnOf "swear" "Picking.swear" (defArgs sSwear) (defBody sSwear) (defScope sSwear) .none kV_swear dc_swear pm_swear an_swear cd_swear ct_swear), sl_swear⟩)
    (c_swear : PySem.W.codeIn K cd_swear "Picking.swear" = true)
    (k_swear : PySem.W.keepIn K (.ref f_swear) = true)
    (a_alt : PySem.W.findIn K (.ref c_pick) "begin_alternates" = some (some (.ref f_alt)))
    (i_alt : PySem.W.isFn K (.ref f_alt) = true)
    (l_alt : K.lookup f_alt = some ⟨oc_alt, od_alt, .func (PySem.W.fnOf "begin_alternates" "Picking.begin_alternates" (defArgs sAlt) (defBody sAlt) (defScope sAlt) .none kV_alt dc_alt pm_alt an_alt cd_alt ct_alt), sl_alt⟩)
    (c_alt : PySem.W.codeIn K cd_alt "Picking.begin_alternates" = true)
    (k_alt : PySem.W.keepIn K (.ref f_alt) = true)
    (a_settle : PySem.W.findIn K (.ref c_pick) "settle" = some (some (.ref f_settle)))
    (i_settle : PySem.W.isFn K (.ref f_settle) = true)
    (l_settle : K.lookup f_settle = some ⟨oc_settle, od_settle, .func (PySem.W.fnOf "settle" "Picking.settle" (defArgs sSettle) (defBody sSettle) (defScope sSettle) .none kV_settle dc_settle pm_settle an_settle cd_settle ct_settle), sl_settle⟩)
    (c_settle : PySem.W.codeIn K cd_settle "Picking.settle" = true)
    (k_settle : PySem.W.keepIn K (.ref f_settle) = true)
    (a_exc : PySem.W.findIn K (.ref c_pick) "excuse" = some (some (.ref f_exc)))
    (i_exc : PySem.W.isFn K (.ref f_exc) = true)
    (l_exc : K.lookup f_exc = some ⟨oc_exc, od_exc, .func (PySem.W.fnOf "excuse" "Picking.excuse" (defArgs sExc) (defBody sExc) (defScope sExc) .none kV_exc dc_exc pm_exc an_exc cd_exc ct_exc), sl_exc⟩)
    (c_exc : PySem.W.codeIn K cd_exc "Picking.excuse" = true)
    (k_exc : PySem.W.keepIn K (.ref f_exc) = true)
    (a_str : PySem.W.findIn K (.ref c_pick) "strike" = some (some (.ref f_str)))
    (i_str : PySem.W.isFn K (.ref f_str) = true)
    (l_str : K.lookup f_str = some ⟨oc_str, od_str, .func (PySem.W.fnOf "strike" "Picking.strike" (defArgs sStr) (defBody sStr) (defScope sStr) .none kV_str dc_str pm_str an_str cd_str ct_str), sl_str⟩)
    (c_str : PySem.W.codeIn K cd_str "Picking.strike" = true)
    (k_str : PySem.W.keepIn K (.ref f_str) = true)
    (a_pas : PySem.W.findIn K (.ref c_pick) "pass_turn" = some (some (.ref f_pas)))
    (i_pas : PySem.W.isFn K (.ref f_pas) = true)
    (l_pas : K.lookup f_pas = some ⟨oc_pas, od_pas, .func (PySem.W.fnOf "pass_turn" "Picking.pass_turn" (defArgs sPas) (defBody sPas) (defScope sPas) .none kV_pas dc_pas pm_pas an_pas cd_pas ct_pas), sl_pas⟩)
    (c_pas : PySem.W.codeIn K cd_pas "Picking.pass_turn" = true)
    (k_pas : PySem.W.keepIn K (.ref f_pas) = true)
    (a_ans : PySem.W.findIn K (.ref c_pick) "answer_objection" = some (some (.ref f_ans)))
    (i_ans : PySem.W.isFn K (.ref f_ans) = true)
    (l_ans : K.lookup f_ans = some ⟨oc_ans, od_ans, .func (PySem.W.fnOf "answer_objection" "Picking.answer_objection" (defArgs sAns) (defBody sAns) (defScope sAns) .none kV_ans dc_ans pm_ans an_ans cd_ans ct_ans), sl_ans⟩)
    (c_ans : PySem.W.codeIn K cd_ans "Picking.answer_objection" = true)
    (k_ans : PySem.W.keepIn K (.ref f_ans) = true)
    (a_let : PySem.W.findIn K (.ref c_pick) "let_go" = some (some (.ref f_let)))
    (i_let : PySem.W.isFn K (.ref f_let) = true)
    (l_let : K.lookup f_let = some ⟨oc_let, od_let, .func (PySem.W.fnOf "let_go" "Picking.let_go" (defArgs sLet) (defBody sLet) (defScope sLet) .none kV_let dc_let pm_let an_let cd_let ct_let), sl_let⟩)
    (c_let : PySem.W.codeIn K cd_let "Picking.let_go" = true)
    (k_let : PySem.W.keepIn K (.ref f_let) = true)
    (a_turn : PySem.W.findIn K (.ref c_pick) "turn" = some (some (.ref f_turn)))
    (i_turn : PySem.W.isFn K (.ref f_turn) = true)
    (l_turn : K.lookup f_turn = some ⟨oc_turn, od_turn, .func (PySem.W.fnOf "turn" "Picking.turn" (defArgs sTurn) (defBody sTurn) (defScope sTurn) .none kV_turn dc_turn pm_turn an_turn cd_turn ct_turn), sl_turn⟩)
    (c_turn : PySem.W.codeIn K cd_turn "Picking.turn" = true)
    (k_turn : PySem.W.keepIn K (.ref f_turn) = true)
    (a_struck : PySem.W.findIn K (.ref c_pick) "struck" = some (some (.ref f_struck)))
    (i_struck : PySem.W.isFn K (.ref f_struck) = true)
    (l_struck : K.lookup f_struck = some ⟨oc_struck, od_struck, .func (PySem.W.fnOf "struck" "Picking.struck" (defArgs sStruck) (defBody sStruck) (defScope sStruck) .none kV_struck dc_struck pm_struck an_struck cd_struck ct_struck), sl_struck⟩)
    (c_struck : PySem.W.codeIn K cd_struck "Picking.struck" = true)
    (k_struck : PySem.W.keepIn K (.ref f_struck) = true)
    (a_pickI : PySem.W.findIn K (.ref c_pick) "__init__" = some (some (.ref f_pickI)))
    (i_pickI : PySem.W.isFn K (.ref f_pickI) = true)
    (l_pickI : K.lookup f_pickI = some ⟨oc_pickI, od_pickI, .func (PySem.W.fnOf "__init__" "Picking.__init__" (defArgs sPickI) (defBody sPickI) (defScope sPickI) .none kV_pickI dc_pickI pm_pickI an_pickI cd_pickI ct_pickI), sl_pickI⟩)
    (c_pickI : PySem.W.codeIn K cd_pickI "Picking.__init__" = true)
    (k_pickI : PySem.W.keepIn K (.ref f_pickI) = true)
    (a_nop : PySem.W.nsIn K mainGlobals "no_picking" = some (some (.ref f_nop)))
    (l_nop : K.lookup f_nop = some ⟨oc_nop, od_nop, .func (PySem.W.fnOf "no_picking" "no_picking" (defArgs sNoP) (defBody sNoP) (defScope sNoP) .none kV_nop dc_nop pm_nop an_nop cd_nop ct_nop), sl_nop⟩)
    (c_nop : PySem.W.codeIn K cd_nop "no_picking" = true)
    (k_nop : PySem.W.keepIn K (.ref f_nop) = true)
    (a_holdI : PySem.W.findIn K (.ref c_holder) "__init__" = some (some (.ref f_holdI)))
    (i_holdI : PySem.W.isFn K (.ref f_holdI) = true)
    (l_holdI : K.lookup f_holdI = some ⟨oc_holdI, od_holdI, .func (PySem.W.fnOf "__init__" "Holder.__init__" (defArgs sHoldI) (defBody sHoldI) (defScope sHoldI) .none kV_holdI dc_holdI pm_holdI an_holdI cd_holdI ct_holdI), sl_holdI⟩)
    (c_holdI : PySem.W.codeIn K cd_holdI "Holder.__init__" = true)
    (k_holdI : PySem.W.keepIn K (.ref f_holdI) = true)
    (a_need : PySem.W.nsIn K mainGlobals "need" = some (some (.ref f_need)))
    (l_need : K.lookup f_need = some ⟨oc_need, od_need, .func (PySem.W.fnOf "need" "need" (defArgs sNeed) (defBody sNeed) (defScope sNeed) .none kV_need dc_need pm_need an_need cd_need ct_need), sl_need⟩)
    (c_need : PySem.W.codeIn K cd_need "need" = true)
    (k_need : PySem.W.keepIn K (.ref f_need) = true)
    (a_bit : PySem.W.nsIn K mainGlobals "is_bit" = some (some (.ref f_bit)))
    (l_bit : K.lookup f_bit = some ⟨oc_bit, od_bit, .func (PySem.W.fnOf "is_bit" "is_bit" (defArgs sBit) (defBody sBit) (defScope sBit) .none kV_bit dc_bit pm_bit an_bit cd_bit ct_bit), sl_bit⟩)
    (c_bit : PySem.W.codeIn K cd_bit "is_bit" = true)
    (k_bit : PySem.W.keepIn K (.ref f_bit) = true)
    (a_bits : PySem.W.nsIn K mainGlobals "are_bits" = some (some (.ref f_bits)))
    (l_bits : K.lookup f_bits = some ⟨oc_bits, od_bits, .func (PySem.W.fnOf "are_bits" "are_bits" (defArgs sBits) (defBody sBits) (defScope sBits) .none kV_bits dc_bits pm_bits an_bits cd_bits ct_bits), sl_bits⟩)
    (c_bits : PySem.W.codeIn K cd_bits "are_bits" = true)
    (k_bits : PySem.W.keepIn K (.ref f_bits) = true)
    (a_stands : PySem.W.nsIn K mainGlobals "stands" = some (some (.ref f_stands)))
    (l_stands : K.lookup f_stands = some ⟨oc_stands, od_stands, .func (PySem.W.fnOf "stands" "stands" (defArgs sStands) (defBody sStands) (defScope sStands) .none kV_stands dc_stands pm_stands an_stands cd_stands ct_stands), sl_stands⟩)
    (c_stands : PySem.W.codeIn K cd_stands "stands" = true)
    (k_stands : PySem.W.keepIn K (.ref f_stands) = true)
    (a_person : PySem.W.nsIn K mainGlobals "need_person" = some (some (.ref f_person)))
    (l_person : K.lookup f_person = some ⟨oc_person, od_person, .func (PySem.W.fnOf "need_person" "need_person" (defArgs sPerson) (defBody sPerson) (defScope sPerson) .none kV_person dc_person pm_person an_person cd_person ct_person), sl_person⟩)
    (c_person : PySem.W.codeIn K cd_person "need_person" = true)
    (k_person : PySem.W.keepIn K (.ref f_person) = true)
    (a_early : PySem.W.nsIn K mainGlobals "need_early" = some (some (.ref f_early)))
    (l_early : K.lookup f_early = some ⟨oc_early, od_early, .func (PySem.W.fnOf "need_early" "need_early" (defArgs sEarly) (defBody sEarly) (defScope sEarly) .none kV_early dc_early pm_early an_early cd_early ct_early), sl_early⟩)
    (c_early : PySem.W.codeIn K cd_early "need_early" = true)
    (k_early : PySem.W.keepIn K (.ref f_early) = true)
    (a_abeg : PySem.W.nsIn K mainGlobals "begin" = some (some (.ref f_abeg)))
    (l_abeg : K.lookup f_abeg = some ⟨oc_abeg, od_abeg, .func (PySem.W.fnOf "begin" "begin" (defArgs sABeg) (defBody sABeg) (defScope sABeg) .none kV_abeg dc_abeg pm_abeg an_abeg cd_abeg ct_abeg), sl_abeg⟩)
    (c_abeg : PySem.W.codeIn K cd_abeg "begin" = true)
    (k_abeg : PySem.W.keepIn K (.ref f_abeg) = true)
    (a_aexc : PySem.W.nsIn K mainGlobals "excuse" = some (some (.ref f_aexc)))
    (l_aexc : K.lookup f_aexc = some ⟨oc_aexc, od_aexc, .func (PySem.W.fnOf "excuse" "excuse" (defArgs sAExc) (defBody sAExc) (defScope sAExc) .none kV_aexc dc_aexc pm_aexc an_aexc cd_aexc ct_aexc), sl_aexc⟩)
    (c_aexc : PySem.W.codeIn K cd_aexc "excuse" = true)
    (k_aexc : PySem.W.keepIn K (.ref f_aexc) = true)
    (a_astr : PySem.W.nsIn K mainGlobals "strike" = some (some (.ref f_astr)))
    (l_astr : K.lookup f_astr = some ⟨oc_astr, od_astr, .func (PySem.W.fnOf "strike" "strike" (defArgs sAStr) (defBody sAStr) (defScope sAStr) .none kV_astr dc_astr pm_astr an_astr cd_astr ct_astr), sl_astr⟩)
    (c_astr : PySem.W.codeIn K cd_astr "strike" = true)
    (k_astr : PySem.W.keepIn K (.ref f_astr) = true)
    (a_apas : PySem.W.nsIn K mainGlobals "pass_by" = some (some (.ref f_apas)))
    (l_apas : K.lookup f_apas = some ⟨oc_apas, od_apas, .func (PySem.W.fnOf "pass_by" "pass_by" (defArgs sAPas) (defBody sAPas) (defScope sAPas) .none kV_apas dc_apas pm_apas an_apas cd_apas ct_apas), sl_apas⟩)
    (c_apas : PySem.W.codeIn K cd_apas "pass_by" = true)
    (k_apas : PySem.W.keepIn K (.ref f_apas) = true)
    (a_aobj : PySem.W.nsIn K mainGlobals "objection" = some (some (.ref f_aobj)))
    (l_aobj : K.lookup f_aobj = some ⟨oc_aobj, od_aobj, .func (PySem.W.fnOf "objection" "objection" (defArgs sAObj) (defBody sAObj) (defScope sAObj) .none kV_aobj dc_aobj pm_aobj an_aobj cd_aobj ct_aobj), sl_aobj⟩)
    (c_aobj : PySem.W.codeIn K cd_aobj "objection" = true)
    (k_aobj : PySem.W.keepIn K (.ref f_aobj) = true)
    (a_alet : PySem.W.nsIn K mainGlobals "let" = some (some (.ref f_alet)))
    (l_alet : K.lookup f_alet = some ⟨oc_alet, od_alet, .func (PySem.W.fnOf "let" "let" (defArgs sALet) (defBody sALet) (defScope sALet) .none kV_alet dc_alet pm_alet an_alet cd_alet ct_alet), sl_alet⟩)
    (c_alet : PySem.W.codeIn K cd_alet "let" = true)
    (k_alet : PySem.W.keepIn K (.ref f_alet) = true)
    (a_aagr : PySem.W.nsIn K mainGlobals "agree" = some (some (.ref f_aagr)))
    (l_aagr : K.lookup f_aagr = some ⟨oc_aagr, od_aagr, .func (PySem.W.fnOf "agree" "agree" (defArgs sAAgr) (defBody sAAgr) (defScope sAAgr) .none kV_aagr dc_aagr pm_aagr an_aagr cd_aagr ct_aagr), sl_aagr⟩)
    (c_aagr : PySem.W.codeIn K cd_aagr "agree" = true)
    (k_aagr : PySem.W.keepIn K (.ref f_aagr) = true)
    (a_aver : PySem.W.nsIn K mainGlobals "verdict" = some (some (.ref f_aver)))
    (l_aver : K.lookup f_aver = some ⟨oc_aver, od_aver, .func (PySem.W.fnOf "verdict" "verdict" (defArgs sAVer) (defBody sAVer) (defScope sAVer) .none kV_aver dc_aver pm_aver an_aver cd_aver ct_aver), sl_aver⟩)
    (c_aver : PySem.W.codeIn K cd_aver "verdict" = true)
    (k_aver : PySem.W.keepIn K (.ref f_aver) = true)
    (a_anow : PySem.W.nsIn K mainGlobals "now" = some (some (.ref f_anow)))
    (l_anow : K.lookup f_anow = some ⟨oc_anow, od_anow, .func (PySem.W.fnOf "now" "now" (defArgs sANow) (defBody sANow) (defScope sANow) .none kV_anow dc_anow pm_anow an_anow cd_anow ct_anow), sl_anow⟩)
    (c_anow : PySem.W.codeIn K cd_anow "now" = true)
    (k_anow : PySem.W.keepIn K (.ref f_anow) = true)
    (a_abox : PySem.W.nsIn K mainGlobals "box" = some (some (.ref f_abox)))
    (l_abox : K.lookup f_abox = some ⟨oc_abox, od_abox, .func (PySem.W.fnOf "box" "box" (defArgs sABox) (defBody sABox) (defScope sABox) .none kV_abox dc_abox pm_abox an_abox cd_abox ct_abox), sl_abox⟩)
    (c_abox : PySem.W.codeIn K cd_abox "box" = true)
    (k_abox : PySem.W.keepIn K (.ref f_abox) = true)
    (a_afat : PySem.W.nsIn K mainGlobals "fates" = some (some (.ref f_afat)))
    (l_afat : K.lookup f_afat = some ⟨oc_afat, od_afat, .func (PySem.W.fnOf "fates" "fates" (defArgs sAFat) (defBody sAFat) (defScope sAFat) .none kV_afat dc_afat pm_afat an_afat cd_afat ct_afat), sl_afat⟩)
    (c_afat : PySem.W.codeIn K cd_afat "fates" = true)
    (k_afat : PySem.W.keepIn K (.ref f_afat) = true)
    (a_answered : PySem.W.nsIn K mainGlobals "answered" = some (some (.ref f_answered)))
    (l_answered : K.lookup f_answered = some ⟨oc_answered, od_answered, .func (PySem.W.fnOf "answered" "answered" (defArgs sAnswered) (defBody sAnswered) (defScope sAnswered) .none kV_answered dc_answered pm_answered an_answered cd_answered ct_answered), sl_answered⟩)
    (c_answered : PySem.W.codeIn K cd_answered "answered" = true)
    (k_answered : PySem.W.keepIn K (.ref f_answered) = true)
    (a_answer : PySem.W.nsIn K mainGlobals "answer" = some (some (.ref f_answer)))
    (l_answer : K.lookup f_answer = some ⟨oc_answer, od_answer, .func (PySem.W.fnOf "answer" "answer" (defArgs sAnswer) (defBody sAnswer) (defScope sAnswer) .none kV_answer dc_answer pm_answer an_answer cd_answer ct_answer), sl_answer⟩)
    (c_answer : PySem.W.codeIn K cd_answer "answer" = true)
    (k_answer : PySem.W.keepIn K (.ref f_answer) = true)
    (a_callat : PySem.W.nsIn K mainGlobals "call_at" = some (some (.ref f_callat)))
    (l_callat : K.lookup f_callat = some ⟨oc_callat, od_callat, .func (PySem.W.fnOf "call_at" "call_at" (defArgs sCallAt) (defBody sCallAt) (defScope sCallAt) .none kV_callat dc_callat pm_callat an_callat cd_callat ct_callat), sl_callat⟩)
    (c_callat : PySem.W.codeIn K cd_callat "call_at" = true)
    (k_callat : PySem.W.keepIn K (.ref f_callat) = true)
    (a_main : PySem.W.nsIn K mainGlobals "answers" = some (some (.ref f_main)))
    (l_main : K.lookup f_main = some ⟨oc_main, od_main, .func (PySem.W.fnOf "answers" "answers" (defArgs sMain) (defBody sMain) (defScope sMain) .none kV_main dc_main pm_main an_main cd_main ct_main), sl_main⟩)
    (c_main : PySem.W.codeIn K cd_main "answers" = true)
    (k_main : PySem.W.keepIn K (.ref f_main) = true)
    (v_nobody : PySem.W.nsIn K mainGlobals "NOBODY" = some (some (.int (-1) t_nobody)))
    (v_waits : PySem.W.nsIn K mainGlobals "WAITS" = some (some (.int 0 t_waits)))
    (v_sits : PySem.W.nsIn K mainGlobals "SITS" = some (some (.int 1 t_sits)))
    (v_excused : PySem.W.nsIn K mainGlobals "EXCUSED" = some (some (.int 2 t_excused)))
    (v_struck : PySem.W.nsIn K mainGlobals "STRUCK" = some (some (.int 3 t_struck)))
    (v_alternate : PySem.W.nsIn K mainGlobals "ALTERNATE" = some (some (.int 5 t_alternate)))
    (v_letgo : PySem.W.nsIn K mainGlobals "LET_GO" = some (some (.int 6 t_letgo)))
    (v_noside : PySem.W.nsIn K mainGlobals "NO_SIDE" = some (some (.int (-1) t_noside)))
    (v_passes : PySem.W.nsIn K mainGlobals "PASSES_THAT_END" = some (some (.int 2 t_passes)))
    (v_atbox : PySem.W.nsIn K mainGlobals "AT_BOX" = some (some (.int 0 t_atbox)))
    (v_atalts : PySem.W.nsIn K mainGlobals "AT_ALTERNATES" = some (some (.int 1 t_atalts)))
    (v_sworn : PySem.W.nsIn K mainGlobals "SWORN" = some (some (.int 2 t_sworn)))
    (v_toofew : PySem.W.nsIn K mainGlobals "TOO_FEW" = some (some (.int 3 t_toofew)))
    (v_over : PySem.W.nsIn K mainGlobals "OVER" = some (some (.int 4 t_over)))
    (v_mpanel : PySem.W.nsIn K mainGlobals "MOST_PANEL" = some (some (.int 60 t_mpanel)))
    (v_mseats : PySem.W.nsIn K mainGlobals "MOST_SEATS" = some (some (.int 12 t_mseats)))
    (v_malts : PySem.W.nsIn K mainGlobals "MOST_ALTERNATES" = some (some (.int 4 t_malts)))
    (v_mstrikes : PySem.W.nsIn K mainGlobals "MOST_STRIKES" = some (some (.int 10 t_mstrikes)))
    (v_mfor : PySem.W.nsIn K mainGlobals "MOST_FOR_ALTERNATES" = some (some (.int 3 t_mfor)))
    (v_mrow : PySem.W.nsIn K mainGlobals "LONGEST_ROW" = some (some (.int 10 t_mrow)))
    (b_range : PySem.W.nsIn K mainGlobals "range" = some none)
    (b_len : PySem.W.nsIn K mainGlobals "len" = some none)
    (b_sum : PySem.W.nsIn K mainGlobals "sum" = some none)
    (b_max : PySem.W.nsIn K mainGlobals "max" = some none)
    (b_list : PySem.W.nsIn K mainGlobals "list" = some none)
    (g_wn : PySem.W.nsIn K mainGlobals "WHOLE_NUMBERS" = some (some (.ref c_wn)))
    (l_wn : K.lookup c_wn = some ⟨.type "tuple", od_wn, .seq its_wn sz_wn, sl_wn⟩)
    (g_wr : PySem.W.nsIn K mainGlobals "WITH_ROW" = some (some (.ref c_wr)))
    (l_wr : K.lookup c_wr = some ⟨.type "tuple", od_wr, .seq its_wr sz_wr, sl_wr⟩)
    (w_wn : its_wn.toList.map absV = ([0, 7, 1, 2, 1, 2, 1, 1, 0, 0, 0, 0] : List Int).map fun i => some (V.int i))
    (w_wr : its_wr.toList.map absV = ([1, 8] : List Int).map fun i => some (V.int i))
    (g_ref : PySem.W.nsIn K mainGlobals "Refused" = some (some (.ref c_ref)))
    (x_ref : K.lookup c_ref = some (excClassObj nm q c_ref N bs [.type "ValueError", .type "Exception", .type "BaseException", .type "object"] true sn sub ab col dd m0 m1 m2 m3 m5 "ValueError.__new__"))
    (sa_ref : PySem.W.findIn K (.ref c_ref) "__setattr__" = some (some (.builtin "object.__setattr__")))
    (ga_ref : PySem.W.findIn K (.ref c_ref) "__getattribute__" = some (some (.builtin "BaseException.__getattribute__")))
    (gg_ref : PySem.W.findIn K (.ref c_ref) "__getattr__" = some none)
    (nb_ref : PySem.W.findIn K (.ref c_ref) "number" = some none)
    (a_ref : PySem.W.findIn K (.ref c_ref) "__init__" = some (some (.ref f_ref)))
    (t_ref : PySem.W.typeIn K (.ref f_ref) = some (.type "function"))
    (l_ref : K.lookup f_ref = some ⟨oc_ref, od_ref, .func (PySem.W.fnOf "__init__" "Refused.__init__" (PySem.LowX.iA ⟨206, 17, 206, 21⟩ ⟨206, 23, 206, 29⟩) (PySem.LowX.iB ⟨207, 8, 207, 12⟩ ⟨207, 8, 207, 19⟩ ⟨207, 22, 207, 28⟩ ⟨207, 8, 207, 28⟩) PySem.LowX.iS .none .none dc_ref pm_ref an_ref cd_ref ct_ref), sl_ref⟩)
    (cd_r : PySem.W.codeIn K cd_ref "Refused.__init__" = true)
    (kc_ref : PySem.W.keepIn K (.ref c_ref) = true)
    (e_ref : PySem.W.subIn K (.ref c_ref) (.type "BaseException") = some true)
    (ty_ref : PySem.W.typeIn K (.ref c_ref) = some (.type "type"))
    (h_ref : PySem.W.hasDictIn K c_ref = true)
    (ic_ref : PySem.W.isClsIn K c_ref = true)
    (s_ref : PySem.W.subIn K (.ref c_ref) (.ref c_ref) = some true)
    : ∃ fd : FuncData, (∀ (s : Shared) (us : List Value), us.length = (["calls"] : List Str).length → BindsTo s fd ⟨us, []⟩ ((["calls"] : List Str).zip us)) ∧ ∀ base : Heap, K.In base → base.Ns mainGlobals mg → FnOk P w K mg base CX0 10 fa fd ["calls"] (spMain K) := by
  have e := hfa.symm.trans (PySem.W.mg_of X G a_main)
  cases e
  let T : Ts := ⟨c_panel, c_box, c_turns, c_plan, c_strike, c_pick, c_holder, c_ref, f_ref⟩
  have Gm : Mg mg := ⟨⟨_, PySem.W.mg_of X G v_nobody⟩, ⟨_, PySem.W.mg_of X G v_waits⟩, ⟨_, PySem.W.mg_of X G v_sits⟩, ⟨_, PySem.W.mg_of X G v_excused⟩, ⟨_, PySem.W.mg_of X G v_struck⟩, ⟨_, PySem.W.mg_of X G v_alternate⟩, ⟨_, PySem.W.mg_of X G v_letgo⟩, ⟨_, PySem.W.mg_of X G v_noside⟩, ⟨_, PySem.W.mg_of X G v_passes⟩, ⟨_, PySem.W.mg_of X G v_atbox⟩, ⟨_, PySem.W.mg_of X G v_atalts⟩, ⟨_, PySem.W.mg_of X G v_sworn⟩, ⟨_, PySem.W.mg_of X G v_toofew⟩, ⟨_, PySem.W.mg_of X G v_over⟩, ⟨_, PySem.W.mg_of X G v_mpanel⟩, ⟨_, PySem.W.mg_of X G v_mseats⟩, ⟨_, PySem.W.mg_of X G v_malts⟩, ⟨_, PySem.W.mg_of X G v_mstrikes⟩, ⟨_, PySem.W.mg_of X G v_mfor⟩, ⟨_, PySem.W.mg_of X G v_mrow⟩, PySem.W.mg_none_of X G b_range, PySem.W.mg_none_of X G b_len, PySem.W.mg_none_of X G b_sum, PySem.W.mg_none_of X G b_max, PySem.W.mg_none_of X G b_list⟩
  have C : ClsTxt K T := { panel := ⟨pg_panel, hd_panel, po_panel, sa_panel⟩, box := ⟨pg_box, hd_box, po_box, sa_box⟩, turns := ⟨pg_turns, hd_turns, po_turns, sa_turns⟩, plan := ⟨pg_plan, hd_plan, po_plan, sa_plan⟩, strike := ⟨pg_strike, hd_strike, po_strike, sa_strike⟩, pick := ⟨pg_pick, hd_pick, po_pick, sa_pick⟩, holder := ⟨pg_holder, hd_holder, po_holder, sa_holder⟩, panelN := n_panel_fates, boxN := n_box_seats, turnsN := ⟨n_turns_row, n_turns_strikes, n_turns_at, n_turns_passes⟩, planN := ⟨n_plan_seats, n_plan_alternates, n_plan_for_alternates, n_plan_uses_up, n_plan_row⟩, strikeN := ⟨n_strike_side, n_strike_who, n_strike_seat⟩, pickN := ⟨⟨n_pick_panel, n_pick_plan, n_pick_phase, n_pick_box, n_pick_turns⟩, n_pick_last, n_pick_jury, n_pick_alternates, n_pick_least⟩, holderN := n_holder_picking }
  have R : PySem.LowX.LowTxt K mg T.ref T.refI := { gC := PySem.W.mg_of X G g_ref, cls := ⟨nm, q, N, bs, _, sn, sub, ab, col, dd, m0, m1, m2, m3, m5, x_ref, by decide +kernel⟩, sa := sa_ref, ga := ga_ref, gg := gg_ref, noN := nb_ref, iC := a_ref, tC := t_ref, kC := kc_ref, exC := e_ref, tyC := ty_ref, hdC := h_ref, te := exm_self e_ref ic_ref ty_ref s_ref, fn := ⟨_, _, _, _, _, _, _, _, _, _, _, _, _, _, l_ref, cd_r⟩ }
  have B : Tabs K mg c_wn c_wr := ⟨PySem.W.mg_of X G g_wn, PySem.W.mg_of X G g_wr, sqT_mk l_wn w_wn (by decide), sqT_mk l_wr w_wr (by decide)⟩
  have D_panelI : DefOk K "__init__" "Panel.__init__" sPanelI ["self", "many"] f_panelI := def_mk l_panelI c_panelI k_panelI (fun _ _ _ _ _ _ us hl => match us, hl with | [_, _], _ => rfl)
  have D_first : DefOk K "first_waiting" "Panel.first_waiting" sFirst ["self"] f_first := def_mk l_first c_first k_first (fun _ _ _ _ _ _ us hl => match us, hl with | [_], _ => rfl)
  have D_many : DefOk K "many_waiting" "Panel.many_waiting" sMany ["self"] f_many := def_mk l_many c_many k_many (fun _ _ _ _ _ _ us hl => match us, hl with | [_], _ => rfl)
  have D_boxI : DefOk K "__init__" "Box.__init__" sBoxI ["self", "seats"] f_boxI := def_mk l_boxI c_boxI k_boxI (fun _ _ _ _ _ _ us hl => match us, hl with | [_, _], _ => rfl)
  have D_put : DefOk K "put" "Box.put" sPut ["self", "panel", "seat", "person"] f_put := def_mk l_put c_put k_put (fun _ _ _ _ _ _ us hl => match us, hl with | [_, _, _, _], _ => rfl)
  have D_leave : DefOk K "leave" "Box.leave" sLeave ["self", "panel", "person", "fate"] f_leave := def_mk l_leave c_leave k_leave (fun _ _ _ _ _ _ us hl => match us, hl with | [_, _, _, _], _ => rfl)
  have D_suff : DefOk K "suffices" "Box.suffices" sSuff ["self"] f_suff := def_mk l_suff c_suff k_suff (fun _ _ _ _ _ _ us hl => match us, hl with | [_], _ => rfl)
  have D_fill : DefOk K "fill" "Box.fill" sFill ["self", "panel"] f_fill := def_mk l_fill c_fill k_fill (fun _ _ _ _ _ _ us hl => match us, hl with | [_, _], _ => rfl)
  have D_turnsI : DefOk K "__init__" "Turns.__init__" sTurnsI ["self", "row", "strikes"] f_turnsI := def_mk l_turnsI c_turnsI k_turnsI (fun _ _ _ _ _ _ us hl => match us, hl with | [_, _, _], _ => rfl)
  have D_over : DefOk K "are_over" "Turns.are_over" sOver ["self"] f_over := def_mk l_over c_over k_over (fun _ _ _ _ _ _ us hl => match us, hl with | [_], _ => rfl)
  have D_next : DefOk K "next_side" "Turns.next_side" sNext ["self"] f_next := def_mk l_next c_next k_next (fun _ _ _ _ _ _ us hl => match us, hl with | [_], _ => rfl)
  have D_go : DefOk K "go_on" "Turns.go_on" sGo ["self"] f_go := def_mk l_go c_go k_go (fun _ _ _ _ _ _ us hl => match us, hl with | [_], _ => rfl)
  have D_tstrike : DefOk K "strike" "Turns.strike" sTStrike ["self"] f_tstrike := def_mk l_tstrike c_tstrike k_tstrike (fun _ _ _ _ _ _ us hl => match us, hl with | [_], _ => rfl)
  have D_tpass : DefOk K "pass_by" "Turns.pass_by" sTPass ["self", "uses_up"] f_tpass := def_mk l_tpass c_tpass k_tpass (fun _ _ _ _ _ _ us hl => match us, hl with | [_, _], _ => rfl)
  have D_planI : DefOk K "__init__" "Plan.__init__" sPlanI ["self", "seats", "alternates", "for_alternates", "uses_up", "row"] f_planI := def_mk l_planI c_planI k_planI (fun _ _ _ _ _ _ us hl => match us, hl with | [_, _, _, _, _, _], _ => rfl)
  have D_strikeI : DefOk K "__init__" "Strike.__init__" sStrikeI ["self", "side", "who", "seat"] f_strikeI := def_mk l_strikeI c_strikeI k_strikeI (fun _ _ _ _ _ _ us hl => match us, hl with | [_, _, _, _], _ => rfl)
  have D_swear : DefOk K "swear" "Picking.swear" sSwear ["self"] f_swear := def_mk l_swear c_swear k_swear (fun _ _ _ _ _ _ us hl => match us, hl with | [_], _ => rfl)
  have D_alt : DefOk K "begin_alternates" "Picking.begin_alternates" sAlt ["self"] f_alt := def_mk l_alt c_alt k_alt (fun _ _ _ _ _ _ us hl => match us, hl with | [_], _ => rfl)
  have D_settle : DefOk K "settle" "Picking.settle" sSettle ["self"] f_settle := def_mk l_settle c_settle k_settle (fun _ _ _ _ _ _ us hl => match us, hl with | [_], _ => rfl)
  have D_exc : DefOk K "excuse" "Picking.excuse" sExc ["self", "who"] f_exc := def_mk l_exc c_exc k_exc (fun _ _ _ _ _ _ us hl => match us, hl with | [_, _], _ => rfl)
  have D_str : DefOk K "strike" "Picking.strike" sStr ["self", "side", "who"] f_str := def_mk l_str c_str k_str (fun _ _ _ _ _ _ us hl => match us, hl with | [_, _, _], _ => rfl)
  have D_pas : DefOk K "pass_turn" "Picking.pass_turn" sPas ["self"] f_pas := def_mk l_pas c_pas k_pas (fun _ _ _ _ _ _ us hl => match us, hl with | [_], _ => rfl)
  have D_ans : DefOk K "answer_objection" "Picking.answer_objection" sAns ["self", "upheld"] f_ans := def_mk l_ans c_ans k_ans (fun _ _ _ _ _ _ us hl => match us, hl with | [_, _], _ => rfl)
  have D_let : DefOk K "let_go" "Picking.let_go" sLet ["self", "who"] f_let := def_mk l_let c_let k_let (fun _ _ _ _ _ _ us hl => match us, hl with | [_, _], _ => rfl)
  have D_turn : DefOk K "turn" "Picking.turn" sTurn ["self"] f_turn := def_mk l_turn c_turn k_turn (fun _ _ _ _ _ _ us hl => match us, hl with | [_], _ => rfl)
  have D_struck : DefOk K "struck" "Picking.struck" sStruck ["self"] f_struck := def_mk l_struck c_struck k_struck (fun _ _ _ _ _ _ us hl => match us, hl with | [_], _ => rfl)
  have D_pickI : DefOk K "__init__" "Picking.__init__" sPickI ["self", "many", "plan", "strikes"] f_pickI := def_mk l_pickI c_pickI k_pickI (fun _ _ _ _ _ _ us hl => match us, hl with | [_, _, _, _], _ => rfl)
  have D_nop : DefOk K "no_picking" "no_picking" sNoP [] f_nop := def_mk l_nop c_nop k_nop (fun _ _ _ _ _ _ us hl => match us, hl with | [], _ => rfl)
  have D_holdI : DefOk K "__init__" "Holder.__init__" sHoldI ["self"] f_holdI := def_mk l_holdI c_holdI k_holdI (fun _ _ _ _ _ _ us hl => match us, hl with | [_], _ => rfl)
  have D_need : DefOk K "need" "need" sNeed ["fulfilled", "number"] f_need := def_mk l_need c_need k_need (fun _ _ _ _ _ _ us hl => match us, hl with | [_, _], _ => rfl)
  have D_bit : DefOk K "is_bit" "is_bit" sBit ["number"] f_bit := def_mk l_bit c_bit k_bit (fun _ _ _ _ _ _ us hl => match us, hl with | [_], _ => rfl)
  have D_bits : DefOk K "are_bits" "are_bits" sBits ["some"] f_bits := def_mk l_bits c_bits k_bits (fun _ _ _ _ _ _ us hl => match us, hl with | [_], _ => rfl)
  have D_stands : DefOk K "stands" "stands" sStands ["picking"] f_stands := def_mk l_stands c_stands k_stands (fun _ _ _ _ _ _ us hl => match us, hl with | [_], _ => rfl)
  have D_person : DefOk K "need_person" "need_person" sPerson ["picking", "who"] f_person := def_mk l_person c_person k_person (fun _ _ _ _ _ _ us hl => match us, hl with | [_, _], _ => rfl)
  have D_early : DefOk K "need_early" "need_early" sEarly ["picking"] f_early := def_mk l_early c_early k_early (fun _ _ _ _ _ _ us hl => match us, hl with | [_], _ => rfl)
  have D_abeg : DefOk K "begin" "begin" sABeg ["holder", "given", "row"] f_abeg := def_mk l_abeg c_abeg k_abeg (fun _ _ _ _ _ _ us hl => match us, hl with | [_, _, _], _ => rfl)
  have D_aexc : DefOk K "excuse" "excuse" sAExc ["picking", "who"] f_aexc := def_mk l_aexc c_aexc k_aexc (fun _ _ _ _ _ _ us hl => match us, hl with | [_, _], _ => rfl)
  have D_astr : DefOk K "strike" "strike" sAStr ["picking", "side", "who"] f_astr := def_mk l_astr c_astr k_astr (fun _ _ _ _ _ _ us hl => match us, hl with | [_, _, _], _ => rfl)
  have D_apas : DefOk K "pass_by" "pass_by" sAPas ["picking", "side"] f_apas := def_mk l_apas c_apas k_apas (fun _ _ _ _ _ _ us hl => match us, hl with | [_, _], _ => rfl)
  have D_aobj : DefOk K "objection" "objection" sAObj ["picking", "side", "upheld"] f_aobj := def_mk l_aobj c_aobj k_aobj (fun _ _ _ _ _ _ us hl => match us, hl with | [_, _, _], _ => rfl)
  have D_alet : DefOk K "let" "let" sALet ["picking", "who"] f_alet := def_mk l_alet c_alet k_alet (fun _ _ _ _ _ _ us hl => match us, hl with | [_, _], _ => rfl)
  have D_aagr : DefOk K "agree" "agree" sAAgr ["picking", "least"] f_aagr := def_mk l_aagr c_aagr k_aagr (fun _ _ _ _ _ _ us hl => match us, hl with | [_, _], _ => rfl)
  have D_aver : DefOk K "verdict" "verdict" sAVer ["picking", "says"] f_aver := def_mk l_aver c_aver k_aver (fun _ _ _ _ _ _ us hl => match us, hl with | [_, _], _ => rfl)
  have D_anow : DefOk K "now" "now" sANow ["picking"] f_anow := def_mk l_anow c_anow k_anow (fun _ _ _ _ _ _ us hl => match us, hl with | [_], _ => rfl)
  have D_abox : DefOk K "box" "box" sABox ["picking"] f_abox := def_mk l_abox c_abox k_abox (fun _ _ _ _ _ _ us hl => match us, hl with | [_], _ => rfl)
  have D_afat : DefOk K "fates" "fates" sAFat ["picking"] f_afat := def_mk l_afat c_afat k_afat (fun _ _ _ _ _ _ us hl => match us, hl with | [_], _ => rfl)
  have D_answered : DefOk K "answered" "answered" sAnswered ["holder", "call", "given", "row"] f_answered := def_mk l_answered c_answered k_answered (fun _ _ _ _ _ _ us hl => match us, hl with | [_, _, _, _], _ => rfl)
  have D_answer : DefOk K "answer" "answer" sAnswer ["holder", "call", "given", "row"] f_answer := def_mk l_answer c_answer k_answer (fun _ _ _ _ _ _ us hl => match us, hl with | [_, _, _, _], _ => rfl)
  have D_callat : DefOk K "call_at" "call_at" sCallAt ["calls", "at"] f_callat := def_mk l_callat c_callat k_callat (fun _ _ _ _ _ _ us hl => match us, hl with | [_, _], _ => rfl)
  refine ⟨PySem.W.fnOf "answers" "answers" (defArgs sMain) (defBody sMain) (defScope sMain) .none kV_main dc_main pm_main an_main cd_main ct_main, fun s us hu => match us, hu with | [_], _ => .of_eq rfl, fun base _ _ => ?_⟩
  let g : Gx := ⟨P, w, K, mg, base⟩
  have M_panelI : NOk g 1 c_panel "Panel" ["self", "many"] (spPanelI T) := ⟨f_panelI, ⟨mk_panel, a_panelI, i_panelI, kc_panel⟩, PySem.W.mg_of X G g_panel, ok_panelI (g := g) (T := T) D_panelI C Gm⟩
  have M_first : MOk g 1 c_panel "first_waiting" ["self"] (spFirst T) := ⟨f_first, ⟨a_first, i_first, k_first⟩, ok_first (g := g) (T := T) D_first C Gm⟩
  have M_many : MOk g 1 c_panel "many_waiting" ["self"] (spMany T) := ⟨f_many, ⟨a_many, i_many, k_many⟩, ok_many (g := g) (T := T) D_many C Gm⟩
  have M_boxI : NOk g 1 c_box "Box" ["self", "seats"] (spBoxI T) := ⟨f_boxI, ⟨mk_box, a_boxI, i_boxI, kc_box⟩, PySem.W.mg_of X G g_box, ok_boxI (g := g) (T := T) D_boxI C Gm⟩
  have M_put : MOk g 1 c_box "put" ["self", "panel", "seat", "person"] (spPut T) := ⟨f_put, ⟨a_put, i_put, k_put⟩, ok_put (g := g) (T := T) D_put C Gm⟩
  have M_leave : MOk g 1 c_box "leave" ["self", "panel", "person", "fate"] (spLeave T) := ⟨f_leave, ⟨a_leave, i_leave, k_leave⟩, ok_leave (g := g) (T := T) D_leave C Gm⟩
  have M_suff : MOk g 1 c_box "suffices" ["self"] (spSuff T) := ⟨f_suff, ⟨a_suff, i_suff, k_suff⟩, ok_suff (g := g) (T := T) D_suff C Gm⟩
  have M_fill : MOk g 2 c_box "fill" ["self", "panel"] (spFill T) := ⟨f_fill, ⟨a_fill, i_fill, k_fill⟩, ok_fill (g := g) (T := T) D_fill C Gm M_first M_put⟩
  have M_turnsI : NOk g 1 c_turns "Turns" ["self", "row", "strikes"] (spTurnsI T) := ⟨f_turnsI, ⟨mk_turns, a_turnsI, i_turnsI, kc_turns⟩, PySem.W.mg_of X G g_turns, ok_turnsI (g := g) (T := T) D_turnsI C Gm⟩
  have M_over : MOk g 1 c_turns "are_over" ["self"] (spOver T) := ⟨f_over, ⟨a_over, i_over, k_over⟩, ok_over (g := g) (T := T) D_over C Gm⟩
  have M_next : MOk g 2 c_turns "next_side" ["self"] (spNext T) := ⟨f_next, ⟨a_next, i_next, k_next⟩, ok_next (g := g) (T := T) D_next C Gm M_over⟩
  have M_go : MOk g 1 c_turns "go_on" ["self"] (spGo T) := ⟨f_go, ⟨a_go, i_go, k_go⟩, ok_go (g := g) (T := T) D_go C Gm⟩
  have M_tstrike : MOk g 3 c_turns "strike" ["self"] (spTStrike T) := ⟨f_tstrike, ⟨a_tstrike, i_tstrike, k_tstrike⟩, ok_tstrike (g := g) (T := T) D_tstrike C Gm M_next M_go⟩
  have M_tpass : MOk g 3 c_turns "pass_by" ["self", "uses_up"] (spTPass T) := ⟨f_tpass, ⟨a_tpass, i_tpass, k_tpass⟩, ok_tpass (g := g) (T := T) D_tpass C Gm M_next M_go⟩
  have M_planI : NOk g 1 c_plan "Plan" ["self", "seats", "alternates", "for_alternates", "uses_up", "row"] (spPlanI T) := ⟨f_planI, ⟨mk_plan, a_planI, i_planI, kc_plan⟩, PySem.W.mg_of X G g_plan, ok_planI (g := g) (T := T) D_planI C Gm⟩
  have M_strikeI : NOk g 1 c_strike "Strike" ["self", "side", "who", "seat"] (spStrikeI T) := ⟨f_strikeI, ⟨mk_strike, a_strikeI, i_strikeI, kc_strike⟩, PySem.W.mg_of X G g_strike, ok_strikeI (g := g) (T := T) D_strikeI C Gm⟩
  have M_swear : MOk g 1 c_pick "swear" ["self"] (spSwear T) := ⟨f_swear, ⟨a_swear, i_swear, k_swear⟩, ok_swear (g := g) (T := T) D_swear C Gm⟩
  have M_alt : MOk g 3 c_pick "begin_alternates" ["self"] (spAlt T) := ⟨f_alt, ⟨a_alt, i_alt, k_alt⟩, ok_alt (g := g) (T := T) D_alt C Gm M_boxI M_turnsI M_fill M_suff⟩
  have M_settle : MOk g 4 c_pick "settle" ["self"] (spSettle T) := ⟨f_settle, ⟨a_settle, i_settle, k_settle⟩, ok_settle (g := g) (T := T) D_settle C Gm M_fill M_suff M_over M_alt M_swear⟩
  have M_exc : MOk g 5 c_pick "excuse" ["self", "who"] (spExc T) := ⟨f_exc, ⟨a_exc, i_exc, k_exc⟩, ok_exc (g := g) (T := T) D_exc C Gm M_leave M_settle⟩
  have M_str : MOk g 5 c_pick "strike" ["self", "side", "who"] (spStr T) := ⟨f_str, ⟨a_str, i_str, k_str⟩, ok_str (g := g) (T := T) D_str C Gm M_leave M_tstrike M_strikeI M_settle⟩
  have M_pas : MOk g 5 c_pick "pass_turn" ["self"] (spPas T) := ⟨f_pas, ⟨a_pas, i_pas, k_pas⟩, ok_pas (g := g) (T := T) D_pas C Gm M_tpass M_settle⟩
  have M_ans : MOk g 5 c_pick "answer_objection" ["self", "upheld"] (spAnsO T) := ⟨f_ans, ⟨a_ans, i_ans, k_ans⟩, ok_ans (g := g) (T := T) D_ans C Gm M_put M_settle⟩
  have M_let : MOk g 1 c_pick "let_go" ["self", "who"] (spLet T) := ⟨f_let, ⟨a_let, i_let, k_let⟩, ok_let (g := g) (T := T) D_let C Gm⟩
  have M_turn : MOk g 3 c_pick "turn" ["self"] (spTurn T) := ⟨f_turn, ⟨a_turn, i_turn, k_turn⟩, ok_turn (g := g) (T := T) D_turn C Gm M_next⟩
  have M_struck : MOk g 1 c_pick "struck" ["self"] (spStruck T) := ⟨f_struck, ⟨a_struck, i_struck, k_struck⟩, ok_struck (g := g) (T := T) D_struck C Gm⟩
  have M_pickI : NOk g 5 c_pick "Picking" ["self", "many", "plan", "strikes"] (spPickI T) := ⟨f_pickI, ⟨mk_pick, a_pickI, i_pickI, kc_pick⟩, PySem.W.mg_of X G g_pick, ok_pickI (g := g) (T := T) D_pickI C Gm M_panelI M_boxI M_turnsI M_settle⟩
  have M_nop : FOk g CX0 7 "no_picking" [] (spNoP T) := ⟨f_nop, PySem.W.mg_of X G a_nop, k_nop, ok_nop (g := g) (T := T) D_nop C Gm M_pickI M_planI⟩
  have M_holdI : NOk g 8 c_holder "Holder" ["self"] (spHoldI T) := ⟨f_holdI, ⟨mk_holder, a_holdI, i_holdI, kc_holder⟩, PySem.W.mg_of X G g_holder, ok_holdI (g := g) (T := T) D_holdI C Gm M_nop⟩
  have M_need : FOk g (L2.CX P w) 3 "need" ["fulfilled", "number"] (spNeed T) := ⟨f_need, PySem.W.mg_of X G a_need, k_need, ok_need (g := g) (T := T) D_need R⟩
  have M_bit : FOk g CX0 1 "is_bit" ["number"] (spBit) := ⟨f_bit, PySem.W.mg_of X G a_bit, k_bit, ok_bit (g := g) D_bit⟩
  have M_bits : FOk g CX0 2 "are_bits" ["some"] (spBits K) := ⟨f_bits, PySem.W.mg_of X G a_bits, k_bits, ok_bits (g := g) D_bits M_bit⟩
  have M_stands : FOk g CX0 4 "stands" ["picking"] (spStands T) := ⟨f_stands, PySem.W.mg_of X G a_stands, k_stands, ok_stands (g := g) (T := T) D_stands C M_turn⟩
  have M_person : FOk g (L2.CX P w) 4 "need_person" ["picking", "who"] (spPerson T) := ⟨f_person, PySem.W.mg_of X G a_person, k_person, ok_person (g := g) (T := T) D_person C Gm M_need⟩
  have M_early : FOk g (L2.CX P w) 4 "need_early" ["picking"] (spEarly T) := ⟨f_early, PySem.W.mg_of X G a_early, k_early, ok_early (g := g) (T := T) D_early C Gm M_need⟩
  have M_abeg : FOk g (L2.CX P w) 7 "begin" ["holder", "given", "row"] (spABeg T) := ⟨f_abeg, PySem.W.mg_of X G a_abeg, k_abeg, ok_abeg (g := g) (T := T) D_abeg C Gm M_need M_bits M_stands M_bit M_pickI M_planI⟩
  have M_aexc : FOk g (L2.CX P w) 6 "excuse" ["picking", "who"] (spAExc T) := ⟨f_aexc, PySem.W.mg_of X G a_aexc, k_aexc, ok_aexc (g := g) (T := T) D_aexc C M_need M_person M_early M_stands M_exc⟩
  have M_astr : FOk g (L2.CX P w) 6 "strike" ["picking", "side", "who"] (spAStr T) := ⟨f_astr, PySem.W.mg_of X G a_astr, k_astr, ok_astr (g := g) (T := T) D_astr C M_need M_person M_early M_stands M_bit M_next M_str⟩
  have M_apas : FOk g (L2.CX P w) 6 "pass_by" ["picking", "side"] (spAPas T) := ⟨f_apas, PySem.W.mg_of X G a_apas, k_apas, ok_apas (g := g) (T := T) D_apas C M_need M_early M_stands M_bit M_next M_pas⟩
  have M_aobj : FOk g (L2.CX P w) 6 "objection" ["picking", "side", "upheld"] (spAObj T) := ⟨f_aobj, PySem.W.mg_of X G a_aobj, k_aobj, ok_aobj (g := g) (T := T) D_aobj C M_need M_early M_stands M_bit M_ans⟩
  have M_alet : FOk g (L2.CX P w) 6 "let" ["picking", "who"] (spALet T) := ⟨f_alet, PySem.W.mg_of X G a_alet, k_alet, ok_alet (g := g) (T := T) D_alet C Gm M_need M_person M_stands M_let⟩
  have M_aagr : FOk g (L2.CX P w) 6 "agree" ["picking", "least"] (spAAgr T) := ⟨f_aagr, PySem.W.mg_of X G a_aagr, k_aagr, ok_aagr (g := g) (T := T) D_aagr C Gm M_need⟩
  have M_aver : FOk g (L2.CX P w) 6 "verdict" ["picking", "says"] (spAVer K T) := ⟨f_aver, PySem.W.mg_of X G a_aver, k_aver, ok_aver (g := g) (T := T) D_aver C Gm M_need M_bits M_stands⟩
  have M_anow : FOk g CX0 6 "now" ["picking"] (spANow T) := ⟨f_anow, PySem.W.mg_of X G a_anow, k_anow, ok_anow (g := g) (T := T) D_anow C M_stands M_first M_many M_struck⟩
  have M_abox : FOk g CX0 6 "box" ["picking"] (spABox T) := ⟨f_abox, PySem.W.mg_of X G a_abox, k_abox, ok_abox (g := g) (T := T) D_abox C Gm⟩
  have M_afat : FOk g CX0 6 "fates" ["picking"] (spAFat T) := ⟨f_afat, PySem.W.mg_of X G a_afat, k_afat, ok_afat (g := g) (T := T) D_afat C Gm⟩
  have M_answered : FOk g (L2.CX P w) 8 "answered" ["holder", "call", "given", "row"] (spAnswered T) := ⟨f_answered, PySem.W.mg_of X G a_answered, k_answered, ok_answered (g := g) (T := T) D_answered C ⟨M_abeg, M_aexc, M_astr, M_apas, M_aobj, M_alet, M_aagr, M_aver, M_anow, M_abox, M_afat⟩⟩
  have M_answer : FOk g CX0 9 "answer" ["holder", "call", "given", "row"] (spAnswer T) := ⟨f_answer, PySem.W.mg_of X G a_answer, k_answer, ok_answer (g := g) (T := T) D_answer C R M_answered⟩
  have M_callat : FOk g CX0 1 "call_at" ["calls", "at"] (spCallAt K) := ⟨f_callat, PySem.W.mg_of X G a_callat, k_callat, ok_callat (g := g) D_callat B⟩
  exact ok_main (g := g) (T := T) (fun_mk (st := sMain) l_main c_main k_main) C Gm M_holdI M_callat M_answer
end Jp
open PySem PySem.W PyProof.Rows
set_option maxRecDepth 100000 in
set_option maxHeartbeats 8000000 in
theorem PySem.Challenge.cw_jurypick_s01_answers_holds : PySem.Challenge.rw_jurypick_s01_answers.Holds := by
  w_on; k_headS; (case hw => exact ⟨[.list [.int 9]], by decide +kernel, by decide +kernel⟩)
  k_fillS
  refine L2.walk_specK (r := PySem.Challenge.rw_jurypick_s01_answers) (k := 10) (CX := L2.CX0) (ps := ["calls"]) (sp := Jp.spMain) (by decide +kernel) rfl rfl ⟨rfl, by decide, by decide⟩ (fun w h Y => PySem.W.kIn_of Y) ?F ?S (fun _ _ _ _ z => z)
  case F =>
    intro w mg fa h Y KX G hmg
    refine' Jp.all_mk KX G hmg ?g_panel ?pg_panel ?hd_panel ?po_panel ?sa_panel ?mk_panel ?kc_panel ?n_panel_fates ?g_box ?pg_box ?hd_box ?po_box ?sa_box ?mk_box ?kc_box ?n_box_seats ?g_turns ?pg_turns ?hd_turns ?po_turns ?sa_turns ?mk_turns ?kc_turns ?n_turns_row ?n_turns_strikes ?n_turns_at ?n_turns_passes ?g_plan ?pg_plan ?hd_plan ?po_plan ?sa_plan ?mk_plan ?kc_plan ?n_plan_seats ?n_plan_alternates ?n_plan_for_alternates ?n_plan_uses_up ?n_plan_row ?g_strike ?pg_strike ?hd_strike ?po_strike ?sa_strike ?mk_strike ?kc_strike ?n_strike_side ?n_strike_who ?n_strike_seat ?g_pick ?pg_pick ?hd_pick ?po_pick ?sa_pick ?mk_pick ?kc_pick ?n_pick_panel ?n_pick_plan ?n_pick_phase ?n_pick_box ?n_pick_turns ?n_pick_last ?n_pick_jury ?n_pick_alternates ?n_pick_least ?g_holder ?pg_holder ?hd_holder ?po_holder ?sa_holder ?mk_holder ?kc_holder ?n_holder_picking ?a_panelI ?i_panelI ?l_panelI ?c_panelI ?k_panelI ?a_first ?i_first ?l_first ?c_first ?k_first ?a_many ?i_many ?l_many ?c_many ?k_many ?a_boxI ?i_boxI ?l_boxI ?c_boxI ?k_boxI ?a_put ?i_put ?l_put ?c_put ?k_put ?a_leave ?i_leave ?l_leave ?c_leave ?k_leave ?a_suff ?i_suff ?l_suff ?c_suff ?k_suff ?a_fill ?i_fill ?l_fill ?c_fill ?k_fill ?a_turnsI ?i_turnsI ?l_turnsI ?c_turnsI ?k_turnsI ?a_over ?i_over ?l_over ?c_over ?k_over ?a_next ?i_next ?l_next ?c_next ?k_next ?a_go ?i_go ?l_go ?c_go ?k_go ?a_tstrike ?i_tstrike ?l_tstrike ?c_tstrike ?k_tstrike ?a_tpass ?i_tpass ?l_tpass ?c_tpass ?k_tpass ?a_planI ?i_planI ?l_planI ?c_planI ?k_planI ?a_strikeI ?i_strikeI ?l_strikeI ?c_strikeI ?k_strikeI ?a_swear ?i_swear ?l_swear ?c_swear ?k_swear ?a_alt ?i_alt ?l_alt ?c_alt ?k_alt ?a_settle ?i_settle ?l_settle ?c_settle ?k_settle ?a_exc ?i_exc ?l_exc ?c_exc ?k_exc ?a_str ?i_str ?l_str ?c_str ?k_str ?a_pas ?i_pas ?l_pas ?c_pas ?k_pas ?a_ans ?i_ans ?l_ans ?c_ans ?k_ans ?a_let ?i_let ?l_let ?c_let ?k_let ?a_turn ?i_turn ?l_turn ?c_turn ?k_turn ?a_struck ?i_struck ?l_struck ?c_struck ?k_struck ?a_pickI ?i_pickI ?l_pickI ?c_pickI ?k_pickI ?a_nop ?l_nop ?c_nop ?k_nop ?a_holdI ?i_holdI ?l_holdI ?c_holdI ?k_holdI ?a_need ?l_need ?c_need ?k_need ?a_bit ?l_bit ?c_bit ?k_bit ?a_bits ?l_bits ?c_bits ?k_bits ?a_stands ?l_stands ?c_stands ?k_stands ?a_person ?l_person ?c_person ?k_person ?a_early ?l_early ?c_early ?k_early ?a_abeg ?l_abeg ?c_abeg ?k_abeg ?a_aexc ?l_aexc ?c_aexc ?k_aexc ?a_astr ?l_astr ?c_astr ?k_astr ?a_apas ?l_apas ?c_apas ?k_apas ?a_aobj ?l_aobj ?c_aobj ?k_aobj ?a_alet ?l_alet ?c_alet ?k_alet ?a_aagr ?l_aagr ?c_aagr ?k_aagr ?a_aver ?l_aver ?c_aver ?k_aver ?a_anow ?l_anow ?c_anow ?k_anow ?a_abox ?l_abox ?c_abox ?k_abox ?a_afat ?l_afat ?c_afat ?k_afat ?a_answered ?l_answered ?c_answered ?k_answered ?a_answer ?l_answer ?c_answer ?k_answer ?a_callat ?l_callat ?c_callat ?k_callat ?a_main ?l_main ?c_main ?k_main ?v_nobody ?v_waits ?v_sits ?v_excused ?v_struck ?v_alternate ?v_letgo ?v_noside ?v_passes ?v_atbox ?v_atalts ?v_sworn ?v_toofew ?v_over ?v_mpanel ?v_mseats ?v_malts ?v_mstrikes ?v_mfor ?v_mrow ?b_range ?b_len ?b_sum ?b_max ?b_list ?g_wn ?l_wn ?g_wr ?l_wr ?w_wn ?w_wr ?g_ref ?x_ref ?sa_ref ?ga_ref ?gg_ref ?nb_ref ?a_ref ?t_ref ?l_ref ?cd_r ?kc_ref ?e_ref ?ty_ref ?h_ref ?ic_ref ?s_ref
    (case g_panel => k_is)
    (case pg_panel => k_is)
    (case hd_panel => k_is)
    (case po_panel => k_is)
    (case sa_panel => k_is)
    (case mk_panel => k_is)
    (case kc_panel => k_is)
    (case n_panel_fates => k_is)
    (case g_box => k_is)
    (case pg_box => k_is)
    (case hd_box => k_is)
    (case po_box => k_is)
    (case sa_box => k_is)
    (case mk_box => k_is)
    (case kc_box => k_is)
    (case n_box_seats => k_is)
    (case g_turns => k_is)
    (case pg_turns => k_is)
    (case hd_turns => k_is)
    (case po_turns => k_is)
    (case sa_turns => k_is)
    (case mk_turns => k_is)
    (case kc_turns => k_is)
    (case n_turns_row => k_is)
    (case n_turns_strikes => k_is)
    (case n_turns_at => k_is)
    (case n_turns_passes => k_is)
    (case g_plan => k_is)
    (case pg_plan => k_is)
    (case hd_plan => k_is)
    (case po_plan => k_is)
    (case sa_plan => k_is)
    (case mk_plan => k_is)
    (case kc_plan => k_is)
    (case n_plan_seats => k_is)
    (case n_plan_alternates => k_is)
    (case n_plan_for_alternates => k_is)
    (case n_plan_uses_up => k_is)
    (case n_plan_row => k_is)
    (case g_strike => k_is)
    (case pg_strike => k_is)
    (case hd_strike => k_is)
    (case po_strike => k_is)
    (case sa_strike => k_is)
    (case mk_strike => k_is)
    (case kc_strike => k_is)
    (case n_strike_side => k_is)
    (case n_strike_who => k_is)
    (case n_strike_seat => k_is)
    (case g_pick => k_is)
    (case pg_pick => k_is)
    (case hd_pick => k_is)
    (case po_pick => k_is)
    (case sa_pick => k_is)
    (case mk_pick => k_is)
    (case kc_pick => k_is)
    (case n_pick_panel => k_is)
    (case n_pick_plan => k_is)
    (case n_pick_phase => k_is)
    (case n_pick_box => k_is)
    (case n_pick_turns => k_is)
    (case n_pick_last => k_is)
    (case n_pick_jury => k_is)
    (case n_pick_alternates => k_is)
    (case n_pick_least => k_is)
    (case g_holder => k_is)
    (case pg_holder => k_is)
    (case hd_holder => k_is)
    (case po_holder => k_is)
    (case sa_holder => k_is)
    (case mk_holder => k_is)
    (case kc_holder => k_is)
    (case n_holder_picking => k_is)
    (case a_panelI => k_is)
    (case i_panelI => k_is)
    (case l_panelI => k_is)
    (case c_panelI => k_is)
    (case k_panelI => k_is)
    (case a_first => k_is)
    (case i_first => k_is)
    (case l_first => k_is)
    (case c_first => k_is)
    (case k_first => k_is)
    (case a_many => k_is)
    (case i_many => k_is)
    (case l_many => k_is)
    (case c_many => k_is)
    (case k_many => k_is)
    (case a_boxI => k_is)
    (case i_boxI => k_is)
    (case l_boxI => k_is)
    (case c_boxI => k_is)
    (case k_boxI => k_is)
    (case a_put => k_is)
    (case i_put => k_is)
    (case l_put => k_is)
    (case c_put => k_is)
    (case k_put => k_is)
    (case a_leave => k_is)
    (case i_leave => k_is)
    (case l_leave => k_is)
    (case c_leave => k_is)
    (case k_leave => k_is)
    (case a_suff => k_is)
    (case i_suff => k_is)
    (case l_suff => k_is)
    (case c_suff => k_is)
    (case k_suff => k_is)
    (case a_fill => k_is)
    (case i_fill => k_is)
    (case l_fill => k_is)
    (case c_fill => k_is)
    (case k_fill => k_is)
    (case a_turnsI => k_is)
    (case i_turnsI => k_is)
    (case l_turnsI => k_is)
    (case c_turnsI => k_is)
    (case k_turnsI => k_is)
    (case a_over => k_is)
    (case i_over => k_is)
    (case l_over => k_is)
    (case c_over => k_is)
    (case k_over => k_is)
    (case a_next => k_is)
    (case i_next => k_is)
    (case l_next => k_is)
    (case c_next => k_is)
    (case k_next => k_is)
    (case a_go => k_is)
    (case i_go => k_is)
    (case l_go => k_is)
    (case c_go => k_is)
    (case k_go => k_is)
    (case a_tstrike => k_is)
    (case i_tstrike => k_is)
    (case l_tstrike => k_is)
    (case c_tstrike => k_is)
    (case k_tstrike => k_is)
    (case a_tpass => k_is)
    (case i_tpass => k_is)
    (case l_tpass => k_is)
    (case c_tpass => k_is)
    (case k_tpass => k_is)
    (case a_planI => k_is)
    (case i_planI => k_is)
    (case l_planI => k_is)
    (case c_planI => k_is)
    (case k_planI => k_is)
    (case a_strikeI => k_is)
    (case i_strikeI => k_is)
    (case l_strikeI => k_is)
    (case c_strikeI => k_is)
    (case k_strikeI => k_is)
    (case a_swear => k_is)
    (case i_swear => k_is)
    (case l_swear => k_is)
    (case c_swear => k_is)
    (case k_swear => k_is)
    (case a_alt => k_is)
    (case i_alt => k_is)
    (case l_alt => k_is)
    (case c_alt => k_is)
    (case k_alt => k_is)
    (case a_settle => k_is)
    (case i_settle => k_is)
    (case l_settle => k_is)
    (case c_settle => k_is)
    (case k_settle => k_is)
    (case a_exc => k_is)
    (case i_exc => k_is)
    (case l_exc => k_is)
    (case c_exc => k_is)
    (case k_exc => k_is)
    (case a_str => k_is)
    (case i_str => k_is)
    (case l_str => k_is)
    (case c_str => k_is)
    (case k_str => k_is)
    (case a_pas => k_is)
    (case i_pas => k_is)
    (case l_pas => k_is)
    (case c_pas => k_is)
    (case k_pas => k_is)
    (case a_ans => k_is)
    (case i_ans => k_is)
    (case l_ans => k_is)
    (case c_ans => k_is)
    (case k_ans => k_is)
    (case a_let => k_is)
    (case i_let => k_is)
    (case l_let => k_is)
    (case c_let => k_is)
    (case k_let => k_is)
    (case a_turn => k_is)
    (case i_turn => k_is)
    (case l_turn => k_is)
    (case c_turn => k_is)
    (case k_turn => k_is)
    (case a_struck => k_is)
    (case i_struck => k_is)
    (case l_struck => k_is)
    (case c_struck => k_is)
    (case k_struck => k_is)
    (case a_pickI => k_is)
    (case i_pickI => k_is)
    (case l_pickI => k_is)
    (case c_pickI => k_is)
    (case k_pickI => k_is)
    (case a_nop => k_is)
    (case l_nop => k_is)
    (case c_nop => k_is)
    (case k_nop => k_is)
    (case a_holdI => k_is)
    (case i_holdI => k_is)
    (case l_holdI => k_is)
    (case c_holdI => k_is)
    (case k_holdI => k_is)
    (case a_need => k_is)
    (case l_need => k_is)
    (case c_need => k_is)
    (case k_need => k_is)
    (case a_bit => k_is)
    (case l_bit => k_is)
    (case c_bit => k_is)
    (case k_bit => k_is)
    (case a_bits => k_is)
    (case l_bits => k_is)
    (case c_bits => k_is)
    (case k_bits => k_is)
    (case a_stands => k_is)
    (case l_stands => k_is)
    (case c_stands => k_is)
    (case k_stands => k_is)
    (case a_person => k_is)
    (case l_person => k_is)
    (case c_person => k_is)
    (case k_person => k_is)
    (case a_early => k_is)
    (case l_early => k_is)
    (case c_early => k_is)
    (case k_early => k_is)
    (case a_abeg => k_is)
    (case l_abeg => k_is)
    (case c_abeg => k_is)
    (case k_abeg => k_is)
    (case a_aexc => k_is)
    (case l_aexc => k_is)
    (case c_aexc => k_is)
    (case k_aexc => k_is)
    (case a_astr => k_is)
    (case l_astr => k_is)
    (case c_astr => k_is)
    (case k_astr => k_is)
    (case a_apas => k_is)
    (case l_apas => k_is)
    (case c_apas => k_is)
    (case k_apas => k_is)
    (case a_aobj => k_is)
    (case l_aobj => k_is)
    (case c_aobj => k_is)
    (case k_aobj => k_is)
    (case a_alet => k_is)
    (case l_alet => k_is)
    (case c_alet => k_is)
    (case k_alet => k_is)
    (case a_aagr => k_is)
    (case l_aagr => k_is)
    (case c_aagr => k_is)
    (case k_aagr => k_is)
    (case a_aver => k_is)
    (case l_aver => k_is)
    (case c_aver => k_is)
    (case k_aver => k_is)
    (case a_anow => k_is)
    (case l_anow => k_is)
    (case c_anow => k_is)
    (case k_anow => k_is)
    (case a_abox => k_is)
    (case l_abox => k_is)
    (case c_abox => k_is)
    (case k_abox => k_is)
    (case a_afat => k_is)
    (case l_afat => k_is)
    (case c_afat => k_is)
    (case k_afat => k_is)
    (case a_answered => k_is)
    (case l_answered => k_is)
    (case c_answered => k_is)
    (case k_answered => k_is)
    (case a_answer => k_is)
    (case l_answer => k_is)
    (case c_answer => k_is)
    (case k_answer => k_is)
    (case a_callat => k_is)
    (case l_callat => k_is)
    (case c_callat => k_is)
    (case k_callat => k_is)
    (case a_main => k_is)
    (case l_main => k_is)
    (case c_main => k_is)
    (case k_main => k_is)
    (case v_nobody => k_is)
    (case v_waits => k_is)
    (case v_sits => k_is)
    (case v_excused => k_is)
    (case v_struck => k_is)
    (case v_alternate => k_is)
    (case v_letgo => k_is)
    (case v_noside => k_is)
    (case v_passes => k_is)
    (case v_atbox => k_is)
    (case v_atalts => k_is)
    (case v_sworn => k_is)
    (case v_toofew => k_is)
    (case v_over => k_is)
    (case v_mpanel => k_is)
    (case v_mseats => k_is)
    (case v_malts => k_is)
    (case v_mstrikes => k_is)
    (case v_mfor => k_is)
    (case v_mrow => k_is)
    (case b_range => k_is)
    (case b_len => k_is)
    (case b_sum => k_is)
    (case b_max => k_is)
    (case b_list => k_is)
    (case g_wn => k_is)
    (case l_wn => k_is)
    (case g_wr => k_is)
    (case l_wr => k_is)
    (case w_wn => rfl)
    (case w_wr => rfl)
    (case g_ref => k_is)
    (case x_ref => k_is)
    (case sa_ref => k_is)
    (case ga_ref => k_is)
    (case gg_ref => k_is)
    (case nb_ref => k_is)
    (case a_ref => k_is)
    (case t_ref => k_is)
    (case l_ref => k_is)
    (case cd_r => k_is)
    (case kc_ref => k_is)
    (case e_ref => k_is)
    (case ty_ref => k_is)
    (case h_ref => k_is)
    (case ic_ref => k_is)
    (case s_ref => first | rfl | k_is)
  case S =>
    intro K H xs a hO hwi hask hx
    cases hx with
    | cons h1 h2 =>
      cases h2
      cases h1 with
      | lst hs ha =>
        have e := L2.ints_dw a.1 _ ha
        subst e
        have q : ((Codec.inLen 0 30000 a.1 && a.1.all (Codec.inInt (-2147483648) 2147483647)) && true) = true := hwi
        rw [Bool.and_eq_true, Bool.and_eq_true] at q
        exact ⟨_, a.1, rfl, hs, (Codec.inNat_iff.mp q.1.1).2, hask, fun H' p hp => .lst (L2.SqL.of hp) (L2.dw_ints _)⟩
#print axioms PySem.Challenge.cw_jurypick_s01_answers_holds
