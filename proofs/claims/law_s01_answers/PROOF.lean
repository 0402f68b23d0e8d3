import PyProof.Rows.All
import Wide.All
import OpenK.AllK
import Wide.FinOn
import PyProof.EqAt
import PyProof.EqKinds
import PyProof.TupleCall
import PyProof.EnumMake
import Open.SpecLaws
import KE.OsGo
import KE.KDictPairs
import KE.KDictCopyH
import KE.KEqDict
import KE.DataMinMax
import KE.GoesMore
import HandS.ForSpec
import HandS.Dict
import HandS.WordsDict
import HandS.Iter
import HandS.Comp
import HandS.Conv
import HandS.TupAny
import HandS.TupLen
import HandS.ExcInit
import HandS.ExcField
import HandS.Strs
import HandS.SetFor
import HandS.Walk
import PySem.Challenge.RW_caryard_s01_answers
import HandS.Codes
import HandS.Deep
section
set_option linter.all false
/-! # Plain mathematics: cells, arrangements, moves -/
namespace Cy
open Sy66 (St Car lineLong cellsOf meet carOf legal moved moves nexts)

abbrev Cell := Nat × Nat
def cell (c : Car) (a : Nat) : Cell := if c.upright = true then (a, c.line) else (c.line, a)
def cells (c : Car) (a b : Nat) : List Cell := (List.range (b + c.long - a)).map fun (i : Nat) => cell c (a + i)
def num (s : St) (x : Cell) : Nat := x.1 * s.cols + x.2

theorem mem_cells {c : Car} {a b : Nat} {x : Cell} : x ∈ cells c a b ↔ ∃ i, a ≤ i ∧ i < b + c.long ∧ x = cell c i := by
  unfold cells
  rw [List.mem_map]
  constructor
  · rintro ⟨i, hi, rfl⟩
    rw [List.mem_range] at hi
    exact ⟨a + i, by omega, by omega, rfl⟩
  · rintro ⟨i, h1, h2, rfl⟩
    exact ⟨i - a, by rw [List.mem_range]; omega, by rw [show a + (i - a) = i by omega]⟩

theorem cellsOf_eq (s : St) (c : Car) (o : Nat) : cellsOf s c o = (cells c o o).map (num s) := by
  unfold cellsOf cells
  rw [List.map_map, show o + c.long - o = c.long by omega]
  refine List.map_congr_left fun i _ => ?_
  show _ = num s (cell c (o + i))
  unfold num cell
  by_cases h : c.upright = true
  · simp only [if_pos h]
  · simp only [if_neg h]
    omega

/-- a way: the cells from the lesser place on -/
theorem way_eq (s : St) (c : Car) (a b : Nat) (h : a ≤ b) : cellsOf s ⟨c.upright, c.line, c.long + (b - a)⟩ a = (cells c a b).map (num s) := by
  rw [cellsOf_eq]
  congr 1
  unfold cells
  show (List.range (a + (c.long + (b - a)) - a)).map _ = _
  rw [show a + (c.long + (b - a)) - a = b + c.long - a by omega]
  rfl

structure CarOk (s : St) (c : Car) : Prop where
  lo : 2 ≤ c.long
  hi : c.long ≤ 5
  ln : c.line < (if c.upright = true then s.cols else s.rows)

theorem num_inj {s : St} {x y : Cell} (hx : x.2 < s.cols) (hy : y.2 < s.cols) (h : num s x = num s y) : x = y := by
  unfold num at h
  obtain ⟨a, b⟩ := x
  obtain ⟨c, d⟩ := y
  simp only at hx hy h
  have e1 : (a * s.cols + b) / s.cols = a := by
    rw [Nat.mul_comm, Nat.mul_add_div (by omega), Nat.div_eq_of_lt hx]; rfl
  have e2 : (c * s.cols + d) / s.cols = c := by
    rw [Nat.mul_comm, Nat.mul_add_div (by omega), Nat.div_eq_of_lt hy]; rfl
  have e3 : (a * s.cols + b) % s.cols = b := by
    rw [Nat.mul_comm, Nat.mul_add_mod, Nat.mod_eq_of_lt hx]
  have e4 : (c * s.cols + d) % s.cols = d := by
    rw [Nat.mul_comm, Nat.mul_add_mod, Nat.mod_eq_of_lt hy]
  rw [h] at e1 e3
  rw [← e1, ← e3, e2, e4]

/-- all cells within the yard's columns -/
def InY (s : St) (l : List Cell) : Prop := ∀ x ∈ l, x.2 < s.cols
theorem cells_in {s : St} {c : Car} (k : CarOk s c) {a b : Nat} (h : b + c.long ≤ lineLong s c) : InY s (cells c a b) := by
  intro x hx
  obtain ⟨i, _, h2, rfl⟩ := mem_cells.mp hx
  have hl := k.ln
  unfold cell lineLong at *
  by_cases u : c.upright = true
  · rw [if_pos u] at *
    exact hl
  · rw [if_neg u] at *
    show i < s.cols
    omega

def Apart (a b : List Cell) : Prop := ∀ x, x ∈ a → x ∉ b
theorem meet_iff {s : St} {a b : List Cell} (ha : InY s a) (hb : InY s b) : meet (a.map (num s)) (b.map (num s)) = false ↔ Apart a b := by
  unfold meet
  rw [List.any_eq_false]
  constructor
  · intro h x hx hy
    refine h (num s x) (List.mem_map_of_mem hx) ?_
    rw [List.contains_iff_mem]
    exact List.mem_map_of_mem hy
  · intro h n hn hc
    rw [List.contains_iff_mem] at hc
    obtain ⟨x, hx, rfl⟩ := List.mem_map.mp hn
    obtain ⟨y, hy, e⟩ := List.mem_map.mp hc
    have := num_inj (hb y hy) (ha x hx) e
    subst this
    exact h _ hx hy

/-- an arrangement that may be, of some of the cars -/
structure Leg (s : St) (l : List Nat) : Prop where
  fit : ∀ i, i < l.length → l.getD i 0 + (carOf s i).long ≤ lineLong s (carOf s i)
  apart : ∀ i j, i < l.length → j < l.length → i ≠ j → Apart (cells (carOf s i) (l.getD i 0) (l.getD i 0)) (cells (carOf s j) (l.getD j 0) (l.getD j 0))

def CarsOk (s : St) (n : Nat) : Prop := ∀ i, i < n → CarOk s (carOf s i)

theorem legal_iff {s : St} {l : List Nat} (k : CarsOk s l.length) : legal s l = true ↔ Leg s l := by
  unfold legal
  simp only [List.all_eq_true, List.mem_range, Bool.and_eq_true, decide_eq_true_eq, Bool.not_eq_true', cellsOf_eq]
  constructor
  · intro h
    have half : ∀ i j, i < l.length → j < i → Apart (cells (carOf s i) (l.getD i 0) (l.getD i 0)) (cells (carOf s j) (l.getD j 0) (l.getD j 0)) := fun i j hi hj =>
      (meet_iff (cells_in (k i hi) (h i hi).1) (cells_in (k j (by omega)) (h j (by omega)).1)).mp ((h i hi).2 j hj)
    refine ⟨fun i hi => (h i hi).1, fun i j hi hj ne => ?_⟩
    rcases Nat.lt_or_gt_of_ne ne with q | q
    · exact fun x hx hy => half j i hj q x hy hx
    · exact half i j hi q
  · intro h i hi
    refine ⟨h.fit i hi, fun j hj => ?_⟩
    exact (meet_iff (cells_in (k i hi) (h.fit i hi)) (cells_in (k j (by omega)) (h.fit j (by omega)))).mpr (h.apart i j hi (by omega) (by omega))

/-- the way is free of all other cars -/
def FreeWay (s : St) (l : List Nat) (k a b : Nat) : Prop := ∀ j, j < l.length → j ≠ k → Apart (cells (carOf s k) a b) (cells (carOf s j) (l.getD j 0) (l.getD j 0))

theorem moved_iff {s : St} {l m : List Nat} {k o : Nat} (K : CarsOk s l.length) (L : Leg s l) : moved s l k o = some m ↔
    k < l.length ∧ o ≠ l.getD k 0 ∧ o + (carOf s k).long ≤ lineLong s (carOf s k) ∧ FreeWay s l k (min (l.getD k 0) o) (max (l.getD k 0) o) ∧ m = l.set k o := by
  unfold moved
  simp only
  by_cases h1 : l.length ≤ k ∨ o = l.getD k 0 ∨ lineLong s (carOf s k) < o + (carOf s k).long
  · rw [if_pos h1]
    constructor
    · intro h; cases h
    · rintro ⟨a, b, c, _, _⟩
      rcases h1 with h | h | h
      · omega
      · exact absurd h b
      · omega
  · rw [if_neg h1]
    have hk : k < l.length := by omega
    have hf : o + (carOf s k).long ≤ lineLong s (carOf s k) := by omega
    have hp := L.fit k hk
    have hmx : max (l.getD k 0) o + (carOf s k).long ≤ lineLong s (carOf s k) := by omega
    rw [way_eq s (carOf s k) (min (l.getD k 0) o) (max (l.getD k 0) o) (by omega)]
    have key : ((List.range l.length).any (fun (j : Nat) => j != k && meet ((cells (carOf s k) (min (l.getD k 0) o) (max (l.getD k 0) o)).map (num s)) (cellsOf s (carOf s j) (l.getD j 0)))) = false ↔ FreeWay s l k (min (l.getD k 0) o) (max (l.getD k 0) o) := by
      rw [List.any_eq_false]
      constructor
      · intro h j hj ne
        have := h j (List.mem_range.mpr hj)
        rw [cellsOf_eq] at this
        refine (meet_iff (cells_in (K k hk) hmx) (cells_in (K j hj) (L.fit j hj))).mp ?_
        have ne' : (j != k) = true := by simpa using ne
        rw [ne', Bool.true_and] at this
        simpa using this
      · intro h j hj hc
        rw [List.mem_range] at hj
        rw [Bool.and_eq_true] at hc
        have ne : j ≠ k := by simpa using hc.1
        have := (meet_iff (cells_in (K k hk) hmx) (cells_in (K j hj) (L.fit j hj))).mpr (h j hj ne)
        rw [← cellsOf_eq] at this
        rw [this] at hc
        exact absurd hc.2 (by decide)
    by_cases h2 : ((List.range l.length).any (fun (j : Nat) => j != k && meet ((cells (carOf s k) (min (l.getD k 0) o) (max (l.getD k 0) o)).map (num s)) (cellsOf s (carOf s j) (l.getD j 0)))) = true
    · rw [if_pos h2]
      constructor
      · intro h; cases h
      · rintro ⟨_, _, _, h, _⟩
        rw [key.mpr h] at h2
        cases h2
    · rw [if_neg h2]
      have h3 := key.mp (by simpa using h2)
      constructor
      · intro h
        exact ⟨hk, fun e => h1 (.inr (.inl e)), hf, h3, (Option.some.inj h).symm⟩
      · rintro ⟨_, _, _, _, e⟩
        rw [e]

theorem getD_set {l : List Nat} {k o j : Nat} (hk : k < l.length) : (l.set k o).getD j 0 = if j = k then o else l.getD j 0 := by
  rw [List.getD_eq_getElem?_getD, List.getD_eq_getElem?_getD, List.getElem?_set]
  by_cases h : k = j
  · subst h
    rw [if_pos rfl, if_pos hk, if_pos rfl]
    rfl
  · rw [if_neg h, if_neg (fun e => h e.symm)]

theorem cells_sub {c : Car} {a b o : Nat} (h1 : a ≤ o) (h2 : o ≤ b) {x : Cell} (h : x ∈ cells c o o) : x ∈ cells c a b := by
  obtain ⟨i, p, q, e⟩ := mem_cells.mp h
  exact mem_cells.mpr ⟨i, by omega, by omega, e⟩

theorem moved_leg {s : St} {l m : List Nat} {k o : Nat} (K : CarsOk s l.length) (L : Leg s l) (h : moved s l k o = some m) : m.length = l.length ∧ Leg s m := by
  obtain ⟨hk, _, hf, hw, rfl⟩ := (moved_iff K L).mp h
  refine ⟨List.length_set, ⟨fun i hi => ?_, fun i j hi hj ne => ?_⟩⟩
  · rw [List.length_set] at hi
    rw [getD_set hk]
    by_cases e : i = k
    · subst e; rw [if_pos rfl]; exact hf
    · rw [if_neg e]; exact L.fit i hi
  · rw [List.length_set] at hi hj
    rw [getD_set hk, getD_set hk]
    by_cases e : i = k
    · subst e
      rw [if_pos rfl, if_neg (fun z => ne z.symm)]
      intro x hx
      exact hw j hj (fun z => ne z.symm) x (cells_sub (Nat.min_le_right _ _) (Nat.le_max_right _ _) hx)
    · rw [if_neg e]
      by_cases e2 : j = k
      · subst e2
        rw [if_pos rfl]
        intro x hx hy
        exact hw i hi e x (cells_sub (Nat.min_le_right _ _) (Nat.le_max_right _ _) hy) hx
      · rw [if_neg e2]
        exact L.apart i j hi hj ne

theorem moved_sym {s : St} {l m : List Nat} {k o : Nat} (K : CarsOk s l.length) (L : Leg s l) (h : moved s l k o = some m) : moved s m k (l.getD k 0) = some l := by
  have ⟨hm, Lm⟩ := moved_leg K L h
  obtain ⟨hk, ne, hf, hw, e⟩ := (moved_iff K L).mp h
  refine (moved_iff (by rw [hm]; exact K) Lm).mpr ?_
  subst e
  have g : (l.set k o).getD k 0 = o := by rw [getD_set hk, if_pos rfl]
  refine ⟨by rw [List.length_set]; exact hk, by rw [g]; exact fun z => ne z.symm, L.fit k hk, ?_, ?_⟩
  · rw [g, Nat.min_comm, Nat.max_comm]
    intro j hj nj
    rw [List.length_set] at hj
    rw [getD_set hk, if_neg nj]
    exact hw j hj nj
  · rw [List.set_set]
    refine (List.ext_getElem? fun i => ?_)
    rw [List.getElem?_set]
    by_cases e : k = i
    · subst e
      rw [if_pos rfl, if_pos hk, List.getD_eq_getElem?_getD, List.getElem?_eq_getElem hk]
      rfl
    · rw [if_neg e]

theorem mem_nexts {s : St} {l m : List Nat} : m ∈ nexts s l ↔ ∃ k o, k < l.length ∧ o < 5 ∧ moved s l k o = some m := by
  unfold nexts moves
  rw [List.mem_filterMap]
  constructor
  · rintro ⟨⟨k, o⟩, hx, h⟩
    rw [List.mem_flatMap] at hx
    obtain ⟨k', hk, hx⟩ := hx
    obtain ⟨o', ho, e⟩ := List.mem_map.mp hx
    injection e with e1 e2
    subst e1; subst e2
    exact ⟨k', o', List.mem_range.mp hk, List.mem_range.mp ho, h⟩
  · rintro ⟨k, o, hk, ho, h⟩
    exact ⟨(k, o), List.mem_flatMap.mpr ⟨k, List.mem_range.mpr hk, List.mem_map.mpr ⟨o, List.mem_range.mpr ho, rfl⟩⟩, h⟩

/-- an arrangement of all cars that may be -/
structure Val (s : St) (l : List Nat) : Prop where
  len : l.length = s.cars.length
  leg : Leg s l

structure Yard (s : St) : Prop where
  rows : 1 ≤ s.rows ∧ s.rows ≤ 5
  cols : 1 ≤ s.cols ∧ s.cols ≤ 5
  car : ∀ c ∈ s.cars, CarOk s c
  few : s.cars.length ≤ 5

theorem carOf_get {s : St} {i : Nat} {c : Car} (h : s.cars[i]? = some c) : carOf s i = c := by
  unfold carOf
  rw [List.getD_eq_getElem?_getD, h]
  rfl
theorem Yard.cars {s : St} (y : Yard s) {n : Nat} (h : n ≤ s.cars.length) : CarsOk s n := by
  intro i hi
  have hi' : i < s.cars.length := by omega
  rw [carOf_get (List.getElem?_eq_getElem hi')]
  exact y.car _ (List.getElem_mem hi')
theorem Yard.line {s : St} (y : Yard s) (c : Car) : lineLong s c ≤ 5 := by
  unfold lineLong
  split
  · exact y.rows.2
  · exact y.cols.2
theorem Val.cars {s : St} {l : List Nat} (y : Yard s) (v : Val s l) : CarsOk s l.length := y.cars (by rw [v.len]; exact Nat.le_refl _)
theorem Val.small {s : St} {l : List Nat} (y : Yard s) (v : Val s l) {i : Nat} (h : i < l.length) : l.getD i 0 < 4 := by
  have h1 := v.leg.fit i h
  have h2 := y.line (carOf s i)
  have h3 := (v.cars y i h).lo
  omega
theorem Val.mem_small {s : St} {l : List Nat} (y : Yard s) (v : Val s l) {x : Nat} (h : x ∈ l) : x < 4 := by
  obtain ⟨i, hi, rfl⟩ := List.getElem_of_mem h
  have := v.small y hi
  rw [List.getD_eq_getElem?_getD, List.getElem?_eq_getElem hi] at this
  exact this
theorem Val.next {s : St} {l m : List Nat} (y : Yard s) (v : Val s l) (h : m ∈ nexts s l) : Val s m := by
  obtain ⟨k, o, _, _, h⟩ := mem_nexts.mp h
  have ⟨a, b⟩ := moved_leg (v.cars y) v.leg h
  exact ⟨a.trans v.len, b⟩
theorem next_sym {s : St} {l m : List Nat} (y : Yard s) (v : Val s l) (h : m ∈ nexts s l) : l ∈ nexts s m := by
  have vm := v.next y h
  obtain ⟨k, o, hk, ho, h⟩ := mem_nexts.mp h
  refine mem_nexts.mpr ⟨k, l.getD k 0, by rw [vm.len, ← v.len]; exact hk, ?_, moved_sym (v.cars y) v.leg h⟩
  have := v.small y hk
  omega
end Cy
end
section
set_option linter.all false
/-! # Plain mathematics: levels -/
namespace Cy
open Sy66 (St Car nexts code fresh levels from_ distance)

/-! ### bits -/
theorem testBit_zero' (x : Nat) : x.testBit 0 = decide (x % 2 = 1) := by
  rw [Nat.testBit_zero]
theorem bit_add : ∀ (c x : Nat), x.testBit c = false → ∀ j, (x + 2 ^ c).testBit j = (decide (j = c) || x.testBit j)
  | 0, x, h, j => by
    rw [Nat.testBit_zero] at h
    have h' : x % 2 = 0 := by
      have : ¬ x % 2 = 1 := by simpa using h
      omega
    cases j with
    | zero =>
      rw [Nat.testBit_zero]
      have : (x + 2 ^ 0) % 2 = 1 := by omega
      simp [this]
    | succ j =>
      rw [Nat.testBit_succ, Nat.testBit_succ, show (x + 2 ^ 0) / 2 = x / 2 by omega]
      simp
  | c + 1, x, h, j => by
    rw [Nat.testBit_succ] at h
    have e : (x + 2 ^ (c + 1)) / 2 = x / 2 + 2 ^ c := by rw [Nat.pow_succ]; omega
    cases j with
    | zero =>
      rw [Nat.testBit_zero, Nat.testBit_zero]
      have : (x + 2 ^ (c + 1)) % 2 = x % 2 := by rw [Nat.pow_succ]; omega
      rw [this]
      simp
    | succ j =>
      rw [Nat.testBit_succ, Nat.testBit_succ, e, bit_add c (x / 2) h j]
      simp

/-! ### the code of an arrangement -/
theorem code_inj : ∀ {l m : List Nat}, l.length = m.length → (∀ x ∈ l, x < 5) → (∀ x ∈ m, x < 5) → code l = code m → l = m
  | [], [], _, _, _, _ => rfl
  | [], _ :: _, h, _, _, _ => by simp at h
  | _ :: _, [], h, _, _, _ => by simp at h
  | a :: l, b :: m, h, hl, hm, e => by
    have e' : a + 5 * code l = b + 5 * code m := e
    have h1 := hl a List.mem_cons_self
    have h2 := hm b List.mem_cons_self
    have e1 : a = b := by omega
    have e2 : code l = code m := by omega
    rw [e1, code_inj (by simpa using h) (fun x hx => hl x (List.mem_cons_of_mem _ hx)) (fun x hx => hm x (List.mem_cons_of_mem _ hx)) e2]
theorem code_lt : ∀ {l : List Nat}, (∀ x ∈ l, x < 5) → code l < 5 ^ l.length
  | [], _ => by show 0 < 1; omega
  | a :: l, hl => by
    have h := code_lt (l := l) fun x hx => hl x (List.mem_cons_of_mem _ hx)
    have h1 := hl a List.mem_cons_self
    show a + 5 * code l < 5 ^ (l.length + 1)
    rw [Nat.pow_succ]
    omega

/-! ### how many different small numbers there are -/
theorem nodup_le : ∀ (n : Nat) (l : List Nat), l.Nodup → (∀ x ∈ l, x < n) → l.length ≤ n
  | 0, l, _, h => by
    cases l with
    | nil => simp
    | cons a r => exact absurd (h a List.mem_cons_self) (Nat.not_lt_zero _)
  | n + 1, l, nd, h => by
    have ih := nodup_le n (l.erase n) (nd.erase n) (fun x hx => by
      have h1 := h x (List.mem_of_mem_erase hx)
      have h2 : x ≠ n := ((nd.mem_erase_iff).mp hx).1
      omega)
    have : l.length ≤ (l.erase n).length + 1 := by
      rw [List.length_erase]
      split <;> omega
    omega

section
variable {s : St}
theorem Val.lt5 (y : Yard s) {l : List Nat} (v : Val s l) : ∀ x ∈ l, x < 5 := fun x hx => Nat.lt_trans (v.mem_small y hx) (by omega)
theorem Val.code_inj (y : Yard s) {l m : List Nat} (v : Val s l) (w : Val s m) (h : code l = code m) : l = m :=
  Cy.code_inj (v.len.trans w.len.symm) (v.lt5 y) (w.lt5 y) h
theorem Val.code_lt (y : Yard s) {l : List Nat} (v : Val s l) : code l < 3125 := by
  have h := Cy.code_lt (v.lt5 y)
  have h2 : 5 ^ l.length ≤ 5 ^ 5 := Nat.pow_le_pow_right (by omega) (by rw [v.len]; exact y.few)
  have : (5 : Nat) ^ 5 = 3125 := by decide
  omega
theorem vals_le (y : Yard s) {L : List (List Nat)} (nd : L.Nodup) (v : ∀ l ∈ L, Val s l) : L.length ≤ 3125 := by
  have h := nodup_le 3125 (L.map code) ?_ ?_
  · rw [List.length_map] at h; exact h
  · rw [List.nodup_iff_pairwise_ne] at nd ⊢
    rw [List.pairwise_map]
    refine nd.imp_of_mem fun {a b} ha hb ne e => ne ((v a ha).code_inj y (v b hb) e)
  · intro x hx
    obtain ⟨l, hl, rfl⟩ := List.mem_map.mp hx
    exact (v l hl).code_lt y
end

/-! ### what's new -/
def stepF (f acc : List (List Nat)) (n : List Nat) : List (List Nat) := if n ∈ f ∨ n ∈ acc then acc else acc ++ [n]
def freshM (l f acc : List (List Nat)) : List (List Nat) := l.foldl (stepF f) acc
theorem freshM_nil (f acc : List (List Nat)) : freshM [] f acc = acc := rfl
theorem freshM_cons (n : List Nat) (l f acc : List (List Nat)) : freshM (n :: l) f acc = freshM l f (stepF f acc n) := rfl
theorem freshM_app (l m f acc : List (List Nat)) : freshM (l ++ m) f acc = freshM m f (freshM l f acc) := by
  unfold freshM; rw [List.foldl_append]
theorem stepF_sub {f acc : List (List Nat)} {n x : List Nat} (h : x ∈ acc) : x ∈ stepF f acc n := by
  unfold stepF
  split
  · exact h
  · exact List.mem_append_left _ h
theorem freshM_sub {f x} : ∀ {l acc : List (List Nat)}, x ∈ acc → x ∈ freshM l f acc
  | [], _, h => h
  | n :: l, acc, h => freshM_sub (l := l) (stepF_sub h)
theorem freshM_has {f x} : ∀ {l acc : List (List Nat)}, x ∈ l → x ∈ f ∨ x ∈ freshM l f acc
  | n :: l, acc, h => by
    rcases List.mem_cons.mp h with e | h
    · subst e
      by_cases q : x ∈ f
      · exact .inl q
      · refine .inr (freshM_sub (l := l) (acc := stepF f acc x) ?_)
        unfold stepF
        split
        · rename_i h; exact h.resolve_left q
        · exact List.mem_append_right _ List.mem_cons_self
    · exact freshM_has (l := l) (acc := stepF f acc n) h
theorem freshM_of {f x} : ∀ {l acc : List (List Nat)}, x ∈ freshM l f acc → x ∈ acc ∨ x ∈ l
  | [], _, h => .inl h
  | n :: l, acc, h => by
    rcases freshM_of (l := l) (acc := stepF f acc n) h with h | h
    · unfold stepF at h
      split at h
      · exact .inl h
      · rcases List.mem_append.mp h with h | h
        · exact .inl h
        · exact .inr (by rw [List.mem_singleton.mp h]; exact List.mem_cons_self)
    · exact .inr (List.mem_cons_of_mem _ h)
theorem nodup_snoc {α : Type} {l : List α} {x : α} (nd : l.Nodup) (h : x ∉ l) : (l ++ [x]).Nodup := by
  rw [List.nodup_append]
  refine ⟨nd, by simp, fun a ha b hb e => ?_⟩
  rw [List.mem_singleton] at hb
  subst hb
  subst e
  exact h ha
theorem freshM_nd {f} : ∀ {l acc : List (List Nat)}, (f ++ acc).Nodup → (f ++ freshM l f acc).Nodup
  | [], _, h => h
  | n :: l, acc, h => by
    refine freshM_nd (l := l) (acc := stepF f acc n) ?_
    unfold stepF
    split
    · exact h
    · rename_i q
      rw [← List.append_assoc]
      exact nodup_snoc h fun z => q (List.mem_append.mp z)

/-- the bits of seen tell what's found -/
def Bits (s : St) (seen : Nat) (f : List (List Nat)) : Prop := ∀ x, Val s x → (seen.testBit (code x) = true ↔ x ∈ f)
theorem fresh_go {s : St} (y : Yard s) {f : List (List Nat)} : ∀ (l acc : List (List Nat)) (seen : Nat), (∀ x ∈ l, Val s x) → (∀ x ∈ f ++ acc, Val s x) → Bits s seen (f ++ acc) →
    ∃ seen', l.foldl (fun (x : List (List Nat) × Nat) (n : List Nat) => if x.2.testBit (code n) = true then x else (x.1 ++ [n], x.2 + 2 ^ code n)) (acc, seen) = (freshM l f acc, seen') ∧ Bits s seen' (f ++ freshM l f acc)
  | [], acc, seen, _, _, b => ⟨seen, rfl, b⟩
  | n :: l, acc, seen, hl, ha, b => by
    rw [List.foldl_cons, freshM_cons]
    have vn := hl n List.mem_cons_self
    have hl' : ∀ x ∈ l, Val s x := fun x hx => hl x (List.mem_cons_of_mem _ hx)
    by_cases q : seen.testBit (code n) = true
    · have m := (b n vn).mp q
      have e : stepF f acc n = acc := by
        unfold stepF
        rw [if_pos (List.mem_append.mp m)]
      simp only [if_pos q]
      rw [e]
      exact fresh_go y l acc seen hl' ha b
    · have m : ¬ (n ∈ f ∨ n ∈ acc) := fun z => q ((b n vn).mpr (List.mem_append.mpr z))
      have e : stepF f acc n = acc ++ [n] := by
        unfold stepF
        rw [if_neg m]
      simp only [if_neg q]
      rw [e]
      have qf : seen.testBit (code n) = false := by simpa using q
      refine fresh_go y l (acc ++ [n]) (seen + 2 ^ code n) hl' ?_ ?_
      · intro x hx
        rw [← List.append_assoc] at hx
        rcases List.mem_append.mp hx with h | h
        · exact ha x h
        · rw [List.mem_singleton.mp h]; exact vn
      · intro x vx
        rw [bit_add _ _ qf, ← List.append_assoc, List.mem_append, List.mem_singleton, ← b x vx]
        constructor
        · intro h
          rcases Bool.or_eq_true_iff.mp h with h | h
          · exact .inr (vx.code_inj y vn (of_decide_eq_true h))
          · exact .inl h
        · rintro (h | h)
          · rw [h, Bool.or_true]
          · rw [h]; simp
theorem fresh_is {s : St} (y : Yard s) {f l : List (List Nat)} {seen : Nat} (hl : ∀ x ∈ l, Val s x) (hf : ∀ x ∈ f, Val s x) (b : Bits s seen f) :
    ∃ seen', fresh l seen = (freshM l f [], seen') ∧ Bits s seen' (f ++ freshM l f []) := by
  unfold fresh
  exact fresh_go y l [] seen hl (by rw [List.append_nil]; exact hf) (by rw [List.append_nil]; exact b)

/-! ### levels, with what's found in the place of bits -/
def levelsM (s : St) : Nat → List (List Nat) → List (List Nat) → List (List (List Nat))
  | 0, _, _ => []
  | k + 1, now, f => if now.isEmpty = true then [] else now :: levelsM s k (freshM (now.flatMap (nexts s)) f []) (f ++ freshM (now.flatMap (nexts s)) f [])
theorem nexts_val {s : St} (y : Yard s) {now : List (List Nat)} (h : ∀ x ∈ now, Val s x) : ∀ x ∈ now.flatMap (nexts s), Val s x := fun x hx => by
  obtain ⟨a, ha, hx⟩ := List.mem_flatMap.mp hx
  exact (h a ha).next y hx
theorem fresh_val {s : St} {l f : List (List Nat)} (hl : ∀ x ∈ l, Val s x) : ∀ x ∈ freshM l f [], Val s x := fun x hx => by
  rcases freshM_of hx with h | h
  · cases h
  · exact hl x h
theorem levels_is {s : St} (y : Yard s) : ∀ (k : Nat) (now f : List (List Nat)) (seen : Nat), (∀ x ∈ now, Val s x) → (∀ x ∈ f, Val s x) → Bits s seen f → levels s k now seen = levelsM s k now f
  | 0, _, _, _, _, _, _ => rfl
  | k + 1, now, f, seen, hn, hf, b => by
    unfold levels levelsM
    by_cases e : now.isEmpty = true
    · rw [if_pos e, if_pos e]
    · rw [if_neg e, if_neg e]
      have hx := nexts_val y hn
      obtain ⟨seen', e1, b1⟩ := fresh_is y hx hf b
      simp only [e1]
      rw [levels_is y k _ _ seen' (fresh_val hx) (fun x h => ?_) b1]
      rcases List.mem_append.mp h with h | h
      · exact hf x h
      · exact fresh_val hx x h
theorem freshM_self : ∀ (l acc : List (List Nat)), (acc ++ l).Nodup → freshM l [] acc = acc ++ l
  | [], acc, _ => by rw [List.append_nil]; rfl
  | n :: l, acc, h => by
    rw [freshM_cons]
    have q : ¬ (n ∈ ([] : List (List Nat)) ∨ n ∈ acc) := by
      rintro (z | z)
      · cases z
      · exact (List.nodup_append.mp h).2.2 n z n List.mem_cons_self rfl
    have e : stepF [] acc n = acc ++ [n] := by
      unfold stepF
      rw [if_neg q]
    rw [e, freshM_self l (acc ++ [n]) (by rw [List.append_assoc]; exact h), List.append_assoc]
    rfl
theorem from_is {s : St} (y : Yard s) {st : List (List Nat)} (nd : st.Nodup) (v : ∀ x ∈ st, Val s x) : from_ s st = levelsM s 3200 st st := by
  unfold from_
  have b0 : Bits s 0 [] := fun x _ => by simp
  obtain ⟨seen', e1, b1⟩ := fresh_is y (f := []) v (fun x h => by cases h) b0
  have e : freshM st [] [] = st := freshM_self st [] nd
  rw [e] at e1 b1
  simp only [e1]
  exact levels_is y 3200 st st seen' v v (by simpa using b1)

/-! ### what levels are -/
def inLevel (L : List (List (List Nat))) (i : Nat) (x : List Nat) : Prop := ∃ lv, L[i]? = some lv ∧ x ∈ lv
structure Bfs (s : St) (st : List (List Nat)) (L : List (List (List Nat))) : Prop where
  nd : L.flatten.Nodup
  val : ∀ x ∈ L.flatten, Val s x
  ne : ∀ lv ∈ L, lv ≠ []
  nil : st = [] → L = []
  zero : st ≠ [] → L[0]? = some st
  fwd : ∀ i x m, inLevel L i x → m ∈ nexts s x → ∃ j, j ≤ i + 1 ∧ inLevel L j m
  back : ∀ i m, inLevel L (i + 1) m → ∃ x, inLevel L i x ∧ m ∈ nexts s x

/-- the state of the search: levels gone through, the newest -/
structure Pre (s : St) (st : List (List Nat)) (done : List (List (List Nat))) (now : List (List Nat)) : Prop where
  nd : (done.flatten ++ now).Nodup
  val : ∀ x ∈ done.flatten ++ now, Val s x
  ne : ∀ lv ∈ done, lv ≠ []
  zero : (done ++ [now])[0]? = some st
  fwd : ∀ i x m, inLevel done i x → m ∈ nexts s x → ∃ j, j ≤ i + 1 ∧ inLevel (done ++ [now]) j m
  back : ∀ i m, inLevel (done ++ [now]) (i + 1) m → ∃ x, inLevel (done ++ [now]) i x ∧ m ∈ nexts s x
theorem Pre.start {s : St} {st : List (List Nat)} (nd : st.Nodup) (v : ∀ x ∈ st, Val s x) : Pre s st [] st where
  nd := by simpa using nd
  val := by simpa using v
  ne := fun _ h => by cases h
  zero := rfl
  fwd := fun i x m ⟨lv, e, _⟩ _ => by simp at e
  back := fun i m ⟨lv, e, _⟩ => by simp at e
theorem inLevel_app {L M : List (List (List Nat))} {i : Nat} {x : List Nat} (h : inLevel L i x) : inLevel (L ++ M) i x := by
  obtain ⟨lv, e, hx⟩ := h
  refine ⟨lv, ?_, hx⟩
  have hi : i < L.length := (List.getElem?_eq_some_iff.mp e).1
  rw [List.getElem?_append_left hi]
  exact e
theorem inLevel_snoc {L : List (List (List Nat))} {now : List (List Nat)} {i : Nat} {x : List Nat} (h : inLevel (L ++ [now]) i x) : inLevel L i x ∨ (i = L.length ∧ x ∈ now) := by
  obtain ⟨lv, e, hx⟩ := h
  rcases Nat.lt_or_ge i L.length with hi | hi
  · rw [List.getElem?_append_left hi] at e
    exact .inl ⟨lv, e, hx⟩
  · rw [List.getElem?_append_right hi] at e
    have : i - L.length = 0 := by
      rcases Nat.eq_zero_or_pos (i - L.length) with z | z
      · exact z
      · rw [List.getElem?_eq_none (by show [now].length ≤ _; exact z)] at e
        cases e
    rw [this] at e
    have e' : now = lv := Option.some.inj e
    subst e'
    exact .inr ⟨by omega, hx⟩
theorem inLevel_last {L : List (List (List Nat))} {now : List (List Nat)} {x : List Nat} (h : x ∈ now) : inLevel (L ++ [now]) L.length x :=
  ⟨now, by simp, h⟩
theorem inLevel_mem {L : List (List (List Nat))} {i : Nat} {x : List Nat} (h : inLevel L i x) : x ∈ L.flatten := by
  obtain ⟨lv, e, hx⟩ := h
  exact List.mem_flatten.mpr ⟨lv, List.mem_of_getElem? e, hx⟩
theorem mem_inLevel {L : List (List (List Nat))} {x : List Nat} (h : x ∈ L.flatten) : ∃ i, inLevel L i x := by
  obtain ⟨lv, hl, hx⟩ := List.mem_flatten.mp h
  obtain ⟨i, hi, e⟩ := List.getElem_of_mem hl
  exact ⟨i, lv, by rw [List.getElem?_eq_getElem hi, e], hx⟩

abbrev newOf (s : St) (done : List (List (List Nat))) (now : List (List Nat)) : List (List Nat) := freshM (now.flatMap (nexts s)) (done.flatten ++ now) []
theorem flatten_snoc (done : List (List (List Nat))) (now : List (List Nat)) : (done ++ [now]).flatten = done.flatten ++ now := by simp
theorem Pre.step {s : St} (y : Yard s) {st : List (List Nat)} {done : List (List (List Nat))} {now : List (List Nat)} (p : Pre s st done now) (hn : now ≠ []) : Pre s st (done ++ [now]) (newOf s done now) where
  nd := by
    rw [flatten_snoc]
    exact freshM_nd (l := now.flatMap (nexts s)) (acc := []) (by rw [List.append_nil]; exact p.nd)
  val := by
    rw [flatten_snoc]
    intro x hx
    rcases List.mem_append.mp hx with h | h
    · exact p.val x h
    · exact fresh_val (nexts_val y fun z hz => p.val z (List.mem_append_right _ hz)) x h
  ne := by
    intro lv h
    rcases List.mem_append.mp h with h | h
    · exact p.ne lv h
    · rw [List.mem_singleton.mp h]; exact hn
  zero := by
    have z := p.zero
    rw [List.getElem?_append_left (by simp)]
    exact z
  fwd := by
    intro i x m hx hm
    rcases inLevel_snoc hx with h | ⟨e, h⟩
    · obtain ⟨j, hj, q⟩ := p.fwd i x m h hm
      exact ⟨j, hj, inLevel_app q⟩
    · rcases freshM_has (f := done.flatten ++ now) (acc := []) (List.mem_flatMap.mpr ⟨x, h, hm⟩) with q | q
      · rw [← flatten_snoc] at q
        obtain ⟨j, hj⟩ := mem_inLevel q
        have : j < (done ++ [now]).length := by
          obtain ⟨lv, e, _⟩ := hj
          exact (List.getElem?_eq_some_iff.mp e).1
        rw [List.length_append] at this
        exact ⟨j, by simp at this; omega, inLevel_app hj⟩
      · refine ⟨(done ++ [now]).length, ?_, inLevel_last q⟩
        rw [List.length_append, e]
        simp
  back := by
    intro i m hm
    rcases inLevel_snoc hm with h | ⟨e, h⟩
    · obtain ⟨x, hx, q⟩ := p.back i m h
      exact ⟨x, inLevel_app hx, q⟩
    · rw [List.length_append] at e
      have e' : i = done.length := by simp at e; omega
      rcases freshM_of h with h | h
      · cases h
      · obtain ⟨x, hx, q⟩ := List.mem_flatMap.mp h
        refine ⟨x, ?_, q⟩
        rw [e']
        exact inLevel_app (inLevel_last hx)
theorem Pre.count {s : St} (y : Yard s) {st : List (List Nat)} {done : List (List (List Nat))} {now : List (List Nat)} (p : Pre s st done now) : (done.flatten ++ now).length ≤ 3125 :=
  vals_le y p.nd p.val
theorem flatten_ge : ∀ (done : List (List (List Nat))), (∀ lv ∈ done, lv ≠ []) → done.length ≤ done.flatten.length
  | [], _ => by simp
  | a :: r, h => by
    have ih := flatten_ge r fun lv hl => h lv (List.mem_cons_of_mem _ hl)
    have ha : a ≠ [] := h a List.mem_cons_self
    have : 1 ≤ a.length := by
      cases a with
      | nil => exact absurd rfl ha
      | cons _ _ => simp
    rw [List.flatten_cons, List.length_append, List.length_cons]
    omega
theorem Pre.few {s : St} (y : Yard s) {st : List (List Nat)} {done : List (List (List Nat))} {now : List (List Nat)} (p : Pre s st done now) : done.length ≤ 3125 := by
  have h1 := p.count y
  have h2 := flatten_ge done p.ne
  rw [List.length_append] at h1
  omega
theorem Pre.bfs {s : St} (y : Yard s) {st : List (List Nat)} : ∀ (k : Nat) (done : List (List (List Nat))) (now : List (List Nat)), Pre s st done now → k + done.length = 3200 → Bfs s st (done ++ levelsM s k now (done.flatten ++ now))
  | 0, done, now, p, hk => absurd (p.few y) (by omega)
  | k + 1, done, now, p, hk => by
    unfold levelsM
    by_cases e : now.isEmpty = true
    · rw [if_pos e, List.append_nil]
      have e' : now = [] := by simpa using e
      subst e'
      have hd : ∀ {i x}, inLevel (done ++ [[]]) i x → inLevel done i x := fun {i x} h => by
        rcases inLevel_snoc h with h | ⟨_, h⟩
        · exact h
        · cases h
      refine ⟨by simpa using p.nd, by simpa using p.val, p.ne, fun h => ?_, fun h => ?_, fun i x m hx hm => ?_, fun i m hm => ?_⟩
      · have z := p.zero
        cases done with
        | nil => rfl
        | cons a r =>
          have z' : a = st := Option.some.inj z
          exact absurd (z'.trans h) (p.ne a List.mem_cons_self)
      · have z := p.zero
        cases done with
        | nil =>
          have z' : [] = st := Option.some.inj z
          exact absurd z'.symm h
        | cons a r => exact z
      · obtain ⟨j, hj, q⟩ := p.fwd i x m hx hm
        exact ⟨j, hj, hd q⟩
      · obtain ⟨x, hx, q⟩ := p.back i m (inLevel_app hm)
        exact ⟨x, hd hx, q⟩
    · rw [if_neg e]
      have hn : now ≠ [] := by simpa using e
      have ih := Pre.bfs y k (done ++ [now]) (newOf s done now) (p.step y hn) (by rw [List.length_append]; simp; omega)
      rw [flatten_snoc, List.append_assoc] at ih
      exact ih
theorem from_bfs {s : St} (y : Yard s) {st : List (List Nat)} (nd : st.Nodup) (v : ∀ x ∈ st, Val s x) : Bfs s st (from_ s st) := by
  rw [from_is y nd v]
  exact Pre.bfs y 3200 [] st (Pre.start nd v) rfl

/-! ### distances -/
theorem inLevel_one {s : St} {st : List (List Nat)} {L : List (List (List Nat))} (nd : L.flatten.Nodup) {i j : Nat} {x : List Nat} (h : inLevel L i x) (h' : inLevel L j x) : i = j := by
  have key : ∀ (L : List (List (List Nat))), L.flatten.Nodup → ∀ i j, inLevel L i x → inLevel L j x → i = j := by
    intro L
    induction L with
    | nil => intro _ i j ⟨lv, e, _⟩; simp at e
    | cons a r ih =>
      intro nd i j ⟨l1, e1, h1⟩ ⟨l2, e2, h2⟩
      rw [List.flatten_cons, List.nodup_append] at nd
      obtain ⟨_, n2, n3⟩ := nd
      cases i with
      | zero =>
        cases j with
        | zero => rfl
        | succ j =>
          have e1' : a = l1 := Option.some.inj e1
          subst e1'
          exact absurd rfl (n3 x h1 x (inLevel_mem (L := r) (i := j) ⟨l2, e2, h2⟩))
      | succ i =>
        cases j with
        | zero =>
          have e2' : a = l2 := Option.some.inj e2
          subst e2'
          exact absurd rfl (n3 x h2 x (inLevel_mem (L := r) (i := i) ⟨l1, e1, h1⟩))
        | succ j => rw [ih n2 i j ⟨l1, e1, h1⟩ ⟨l2, e2, h2⟩]
  exact key L nd i j h h'
theorem distance_some {L : List (List (List Nat))} (nd : L.flatten.Nodup) {x : List Nat} {i : Nat} : distance L x = some i ↔ inLevel L i x := by
  unfold distance
  constructor
  · intro h
    rw [List.findIdx?_eq_some_iff_getElem] at h
    obtain ⟨hi, hc, _⟩ := h
    exact ⟨L[i], List.getElem?_eq_getElem hi, by simpa using hc⟩
  · intro h
    obtain ⟨lv, e, hx⟩ := id h
    have hi : i < L.length := (List.getElem?_eq_some_iff.mp e).1
    have e' : L[i] = lv := (List.getElem?_eq_some_iff.mp e).2
    rw [List.findIdx?_eq_some_iff_getElem]
    refine ⟨hi, by rw [e']; simpa using hx, fun j hj => ?_⟩
    intro hc
    have hjl : j < L.length := by omega
    have := inLevel_one (s := ⟨0, 0, [], [], [], 0⟩) (st := []) nd h ⟨L[j], List.getElem?_eq_getElem hjl, by simpa using hc⟩
    omega
theorem distance_none {L : List (List (List Nat))} {x : List Nat} : distance L x = none ↔ x ∉ L.flatten := by
  unfold distance
  rw [List.findIdx?_eq_none_iff]
  constructor
  · intro h hx
    obtain ⟨lv, hl, hx⟩ := List.mem_flatten.mp hx
    have := h lv hl
    simp at this
    exact this hx
  · intro h lv hl
    have : x ∉ lv := fun z => h (List.mem_flatten.mpr ⟨lv, hl, z⟩)
    simpa using this
end Cy
end
section
set_option linter.all false
/-! # Plain mathematics: what can be come to, plans, the hardest, all arrangements -/
namespace Cy
open Sy66 (St Car lineLong cellsOf meet carOf legal moved moves nexts code fresh levels from_ distance reach ends before first every arrangements)

/-- what holds of a yard between two calls -/
structure StOk (s : St) : Prop where
  yard : Yard s
  val : Val s s.at_
  wnd : (s.wants.map (·.1)).Nodup
  wlt : ∀ x ∈ s.wants, x.1 < s.cars.length

/-! ### search -/
theorem Bfs.closed {s : St} {st L} (b : Bfs s st L) {x m : List Nat} (hx : x ∈ L.flatten) (hm : m ∈ nexts s x) : m ∈ L.flatten := by
  obtain ⟨i, hi⟩ := mem_inLevel hx
  obtain ⟨j, _, hj⟩ := b.fwd i x m hi hm
  exact inLevel_mem hj
theorem Bfs.start {s : St} {st L} (b : Bfs s st L) {x : List Nat} (hx : x ∈ st) : inLevel L 0 x := by
  have hn : st ≠ [] := fun e => by rw [e] at hx; cases hx
  exact ⟨st, b.zero hn, hx⟩
theorem Bfs.zero_of {s : St} {st L} (b : Bfs s st L) {x : List Nat} (hx : inLevel L 0 x) : x ∈ st := by
  obtain ⟨lv, e, h⟩ := hx
  by_cases hn : st = []
  · rw [b.nil hn] at e; simp at e
  · rw [b.zero hn] at e
    have e' : st = lv := Option.some.inj e
    rw [e']; exact h
theorem reach_flat (s : St) : reach s = (from_ s [s.at_]).flatten := by
  unfold reach
  exact List.flatMap_id'
theorem reach_bfs {s : St} (o : StOk s) : Bfs s [s.at_] (from_ s [s.at_]) := from_bfs o.yard (by simp) (by
  intro x hx
  rw [List.mem_singleton.mp hx]
  exact o.val)
theorem goals_nd {s : St} (o : StOk s) : ((reach s).filter (Sy66.done s)).Nodup := by
  rw [reach_flat]
  exact (reach_bfs o).nd.filter _
theorem goals_val {s : St} (o : StOk s) : ∀ x ∈ (reach s).filter (Sy66.done s), Val s x := fun x hx => by
  have h := (List.mem_filter.mp hx).1
  rw [reach_flat] at h
  exact (reach_bfs o).val x h
theorem ends_bfs {s : St} (o : StOk s) : Bfs s ((reach s).filter (Sy66.done s)) (ends s) := from_bfs o.yard (goals_nd o) (goals_val o)
theorem ends_at {s : St} (o : StOk s) (h : (reach s).filter (Sy66.done s) ≠ []) : s.at_ ∈ (ends s).flatten := by
  have B := reach_bfs o
  have E := ends_bfs o
  have back : ∀ i x, inLevel (from_ s [s.at_]) i x → x ∈ (ends s).flatten → s.at_ ∈ (ends s).flatten := by
    intro i
    induction i with
    | zero =>
      intro x hx hE
      have := B.zero_of hx
      rw [List.mem_singleton.mp this] at hE
      exact hE
    | succ i ih =>
      intro x hx hE
      obtain ⟨p, hp, q⟩ := B.back i x hx
      exact ih p hp (E.closed hE (next_sym o.yard (B.val p (inLevel_mem hp)) q))
  obtain ⟨x, hx⟩ := List.exists_mem_of_ne_nil _ h
  have hr := (List.mem_filter.mp hx).1
  rw [reach_flat] at hr
  obtain ⟨i, hi⟩ := mem_inLevel hr
  exact back i x hi (inLevel_mem (E.start hx))
theorem ends_none {s : St} (o : StOk s) : distance (ends s) s.at_ = none ↔ ends s = [] := by
  constructor
  · intro h
    by_cases q : (reach s).filter (Sy66.done s) = []
    · exact (ends_bfs o).nil q
    · exact absurd (ends_at o q) (distance_none.mp h)
  · intro h
    rw [h]
    rfl

/-! ### the steps as a table -/
def kvFrom : Nat → List (List (List Nat)) → List (List Nat × Nat)
  | _, [] => []
  | i, lv :: r => lv.map (fun x => (x, i)) ++ kvFrom (i + 1) r
abbrev kvOf (L : List (List (List Nat))) : List (List Nat × Nat) := kvFrom 0 L
theorem kvFrom_app : ∀ (A B : List (List (List Nat))) (i : Nat), kvFrom i (A ++ B) = kvFrom i A ++ kvFrom (i + A.length) B
  | [], B, i => by simp [kvFrom]
  | a :: A, B, i => by
    show a.map _ ++ kvFrom (i + 1) (A ++ B) = (a.map _ ++ kvFrom (i + 1) A) ++ kvFrom (i + (A.length + 1)) B
    rw [kvFrom_app A B (i + 1), List.append_assoc, show i + 1 + A.length = i + (A.length + 1) by omega]
theorem kvFrom_keys : ∀ (L : List (List (List Nat))) (i : Nat), (kvFrom i L).map (·.1) = L.flatten
  | [], _ => rfl
  | a :: L, i => by
    show (a.map _ ++ kvFrom (i + 1) L).map _ = (a :: L).flatten
    rw [List.map_append, kvFrom_keys L (i + 1), List.map_map, List.flatten_cons]
    congr 1
    exact List.map_id'' (fun _ => rfl) a
theorem kvFrom_mem : ∀ (L : List (List (List Nat))) (i : Nat) (x : List Nat) (j : Nat), (x, j) ∈ kvFrom i L ↔ ∃ n, j = i + n ∧ inLevel L n x
  | [], i, x, j => by
    constructor
    · intro h; cases h
    · rintro ⟨n, _, lv, e, _⟩; simp at e
  | a :: L, i, x, j => by
    show (x, j) ∈ a.map _ ++ kvFrom (i + 1) L ↔ _
    rw [List.mem_append, kvFrom_mem L (i + 1) x j]
    constructor
    · rintro (h | ⟨n, e, lv, e2, h⟩)
      · obtain ⟨z, hz, e⟩ := List.mem_map.mp h
        injection e with e1 e2
        subst e1; subst e2
        exact ⟨0, rfl, a, rfl, hz⟩
      · exact ⟨n + 1, by omega, lv, e2, h⟩
    · rintro ⟨n, e, lv, e2, h⟩
      cases n with
      | zero =>
        have e2' : a = lv := Option.some.inj e2
        subst e2'
        exact .inl (List.mem_map.mpr ⟨x, h, by rw [e]; rfl⟩)
      | succ n => exact .inr ⟨n, by omega, lv, e2, h⟩
theorem kvOf_mem {L : List (List (List Nat))} (nd : L.flatten.Nodup) {x : List Nat} {j : Nat} : (x, j) ∈ kvOf L ↔ distance L x = some j := by
  rw [distance_some nd, kvFrom_mem]
  constructor
  · rintro ⟨n, e, h⟩
    have : j = n := by omega
    rw [this]; exact h
  · intro h
    exact ⟨j, by omega, h⟩
theorem kvOf_len (L : List (List (List Nat))) : (kvOf L).length = L.flatten.length := by
  rw [← kvFrom_keys L 0, List.length_map]
theorem kvFrom_last : ∀ (L : List (List (List Nat))) (i k : Nat), i ≤ k → (kvFrom i L).filter (fun p => decide (p.2 = k)) = ((L[k - i]?).getD []).map (fun x => (x, k))
  | [], i, k, _ => by simp [kvFrom]
  | a :: L, i, k, h => by
    show (a.map _ ++ kvFrom (i + 1) L).filter _ = _
    rw [List.filter_append]
    by_cases e : i = k
    · subst e
      rw [Nat.sub_self]
      have h1 : (a.map (fun x => (x, i))).filter (fun p => decide (p.2 = i)) = a.map (fun x => (x, i)) := by
        rw [List.filter_eq_self]
        intro p hp
        obtain ⟨z, _, rfl⟩ := List.mem_map.mp hp
        simp
      have h2 : (kvFrom (i + 1) L).filter (fun p => decide (p.2 = i)) = [] := by
        rw [List.filter_eq_nil_iff]
        rintro ⟨x, j⟩ hp
        obtain ⟨n, e, _⟩ := (kvFrom_mem L (i + 1) x j).mp hp
        simp
        omega
      rw [h1, h2, List.append_nil]
      rfl
    · have h1 : (a.map (fun x => (x, i))).filter (fun p => decide (p.2 = k)) = [] := by
        rw [List.filter_eq_nil_iff]
        intro p hp
        obtain ⟨z, _, rfl⟩ := List.mem_map.mp hp
        simpa using e
      rw [h1, List.nil_append, kvFrom_last L (i + 1) k (by omega), show k - i = (k - (i + 1)) + 1 by omega]
      rfl

/-! ### plans -/
def near (s : St) (L : List (List (List Nat))) (k : Nat) (l : List Nat) : Option (Nat × Nat) :=
  (moves l).find? fun (x : Nat × Nat) => (moved s l x.1 x.2).any fun (u : List Nat) => distance L u == some k
/-- the moves that can be made -/
def movesM (s : St) (l : List Nat) : List (Nat × Nat) := (moves l).filter fun x => (moved s l x.1 x.2).isSome
theorem movesM_mem {s : St} (y : Yard s) {l : List Nat} (v : Val s l) {x : Nat × Nat} (h : x ∈ movesM s l) : x.1 < l.length ∧ x.2 < 5 ∧ moved s l x.1 x.2 = some (l.set x.1 x.2) ∧ l.set x.1 x.2 ∈ nexts s l := by
  obtain ⟨h1, h2⟩ := List.mem_filter.mp h
  unfold moves at h1
  obtain ⟨k, hk, h1⟩ := List.mem_flatMap.mp h1
  obtain ⟨o, ho, e⟩ := List.mem_map.mp h1
  subst e
  obtain ⟨m, hm⟩ := Option.isSome_iff_exists.mp h2
  have e := ((moved_iff (v.cars y) v.leg).mp hm).2.2.2.2
  subst e
  exact ⟨List.mem_range.mp hk, List.mem_range.mp ho, hm, mem_nexts.mpr ⟨k, o, List.mem_range.mp hk, List.mem_range.mp ho, hm⟩⟩
theorem nexts_is {s : St} (y : Yard s) {l : List Nat} (v : Val s l) : nexts s l = (movesM s l).map fun x => l.set x.1 x.2 := by
  unfold nexts movesM
  have key : ∀ (M : List (Nat × Nat)), M.filterMap (fun x => moved s l x.1 x.2) = (M.filter fun x => (moved s l x.1 x.2).isSome).map fun x => l.set x.1 x.2 := by
    intro M
    induction M with
    | nil => rfl
    | cons a M ih =>
      cases h : moved s l a.1 a.2 with
      | none =>
        rw [List.filterMap_cons, h, List.filter_cons_of_neg (by rw [h]; decide), ← ih]
      | some m =>
        have e := ((moved_iff (v.cars y) v.leg).mp h).2.2.2.2
        rw [List.filterMap_cons, h, List.filter_cons_of_pos (by rw [h]; rfl), List.map_cons, ← ih, ← e]
  exact key _
theorem find_filter {α : Type} (p q : α → Bool) : ∀ (l : List α), (∀ x ∈ l, p x = true → q x = true) → (l.filter q).find? p = l.find? p
  | [], _ => rfl
  | a :: l, h => by
    have ih := find_filter p q l fun x hx => h x (List.mem_cons_of_mem _ hx)
    by_cases hq : q a = true
    · rw [List.filter_cons_of_pos hq, List.find?_cons, List.find?_cons, ih]
    · have hp : p a = false := by
        cases hp : p a with
        | false => rfl
        | true => exact absurd (h a List.mem_cons_self hp) hq
      rw [List.filter_cons_of_neg hq, List.find?_cons, hp, ih]
theorem find_congr {α : Type} (p q : α → Bool) : ∀ (l : List α), (∀ x ∈ l, p x = q x) → l.find? p = l.find? q
  | [], _ => rfl
  | a :: l, h => by
    rw [List.find?_cons, List.find?_cons, h a List.mem_cons_self, find_congr p q l fun x hx => h x (List.mem_cons_of_mem _ hx)]
/-- the steps of an arrangement, 0 where it isn't in the table -/
def stepsOf (L : List (List (List Nat))) (x : List Nat) : Nat := (distance L x).getD 0
theorem stepsOf_of {L : List (List (List Nat))} (nd : L.flatten.Nodup) {x : List Nat} {i : Nat} (h : inLevel L i x) : stepsOf L x = i := by
  unfold stepsOf
  rw [(distance_some nd).mpr h]
  rfl
theorem near_is {s : St} (y : Yard s) {st L} (B : Bfs s st L) {l : List Nat} {k : Nat} (h : inLevel L (k + 1) l) :
    near s L k l = (movesM s l).find? fun x => decide (stepsOf L (l.set x.1 x.2) < k + 1) := by
  have v := B.val l (inLevel_mem h)
  unfold near
  rw [← find_filter _ (fun x => (moved s l x.1 x.2).isSome)]
  · refine find_congr _ _ _ fun x hx => ?_
    obtain ⟨_, _, e, hn⟩ := movesM_mem y v hx
    rw [e]
    obtain ⟨j, _, hj⟩ := B.fwd (k + 1) l _ h hn
    have hb : k ≤ j := by
      have vx := B.val _ (inLevel_mem hj)
      obtain ⟨i, hi, q⟩ := B.fwd j _ _ hj (next_sym y v hn)
      have := inLevel_one (s := s) (st := st) B.nd h q
      omega
    rw [stepsOf_of B.nd hj]
    show (distance L (l.set x.1 x.2) == some k) = _
    rw [(distance_some B.nd).mpr hj]
    by_cases ek : j = k
    · subst ek; simp
    · have : ¬ j < k + 1 := by omega
      simp [ek, this]
  · intro x _ hx
    cases hm : moved s l x.1 x.2 with
    | none => rw [hm] at hx; cases hx
    | some _ => rfl
theorem near_some {s : St} (y : Yard s) {st L} (B : Bfs s st L) {l : List Nat} {k : Nat} (h : inLevel L (k + 1) l) :
    ∃ x, near s L k l = some x ∧ x ∈ movesM s l ∧ moved s l x.1 x.2 = some (l.set x.1 x.2) ∧ inLevel L k (l.set x.1 x.2) := by
  have v := B.val l (inLevel_mem h)
  obtain ⟨m, hm, q⟩ := B.back k l h
  have vm := B.val m (inLevel_mem hm)
  have q' := next_sym y vm q
  rw [nexts_is y v] at q'
  obtain ⟨x, hx, e⟩ := List.mem_map.mp q'
  cases hf : near s L k l with
  | none =>
    rw [near_is y B h, List.find?_eq_none] at hf
    have := hf x hx
    rw [e, stepsOf_of B.nd hm] at this
    simp at this
  | some z =>
    have hf' := hf
    rw [near_is y B h] at hf'
    have hz := List.mem_of_find?_eq_some hf'
    obtain ⟨_, _, e2, _⟩ := movesM_mem y v hz
    refine ⟨z, rfl, hz, e2, ?_⟩
    have hp := List.find?_some hf
    rw [e2] at hp
    have hp' : (distance L (l.set z.1 z.2) == some k) = true := hp
    exact (distance_some B.nd).mp (by simpa using hp')
theorem plan_succ {s : St} (y : Yard s) {st L} (B : Bfs s st L) {l : List Nat} {k : Nat} (h : inLevel L (k + 1) l) {x : Nat × Nat} (e : near s L k l = some x) :
    Sy66.plan s L (k + 1) l = x :: Sy66.plan s L k (l.set x.1 x.2) := by
  obtain ⟨x', e', _, hm, _⟩ := near_some y B h
  rw [e] at e'
  cases e'
  show (match near s L k l with
    | none => []
    | some x => x :: Sy66.plan s L k ((moved s l x.1 x.2).getD l)) = _
  rw [e]
  simp only
  rw [hm]
  rfl
theorem plan_len {s : St} (y : Yard s) {st L} (B : Bfs s st L) : ∀ (k : Nat) (l : List Nat), inLevel L k l → (Sy66.plan s L k l).length = k
  | 0, _, _ => rfl
  | k + 1, l, h => by
    obtain ⟨x, e, _, _, q⟩ := near_some y B h
    rw [plan_succ y B h e, List.length_cons, plan_len y B k _ q]

/-! ### places: a sorted list without doubles -/
theorem ins_mem (n x : Nat) : ∀ (l : List Nat), x ∈ Sy66.insert n l ↔ x = n ∨ x ∈ l
  | [] => by simp [Sy66.insert]
  | m :: l => by
    unfold Sy66.insert
    by_cases h1 : n < m
    · rw [if_pos h1]; simp
    · rw [if_neg h1]
      by_cases h2 : n = m
      · rw [if_pos h2]; subst h2; simp
      · rw [if_neg h2, List.mem_cons, ins_mem n x l, List.mem_cons]
        constructor
        · rintro (h | h | h)
          · exact .inr (.inl h)
          · exact .inl h
          · exact .inr (.inr h)
        · rintro (h | h | h)
          · exact .inr (.inl h)
          · exact .inl h
          · exact .inr (.inr h)
theorem ins_sorted (n : Nat) : ∀ (l : List Nat), l.Pairwise (· < ·) → (Sy66.insert n l).Pairwise (· < ·)
  | [], _ => by simp [Sy66.insert]
  | m :: l, h => by
    obtain ⟨h1, h2⟩ := List.pairwise_cons.mp h
    unfold Sy66.insert
    by_cases q1 : n < m
    · rw [if_pos q1]
      refine List.pairwise_cons.mpr ⟨fun x hx => ?_, h⟩
      rcases List.mem_cons.mp hx with e | hx
      · subst e; exact q1
      · exact Nat.lt_trans q1 (h1 x hx)
    · rw [if_neg q1]
      by_cases q2 : n = m
      · rw [if_pos q2]; exact h
      · rw [if_neg q2]
        refine List.pairwise_cons.mpr ⟨fun x hx => ?_, ins_sorted n l h2⟩
        rcases (ins_mem n x l).mp hx with e | hx
        · subst e; omega
        · exact h1 x hx
def sortedOf (vs : List Nat) : List Nat := vs.foldl (fun (m : List Nat) (r : Nat) => Sy66.insert r m) []
theorem sortedOf_go : ∀ (vs acc : List Nat), acc.Pairwise (· < ·) → (vs.foldl (fun (m : List Nat) (r : Nat) => Sy66.insert r m) acc).Pairwise (· < ·) ∧ ∀ x, x ∈ vs.foldl (fun (m : List Nat) (r : Nat) => Sy66.insert r m) acc ↔ x ∈ acc ∨ x ∈ vs
  | [], acc, h => ⟨h, fun x => by simp⟩
  | v :: vs, acc, h => by
    rw [List.foldl_cons]
    obtain ⟨a, b⟩ := sortedOf_go vs (Sy66.insert v acc) (ins_sorted v acc h)
    refine ⟨a, fun x => ?_⟩
    rw [b x, ins_mem, List.mem_cons]
    constructor
    · rintro ((h | h) | h)
      · exact .inr (.inl h)
      · exact .inl h
      · exact .inr (.inr h)
    · rintro (h | h | h)
      · exact .inl (.inr h)
      · exact .inl (.inl h)
      · exact .inr h
theorem sortedOf_pw (vs : List Nat) : (sortedOf vs).Pairwise (· < ·) := (sortedOf_go vs [] List.Pairwise.nil).1
theorem sortedOf_mem {vs : List Nat} {x : Nat} : x ∈ sortedOf vs ↔ x ∈ vs := by
  rw [show (x ∈ sortedOf vs) ↔ _ from (sortedOf_go vs [] List.Pairwise.nil).2 x]
  simp
theorem sorted_one : ∀ {a b : List Int}, a.Pairwise (· < ·) → b.Pairwise (· < ·) → (∀ x, x ∈ a ↔ x ∈ b) → a = b
  | [], [], _, _, _ => rfl
  | [], y :: b, _, _, h => by have := (h y).mpr List.mem_cons_self; cases this
  | x :: a, [], _, _, h => by have := (h x).mp List.mem_cons_self; cases this
  | x :: a, y :: b, ha, hb, h => by
    obtain ⟨a1, a2⟩ := List.pairwise_cons.mp ha
    obtain ⟨b1, b2⟩ := List.pairwise_cons.mp hb
    have e : x = y := by
      rcases List.mem_cons.mp ((h x).mp List.mem_cons_self) with e | q
      · exact e
      · rcases List.mem_cons.mp ((h y).mpr List.mem_cons_self) with e | r
        · exact e.symm
        · have := b1 x q
          have := a1 y r
          omega
    subst e
    rw [sorted_one a2 b2 fun z => ?_]
    constructor
    · intro hz
      rcases List.mem_cons.mp ((h z).mp (List.mem_cons_of_mem _ hz)) with e | q
      · subst e; exact absurd (a1 z hz) (Int.lt_irrefl _)
      · exact q
    · intro hz
      rcases List.mem_cons.mp ((h z).mpr (List.mem_cons_of_mem _ hz)) with e | q
      · subst e; exact absurd (b1 z hz) (Int.lt_irrefl _)
      · exact q
theorem sorted_is {vs : List Nat} {ns : List Int} (h1 : ns.Pairwise (· < ·)) (h2 : ∀ k : Int, k ∈ ns ↔ k ∈ vs.map fun (n : Nat) => (n : Int)) : ns = (sortedOf vs).map fun (n : Nat) => (n : Int) := by
  refine sorted_one h1 ?_ fun k => ?_
  · rw [List.pairwise_map]
    exact (sortedOf_pw vs).imp fun h => by omega
  · rw [h2 k, List.mem_map, List.mem_map]
    constructor
    · rintro ⟨n, hn, e⟩; exact ⟨n, sortedOf_mem.mpr hn, e⟩
    · rintro ⟨n, hn, e⟩; exact ⟨n, sortedOf_mem.mp hn, e⟩

/-! ### the first arrangement -/
theorem before_irrefl : ∀ (a : List Nat), before a a = false
  | [] => rfl
  | x :: a => by
    show (decide (x < x) || (x == x && before a a)) = false
    rw [before_irrefl a]
    simp
theorem before_total : ∀ {a b : List Nat}, a.length = b.length → before a b = false → before b a = false → a = b
  | [], [], _, _, _ => rfl
  | [], _ :: _, h, _, _ => by simp at h
  | _ :: _, [], h, _, _ => by simp at h
  | x :: a, y :: b, h, h1, h2 => by
    have h1' : (decide (x < y) || (x == y && before a b)) = false := h1
    have h2' : (decide (y < x) || (y == x && before b a)) = false := h2
    rw [Bool.or_eq_false_iff] at h1' h2'
    have e : x = y := by
      have := of_decide_eq_false h1'.1
      have := of_decide_eq_false h2'.1
      omega
    subst e
    have q1 : before a b = false := by simpa using h1'.2
    have q2 : before b a = false := by simpa using h2'.2
    rw [before_total (by simpa using h) q1 q2]
theorem before_trans : ∀ {a b c : List Nat}, before a b = true → before b c = true → before a c = true
  | [], _, _, h, _ => by
    rename_i b _
    cases b <;> simp [before] at h
  | x :: a, [], _, h, _ => by simp [before] at h
  | x :: a, y :: b, [], _, h => by simp [before] at h
  | x :: a, y :: b, z :: c, h1, h2 => by
    have h1' : (decide (x < y) || (x == y && before a b)) = true := h1
    have h2' : (decide (y < z) || (y == z && before b c)) = true := h2
    show (decide (x < z) || (x == z && before a c)) = true
    rw [Bool.or_eq_true, Bool.and_eq_true, decide_eq_true_eq, beq_iff_eq] at h1' h2' ⊢
    rcases h1' with p | ⟨p, p'⟩
    · rcases h2' with q | ⟨q, _⟩
      · exact .inl (by omega)
      · exact .inl (by omega)
    · rcases h2' with q | ⟨q, q'⟩
      · exact .inl (by omega)
      · exact .inr ⟨by omega, before_trans p' q'⟩
theorem first_go : ∀ (l : List (List Nat)) (a : List Nat), (∀ x ∈ l, x.length = a.length) →
    (l.foldl (fun (m x : List Nat) => if before x m = true then x else m) a ∈ a :: l) ∧ ∀ y ∈ a :: l, before y (l.foldl (fun (m x : List Nat) => if before x m = true then x else m) a) = false
  | [], a, _ => by
    refine ⟨List.mem_cons_self, fun y hy => ?_⟩
    rw [List.mem_singleton.mp hy]
    exact before_irrefl a
  | x :: l, a, h => by
    rw [List.foldl_cons]
    have hx := h x List.mem_cons_self
    have h' : ∀ z ∈ l, z.length = a.length := fun z hz => h z (List.mem_cons_of_mem _ hz)
    by_cases q : before x a = true
    · rw [if_pos q]
      obtain ⟨m, b⟩ := first_go l x fun z hz => (h' z hz).trans hx.symm
      refine ⟨List.mem_cons_of_mem _ m, fun y hy => ?_⟩
      rcases List.mem_cons.mp hy with e | hy
      · subst e
        cases r : before y (l.foldl (fun (m x : List Nat) => if before x m = true then x else m) x) with
        | false => rfl
        | true =>
          have := before_trans q r
          rw [b x List.mem_cons_self] at this
          cases this
      · exact b y hy
    · rw [if_neg q]
      obtain ⟨m, b⟩ := first_go l a h'
      refine ⟨?_, fun y hy => ?_⟩
      · rcases List.mem_cons.mp m with e | m
        · rw [e]; exact List.mem_cons_self
        · exact List.mem_cons_of_mem _ (List.mem_cons_of_mem _ m)
      · rcases List.mem_cons.mp hy with e | hy
        · exact b y (by rw [e]; exact List.mem_cons_self)
        · rcases List.mem_cons.mp hy with e | hy
          · subst e
            cases r : before y (l.foldl (fun (m x : List Nat) => if before x m = true then x else m) a) with
            | false => rfl
            | true =>
              -- y before the least, a is not before y
              have ba := b a List.mem_cons_self
              by_cases ey : before a y = true
              · have := before_trans ey r
                rw [ba] at this
                cases this
              · have e2 := before_total (a := y) (b := a) hx (by simpa using q) (by simpa using ey)
                rw [e2, ba] at r
                cases r
          · exact b y (List.mem_cons_of_mem _ hy)
theorem first_is {l : List (List Nat)} {n : Nat} (hl : ∀ x ∈ l, x.length = n) {m : List Nat} (hm : m ∈ l) (hb : ∀ y ∈ l, before y m = false) : first l = m := by
  cases l with
  | nil => cases hm
  | cons a r =>
    have hr : ∀ x ∈ r, x.length = a.length := fun x hx => (hl x (List.mem_cons_of_mem _ hx)).trans (hl a List.mem_cons_self).symm
    obtain ⟨h1, h2⟩ := first_go r a hr
    show r.foldl (fun (m x : List Nat) => if before x m = true then x else m) a = m
    exact before_total ((hl _ h1).trans (hl m hm).symm) (hb _ h1) (h2 m hm)

/-! ### one car more -/
def FreeAt (s : St) (l : List Nat) (c : Car) (r : Nat) : Prop := ∀ j, j < l.length → Apart (cells c r r) (cells (carOf s j) (l.getD j 0) (l.getD j 0))
theorem getD_app_l {l : List Nat} {r j : Nat} (h : j < l.length) : (l ++ [r]).getD j 0 = l.getD j 0 := by
  rw [List.getD_eq_getElem?_getD, List.getD_eq_getElem?_getD, List.getElem?_append_left h]
theorem getD_app_r {l : List Nat} {r : Nat} : (l ++ [r]).getD l.length 0 = r := by
  rw [List.getD_eq_getElem?_getD]
  simp
theorem leg_snoc {s : St} {l : List Nat} {r : Nat} : Leg s (l ++ [r]) ↔ Leg s l ∧ r + (carOf s l.length).long ≤ lineLong s (carOf s l.length) ∧ FreeAt s l (carOf s l.length) r := by
  have hlen : (l ++ [r]).length = l.length + 1 := by simp
  constructor
  · intro L
    refine ⟨⟨fun i hi => ?_, fun i j hi hj ne => ?_⟩, ?_, fun j hj => ?_⟩
    · have := L.fit i (by omega)
      rw [getD_app_l hi] at this
      exact this
    · have := L.apart i j (by omega) (by omega) ne
      rw [getD_app_l hi, getD_app_l hj] at this
      exact this
    · have := L.fit l.length (by omega)
      rw [getD_app_r] at this
      exact this
    · have := L.apart l.length j (by omega) (by omega) (by omega)
      rw [getD_app_r, getD_app_l hj] at this
      exact this
  · rintro ⟨L, h1, h2⟩
    refine ⟨fun i hi => ?_, fun i j hi hj ne => ?_⟩
    · rcases Nat.lt_or_ge i l.length with h | h
      · rw [getD_app_l h]; exact L.fit i h
      · have e : i = l.length := by omega
        subst e
        rw [getD_app_r]; exact h1
    · rcases Nat.lt_or_ge i l.length with h | h
      · rcases Nat.lt_or_ge j l.length with h' | h'
        · rw [getD_app_l h, getD_app_l h']; exact L.apart i j h h' ne
        · have e : j = l.length := by omega
          subst e
          rw [getD_app_r, getD_app_l h]
          exact fun x hx hy => h2 i h x hy hx
      · have e : i = l.length := by omega
        subst e
        have h' : j < l.length := by omega
        rw [getD_app_r, getD_app_l h']
        exact h2 j h'

theorem flatMap_congr0 {α β : Type} {f g : α → List β} : ∀ {l : List α}, (∀ a ∈ l, f a = g a) → l.flatMap f = l.flatMap g
  | [], _ => rfl
  | a :: l, h => by rw [List.flatMap_cons, List.flatMap_cons, h a List.mem_cons_self, flatMap_congr0 fun x hx => h x (List.mem_cons_of_mem _ hx)]
theorem every_snoc : ∀ n, every (n + 1) = (every n).flatMap fun l => (List.range 5).map fun r => l ++ [r]
  | 0 => by decide
  | n + 1 => by
    show (List.range 5).flatMap (fun (r : Nat) => (every (n + 1)).map fun (l : List Nat) => r :: l) = ((List.range 5).flatMap (fun (r : Nat) => (every n).map fun (l : List Nat) => r :: l)).flatMap fun l => (List.range 5).map fun r => l ++ [r]
    rw [List.flatMap_assoc]
    congr 1
    funext r
    rw [every_snoc n, List.map_flatMap, List.flatMap_map]
    refine flatMap_congr0 fun l _ => ?_
    rw [List.map_map]
    rfl
theorem every_len : ∀ (n : Nat), ∀ l ∈ every n, l.length = n
  | 0, l, h => by
    have : l = [] := by simpa [every] using h
    rw [this]; rfl
  | n + 1, l, h => by
    rw [every_snoc] at h
    obtain ⟨m, hm, h⟩ := List.mem_flatMap.mp h
    obtain ⟨r, _, rfl⟩ := List.mem_map.mp h
    rw [List.length_append, every_len n m hm]
    rfl
/-- the arrangements of the first n cars, car by car; p: a test of where the next one is free -/
def arrM (s : St) (p : List Nat → Nat → Bool) : Nat → List (List Nat)
  | 0 => [[]]
  | n + 1 => (arrM s p n).flatMap fun l => ((List.range (lineLong s (carOf s n) - (carOf s n).long + 1)).filter (p l)).map fun r => l ++ [r]
theorem filter_flatMap' {α β : Type} (f : α → List β) (p : β → Bool) : ∀ (l : List α), (l.flatMap f).filter p = l.flatMap fun a => (f a).filter p
  | [] => rfl
  | a :: l => by rw [List.flatMap_cons, List.flatMap_cons, List.filter_append, filter_flatMap' f p l]
theorem flatMap_filter' {α β : Type} (f : α → List β) (p : α → Bool) : ∀ (l : List α), (l.filter p).flatMap f = l.flatMap fun a => if p a = true then f a else []
  | [] => rfl
  | a :: l => by
    rw [List.flatMap_cons]
    by_cases h : p a = true
    · rw [List.filter_cons_of_pos h, List.flatMap_cons, if_pos h, flatMap_filter' f p l]
    · rw [List.filter_cons_of_neg h, if_neg h, List.nil_append, flatMap_filter' f p l]
theorem range_filter (p : Nat → Bool) {n m : Nat} (h : n ≤ m) (hp : ∀ i, n ≤ i → p i = false) : (List.range m).filter p = (List.range n).filter p := by
  obtain ⟨k, rfl⟩ : ∃ k, m = n + k := ⟨m - n, by omega⟩
  induction k with
  | zero => rfl
  | succ k ih =>
    rw [show n + (k + 1) = (n + k) + 1 by omega, List.range_succ, List.filter_append, ih (by omega)]
    have : [n + k].filter p = [] := by
      rw [List.filter_cons_of_neg]
      · rfl
      · rw [hp (n + k) (by omega)]; decide
    rw [this, List.append_nil]
theorem flatMap_congr' {α β : Type} {f g : α → List β} : ∀ {l : List α}, (∀ a ∈ l, f a = g a) → l.flatMap f = l.flatMap g
  | [], _ => rfl
  | a :: l, h => by rw [List.flatMap_cons, List.flatMap_cons, h a List.mem_cons_self, flatMap_congr' fun x hx => h x (List.mem_cons_of_mem _ hx)]
theorem arr_is {s : St} (y : Yard s) {p : List Nat → Nat → Bool} (hf : ∀ i, i < s.cars.length → (carOf s i).long ≤ lineLong s (carOf s i)) (hp : ∀ l r, l.length < s.cars.length → Leg s l → (p l r = true ↔ FreeAt s l (carOf s l.length) r)) : ∀ n, n ≤ s.cars.length → (every n).filter (legal s) = arrM s p n
  | 0, _ => by rfl
  | n + 1, hn => by
    show _ = (arrM s p n).flatMap _
    rw [← arr_is y hf hp n (by omega), every_snoc, filter_flatMap', flatMap_filter']
    refine flatMap_congr' fun l hl => ?_
    have len := every_len n l hl
    have K : CarsOk s l.length := y.cars (by omega)
    have K2 : CarsOk s (n + 1) := y.cars hn
    have car := K2 n (by omega)
    rw [List.filter_map]
    by_cases c : legal s l = true
    · rw [if_pos c]
      have L := (legal_iff K).mp c
      congr 1
      have h5 := y.line (carOf s n)
      rw [range_filter _ (n := lineLong s (carOf s n) - (carOf s n).long + 1)]
      · refine List.filter_congr fun r hr => ?_
        rw [List.mem_range] at hr
        show legal s (l ++ [r]) = p l r
        rw [Bool.eq_iff_iff, legal_iff (by rw [List.length_append, len]; exact K2), leg_snoc, hp l r (by omega) L, len]
        constructor
        · exact fun h => h.2.2
        · intro h
          have := hf n (by omega)
          exact ⟨L, by omega, h⟩
      · have := car.lo
        omega
      · intro r hr
        show legal s (l ++ [r]) = false
        cases q : legal s (l ++ [r]) with
        | false => rfl
        | true =>
          have := (leg_snoc.mp ((legal_iff (by rw [List.length_append, len]; exact K2)).mp q)).2.1
          rw [len] at this
          omega
    · rw [if_neg c]
      have : (List.range 5).filter ((legal s) ∘ fun r => l ++ [r]) = [] := by
        rw [List.filter_eq_nil_iff]
        intro r _ q
        have q' : legal s (l ++ [r]) = true := q
        exact c ((legal_iff K).mpr (leg_snoc.mp ((legal_iff (by rw [List.length_append, len]; exact K2)).mp q')).1)
      rw [this]
      rfl
end Cy
end
section
set_option linter.all false
/-! # Plain mathematics: the calls keep the state well formed -/
namespace Cy
open Sy66 (St Car lineLong cellsOf meet carOf legal moved moves nexts code fresh levels from_ distance reach ends before first every arrangements)

theorem init_ok {r c : Nat} (hr : 1 ≤ r ∧ r ≤ 5) (hc : 1 ≤ c ∧ c ≤ 5) : StOk { Sy66.init with rows := r, cols := c } where
  yard := ⟨hr, hc, (fun x h => nomatch h), Nat.zero_le _⟩
  val := ⟨rfl, ⟨fun i h => absurd h (Nat.not_lt_zero _), fun i j h => absurd h (Nat.not_lt_zero _)⟩⟩
  wnd := List.Pairwise.nil
  wlt := fun x h => nomatch h
/-- a yard with one car more -/
abbrev more (s : St) (x : Car) (p : Nat) : St := { s with cars := s.cars ++ [x], at_ := s.at_ ++ [p] }
theorem more_old {s : St} {x : Car} {p j : Nat} (h : j < s.cars.length) : carOf (more s x p) j = carOf s j := by
  show (s.cars ++ [x]).getD j _ = s.cars.getD j _
  rw [List.getD_eq_getElem?_getD, List.getD_eq_getElem?_getD, List.getElem?_append_left h]
theorem more_new {s : St} {x : Car} {p : Nat} : carOf (more s x p) s.cars.length = x := by
  show (s.cars ++ [x]).getD s.cars.length _ = x
  rw [List.getD_eq_getElem?_getD]
  simp
theorem more_leg {s : St} (o : StOk s) {x : Car} {p : Nat} (fit : p + x.long ≤ lineLong s x) : Leg (more s x p) (s.at_ ++ [p]) ↔ FreeAt s s.at_ x p := by
  have lenP : s.at_.length = s.cars.length := o.val.len
  rw [leg_snoc, lenP, more_new]
  constructor
  · rintro ⟨_, _, h⟩ j hj
    have := h j hj
    rw [more_old (by omega)] at this
    exact this
  · intro h
    refine ⟨⟨fun i hi => ?_, fun i j hi hj ne => ?_⟩, fit, fun j hj => ?_⟩
    · rw [more_old (by omega)]
      exact o.val.leg.fit i hi
    · rw [more_old (by omega), more_old (by omega)]
      exact o.val.leg.apart i j hi hj ne
    · rw [more_old (by omega)]
      exact h j hj
theorem more_cars {s : St} (o : StOk s) {x : Car} {p : Nat} (k : CarOk s x) : ∀ c ∈ s.cars ++ [x], CarOk (more s x p) c := fun c h => by
  rcases List.mem_append.mp h with h | h
  · have := o.yard.car c h
    exact ⟨this.lo, this.hi, this.ln⟩
  · rw [List.mem_singleton.mp h]
    exact ⟨k.lo, k.hi, k.ln⟩
theorem more_carsOk {s : St} (o : StOk s) {x : Car} {p : Nat} (k : CarOk s x) : CarsOk (more s x p) (s.at_ ++ [p]).length := fun i hi => by
  rw [List.length_append, o.val.len] at hi
  have hi' : i < (s.cars ++ [x]).length := by rw [List.length_append]; exact hi
  rw [carOf_get (s := more s x p) (List.getElem?_eq_getElem hi')]
  exact more_cars o k _ (List.getElem_mem hi')
theorem more_legal {s : St} (o : StOk s) {x : Car} {p : Nat} (k : CarOk s x) (fit : p + x.long ≤ lineLong s x) : legal (more s x p) (more s x p).at_ = true ↔ FreeAt s s.at_ x p :=
  (legal_iff (more_carsOk o k)).trans (more_leg o fit)
theorem more_ok {s : St} (o : StOk s) {x : Car} {p : Nat} (k : CarOk s x) (fit : p + x.long ≤ lineLong s x) (few : s.cars.length < 5) (f : FreeAt s s.at_ x p) : StOk (more s x p) where
  yard := ⟨o.yard.rows, o.yard.cols, more_cars o k, by rw [List.length_append]; exact few⟩
  val := ⟨by rw [List.length_append, List.length_append, o.val.len]; rfl, (more_leg o fit).mpr f⟩
  wnd := o.wnd
  wlt := fun y h => by
    have := o.wlt y h
    rw [List.length_append]
    exact Nat.lt_succ_of_lt this
theorem car_of {s : St} {u k p n : Nat} (h : ¬ (1 < u ∨ n < 2 ∨ 5 < n ∨ (if u = 1 then s.cols else s.rows) ≤ k ∨ lineLong s ⟨u == 1, k, n⟩ < p + n)) : CarOk s ⟨u == 1, k, n⟩ ∧ p + n ≤ lineLong s ⟨u == 1, k, n⟩ := by
  simp only [not_or, Nat.not_lt, Nat.not_le] at h
  obtain ⟨h1, h2, h3, h4, h5⟩ := h
  refine ⟨⟨h2, h3, ?_⟩, h5⟩
  show k < (if (u == 1) = true then s.cols else s.rows)
  simp only [beq_iff_eq]
  exact h4
theorem move_ok {s : St} (o : StOk s) {k q : Nat} {l : List Nat} (h : moved s s.at_ k q = some l) (m : Nat) : StOk { s with at_ := l, made := m } where
  yard := ⟨o.yard.rows, o.yard.cols, fun c hc => let ⟨a, b, d⟩ := o.yard.car c hc; ⟨a, b, d⟩, o.yard.few⟩
  val := by
    obtain ⟨h1, h2⟩ := moved_leg (o.val.cars o.yard) o.val.leg h
    exact ⟨h1.trans o.val.len, h2.fit, h2.apart⟩
  wnd := o.wnd
  wlt := o.wlt
theorem drop_mem {ws : List (Nat × Nat)} {k : Nat} : ∀ x ∈ ws.filter (fun (x : Nat × Nat) => x.1 != k), x ∈ ws ∧ x.1 ≠ k := fun x h => by
  obtain ⟨h1, h2⟩ := List.mem_filter.mp h
  exact ⟨h1, by simpa using h2⟩
theorem drop_nd {ws : List (Nat × Nat)} {k : Nat} (nd : (ws.map (·.1)).Nodup) : ((ws.filter fun (x : Nat × Nat) => x.1 != k).map (·.1)).Nodup :=
  List.Nodup.sublist (List.Sublist.map _ List.filter_sublist) nd
theorem wish_ok {s : St} (o : StOk s) {k q : Nat} (hk : k < s.cars.length) : StOk { s with wants := s.wants.filter (fun (x : Nat × Nat) => x.1 != k) ++ [(k, q)] } where
  yard := ⟨o.yard.rows, o.yard.cols, fun c hc => let ⟨a, b, d⟩ := o.yard.car c hc; ⟨a, b, d⟩, o.yard.few⟩
  val := ⟨o.val.len, o.val.leg.fit, o.val.leg.apart⟩
  wnd := by
    rw [List.map_append]
    refine nodup_snoc (drop_nd o.wnd) fun h => ?_
    obtain ⟨x, hx, e⟩ := List.mem_map.mp h
    exact (drop_mem x hx).2 e
  wlt := fun x h => by
    rcases List.mem_append.mp h with h | h
    · exact o.wlt x (drop_mem x h).1
    · rw [List.mem_singleton.mp h]
      exact hk
theorem free_ok {s : St} (o : StOk s) {k : Nat} : StOk { s with wants := s.wants.filter (fun (x : Nat × Nat) => x.1 != k) } where
  yard := ⟨o.yard.rows, o.yard.cols, fun c hc => let ⟨a, b, d⟩ := o.yard.car c hc; ⟨a, b, d⟩, o.yard.few⟩
  val := ⟨o.val.len, o.val.leg.fit, o.val.leg.apart⟩
  wnd := drop_nd o.wnd
  wlt := fun x h => o.wlt x (drop_mem x h).1
theorem step_ok {s : St} (o : StOk s) (c : Sy66.Call) : StOk (Sy66.step s c).1 := by
  cases c with
  | begins r c =>
    unfold Sy66.step
    simp only
    by_cases h : r < 1 ∨ 5 < r ∨ c < 1 ∨ 5 < c
    · rw [if_pos h]; exact o
    · rw [if_neg h]; exact init_ok (by omega) (by omega)
  | car u k p n =>
    unfold Sy66.step
    simp only
    by_cases h : 1 < u ∨ n < 2 ∨ 5 < n ∨ (if u = 1 then s.cols else s.rows) ≤ k ∨ lineLong s ⟨u == 1, k, n⟩ < p + n
    · rw [if_pos h]; exact o
    · rw [if_neg h]
      obtain ⟨ck, fit⟩ := car_of h
      by_cases h5 : 5 ≤ s.cars.length
      · rw [if_pos h5]; exact o
      · rw [if_neg h5]
        by_cases hl : legal (more s ⟨u == 1, k, n⟩ p) (more s ⟨u == 1, k, n⟩ p).at_ = false
        · rw [if_pos hl]; exact o
        · rw [if_neg hl]
          exact more_ok o ck fit (by omega) ((more_legal o ck fit).mp (by simpa using hl))
  | move k q =>
    unfold Sy66.step
    simp only
    by_cases h : s.cars.length ≤ k
    · rw [if_pos h]; exact o
    · rw [if_neg h]
      cases hm : moved s s.at_ k q with
      | none => exact o
      | some l => exact move_ok o hm _
  | want k q =>
    unfold Sy66.step
    simp only
    by_cases h : s.cars.length ≤ k
    · rw [if_pos h]; exact o
    · rw [if_neg h]
      split
      · exact o
      · exact wish_ok o (by omega)
  | free k =>
    unfold Sy66.step
    simp only
    by_cases h : s.cars.length ≤ k
    · rw [if_pos h]; exact o
    · rw [if_neg h]; exact free_ok o
  | fewest => exact o
  | plan => exact o
  | reach => exact o
  | places k => exact o
  | hardest => exact o
  | state => exact o
end Cy
end
section
set_option linter.all false
/-! # Plain mathematics: the list of calls, call by call -/
namespace Cy
open Sy66 (St)

def callC : Nat → List Nat → Option Sy66.Call
  | 0, [a, b] => some (.begins a b)
  | 1, [a, b, c, d] => some (.car a b c d)
  | 2, [a, b] => some (.move a b)
  | 3, [a, b] => some (.want a b)
  | 4, [a] => some (.free a)
  | 5, [] => some .fewest
  | 6, [] => some .plan
  | 7, [] => some .reach
  | 8, [a] => some (.places a)
  | 9, [] => some .hardest
  | 10, [] => some .state
  | _, _ => none
def NUMS : List Nat := [2, 4, 2, 2, 1, 0, 0, 0, 1, 0, 0]
theorem callC_num {c : Nat} {xs : List Nat} {x : Sy66.Call} (h : callC c xs = some x) : NUMS[c]? = some xs.length := by
  unfold callC at h
  split at h <;> first | rfl | cases h
theorem nat_in {l r : List Int} {x : Nat} (h : Sy66Neutral.natIn l = some (x, r)) : l = (x : Int) :: r := by
  unfold Sy66Neutral.natIn at h
  split at h
  · rename_i n l'
    by_cases c : 0 ≤ n ∧ n < 2 ^ 32
    · rw [if_pos c] at h
      injection h with h
      injection h with h1 h2
      subst h2
      rw [← h1, Int.toNat_of_nonneg c.1]
    · rw [if_neg c] at h
      cases h
  · cases h
theorem many_in : ∀ (k : Nat) {l r : List Int} {xs : List Nat}, Sy66Neutral.many_ Sy66Neutral.natIn k l = some (xs, r) → l = (xs.map fun (n : Nat) => (n : Int)) ++ r ∧ xs.length = k
  | 0, l, r, xs, h => by
    have h' : some (([] : List Nat), l) = some (xs, r) := h
    injection h' with h'
    injection h' with h1 h2
    subst h1; subst h2
    exact ⟨rfl, rfl⟩
  | k + 1, l, r, xs, h => by
    have h' : ((Sy66Neutral.natIn l).bind fun (x : Nat × List Int) => (Sy66Neutral.many_ Sy66Neutral.natIn k x.2).map fun (y : List Nat × List Int) => (x.1 :: y.1, y.2)) = some (xs, r) := h
    obtain ⟨⟨x, l2⟩, h1, h2⟩ := Option.bind_eq_some_iff.mp h'
    obtain ⟨⟨ys, r2⟩, h3, h4⟩ := Option.map_eq_some_iff.mp h2
    have e1 := nat_in h1
    obtain ⟨e2, e3⟩ := many_in k h3
    injection h4 with h5 h6
    subst h5; subst h6
    have e2' : l2 = (ys.map fun (n : Nat) => (n : Int)) ++ r2 := e2
    rw [e1, e2']
    exact ⟨rfl, by rw [List.length_cons, e3]⟩
theorem all_in {k : Nat} {l : List Int} {xs : List Nat} (h : Sy66Neutral.all_ (Sy66Neutral.some_ k l) = some xs) : l = (xs.map fun (n : Nat) => (n : Int)) ∧ xs.length = k := by
  unfold Sy66Neutral.all_ Sy66Neutral.some_ at h
  obtain ⟨⟨ys, r⟩, h1, h2⟩ := Option.bind_eq_some_iff.mp h
  obtain ⟨e1, e2⟩ := many_in k h1
  by_cases c : r.isEmpty = true
  · rw [if_pos c] at h2
    injection h2 with h2
    have h2 : ys = xs := h2
    subst h2
    rw [e1, List.isEmpty_iff.mp c, List.append_nil]
    exact ⟨rfl, e2⟩
  · rw [if_neg c] at h2
    cases h2
theorem len0 {xs : List Nat} (h : xs.length = 0) : xs = [] := List.eq_nil_of_length_eq_zero h
theorem len1 {xs : List Nat} (h : xs.length = 1) : ∃ a, xs = [a] := match xs, h with | [a], _ => ⟨a, rfl⟩
theorem len2 {xs : List Nat} (h : xs.length = 2) : ∃ a b, xs = [a, b] := match xs, h with | [a, b], _ => ⟨a, b, rfl⟩
theorem len4 {xs : List Nat} (h : xs.length = 4) : ∃ a b c d, xs = [a, b, c, d] := match xs, h with | [a, b, c, d], _ => ⟨a, b, c, d, rfl⟩
theorem call_of {p : Int} {l : List Int} {x : Sy66.Call} (h : Sy66Neutral.callOf (p :: l) = some x) : ∃ (c : Nat) (xs : List Nat), p = (c : Int) ∧ l = (xs.map fun (n : Nat) => (n : Int)) ∧ callC c xs = some x := by
  unfold Sy66Neutral.callOf at h
  split at h
  · rename_i l' e
    injection e with e1 e2; subst e1; subst e2
    obtain ⟨xs, h1, h2⟩ := Option.map_eq_some_iff.mp h
    obtain ⟨e1, e2⟩ := all_in h1
    obtain ⟨a, b, rfl⟩ := len2 e2
    exact ⟨0, _, rfl, e1, congrArg some h2⟩
  · rename_i l' e
    injection e with e1 e2; subst e1; subst e2
    obtain ⟨xs, h1, h2⟩ := Option.map_eq_some_iff.mp h
    obtain ⟨e1, e2⟩ := all_in h1
    obtain ⟨a, b, c, d, rfl⟩ := len4 e2
    exact ⟨1, _, rfl, e1, congrArg some h2⟩
  · rename_i l' e
    injection e with e1 e2; subst e1; subst e2
    obtain ⟨xs, h1, h2⟩ := Option.map_eq_some_iff.mp h
    obtain ⟨e1, e2⟩ := all_in h1
    obtain ⟨a, b, rfl⟩ := len2 e2
    exact ⟨2, _, rfl, e1, congrArg some h2⟩
  · rename_i l' e
    injection e with e1 e2; subst e1; subst e2
    obtain ⟨xs, h1, h2⟩ := Option.map_eq_some_iff.mp h
    obtain ⟨e1, e2⟩ := all_in h1
    obtain ⟨a, b, rfl⟩ := len2 e2
    exact ⟨3, _, rfl, e1, congrArg some h2⟩
  · rename_i l' e
    injection e with e1 e2; subst e1; subst e2
    obtain ⟨xs, h1, h2⟩ := Option.map_eq_some_iff.mp h
    obtain ⟨e1, e2⟩ := all_in h1
    obtain ⟨a, rfl⟩ := len1 e2
    exact ⟨4, _, rfl, e1, congrArg some h2⟩
  · rename_i l' e
    injection e with e1 e2; subst e1; subst e2
    obtain ⟨xs, h1, h2⟩ := Option.map_eq_some_iff.mp h
    obtain ⟨e1, e2⟩ := all_in h1
    have := len0 e2
    subst this
    exact ⟨5, _, rfl, e1, congrArg some h2⟩
  · rename_i l' e
    injection e with e1 e2; subst e1; subst e2
    obtain ⟨xs, h1, h2⟩ := Option.map_eq_some_iff.mp h
    obtain ⟨e1, e2⟩ := all_in h1
    have := len0 e2
    subst this
    exact ⟨6, _, rfl, e1, congrArg some h2⟩
  · rename_i l' e
    injection e with e1 e2; subst e1; subst e2
    obtain ⟨xs, h1, h2⟩ := Option.map_eq_some_iff.mp h
    obtain ⟨e1, e2⟩ := all_in h1
    have := len0 e2
    subst this
    exact ⟨7, _, rfl, e1, congrArg some h2⟩
  · rename_i l' e
    injection e with e1 e2; subst e1; subst e2
    obtain ⟨xs, h1, h2⟩ := Option.map_eq_some_iff.mp h
    obtain ⟨e1, e2⟩ := all_in h1
    obtain ⟨a, rfl⟩ := len1 e2
    exact ⟨8, _, rfl, e1, congrArg some h2⟩
  · rename_i l' e
    injection e with e1 e2; subst e1; subst e2
    obtain ⟨xs, h1, h2⟩ := Option.map_eq_some_iff.mp h
    obtain ⟨e1, e2⟩ := all_in h1
    have := len0 e2
    subst this
    exact ⟨9, _, rfl, e1, congrArg some h2⟩
  · rename_i l' e
    injection e with e1 e2; subst e1; subst e2
    obtain ⟨xs, h1, h2⟩ := Option.map_eq_some_iff.mp h
    obtain ⟨e1, e2⟩ := all_in h1
    have := len0 e2
    subst this
    exact ⟨10, _, rfl, e1, congrArg some h2⟩
  · cases h
theorem shape_rows {p : Int} {n k : Nat} (h : PySy66.shape p = some (n, k)) : k = 0 := by
  unfold PySy66.shape at h
  repeat (split at h; · (injection h with h; injection h with h1 h2; exact h2.symm))
  cases h
theorem whole_id (c : List (List Int)) : PySy66.whole c = c := by
  unfold PySy66.whole
  split <;> rfl
/-- a machine's step on a raw call -/
abbrev stepR (s : St) (c : List (List Int)) : St × List Int := Sy66Neutral.step s (c.headD [])
theorem parse_step {f : Nat} {p : Int} {r : List Int} {rs : List (List (List Int))} (h : PyFlat.calls PySy66.shape f (p :: r) = some rs) :
    ∃ f' n cs, n ≤ r.length ∧ PyFlat.calls PySy66.shape f' (r.drop n) = some cs ∧ rs = [p :: r.take n] :: cs := by
  cases f with
  | zero => cases h
  | succ f =>
    unfold PyFlat.calls at h
    split at h
    · cases h
    · rename_i c t hc
      split at h
      · cases h
      · rename_i cs hcs
        injection h with h
        cases hs : PySy66.shape p with
        | none =>
          simp only [PyFlat.call, hs] at hc
          cases hc
        | some nk =>
          obtain ⟨n, k⟩ := nk
          have hk := shape_rows hs
          subst hk
          simp only [PyFlat.call, hs] at hc
          by_cases hlt : r.length < n
          · rw [if_pos hlt] at hc
            cases hc
          · rw [if_neg hlt] at hc
            have hc' : some ((p :: r.take n) :: [], r.drop n) = some (c, t) := hc
            injection hc' with hc'
            injection hc' with h1 h2
            subst h1; subst h2
            exact ⟨f, n, cs, by omega, hcs, h.symm⟩
theorem whole_all (raw : List (List (List Int))) : raw.map PySy66.whole = raw := by
  rw [List.map_congr_left (fun c _ => whole_id c)]
  exact List.map_id' raw
theorem asked_raw {l : List Int} (h : PySy66.answers_asked l = true) : ∃ raw, PyFlat.calls PySy66.shape l.length l = some raw ∧ (∀ c ∈ raw, (Sy66Neutral.callOf (c.headD [])).isSome = true) ∧
    PySy66.answers l = PyFlat.told (PyFlat.played stepR Sy66.init raw) ∧ (PySy66.answers l).length ≤ 10000000 := by
  unfold PySy66.answers_asked at h
  split at h
  · cases h
  · rename_i raw hr
    simp only [Bool.and_eq_true] at h
    obtain ⟨⟨_, h1⟩, h2⟩ := h
    refine ⟨raw, hr, fun c hc => ?_, ?_, of_decide_eq_true h2⟩
    · unfold Sy66Neutral.asked at h1
      simp only [Bool.and_eq_true, List.all_eq_true] at h1
      rw [whole_all] at h1
      exact h1.1 _ (List.mem_map.mpr ⟨c, hc, rfl⟩)
    · unfold PySy66.answers PySy66.calls
      rw [hr]
      show PyFlat.told (PyFlat.played stepR Sy66Neutral.start (raw.map PySy66.whole)) = _
      rw [whole_all]
      rfl
end Cy
end
section
set_option Elab.async false
set_option linter.all false
set_option maxRecDepth 100000
set_option maxHeartbeats 2000000
/-! # Own rules -/
namespace Cy
open PySem PySem.Spec L2
open PyProof.Rows hiding St

/-! ### a thing just made stands still from here on -/
def tFrz (t : TE) : TE := fun σ H Q => t σ H fun x H1 => ∃ d u, x = .ref d ∧ H1 d = some u ∧ Mut (some u) ∧ ∀ od, Q x (upd H1 d (.frz od u))
theorem pe_frz {X : Cx} {e : Expr} {t : TE} (h : PE X e t) : PE X e (tFrz t) := by
  refine ⟨fun pins s σ H Q I hw => thn (h.run pins s σ H _ I hw) fun v s1 hv => ?_⟩
  obtain ⟨x, H1, I1, r, d, u, ex, hd, mu, q⟩ := hv
  obtain ⟨od, I2⟩ := I1.lock hd mu
  exact ⟨x, _, I2, r, q od⟩

/-! ### enumerate(tuple) -/
theorem enum_newT {t : Addr} {items : Array Value} : Meets (Builtin.«enumerate.__new__» ⟨[.type "enumerate", .ref t], []⟩) (fun _ R s => s.heap.IsTuple t items ∧
    R (.ok (.ret (.ref (s.heap.push { cls := .type "tuple_iterator", data := .fields #[.ref t, .int 0 0] }).objs.size)))
      { s with heap := (s.heap.push { cls := .type "tuple_iterator", data := .fields #[.ref t, .int 0 0] }).push { cls := .type "enumerate", data := .fields #[.none, .bool false, .ref s.heap.objs.size, rawInt 0, .none, .none] } }) :=
  .of_wp fun prog w A R s ⟨ht, hR⟩ => by
    obtain ⟨hp, g, d, tk, os⟩ := s
    obtain ⟨⟨c, dct, dat, sl⟩, hl, hc, n, hd⟩ := id ht
    replace hc : c = .type "tuple" := hc
    replace hd : dat = .seq items n := hd
    subst hc hd
    have hsub := sub_enumerate
    wp_walk using AutoSeq1.wpAny_loadPart' hl
    refine wpAny_stack_any fun st => wpAny_pure ?_
    split
    · rename_i c _ _ _ _ _
      cases (c == Value.type "enumerate") <;> (wp_walk using AutoSeq1.wpAny_loadPart' hl, wpAny_pyIter_tuple ht) <;> exact ⟨_, rfl, hR⟩
    · wp_walk using AutoSeq1.wpAny_loadPart' hl, wpAny_pyIter_tuple ht
      exact ⟨_, rfl, hR⟩

/-- the tuple at a, each item in a new pair -/
def Iet (K : PySem.W.Frag) (a : Addr) : It where
  go := fun i H => ∃ xs x, SqT K H a xs ∧ xs[i]? = some x
  yld := fun i H v H' => ∃ T x, v = .ref T ∧ H T = none ∧ H' = upd H T (.tup [.int (i : Nat), x]) ∧ ∀ xs, SqT K H a xs → xs[i]? = some x
  stop := fun i H => ∃ xs : List V, SqT K H a xs ∧ xs.length = i
def EnT (a e it : Addr) (i : Nat) (h : Heap) : Prop := (∃ old, IsEnum h e it ((i : Nat) : Int) old) ∧ h.IsTupleIter it a i ∧ e ≠ it ∧ a ≠ e ∧ a ≠ it
theorem turn_enumT {P : Program} {w : World} {K : PySem.W.Frag} {elts : List Expr} {kk : Nat} {tpos : Pos} (a e it : Addr) :
    Turn P w K (.Tuple elts kk tpos) (Iet K a) [e, it] e (EnT a e it) where
  mem := List.mem_cons_self
  obj := by
    rintro i h ⟨⟨old, he⟩, ⟨o, ho, hc, hd⟩, _⟩ b hb
    rcases List.mem_cons.mp hb with z | z
    · rw [z]; exact ⟨_, he, fun v q => nomatch q⟩
    · exact ⟨o, by rw [List.mem_singleton.mp z]; exact ho, fun v q => by rw [hd] at q; cases q⟩
  keep := by
    rintro i h h' ⟨⟨old, he⟩, hi, r⟩ k
    exact ⟨⟨old, k e List.mem_cons_self _ he⟩, hi.at fun o q => k it (List.mem_cons_of_mem _ List.mem_cons_self) o q, r⟩
  self := fun A i s Q E st h => wpAny_pyIter_enum st.1.choose_spec h
  item := by
    rintro X rfl rfl rfl hc i pins s σ H E I hf ⟨⟨old, he⟩, hit, hne, hae, hai⟩ ⟨xs, x, hq, hx⟩
    obtain ⟨its, rv, p, hz⟩ := I.tuple hq
    obtain ⟨u, hu, ru⟩ := rv.get hx
    have hel : e < s.heap.objs.size := Heap.lt_size he
    have hil : it < s.heap.objs.size := Heap.lt_size hit.choose_spec.1
    have lt : ∀ b ∈ [e, it], b < s.heap.objs.size := fun b hb => by
      rcases List.mem_cons.mp hb with z | z
      · rw [z]; exact hel
      · rw [List.mem_singleton.mp z]; exact hil
    have hu' : its.toArray[i]? = some u := by simpa using hu
    have hlt : i < its.toArray.size := (Array.getElem?_eq_some_iff.mp hu').1
    refine wpAny_pyNext_enum_itemD (Draws.tuple (A := X.A.in1) (I.ok.hd hc) it a hai its.toArray) he ⟨hit, p⟩ hlt hne
      (by simp only [List.mem_cons, List.not_mem_nil, or_false, not_or]; exact ⟨hne, fun z => hae z.symm⟩) fun y h' tk hy ho hs hT hsz hk => ?_
    have ey : y = u := Option.some.inj (hy.symm.trans hu')
    subst ey
    refine ⟨_, rfl, wpAny_letOwnedTupleGo_enum (s := { s with heap := h', toks := tk + 1 }) ho fun h2 he2 sb => ?_⟩
    have hT2 := (sb.2 _ (Nat.ne_of_gt hel)).trans hT
    have I1 : Inv X pins σ (upd H s.heap.objs.size (.tup [.int (i : Nat), x])) { s with heap := h2, toks := tk + 1 } := by
      refine I.turnedNew (ch := [e, it]) (fun b ob hb q => ?_) hf (Nat.le_refl _) ⟨by show 2 ≤ sizeLine; decide, [.int i tk, y], .cons ⟨_, rfl⟩ (.cons ru .nil), ⟨_, hT2, rfl, _, rfl⟩⟩
      have n1 : b ≠ e := fun z => hb (by rw [z]; exact List.mem_cons_self)
      have n2 : b ≠ it := fun z => hb (by rw [z]; exact List.mem_cons_of_mem _ List.mem_cons_self)
      exact (sb.2 b n1).trans (hk b ob n1 n2 q)
    refine ⟨.ref s.heap.objs.size, _, I1, rfl, ⟨_, x, rfl, I.hok.fresh (Nat.le_refl _), rfl, fun ys hy => by rw [I.tuple_inj hy hq]; exact hx⟩, ⟨⟨y, ?_⟩, hs.1.at fun o q => (sb.2 it (Ne.symm hne)).trans q, hne, hae, hai⟩, fun b hb => ?_⟩
    · rw [show ((i + 1 : Nat) : Int) = (i : Int) + 1 by omega]
      exact he2
    · rw [upd_ne (Nat.ne_of_lt (lt b hb))]
      exact (hf b hb).1
  done := by
    rintro X rfl rfl rfl hc i pins s σ H E I hf ⟨⟨old, he⟩, hit, hne, hae, hai⟩ ⟨xs, hq, hx⟩
    obtain ⟨its, rv, p, hz⟩ := I.tuple hq
    obtain ⟨f0, f1, f2, f3, f4, f5⟩ := hf it (List.mem_cons_of_mem _ List.mem_cons_self)
    have hn : its.toArray.size = i := by rw [List.size_toArray, ← rv.length]; exact hx
    have D := Draws.tuple (prog := X.prog) (w := X.w) (A := X.A.in1) (I.ok.hd hc) it a hai its.toArray
    rw [hn] at D
    exact wpAny_pyNext_enum_endD D he ⟨hit, p⟩ fun h' eb => ⟨rfl, I.turned (t' := s.toks) (fun b o hb q => eb b o hb q) f0 f1 f3 f4 f5⟩

theorem call_enumT {prog : Program} {w : World} {A : Around} {E : Value → Shared → Prop} {s : Shared} {l : Addr} {items : Array Value} {Q : Value → Shared → Prop} (hL : s.heap.IsTuple l items)
    (h : ∀ h', IsEnum h' (s.heap.objs.size + 1) s.heap.objs.size 0 .none → h'.IsTupleIter s.heap.objs.size l 0 → (∀ b o, s.heap.get? b = some o → h'.get? b = some o) → Q (.ref (s.heap.objs.size + 1)) { s with heap := h' }) :
    wpAny (model prog w) A (call (.type "enumerate") [.ref l]) Q E s := by
  have hz : (s.heap.push { cls := .type "tuple_iterator", data := .fields #[.ref l, .int 0 0] }).objs.size = s.heap.objs.size + 1 := Heap.size_push ..
  have he := Heap.get?_push_size (s.heap.push { cls := .type "tuple_iterator", data := .fields #[.ref l, .int 0 0] }) (o := { cls := .type "enumerate", data := .fields #[.none, .bool false, .ref s.heap.objs.size, rawInt 0, .none, .none] }) rfl
  refine callType_new F.called_enumerate (by decide) (F.typeCall_enumerate_1 _) (F.newCall_enumerate_1 _) (fun obj => F.args_object_init_2 obj _) F.entry_enumerate_new enum_newT ⟨hL, ?_⟩
  show _ ∧ _
  rw [hz] at he ⊢
  exact ⟨⟨_, he, rfl⟩, h _ he ⟨_, Heap.get?_push_of_some _ (Heap.get?_push_size _ rfl), rfl, rfl⟩ fun b o x => Heap.get?_push_of_some _ (Heap.get?_push_of_some _ x)⟩
def iEnumT (K : PySem.W.Frag) (ta : TA) : TI := fun σ H R => ta σ H fun vs H1 => ∃ a xs, vs = [.ref a] ∧ SqT K H1 a xs ∧ R (Iet K a) H1
theorem pi_enumT {X : Cx} {e : Expr} {ta : TA} {p pos tpos : Pos} {elts : List Expr} {kk : Nat} (hg : Gl X "enumerate") (hm : X.mg "enumerate" = none) (ha : PA X [e] ta) (hs : starEach [e] X.env = [(false, eval e X.env)] := by rfl) :
    PI X (.Tuple elts kk tpos) (.Call (.Name "enumerate" p) [e] [] pos) (iEnumT X.K ta) := by
  refine ⟨fun pins s σ H R I h => ?_⟩
  refine Call_ (ld_blt I hg hm boot_enumerate (PyProof.Rows.callWith_type1 (thn (ha.run pos pins s σ H _ I h) fun us s1 hh => ?_) hs rfl))
  obtain ⟨vs, H1, I1, r1, a, xs, ex, hq, q⟩ := hh
  subst ex
  obtain ⟨u, rfl, ru⟩ := vals1 r1
  obtain rfl : u = Value.ref a := ru
  obtain ⟨its, rv, pt, hz⟩ := I1.tuple hq
  refine call_enumT pt fun h' he hit hk => wpAny_pyIter_enum he ?_
  have la : a < s1.heap.objs.size := pt.lt
  refine ⟨s1.heap.objs.size + 1, [s1.heap.objs.size + 1, s1.heap.objs.size], _, _, H1, rfl, I1.kept (t' := s1.toks) hk, turn_enumT a (s1.heap.objs.size + 1) s1.heap.objs.size,
    ⟨⟨.none, he⟩, hit, Nat.succ_ne_self _, Nat.ne_of_lt (Nat.lt_succ_of_lt la), Nat.ne_of_lt la⟩, fun b hb => ?_, q⟩
  have hle : s1.heap.objs.size ≤ b := by
    rcases List.mem_cons.mp hb with z | z
    · rw [z]; exact Nat.le_add_right _ _
    · rw [List.mem_singleton.mp z]; exact Nat.le_refl _
  exact I1.fpOk hle (I1.hok.fresh hle)
/-- for k, x in enumerate(a tuple that stands still) -/
theorem for_enumT {K : PySem.W.Frag} {a : Addr} {xs : List V} {g : TG} {tb : TS} {D : Ends} {σ : St} {H : Hp} (Pv : Nat → St → Hp → Prop) (h0 : Pv 0 σ H) (hl : ∀ i σ H, i ≤ xs.length → Pv i σ H → SqT K H a xs)
    (hs : ∀ (i : Nat) (x : V) (T : Addr) (σ : St) (H : Hp), xs[i]? = some x → Pv i σ H → H T = none → g (.ref T) σ (upd H T (.tup [.int (i : Nat), x])) fun σ2 H2 => tb { D with nx := Pv (i + 1), ct := Pv (i + 1), bk := D.nx } σ2 H2)
    (hd : ∀ σ H, Pv xs.length σ H → D.nx σ H) :
    ∃ W : Nat → Nat → St → Hp → Prop, (∃ m, W 0 m σ H) ∧ ∀ i m σ H, W i m σ H →
      ((Iet K a).stop i H ∧ D.nx σ H) ∨ ((Iet K a).go i H ∧ ∃ N : St → Hp → Prop, (∀ σ' H', N σ' H' → ∃ m', m' < m ∧ W (i + 1) m' σ' H') ∧ ∀ x H', (Iet K a).yld i H x H' → g x σ H' fun σ2 H2 => tb { D with nx := N, ct := N, bk := D.nx } σ2 H2) := by
  refine ⟨fun i m σ H => m = xs.length - i ∧ i ≤ xs.length ∧ Pv i σ H, ⟨xs.length, rfl, Nat.zero_le _, h0⟩, ?_⟩
  rintro i m σ H ⟨rfl, hi, p⟩
  have q := hl i σ H hi p
  rcases Nat.lt_or_ge i xs.length with hlt | hge
  · refine .inr ⟨⟨xs, xs[i], q, List.getElem?_eq_getElem hlt⟩, Pv (i + 1), fun σ' H' p' => ⟨xs.length - (i + 1), by omega, rfl, hlt, p'⟩, ?_⟩
    rintro x H' ⟨T, y, rfl, hT, rfl, hy⟩
    exact hs i y T σ H (hy xs q) p hT
  · have e : i = xs.length := by omega
    subst e
    exact .inl ⟨⟨xs, q, rfl⟩, hd σ H p⟩
end Cy
end
section
set_option Elab.async false
set_option linter.all false
set_option maxRecDepth 100000
set_option maxHeartbeats 2000000
/-! # Own rules: min of tuples, dicts with tuple keys -/
namespace Cy
open PySem PySem.Spec L2
open PyProof.Rows hiding St

/-! ### min of a list of tuples of ints -/
theorem ll_irrefl : ∀ a : List Int, HT.lexLt a a = false
  | [] => rfl
  | x :: a => by rw [HT.lexLt_cons, if_pos rfl]; exact ll_irrefl a
theorem ll_trans : ∀ {a b c : List Int}, HT.lexLt a b = true → HT.lexLt b c = true → HT.lexLt a c = true
  | [], [], _, h, _ => nomatch h
  | [], _ :: _, [], _, h => nomatch h
  | [], _ :: _, _ :: _, _, _ => rfl
  | _ :: _, [], _, h, _ => nomatch h
  | _ :: _, _ :: _, [], _, h => nomatch h
  | x :: a, y :: b, z :: c, h1, h2 => by
    rw [HT.lexLt_cons] at h1 h2 ⊢
    by_cases e1 : x = y
    · subst e1
      rw [if_pos rfl] at h1
      by_cases e2 : x = z
      · rw [if_pos e2] at h2 ⊢
        exact ll_trans h1 h2
      · rw [if_neg e2] at h2 ⊢
        exact h2
    · rw [if_neg e1] at h1
      have h1' := of_decide_eq_true h1
      by_cases e2 : y = z
      · subst e2
        rw [if_neg e1]
        exact h1
      · rw [if_neg e2] at h2
        have h2' := of_decide_eq_true h2
        rw [if_neg (by omega)]
        exact decide_eq_true (by omega)
theorem best_is (f : Nat → List Int) : ∀ k, argBest (fun i j => HT.lexLt (f i) (f j)) k ≤ k ∧ ∀ j, j ≤ k → HT.lexLt (f j) (f (argBest (fun i j => HT.lexLt (f i) (f j)) k)) = false
  | 0 => ⟨Nat.le_refl _, fun j hj => by
    have : j = 0 := by omega
    subst this
    exact ll_irrefl _⟩
  | k + 1 => by
    obtain ⟨h1, h2⟩ := best_is f k
    by_cases c : HT.lexLt (f (k + 1)) (f (argBest (fun i j => HT.lexLt (f i) (f j)) k)) = true
    · have e : argBest (fun i j => HT.lexLt (f i) (f j)) (k + 1) = k + 1 := if_pos c
      rw [e]
      refine ⟨Nat.le_refl _, fun j hj => ?_⟩
      rcases Nat.lt_or_ge j (k + 1) with q | q
      · cases r : HT.lexLt (f j) (f (k + 1)) with
        | false => rfl
        | true =>
          have := ll_trans r c
          rw [h2 j (by omega)] at this
          cases this
      · have : j = k + 1 := by omega
        subst this
        exact ll_irrefl _
    · have e : argBest (fun i j => HT.lexLt (f i) (f j)) (k + 1) = argBest (fun i j => HT.lexLt (f i) (f j)) k := if_neg c
      rw [e]
      refine ⟨by omega, fun j hj => ?_⟩
      rcases Nat.lt_or_ge j (k + 1) with q | q
      · exact h2 j (by omega)
      · have : j = k + 1 := by omega
        subst this
        simpa using c
def rMinT (K : PySem.W.Frag) : List V → Hp → VK → Prop := fun vs H Q => ∃ (a : Addr) (ks : List (Addr × List Int)), vs = [V.ref a] ∧ SqL K H a (ks.map fun p => V.ref p.1) ∧ (∀ p ∈ ks, SqT K H p.1 (p.2.map V.int)) ∧ ks ≠ [] ∧
  ∀ p ∈ ks, (∀ q ∈ ks, HT.lexLt q.2 p.2 = false) → Q (.ref p.1) H
theorem refs_back : ∀ {ks : List (Addr × List Int)} {us : List Value}, Vals (ks.map fun p => V.ref p.1) us → us = ks.map fun p => Value.ref p.1
  | [], _, r => by cases r; rfl
  | p :: ks, _, r => by
    cases r with
    | cons h t =>
      cases h
      rw [List.map_cons, ← refs_back t]
theorem cr_minT {X : Cx} (hc : X.calm = true) (hu : X.A.in1.units < cLine) : CallR X (.builtin "min") (rMinT X.K) := by
  intro pins s σ H vs us Q I r h
  obtain ⟨a, ks, rfl, hq, ht, hne, q⟩ := h
  obtain ⟨u, rfl, ru⟩ := vals1 r
  obtain rfl : u = Value.ref a := ru
  obtain ⟨its, rv, pl, hz⟩ := I.list hq
  have ei := refs_back rv
  have hlen : its.toArray.size = ks.length := by rw [List.size_toArray, ei, List.length_map]
  have hpos : 0 < ks.length := List.length_pos_iff.mpr hne
  have item : ∀ (i : Nat) (v : Value), its.toArray[i]? = some v → ∃ p, ks[i]? = some p ∧ v = Value.ref p.1 := fun i v hv => by
    have e : its[i]? = some v := by simpa using hv
    rw [ei, List.getElem?_map] at e
    obtain ⟨p, h1, h2⟩ := Option.map_eq_some_iff.mp e
    exact ⟨p, h1, h2.symm⟩
  have ato : ∀ {i : Nat} {p : Addr × List Int}, ks[i]? = some p → (ks.getD i (0, [])) = p := fun {i p} e => by rw [List.getD_eq_getElem?_getD, e]; rfl
  refine call_min_walkH (PySem.W.iter_listW (A := X.A.in1) (I.ok.hd hc) pl.isList fun s2 e W st hfp hw hk => ?_)
  refine ⟨_, _, _, _, _, _, _, s.heap, (fun i j => HT.lexLt (ks.getD i (0, [])).2 (ks.getD j (0, [])).2), rfl, W, st, hfp, by omega, hw, hk, ?_, fun v s' hP m => ?_⟩
  · intro i j vi vj s1 Q1 E1 hk1 hi hj hQ1
    obtain ⟨p, hp, rfl⟩ := item i vi hi
    obtain ⟨p', hp', rfl⟩ := item j vj hj
    obtain ⟨i1, r1, t1, _⟩ := I.tuple (ht p (List.mem_of_getElem? hp))
    obtain ⟨i2, r2, t2, _⟩ := I.tuple (ht p' (List.mem_of_getElem? hp'))
    dsimp only at hQ1
    rw [ato hp, ato hp'] at hQ1
    have n1 : IntsAre i1.toArray.toList p.2 := intsAre_of r1
    have n2 : IntsAre i2.toArray.toList p'.2 := intsAre_of r2
    exact HT.lt_tupInts (t1.keeps hk1) (t2.keeps hk1) n1 n2 hu hQ1
  · obtain ⟨h', tk, rfl, hk'⟩ := PySem.W.moved_old e rfl m
    obtain ⟨p, hp, rfl⟩ := item _ v hP
    obtain ⟨b1, b2⟩ := best_is (fun i => (ks.getD i (0, [])).2) (its.toArray.size - 1)
    refine ⟨.ref p.1, H, I.kept (t' := tk) hk', rfl, q p (List.mem_of_getElem? hp) fun y hy => ?_⟩
    obtain ⟨j, hj, ej⟩ := List.getElem_of_mem hy
    have := b2 j (by omega)
    simp only [ato hp] at this
    rw [ato (List.getElem?_eq_getElem hj), ej] at this
    exact this

/-! ### dict(a list of pairs), the keys tuples that differ -/
theorem stored_all : ∀ (ps acc : List (List Key × Addr × Value)), ((acc ++ ps).map (·.1)).Nodup → storedAllH acc ps = acc ++ ps
  | [], acc, _ => by rw [List.append_nil]; rfl
  | p :: ps, acc, nd => by
    have hn : atKey acc p.1 = none := by
      unfold atKey
      rw [Option.map_eq_none_iff, List.find?_eq_none]
      intro x hx e
      rw [List.map_append, List.nodup_append] at nd
      exact nd.2.2 x.1 (List.mem_map_of_mem hx) p.1 (List.mem_map_of_mem List.mem_cons_self) (of_decide_eq_true e)
    show storedAllH (storedH acc p.1 p.2.1 p.2.2) ps = _
    rw [storedH_new hn, stored_all ps (acc ++ [p]) (by rw [List.append_assoc]; exact nd), List.append_assoc]
    rfl
/-- p is the pair (a key's tuple, a value) -/
def PairT (K : PySem.W.Frag) (H : Hp) (p : Addr) (kv : List Key × V) : Prop := ∃ b, SqT K H p [.ref b, kv.2] ∧ H b = some (.tup (kv.1.map kV))
def rDictT (K : PySem.W.Frag) : List V → Hp → VK → Prop := fun vs H Q => ∃ (a : Addr) (ps : List Addr) (kvs : List (List Key × V)), vs = [.ref a] ∧ SqL K H a (ps.map V.ref) ∧ Paired (PairT K H) ps kvs ∧ (kvs.map (·.1)).Nodup ∧
  ∀ p, H p = none → Q (.ref p) (upd H p (.dT kvs))
theorem pairsT_of {X : Cx} {pins : List (Addr × Obj)} {σ : St} {H : Hp} {s : Shared} (I : Inv X pins σ H s) : ∀ {ps : List Addr} {kvs : List (List Key × V)}, Paired (PairT X.K H) ps kvs →
    ∃ xs : List (List Key × Addr × Value), KT H kvs xs ∧ xs.length = ps.length ∧ ∀ (j : Nat) (q : List Key × Addr × Value), xs[j]? = some q → ∃ b, ps[j]? = some b ∧ IsTup s.heap b #[.ref q.2.1, q.2.2]
  | _, _, .nil => ⟨[], .nil, rfl, fun j q e => by simp at e⟩
  | _, _, .cons (a := p) (b := kv) h t => by
    obtain ⟨xs, r, hl, hp⟩ := pairsT_of I t
    obtain ⟨b, ht, hb⟩ := h
    obtain ⟨its, rv, tp, _⟩ := I.tuple ht
    obtain ⟨u, y, ei, ru, ry⟩ := vals2 rv
    obtain rfl : u = Value.ref b := ru
    subst ei
    refine ⟨(kv.1, b, y) :: xs, .cons ⟨rfl, hb, ry⟩ r, by rw [List.length_cons, List.length_cons, hl], fun j q e => ?_⟩
    cases j with
    | zero =>
      have e' : (kv.1, b, y) = q := Option.some.inj e
      subst e'
      exact ⟨p, rfl, tp⟩
    | succ j => exact hp j q e
theorem keysKT {H : Hp} {kvs : List (List Key × V)} {xs : List (List Key × Addr × Value)} (rel : KT H kvs xs) : kvs.map (·.1) = xs.map (·.1) := by
  induction rel with
  | nil => rfl
  | cons h t ih => rw [List.map_cons, List.map_cons, ih, h.1]
theorem cr_dictT {X : Cx} (hc : X.calm = true) (hu : X.A.units + 2 < cLine) : CallR X (.type "dict") (rDictT X.K) := by
  intro pins s σ H vs us Q I r h
  obtain ⟨a, ps, kvs, rfl, hq, hp, nd, q⟩ := h
  obtain ⟨u, rfl, ru⟩ := vals1 r
  obtain rfl : u = Value.ref a := ru
  obtain ⟨its, rv, pl, hz⟩ := I.list hq
  have ei := refs_at rv
  subst ei
  obtain ⟨xs, rel, hl, hx⟩ := pairsT_of I hp
  obtain ⟨o, n, ho, hcl, hd, hdat⟩ := pl
  have hk : kvs.map (·.1) = xs.map (·.1) := keysKT rel
  rw [List.length_map] at hz
  have P := PairArg.list (prog := X.prog) (w := X.w) a (ps.map Value.ref).toArray (fun j => ps.getD j 0) (xs.map fun x => (Value.ref x.2.1, x.2.2))
  rw [List.length_map] at P
  refine call_dict_pairsH (knd := tupleKind (mixKind X.prog X.w)) (ps := xs) P (I.ok.hd hc) ?_ ⟨⟨o, n, ho, hcl, hd, hdat⟩, by simp [hl], fun j k v hj => ?_⟩ ⟨rfl, fun i key v hi => ?_⟩ ?_ (by rw [hl]; exact hz) fun h' tk hd' hk' => ?_
  · show X.A.in1.in1.units < cLine
    exact hu
  · rw [List.getElem?_map] at hj
    obtain ⟨x, h1, h2⟩ := Option.map_eq_some_iff.mp hj
    obtain ⟨b, h3, h4⟩ := hx j x h1
    injection h2 with e1 e2
    subst e1; subst e2
    have e3 : ps.getD j 0 = b := by rw [List.getD_eq_getElem?_getD, h3]; rfl
    refine ⟨?_, .inl (by simp only [e3]; exact h4)⟩
    simp only [e3]
    simp [h3]
  · have hi' : (xs.map fun x => (Value.ref x.2.1, x.2.2))[i]? = some (key, v) := hi
    rw [List.getElem?_map] at hi'
    obtain ⟨x, h1, h2⟩ := Option.map_eq_some_iff.mp hi'
    injection h2 with e1 e2
    subst e1; subst e2
    exact ⟨x.1, x.2.1, h1, rfl⟩
  · intro h' hk2 x hx'
    have ok : HOk X.prog X.w H h' := I.hok.kept fun b u e => hk2 b u (Nat.ne_of_lt (Heap.lt_size e)) (by simp) e
    have all : ∀ {l : List (List Key × V)} {m : List (List Key × Addr × Value)}, KT H l m → ∀ x ∈ m, (tupleKind (mixKind X.prog X.w)).is h' x.1 x.2.1 := by
      intro l m z
      induction z with
      | nil => intro x hx; cases hx
      | cons hq t ih =>
        intro x hx
        rcases List.mem_cons.mp hx with e | hx
        · subst e
          exact key_of ok (by rw [← hq.1]; exact hq.2.1)
        · exact ih x hx
    exact all rel x hx'
  · have e : storedAllH [] xs = xs := stored_all xs [] (by rw [List.nil_append, ← hk]; exact nd)
    rw [e] at hd'
    obtain ⟨o2, es, ep, h1, h2, h3, h4, _, h5⟩ := hd'
    have hn := I.hok.fresh (Nat.le_refl s.heap.objs.size)
    refine ⟨.ref s.heap.objs.size, _, I.laid (a := s.heap.objs.size) (o := .dT kvs) (t' := tk) (fun b u e => hk' b u (by simp) e) (Nat.le_refl _) ⟨?_, beq_eq_false_iff_ne.mpr (Nat.ne_of_gt I.big), xs, rel.keeps fun b ys e => ?_, o2, es, ep, h1, h2, h3, h4, h5⟩, rfl, q _ hn⟩
    · rw [Paired.length rel, hl]; exact hz
    · rw [upd_ne (ne_of_none e hn)]; exact e
end Cy
end
section
set_option Elab.async false
set_option linter.all false
set_option maxRecDepth 100000
set_option maxHeartbeats 2000000
/-! # Own rules: list(d.values()), d != {} with tuple keys; set(list of ints) -/
namespace Cy
open PySem PySem.Spec L2
open PyProof.Rows hiding St

/-! ### list(d.values()), keys tuples -/
def tListValsT (te : TE) : TE := fun σ H Q => te σ H fun x H1 => ∃ d kvs, x = .ref d ∧ Rd H1 d (.dT kvs) ∧ ∀ p, H1 p = none → Q (.ref p) (upd H1 p (.lst (kvs.map (·.2))))
theorem valsKT {H : Hp} {kvs : List (List Key × V)} {xs : List (List Key × Addr × Value)} (rel : KT H kvs xs) : Vals (kvs.map (·.2)) (xs.map (·.2.2)) := by
  induction rel with
  | nil => exact .nil
  | cons h t ih => exact .cons h.2.2 ih
theorem pe_listValsT {X : Cx} {e : Expr} {te : TE} {p pos apos cpos : Pos} (hc : X.calm = true) (he : PE X e te) (hg : Gl X "list") (hm : X.mg "list" = none)
    (hbase : attributeBase e "values" X.env (eval e X.env) = eval e X.env := by rfl) (hline : (apos.endLine == cpos.line) = true := by rfl)
    (hs : starEach [.Call (.Attribute e "values" apos) [] [] cpos] X.env = (false, eval (.Call (.Attribute e "values" apos) [] [] cpos) X.env) :: starEach [] X.env := by rfl) :
    PE X (.Call (.Name "list" p) [.Call (.Attribute e "values" apos) [] [] cpos] [] pos) (tListValsT te) := by
  refine ⟨fun pins s σ H Q I hq => ?_⟩
  refine wpAny_Call_Name_kw (ld_blt I hg hm (u := .type "list") (by rfl) (PyProof.Rows.callWith_type1 ?_ hs rfl))
  rw [hs]
  refine Calls.spliced_cons (wpAny_Call_method (T := "dict") (id := "dict.values") hbase rfl hline F.plainAttrs_dict F.slot_dict_values F.type_dict_values (thn (he.run pins s σ H _ I hq) fun u s1 hh => ?_))
  obtain ⟨x, H1, I1, rx, d, kvs, ex, hd, q⟩ := hh
  subst ex
  obtain rfl : u = Value.ref d := rx
  obtain ⟨hz, hs0, xs, rel, o, es, ep, ho, hx, hdat, hes, hnd⟩ := (show ObjOk X.prog X.w H1 s1.heap d (.dT kvs) from hd.ok I1.hok)
  have hsz : es.size = kvs.length := by rw [← Array.length_toList, hes, List.length_map, ← Paired.length rel]
  have raw : s1.heap.DictRaw d es ep := ⟨o, ho, hx, hdat⟩
  have k1 : ∀ b ob, s1.heap.get? b = some ob → (s1.heap.push { cls := .type "dict_values", data := .fields #[.ref d] }).get? b = some ob := fun b ob z => Heap.get?_push_of_some _ z
  have I2 : Inv X pins σ H1 { s1 with heap := s1.heap.push { cls := .type "dict_values", data := .fields #[.ref d] } } := I1.kept (t' := s1.toks) k1
  have tI : s1.TypeIs (.ref d) "dict" := ⟨o, ho, hx.1⟩
  refine ⟨tI, fun b e => ?_, ?_⟩
  · cases e
    exact ⟨o, ho, hx.2.1⟩
  show wpAny _ _ (callWith cpos (.builtin "dict.values") [.ref d] [] []) _ X.xe s1
  refine method_meetsIn F.slot_dict_values F.entry_dict_values rfl (PySem.evalArgs_none ⟨rfl, tI, F.args_dict_values_1 _, _, meets_dict_values_raw d hs0, ⟨es, ep, raw⟩, Calls.spliced_nil ?_⟩)
  refine PySem.W.kdl_call (KdlSrc.rawValues (r := s1.heap.objs.size) (d := d) (es := es) (ep := ep)) (I1.ok.hd hc) ⟨⟨_, Heap.get?_push_size _ rfl, rfl, rfl⟩, raw.push _⟩ (by omega) fun h' tk acc c hk hS hacc => ?_
  have eacc : acc.toList = xs.map (·.2.2) := by
    have hl : acc.toList.length = xs.length := by rw [Array.length_toList, hacc.1, hsz, Paired.length rel]
    apply List.ext_getElem?
    intro j
    rw [List.getElem?_map]
    cases hj : acc.toList[j]? with
    | none =>
      have h1 := List.getElem?_eq_none_iff.mp hj
      rw [List.getElem?_eq_none (by omega)]
      rfl
    | some v =>
      obtain ⟨hi, hv⟩ := hacc.2 j v (by rw [← Array.getElem?_toList]; exact hj)
      have qe := entry_at hes j
      rw [Array.getElem?_eq_getElem hi] at qe
      cases hb : xs[j]? with
      | none => rw [hb] at qe; cases qe
      | some b =>
        rw [hb] at qe
        have e2 := Option.some.inj qe
        rw [hv, e2]
        rfl
  have rv : Vals (kvs.map (·.2)) acc.toList := by rw [eacc]; exact valsKT rel
  refine ⟨.ref _, _, I2.laid (t' := tk) (o := .lst (kvs.map (·.2))) hk (Nat.le_refl _) ⟨by rw [List.length_map]; exact hz, acc.toList, c, rv, by rw [Array.toArray_toList]; exact hS⟩, rfl, q _ (I2.hok.fresh (Nat.le_refl _))⟩

/-! ### d != {} -/
theorem ne_sizes {prog : Program} {w : World} {A : Around} {E : Value → Shared → Prop} {s : Shared} {a b : Addr} {oa ob : Obj} {es es' : Array DictEntry} {ep ep' : Nat} {Q : Value → Shared → Prop} (ha : (a == sysModules) = false) (hb : (b == sysModules) = false)
    (hoa : s.heap.get? a = some oa) (hxa : oa.ExactDict) (hda : oa.data = .dict es ep) (hob : s.heap.get? b = some ob) (hxb : ob.ExactDict) (hdb : ob.data = .dict es' ep') (hsz : es.size ≠ es'.size) (hu : A.units < cLine) (h : Q (.bool true) s) :
    wpAny (model prog w) A (compareOp .NotEq (.ref a) (.ref b)) Q E s := by
  have ta : s.TypeIs (.ref a) "dict" := ⟨oa, hoa, hxa.1⟩
  have tb : s.TypeIs (.ref b) "dict" := ⟨ob, hob, hxb.1⟩
  refine wpAny_richCompare_same_room (op := .NotEq) ta tb PySem.F.slot_dict_ne (wpAny_call_entry PySem.F.slot_dict_ne ta PySem.F.entry_dict_ne ?_ (PySem.F.args_dict_ne_2 _ _)) hu
  show wpAny _ _ (Builtin.Dict.dictSlotArgs "__ne__" ⟨[.ref a, .ref b], []⟩ >>= _) _ _ s
  refine wpAny_bind ?_
  unfold Builtin.Dict.dictSlotArgs
  refine wpAny_bind (wpAny_notOrdered_dict ta (wpAny_pure ?_))
  refine wpAny_bind (wpAny_isInstance (T := "dict") tb PySem.F.sub_dict_dict ?_)
  simp only [Bool.not_true, Bool.false_eq_true, if_false]
  refine wpAny_bind (wpAny_pure (wpAny_bind (wpAny_pure ?_)))
  refine wpAny_bind ?_
  unfold Builtin.Dict.samePairs Builtin.Dict.showsAll
  rw [if_neg (show ¬ (a == sysModules) = true by rw [ha]; exact Bool.false_ne_true), if_neg (show ¬ (b == sysModules) = true by rw [hb]; exact Bool.false_ne_true)]
  refine wpAny_bind (wpAny_pure (wpAny_bind (wpAny_pure (wpAny_bind (wpAny_dictEntries hoa hda ?_)))))
  refine wpAny_bind (wpAny_dictEntries hob hdb ?_)
  rw [if_pos (by simpa using hsz)]
  exact wpAny_bind (wpAny_rule (wpAny_pure (wpAny_pure ⟨_, rfl, fun x => (nomatch x), h⟩)))

def rNeT0 : R2 := fun x y H Q => ∃ a b kvs, x = .ref a ∧ y = .ref b ∧ Rd H a (.dT kvs) ∧ H b = some (.dT []) ∧ Q (.bl (!kvs.isEmpty)) H
theorem dictOf_nil {P : Program} {w : World} {h : Heap} {a : Addr} {o : Obj} {es : Array DictEntry} {ep : Nat} (ho : h.get? a = some o) (hx : o.ExactDict) (hd : o.data = .dict es ep) (he : es.toList = []) : h.DictOf (mixKind P w) a [] := by
  have e : es = #[] := by
    apply Array.toList_inj.mp
    rw [he]
  subst e
  exact ⟨o, #[], ep, ho, hx, hd, by intro x hx; simp at hx, by exact .nil, by simp⟩
theorem op_neT0 {X : Cx} (hu : X.A.units < cLine) : OpR X (compareOp .NotEq) rNeT0 := by
  intro pins s σ H x y v u Q I rx ry h
  obtain ⟨a, b, kvs, rfl, rfl, ea, eb, q⟩ := h
  obtain rfl : v = Value.ref a := rx
  obtain rfl : u = Value.ref b := ry
  obtain ⟨_, ya, xa, ra, oa, esa, epa, hoa, hxa, hda, hea, _⟩ := (show ObjOk X.prog X.w H s.heap a (.dT kvs) from ea.ok I.hok)
  obtain ⟨_, yb, xb, rb, ob, esb, epb, hob, hxb, hdb, heb, _⟩ := (show ObjOk X.prog X.w H s.heap b (.dT []) from I.hok b _ eb)
  cases rb
  cases ra with
  | nil =>
    exact PySem.W.keq_ne (knd := mixKind X.prog X.w) (r := true) ya yb (dictOf_nil hoa hxa hda hea) (dictOf_nil hob hxb hdb heb) hu (fun _ => .nil) (fin_bl I q rfl)
  | cons h t =>
    refine ne_sizes ya yb hoa hxa hda hob hxb hdb ?_ hu (fin_bl I q rfl)
    intro z
    have z1 : esa.toList.length = esb.toList.length := by rw [Array.length_toList, Array.length_toList, z]
    rw [hea, heb] at z1
    simp at z1

/-! ### set(list of ints) -/
/-- an empty set, as set() lays it -/
abbrev set00 (w : World) : Obj := { cls := .type "set", dict := none, data := .set #[] 0 (.fresh 0 0 (!w.params.followText "set-order")) }
/-- what set(l) leaves behind s -/
def SetMade (w : World) (ns : List Int) (s s2 : Shared) : Prop := ∃ h' tk c, s2 = { s with heap := h', toks := tk } ∧ SetR w h' s.heap.objs.size (fun j => decide (j ∈ ns)) c ∧ c ≤ ns.length ∧ ∀ b o, s.heap.get? b = some o → h'.get? b = some o
/-- the new set is filled -/
theorem set_fill {P : Program} {w : World} {A : Around} {E : Value → Shared → Prop} {s : Shared} {l : Addr} {items : Array Value} (ns : List Int) (hh : A.handled = none) (hl : s.heap.IsList l items) (hit : IntsAre items.toList ns) (hb : ns.length + 1 < scanBound) :
    codeAny (model P w) A (.call (.builtin "set.__init__") ⟨[.ref s.heap.objs.size, .ref l], []⟩) (wants (fun r s2 => r = .none ∧ SetMade w ns s s2) E) { s with heap := s.heap.push (set00 w) } := by
  have hS : (s.heap.push (set00 w)).get? s.heap.objs.size = some (set00 w) := Heap.get?_push_size _ rfl
  refine codeAny_call_builtin F.called_set.init.plain F.entry_set_init (check_set_init_1 ⟨_, hS, rfl⟩ ?_)
  obtain ⟨⟨ocls, odict, odata, oslots⟩, hol, hcl, nl, hdl⟩ := hl
  replace hcl : ocls = .type "list" := hcl
  replace hdl : odata = .seq items nl := hdl
  subst hcl hdl
  have hol1 : (s.heap.push (set00 w)).get? l = some { cls := .type "list", dict := odict, data := .seq items nl, slots := oslots } := Heap.get?_push_of_some _ hol
  have hl1 : (s.heap.push (set00 w)).IsList l items := ⟨_, hol1, rfl, nl, rfl⟩
  have hlS : l < s.heap.objs.size := Heap.lt_size hol
  have hsz : items.size = ns.length := by have q := IntsAre.length hit; rwa [Array.length_toList] at q
  have f1 := F.sub_list_set
  have f2 := F.sub_list_frozenset
  have f3 : (Value.type "list" == Value.type "dict") = false := by decide
  unfold Builtin.«set.__init__» noKeywords Builtin.Frozenset.updateFrom
  generalize hPI : pyIter = PI
  wp_walk
  subst hPI
  refine wpAny_pyIter_list hl1 (wpAny_bind (wpAny_runValue ?_))
  have zI : (s.heap.push (set00 w)).objs.size = s.heap.objs.size + 1 := Heap.size_push ..
  have hneI : l ≠ (s.heap.push (set00 w)).objs.size := by rw [zI]; exact Nat.ne_of_lt (Nat.lt_succ_of_lt hlS)
  have hSI : s.heap.objs.size ≠ (s.heap.push (set00 w)).objs.size := by rw [zI]; exact Nat.ne_of_lt (Nat.lt_succ_self _)
  refine set_update_ints ((Walks.list (by simp [hh]) _ l hneI items).toS) s.heap.objs.size (fun hm => ?_) ns hsz hb (fun i v hv => ?_) (items.size - 0) 0 _ rfl (Nat.zero_le _)
    ⟨⟨_, Heap.get?_push_size _ rfl, rfl, rfl⟩, hl1.push _⟩ ⟨0, Nat.le_refl 0, setR_new_at (Heap.get?_push_of_some _ hS)⟩ fun s' c' hm hc' hS' => ?_
  · rcases List.mem_cons.mp hm with z | z
    · exact hSI z
    · exact Nat.ne_of_gt hlS (List.mem_singleton.mp z)
  · have hi : i < ns.length := by rw [← hsz]; exact (Array.getElem?_eq_some_iff.mp hv).1
    obtain ⟨t, e⟩ := PyProof.Rows.IntsAre.int_at hit i v (by rw [Array.getElem?_toList]; exact hv)
    exact ⟨ns[i], t, List.getElem?_eq_getElem hi, by rw [e, List.getD_eq_getElem?_getD, List.getElem?_eq_getElem hi]; rfl⟩
  · obtain ⟨h', g2, d', tk', os'⟩ := s'
    obtain rfl : g2 = s.gens := hm.gens
    obtain rfl : d' = s.drawn := hm.drawn
    obtain rfl : os' = s.os := hm.os
    refine wpAny_pure (wpAny_pure ⟨rfl, h', tk', c', rfl, hS', by rw [← hsz]; exact hc', fun b o e => ?_⟩)
    have hb0 : b < s.heap.objs.size := Heap.lt_size e
    refine hm.heap b o (fun hmem => ?_) (Heap.get?_push_of_some _ (Heap.get?_push_of_some _ e))
    rcases List.mem_cons.mp hmem with z | z
    · exact Nat.ne_of_lt hb0 z
    · rw [List.mem_singleton.mp z, zI] at hb0
      exact absurd hb0 (Nat.not_lt_of_le (Nat.le_succ _))
theorem call_set_listI {P : Program} {w : World} {A : Around} {E : Value → Shared → Prop} {s : Shared} {l : Addr} {items : Array Value} (ns : List Int) {Q : Value → Shared → Prop} (hh : A.handled = none) (hl : s.heap.IsList l items) (hit : IntsAre items.toList ns) (hb : ns.length + 1 < scanBound)
    (h : ∀ s2, SetMade w ns s s2 → Q (.ref s.heap.objs.size) s2) : wpAny (model P w) A (call (.type "set") [.ref l]) Q E s := by
  obtain ⟨c, tl, hmro⟩ := F.called_set.mro
  have q1 := F.called_set.made
  have q2 := F.called_set.sub
  have q3 := F.called_set.notType
  have q4 := F.called_set.canCreate
  have q5 := F.typeCall_set_1 (.ref l)
  refine wpAny_call (codeAny_of_tree ?_)
  show wpAny _ _ (callAny (.type "set") _) _ _ _
  refine wpAny_pure ⟨Code.quiet_builtin _ (by decide +kernel), codeAny_builtin F.entry_type_call ?_⟩
  rw [Around.under_plain (weight_type_call_type "set" [.ref l] []) rfl]
  repeat (any_goals (first | assumption | wp_step))
  refine codeAny_mono (code_set_led1 (.ref l) (E := E) (Q₁ := fun obj s1 => obj = .ref s.heap.objs.size ∧ s1 = { s with heap := s.heap.push (set00 w) }) ⟨rfl, rfl⟩) fun r s1 hr => ?_
  cases r with
  | error e => exact hr
  | ok fl =>
    cases fl with
    | ret obj =>
      obtain ⟨rfl, rfl⟩ := hr
      have hT : Shared.TypeIs { s with heap := s.heap.push (set00 w) } (.ref s.heap.objs.size) "set" := ⟨_, Heap.get?_push_size _ rfl, rfl⟩
      have q6 := F.called_set.init.lookup
      have q7 := F.called_set.init.bind (.ref s.heap.objs.size)
      repeat (any_goals (first | assumption | wp_step))
      refine codeAny_mono (set_fill (E := E) ns hh hl hit hb) fun r2 s2 hr2 => ?_
      cases r2 with
      | error e => exact hr2
      | ok fl2 =>
        cases fl2 with
        | ret r =>
          obtain ⟨rfl, hm⟩ := hr2
          obtain ⟨h', tk, c', rfl, m⟩ := hm
          repeat (any_goals (first | assumption | wp_step))
          exact h _ ⟨h', tk, c', rfl, m⟩
        | _ => exact hr2.elim
    | _ => exact hr.elim
def rSetI (K : PySem.W.Frag) (w : World) : List V → Hp → VK → Prop := fun vs H Q => ∃ (a : Addr) (ns : List Int), vs = [V.ref a] ∧ SqL K H a (ns.map V.int) ∧ ns.length ≤ 4000 ∧
  ∀ p c, H p = none → (∀ D : List Int, (∀ x, x ∈ D ↔ x ∈ ns) → D.Nodup → c = D.length) → Q (.ref p) (upd H p (SetO w p (fun j => decide (j ∈ ns)) c))
theorem nodup_same {D es : List Int} (h1 : D.Nodup) (h2 : es.Nodup) (h : ∀ x, x ∈ D ↔ x ∈ es) : es.length = D.length := by
  have p : es.Perm D := (List.perm_ext_iff_of_nodup h2 h1).mpr fun x => (h x).symm
  exact p.length_eq
theorem cr_setI {X : Cx} (hc : X.calm = true) : CallR X (.type "set") (rSetI X.K X.w) := by
  intro pins s σ H vs us Q I r h
  obtain ⟨a, ns, rfl, hq, hn, q⟩ := h
  obtain ⟨u, rfl, ru⟩ := vals1 r
  obtain rfl : u = Value.ref a := ru
  obtain ⟨its, rv, pl, hz⟩ := I.list hq
  have hi : IntsAre its.toArray.toList ns := intsAre_of rv
  refine call_set_listI ns (I.ok.hd hc) pl.isList hi (by unfold scanBound; omega) ?_
  rintro s2 ⟨h', tk, c, rfl, hS, _, hk⟩
  have J := I.laid (t' := tk) (o := SetO X.w s.heap.objs.size (fun j => decide (j ∈ ns)) c) hk (Nat.le_refl _) (setO_new hS)
  refine ⟨.ref _, _, J, rfl, q _ c (I.hok.fresh (Nat.le_refl _)) fun D hD nd => ?_⟩
  obtain ⟨o, es, ep, t, _, _, _, _, h5, h6, _, _, h9, _⟩ := hS
  have e := nodup_same nd h5 fun x => by rw [hD, ← h6 x]; simp
  rw [List.length_map, Array.length_toList] at e
  omega
end Cy
end
section
set_option Elab.async false
set_option linter.all false
set_option maxRecDepth 100000
set_option maxHeartbeats 2000000
/-! # The heap: what lies where -/
namespace Cy
open PySem PySem.Spec L2
open PyProof.Rows hiding St
open Sy66 (Car lineLong carOf legal moved moves nexts every arrangements from_ reach ends distance)
abbrev Yd := Sy66.St
open C8 (Cal Met Mak pe_c pe_mk pe_mt pe_mt0)

/-- the i-th statement of the program's text -/
def top (i : Nat) : Stmt := PySem.Challenge.pw_caryard_s01_answers.main.body.getD i (.Pass ⟨0, 0, 0, 0⟩)

def nI (n : Nat) : V := .int (n : Int)
def nums (l : List Nat) : List V := l.map nI
theorem nums_len (l : List Nat) : (nums l).length = l.length := List.length_map _
theorem nums_get {l : List Nat} {i : Nat} {v : V} (h : (nums l)[i]? = some v) : ∃ n, l[i]? = some n ∧ v = nI n := by
  unfold nums at h
  rw [List.getElem?_map] at h
  obtain ⟨n, h1, h2⟩ := Option.map_eq_some_iff.mp h
  exact ⟨n, h1, h2.symm⟩
theorem nums_at {l : List Nat} {i : Nat} (h : i < l.length) : (nums l)[i]? = some (nI (l.getD i 0)) := by
  unfold nums
  rw [List.getElem?_map, List.getElem?_eq_getElem h, List.getD_eq_getElem?_getD, List.getElem?_eq_getElem h]
  rfl
theorem nI_inj {a b : Nat} (h : nI a = nI b) : a = b := by
  unfold nI at h
  injection h with h
  omega

/-- a key: a tuple of numbers -/
def kx (l : List Nat) : List Key := l.map fun (n : Nat) => (Sum.inl (n : Int) : Key)
theorem kx_nums (l : List Nat) : (kx l).map kV = nums l := by
  unfold kx nums
  rw [List.map_map]
  rfl
theorem kx_inj : ∀ {a b : List Nat}, kx a = kx b → a = b
  | [], [], _ => rfl
  | [], _ :: _, h => by simp [kx] at h
  | _ :: _, [], h => by simp [kx] at h
  | x :: a, y :: b, h => by
    have h' : (Sum.inl (x : Int) : Key) :: kx a = Sum.inl (y : Int) :: kx b := h
    injection h' with h1 h2
    injection h1 with h1
    rw [kx_inj h2, show x = y by omega]
/-- a cell, as a list -/
def cl (x : Cell) : List Nat := [x.1, x.2]
theorem cl_inj {x y : Cell} (h : cl x = cl y) : x = y := by
  obtain ⟨a, b⟩ := x
  obtain ⟨c, d⟩ := y
  unfold cl at h
  injection h with h1 h2
  injection h2 with h2 _
  simp only at h1 h2
  rw [h1, h2]

/-- new tuples of numbers -/
abbrev Tups (H : Hp) (qs : List Addr) (xs : List (List Nat)) : Prop := Paired (fun q x => H q = some (.tup (nums x))) qs xs
theorem Tups.len {H : Hp} {qs : List Addr} {xs : List (List Nat)} (t : Tups H qs xs) : qs.length = xs.length := Paired.length t
theorem Tups.same {H H' : Hp} {qs : List Addr} {xs : List (List Nat)} (t : Tups H qs xs) (s : Same H H') : Tups H' qs xs := Paired.mapP t fun _ _ h => s _ _ h
theorem Tups.nil {H : Hp} : Tups H [] [] := Paired.nil
theorem Tups.snoc {H : Hp} {qs : List Addr} {xs : List (List Nat)} {q : Addr} {x : List Nat} (t : Tups H qs xs) (h : H q = some (.tup (nums x))) : Tups H (qs ++ [q]) (xs ++ [x]) := Paired.snoc t h
theorem Tups.app {H : Hp} {qs ps : List Addr} {xs ys : List (List Nat)} (t : Tups H qs xs) (s : Tups H ps ys) : Tups H (qs ++ ps) (xs ++ ys) := by
  induction t with
  | nil => exact s
  | cons h _ ih => exact .cons h ih
theorem Tups.get {H : Hp} {qs : List Addr} {xs : List (List Nat)} (t : Tups H qs xs) : ∀ {i : Nat} {v : V}, (qs.map V.ref)[i]? = some v → ∃ q x, qs[i]? = some q ∧ xs[i]? = some x ∧ v = .ref q ∧ H q = some (.tup (nums x)) := by
  induction t with
  | nil => intro i v h; simp at h
  | @cons q x _ _ h _ ih =>
    intro i v e
    cases i with
    | zero => exact ⟨q, x, rfl, rfl, (Option.some.inj e).symm, h⟩
    | succ i => exact ih (i := i) (v := v) (by simpa using e)

/-- a car's attributes -/
def carF (s : Yd) (c : Car) : List (Str × V) := [("is_upright", .bl c.upright), ("its_line", nI c.line), ("length", nI c.long), ("span", nI (lineLong s c))]
def CarAt (C : Addr) (H : Hp) (a : Addr) (s : Yd) (c : Car) : Prop := ∃ dx, H a = some (.ins C dx (carF s c))
/-- the cars as a list of objects -/
def CarsAt (C : Addr) (H : Hp) (l : Addr) (s : Yd) : Prop := ∃ as : List Addr, H l = some (.lst (as.map V.ref)) ∧ as.length = s.cars.length ∧ ∀ (i : Nat) (a : Addr) (c : Car), as[i]? = some a → s.cars[i]? = some c → CarAt C H a s c
theorem CarsAt.same {C : Addr} {H H' : Hp} {l : Addr} {s : Yd} (c : CarsAt C H l s) (e : Same H H') : CarsAt C H' l s := by
  obtain ⟨as, h1, h2, h3⟩ := c
  exact ⟨as, e _ _ h1, h2, fun i a c ha hc => let ⟨dx, h⟩ := h3 i a c ha hc; ⟨dx, e _ _ h⟩⟩
theorem CarsAt.car {C : Addr} {H : Hp} {l : Addr} {s : Yd} (c : CarsAt C H l s) {k : Nat} (h : k < s.cars.length) : ∃ (as : List Addr) (a : Addr), H l = some (.lst (as.map V.ref)) ∧ as.length = s.cars.length ∧ (as.map V.ref)[k]? = some (.ref a) ∧ CarAt C H a s (carOf s k) := by
  obtain ⟨as, h1, h2, h3⟩ := c
  have hk : k < as.length := by omega
  refine ⟨as, as[k], h1, h2, by simp [hk], h3 k _ _ (List.getElem?_eq_getElem hk) ?_⟩
  rw [carOf_get (List.getElem?_eq_getElem h)]
  exact List.getElem?_eq_getElem h

theorem lk_hit {k : Str} {v : V} {r : List (Str × V)} : List.lookup k ((k, v) :: r) = some v := by
  have e : (k == k) = true := beq_self_eq_true k
  simp only [List.lookup, e]
theorem lk_skip {k g : Str} {v : V} {r : List (Str × V)} (h : (k == g) = false) : List.lookup k ((g, v) :: r) = List.lookup k r := by simp only [List.lookup, h]
theorem put_hit {f : Str} {v x : V} {r : List (Str × V)} : putF f v ((f, x) :: r) = (f, v) :: r := if_pos rfl
theorem put_skip {f g : Str} {v x : V} {r : List (Str × V)} (h : ¬ g = f) : putF f v ((g, x) :: r) = (g, x) :: putF f v r := if_neg h
theorem carF_up (s : Yd) (c : Car) : (carF s c).lookup ("is_upright" : Str) = some (.bl c.upright) := lk_hit
theorem carF_line (s : Yd) (c : Car) : (carF s c).lookup ("its_line" : Str) = some (nI c.line) := (lk_skip (by decide +kernel)).trans lk_hit
theorem carF_long (s : Yd) (c : Car) : (carF s c).lookup ("length" : Str) = some (nI c.long) := (lk_skip (by decide +kernel)).trans ((lk_skip (by decide +kernel)).trans lk_hit)
theorem carF_span (s : Yd) (c : Car) : (carF s c).lookup ("span" : Str) = some (nI (lineLong s c)) := (lk_skip (by decide +kernel)).trans ((lk_skip (by decide +kernel)).trans ((lk_skip (by decide +kernel)).trans lk_hit))
theorem carF_no (s : Yd) (c : Car) {m : Str} (h1 : (m == ("is_upright" : Str)) = false) (h2 : (m == ("its_line" : Str)) = false) (h3 : (m == ("length" : Str)) = false) (h4 : (m == ("span" : Str)) = false) : (carF s c).lookup m = none :=
  (lk_skip h1).trans ((lk_skip h2).trans ((lk_skip h3).trans ((lk_skip h4).trans rfl)))
abbrev F1 (a : V) : List (Str × V) := [("is_upright", a)]
abbrev F2 (a b : V) : List (Str × V) := [("is_upright", a), ("its_line", b)]
abbrev F3 (a b c : V) : List (Str × V) := [("is_upright", a), ("its_line", b), ("length", c)]
abbrev F4 (a b c d : V) : List (Str × V) := [("is_upright", a), ("its_line", b), ("length", c), ("span", d)]
theorem carF_1 (a : V) : putF "is_upright" a [] = F1 a := rfl
theorem carF_2 (a b : V) : putF "its_line" b (F1 a) = F2 a b := (put_skip (f := "its_line") (by decide +kernel)).trans rfl
theorem carF_3 (a b c : V) : putF "length" c (F2 a b) = F3 a b c := (put_skip (f := "length") (by decide +kernel)).trans (congrArg _ ((put_skip (f := "length") (by decide +kernel)).trans rfl))
theorem carF_4 (a b c d : V) : putF "span" d (F3 a b c) = F4 a b c d := (put_skip (f := "span") (by decide +kernel)).trans (congrArg _ ((put_skip (f := "span") (by decide +kernel)).trans (congrArg _ ((put_skip (f := "span") (by decide +kernel)).trans rfl))))

theorem Same.upd {H : Hp} {p : Addr} {o : HO} (h : H p = none) : Same H (upd H p o) := fun b u e => by rw [upd_ne (ne_of_none e h)]; exact e
theorem sz {n : Nat} (h : n ≤ 10000) : n ≤ sizeLine := Nat.le_trans h (by rw [sizeLine_eq]; decide)
theorem sz' {n : Nat} (h : n ≤ 10000) : n < sizeLine := Nat.lt_of_le_of_lt h (by rw [sizeLine_eq]; decide)

/-- a list that is being made gets one more new tuple -/
theorem grow {H H' H4 : Hp} {D p : Addr} {ps : List Addr} {xs : List (List Nat)} {x : List Nat} (sm : Same H H') (hD : H D = none) (hps : H' D = some (.lst (ps.map V.ref))) (tp : Tups H' ps xs) (s4 : Same H' H4) (h4 : H4 p = some (.tup (nums x))) :
    Same H (upd H4 D (.lst (ps.map V.ref ++ [.ref p]))) ∧ ∃ qs : List Addr, upd H4 D (.lst (ps.map V.ref ++ [.ref p])) D = some (.lst (qs.map V.ref)) ∧ Tups (upd H4 D (.lst (ps.map V.ref ++ [.ref p]))) qs (xs ++ [x]) := by
  have hd := s4 _ _ hps
  have tk : ∀ q ys, H4 q = some (.tup ys) → upd H4 D (.lst (ps.map V.ref ++ [.ref p])) q = some (.tup ys) := fun q ys e => by rw [upd_ne (ne_of e hd (fun z => nomatch z))]; exact e
  refine ⟨fun b o e => ?_, ps ++ [p], ?_, ?_⟩
  · rw [upd_ne (ne_of_none e hD)]
    exact s4 _ _ (sm _ _ e)
  · rw [upd_same, List.map_append]
    rfl
  · exact Tups.snoc (Paired.mapP (tp.same s4) fun q y e => tk q _ e) (tk p _ h4)
theorem same_put {H H' : Hp} {D : Addr} {o : HO} (sm : Same H H') (hD : H D = none) : Same H (upd H' D o) := fun b u e => by
  rw [upd_ne (ne_of_none e hD)]
  exact sm _ _ e
theorem nI_add (a b : Nat) : V.int ((a : Int) + (b : Int)) = nI (a + b) := by
  unfold nI
  rw [Int.natCast_add]
theorem range_snoc {α : Type} (f : Nat → α) (i : Nat) : (List.range (i + 1)).map f = (List.range i).map f ++ [f i] := by
  rw [List.range_succ, List.map_append]
  rfl
theorem yes_of {σ : L2.St} {H : Hp} {Q : Bool → Hp → Prop} (h : Q true H) : tYes σ H Q := h
theorem if_yes {c : Bool} {A B : Prop} (hc : c = true) (h : A) : if c = true then A else B := by
  rw [if_pos hc]
  exact h
theorem if_no {c : Bool} {A B : Prop} (hc : c = false) (h : B) : if c = true then A else B := by
  rw [hc, if_neg Bool.false_ne_true]
  exact h
/-- what the top has written -/
structure Tx (K : PySem.W.Frag) (mg : Str → Option Value) (C CK CR : Addr) : Prop where
  cC : Cls K C
  c1 : NoAttr K C "is_upright"
  c2 : NoAttr K C "its_line"
  c3 : NoAttr K C "length"
  c4 : NoAttr K C "span"
  cK : Cls K CK
  k1 : NoAttr K CK "many_rows"
  k2 : NoAttr K CK "many_columns"
  k3 : NoAttr K CK "cars"
  k4 : NoAttr K CK "places"
  k5 : NoAttr K CK "wanted"
  k6 : NoAttr K CK "made"
  gC : mg "Car" = some (.ref C)
  gK : mg "Keeper" = some (.ref CK)
  gR : mg "Refused" = some (.ref CR)
  nAny : mg "any" = none
  nAll : mg "all" = none
  nList : mg "list" = none
  nRange : mg "range" = none
  nEnum : mg "enumerate" = none
  nLen : mg "len" = none
  nMin : mg "min" = none
  nMax : mg "max" = none
  nDict : mg "dict" = none
  nSorted : mg "sorted" = none
  nSet : mg "set" = none
  nInt : mg "int" = none
  nVE : mg "ValueError" = none
/-- a call that may let an exception out -/
structure CalX (P : Program) (w : World) (K : PySem.W.Frag) (mg : Str → Option Value) (base : Heap) (k : Nat) (x : Str) (sp : Sp) : Prop where
  ex : ∃ (f : Addr) (fd : FuncData) (ps : List Str), FnOk P w K mg base (L2.CX P w) k f fd ps sp ∧ mg x = some (.ref f) ∧ PySem.W.keepIn K (.ref f) = true ∧ Binds K fd ps []
structure MetX (P : Program) (w : World) (K : PySem.W.Frag) (mg : Str → Option Value) (base : Heap) (k : Nat) (C : Addr) (m : Str) (sp : Sp) : Prop where
  ex : ∃ (f : Addr) (fd : FuncData) (ps : List Str), Cls K C ∧ Meth K C m f ∧ FnOk P w K mg base (L2.CX P w) k f fd ps sp ∧ Binds K fd ps []
section
variable {P : Program} {w : World} {K : PySem.W.Frag} {mg : Str → Option Value} {base : Heap}
theorem cal_mk {k : Nat} {x : Str} {st : Stmt} {f : Addr} {fd : FuncData} {ps : List Str} {sp : Sp} (g : mg x = some (.ref f)) (F : Fun K x x st f fd) (b : Binds K fd ps []) (ok : FnOk P w K mg base CX0 k f fd ps sp) : Cal P w K mg base k x sp [] :=
  ⟨f, fd, ps, [], ok, g, F.kp, b, .nil⟩
theorem calx_mk {k : Nat} {x : Str} {st : Stmt} {f : Addr} {fd : FuncData} {ps : List Str} {sp : Sp} (g : mg x = some (.ref f)) (F : Fun K x x st f fd) (b : Binds K fd ps []) (ok : FnOk P w K mg base (L2.CX P w) k f fd ps sp) : CalX P w K mg base k x sp :=
  ⟨f, fd, ps, ok, g, F.kp, b⟩
theorem met_mk {k : Nat} {C : Addr} {m q : Str} {st : Stmt} {f : Addr} {fd : FuncData} {ps : List Str} {sp : Sp} (c : Cls K C) (g : Meth K C m f) (F : Fun K m q st f fd) (b : Binds K fd ps []) (ok : FnOk P w K mg base CX0 k f fd ps sp) : Met P w K mg base k C m sp [] :=
  ⟨f, fd, ps, [], c, g, ok, b, .nil⟩
theorem metx_mk {k : Nat} {C : Addr} {m q : Str} {st : Stmt} {f : Addr} {fd : FuncData} {ps : List Str} {sp : Sp} (c : Cls K C) (g : Meth K C m f) (F : Fun K m q st f fd) (b : Binds K fd ps []) (ok : FnOk P w K mg base (L2.CX P w) k f fd ps sp) : MetX P w K mg base k C m sp :=
  ⟨f, fd, ps, c, g, ok, b⟩
end
end Cy
end
section
set_option Elab.async false
set_option linter.all false
set_option maxRecDepth 100000
set_option maxHeartbeats 4000000
namespace Cy
open PySem PySem.Spec L2
open PyProof.Rows hiding St
open Sy66 (Car lineLong carOf legal moved moves nexts every arrangements from_ reach ends distance)
open C8 (Cal Met Mak pe_c pe_mk pe_mt pe_mt0)
section
variable {P : Program} {w : World} {K : PySem.W.Frag} {mg : Str → Option Value} {base : Heap} {C CK CR : Addr}

/-! ### Car.__init__ -/
abbrev sCI : Stmt := inClass (top 1) 0
theorem scCI : FnScope ["self", "is_upright", "its_line", "length", "span"] ["self", "is_upright", "its_line", "length", "span"] (defScope sCI) := ⟨rfl, rfl, rfl, by decide +kernel, rfl, by decide +kernel, by decide +kernel⟩
def spCI (C : Addr) : Sp := fun vs H Q _ => ∃ (p dx : Addr) (a b c d : V), vs = [.ref p, a, b, c, d] ∧ H p = some (.ins C dx []) ∧ Q .non (upd H p (.ins C dx (F4 a b c d)))
theorem ok_CI (T : Tx K mg C CK CR) {f : Addr} {fd : FuncData} (F : Fun K "__init__" "Car.__init__" sCI f fd) : FnOk P w K mg base CX0 1 f fd ["self", "is_upright", "its_line", "length", "span"] (spCI C) := by
  refine F.ok scCI (fun vs H Q E h => ?_) (fun cdv A outer s H vs Q E hr h => ?_)
  · obtain ⟨p, dx, a, b, c, d, rfl, _⟩ := h
    rfl
  · obtain ⟨p, dx, a, b, c, d, rfl, hp, q⟩ := h
    refine ⟨_, pss_cons (ps_fld (pv 0) (pv 1) rfl) (pss_cons (ps_fld (pv 0) (pv 2) rfl) (pss_cons (ps_fld (pv 0) (pv 3) rfl) (pss_one (ps_fld (pv 0) (pv 4) rfl)))), ?_⟩
    refine ⟨_, rfl, _, rfl, p, C, dx, _, rfl, hp, T.cC, T.c1, (by show 0 < 1000; decide), ?_⟩
    refine ⟨_, rfl, _, rfl, p, C, dx, _, rfl, upd_same, T.cC, T.c2, (by show 1 < 1000; decide), ?_⟩
    refine ⟨_, rfl, _, rfl, p, C, dx, _, rfl, upd_same, T.cC, T.c3, (by show 2 < 1000; decide), ?_⟩
    refine ⟨_, rfl, _, rfl, p, C, dx, _, rfl, upd_same, T.cC, T.c4, (by show 3 < 1000; decide), ?_⟩
    rw [upd_upd, upd_upd, upd_upd]
    exact q

/-! ### Car.cell -/
abbrev sCe : Stmt := inClass (top 1) 1
theorem scCe : FnScope ["self", "at"] ["self", "at"] (defScope sCe) := ⟨rfl, rfl, rfl, by decide +kernel, rfl, by decide +kernel, by decide +kernel⟩
def spCe (C : Addr) : Sp := fun vs H Q _ => ∃ (a : Addr) (s : Yd) (c : Car) (at_ : Nat), vs = [.ref a, nI at_] ∧ CarAt C H a s c ∧ ∀ p, H p = none → Q (.ref p) (upd H p (.tup (nums (cl (cell c at_)))))
theorem ok_Ce (T : Tx K mg C CK CR) {f : Addr} {fd : FuncData} (F : Fun K "cell" "Car.cell" sCe f fd) : FnOk P w K mg base CX0 1 f fd ["self", "at"] (spCe C) := by
  refine F.ok scCe (fun vs H Q E h => ?_) (fun cdv A outer s H vs Q E hr h => ?_)
  · obtain ⟨a, s, c, at_, rfl, _⟩ := h
    rfl
  · obtain ⟨a, y, c, at_, rfl, ⟨dx, ha⟩, q⟩ := h
    refine ⟨_, pss_one (ps_ret (pe_ifExp (pt_val (pe_fld (pv 0) rfl)) (pe_tup (pa_cons (pv 1) (pa_cons (pe_fld (pv 0) rfl) pa_nil))) (pe_tup (pa_cons (pe_fld (pv 0) rfl) (pa_cons (pv 1) pa_nil))))), ?_⟩
    refine ⟨_, rfl, a, C, dx, _, _, rfl, ha, T.cC, T.c1, carF_up y c, _, rfl, ?_⟩
    by_cases u : c.upright = true
    · refine if_yes u ?_
      refine ⟨_, rfl, _, rfl, a, C, dx, _, _, rfl, ha, T.cC, T.c2, carF_line y c, (by show 2 ≤ sizeLine; decide), fun p hp => ?_⟩
      have e : nums (cl (cell c at_)) = [nI at_, nI c.line] := by unfold cell; rw [if_pos u]; rfl
      have := q p hp
      rw [e] at this
      exact this
    · refine if_no (by simpa using u) ?_
      refine ⟨_, rfl, a, C, dx, _, _, rfl, ha, T.cC, T.c2, carF_line y c, _, rfl, (by show 2 ≤ sizeLine; decide), fun p hp => ?_⟩
      have e : nums (cl (cell c at_)) = [nI c.line, nI at_] := by unfold cell; rw [if_neg u]; rfl
      have := q p hp
      rw [e] at this
      exact this

/-! ### Car.cells -/
abbrev sCs : Stmt := inClass (top 1) 2
theorem scCs : FnScope ["self", "first", "last", "at"] ["self", "first", "last"] (defScope sCs) := ⟨rfl, rfl, rfl, by decide +kernel, rfl, by decide +kernel, by decide +kernel⟩
def spCs (C : Addr) : Sp := fun vs H Q _ => ∃ (a : Addr) (s : Yd) (c : Car) (x y : Nat), vs = [.ref a, nI x, nI y] ∧ CarAt C H a s c ∧ x ≤ 1000 ∧ y ≤ 1000 ∧ c.long ≤ 5 ∧
  ∀ H' p ps, Same H H' → H p = none → H' p = some (.lst (ps.map V.ref)) → Tups H' ps ((cells c x y).map cl) → Q (.ref p) H'
theorem ok_Cs (T : Tx K mg C CK CR) (cCe : Met P w K mg base 1 C "cell" (spCe C) []) {f : Addr} {fd : FuncData} (F : Fun K "cells" "Car.cells" sCs f fd) : FnOk P w K mg base CX0 2 f fd ["self", "first", "last"] (spCs C) := by
  refine F.ok scCs (fun vs H Q E h => ?_) (fun cdv A outer s H vs Q E hr h => ?_)
  · obtain ⟨a, s, c, x, y, rfl, _⟩ := h
    rfl
  · obtain ⟨a, yd, c, x, y, rfl, ⟨dx, ha⟩, hx, hy, hl, q⟩ := h
    refine ⟨_, pss_one (ps_ret (pe_lc (own := [("at", 3)]) (g := gName 3) (tt := tYes) rfl scCs.nd (pi_range2 rfl T.nRange (pa_cons (pv 1) (pa_cons (pe_op op_add (pv 2) (pe_fld (pv 0) rfl)) pa_nil)))
      (blkOk_by (N := ["self", "first", "last", "at"]) (sc := defScope sCs) (by decide +kernel)) (fun _ _ _ _ _ => pg_name (i := 3) scCs.nd rfl (Or.inl rfl)) (fun _ _ _ _ _ => pts_nil)
      (fun _ _ _ _ _ => pe_mt cCe hr (Nat.le_refl _) (pv 0) (pa_cons (pv 3) pa_nil)))), ?_⟩
    refine ⟨_, rfl, _, rfl, _, rfl, a, C, dx, _, _, rfl, ha, T.cC, T.c3, carF_long yd c, _, _, rfl, rfl, _, _, rfl, ⟨by omega, by omega, by omega, by omega⟩, fun D hD => ?_⟩
    refine lc_range (lo := (x : Int)) (n := ((y : Int) + (c.long : Int) - (x : Int)).toNat) (fun i H' => Same H H' ∧ ∃ ps : List Addr, H' D = some (.lst (ps.map V.ref)) ∧ Tups H' ps ((List.range i).map fun j => cl (cell c (x + j)))) ⟨Same.upd hD, [], upd_same, Tups.nil⟩ ?_ ?_
    · rintro i H' hi ⟨sm, ps, hps, tp⟩
      refine ⟨rfl, ?_⟩
      refine yes_of ?_
      refine if_yes rfl ?_
      refine ⟨_, rfl, a, dx, _, rfl, sm _ _ ha, carF_no yd c (by decide +kernel) (by decide +kernel) (by decide +kernel) (by decide +kernel), _, rfl, a, yd, c, x + i, ?_, ⟨dx, sm _ _ ha⟩, fun p hp => ?_⟩
      · show [V.ref a, V.int ((x : Int) + (i : Int))] = _
        rw [nI_add]
      · have hl : (ps.map V.ref).length < sizeLine := sz' (by rw [List.length_map, tp.len, List.length_map, List.length_range]; omega)
        refine ⟨ps.map V.ref, by rw [upd_ne (ne_of_none hps hp)]; exact hps, hl, ?_⟩
        have g := grow sm hD hps tp (Same.upd hp) (p := p) (x := cl (cell c (x + i))) upd_same
        rw [range_snoc]
        exact g
    · rintro H' ⟨sm, ps, hps, tp⟩
      refine q H' D ps sm hD hps ?_
      have e : ((y : Int) + (c.long : Int) - (x : Int)).toNat = y + c.long - x := by omega
      rw [e] at tp
      unfold cells
      rw [List.map_map]
      exact tp

/-! ### Car.all_places -/
abbrev sAp : Stmt := inClass (top 1) 3
theorem scAp : FnScope ["self"] ["self"] (defScope sAp) := ⟨rfl, rfl, rfl, by decide +kernel, rfl, by decide +kernel, by decide +kernel⟩
def spAp (C : Addr) : Sp := fun vs H Q _ => ∃ (a : Addr) (s : Yd) (c : Car), vs = [.ref a] ∧ CarAt C H a s c ∧ c.long ≤ lineLong s c ∧ lineLong s c ≤ 5 ∧
  ∀ p, H p = none → Q (.ref p) (upd H p (.lst (nums (List.range (lineLong s c - c.long + 1)))))
theorem ok_Ap (T : Tx K mg C CK CR) {f : Addr} {fd : FuncData} (F : Fun K "all_places" "Car.all_places" sAp f fd) : FnOk P w K mg base CX0 1 f fd ["self"] (spAp C) := by
  refine F.ok scAp (fun vs H Q E h => ?_) (fun cdv A outer s H vs Q E hr h => ?_)
  · obtain ⟨a, s, c, rfl, _⟩ := h
    rfl
  · obtain ⟨a, yd, c, rfl, ⟨dx, ha⟩, hl, h5, q⟩ := h
    refine ⟨_, pss_one (ps_ret (pe_listRg rfl rfl T.nList (prg_1 rfl T.nRange (pe_op op_add (pe_op op_sub (pe_fld (pv 0) rfl) (pe_fld (pv 0) rfl)) pe_int)))), ?_⟩
    refine ⟨_, rfl, a, C, dx, _, _, rfl, ha, T.cC, T.c4, carF_span yd c, _, rfl, a, C, dx, _, _, rfl, ha, T.cC, T.c3, carF_long yd c, _, _, rfl, rfl, _, _, rfl, rfl, _, rfl, ⟨by omega, by omega, by omega, by omega, by omega⟩, fun p hp => ?_⟩
    have e : rgV 0 ((lineLong yd c : Int) - (c.long : Int) + 1) = nums (List.range (lineLong yd c - c.long + 1)) := by
      unfold rgV nums
      rw [show ((lineLong yd c : Int) - (c.long : Int) + 1 - 0).toNat = lineLong yd c - c.long + 1 by omega]
      refine List.map_congr_left fun i _ => ?_
      unfold nI
      simp
    have := q p hp
    rw [← e] at this
    exact this
end
end Cy
end
section
set_option Elab.async false
set_option linter.all false
set_option maxRecDepth 100000
set_option maxHeartbeats 4000000
namespace Cy
open PySem PySem.Spec L2
open PyProof.Rows hiding St
open Sy66 (Car lineLong carOf legal moved moves nexts every arrangements from_ reach ends distance)
open C8 (Cal Met Mak pe_c pe_mk pe_mt pe_mt0)
section
variable {P : Program} {w : World} {K : PySem.W.Frag} {mg : Str → Option Value} {base : Heap} {C CK CR : Addr}

/-! ### taken -/
abbrev sTk : Stmt := top 2
theorem scTk : FnScope ["cars", "places", "but", "found", "number", "place", "cell"] ["cars", "places", "but"] (defScope sTk) := ⟨rfl, rfl, rfl, by decide +kernel, rfl, by decide +kernel, by decide +kernel⟩
/-- the cells of all cars of the first n but one -/
def Taken (s : Yd) (pl : List Nat) (but n : Nat) (x : Cell) : Prop := ∃ j, j < n ∧ j ≠ but ∧ x ∈ cells (carOf s j) (pl.getD j 0) (pl.getD j 0)
/-- which cells are keys -/
def Has (kvs : List (List Key × V)) (S : Cell → Prop) : Prop := ∀ x, (valV kvs (kx (cl x))).isSome = true ↔ S x
theorem Has.put {kvs : List (List Key × V)} {S : Cell → Prop} (h : Has kvs S) (c : Cell) (v : V) : Has (putK kvs (kx (cl c)) v) (fun x => S x ∨ x = c) := fun x => by
  rw [valV_put]
  by_cases e : x = c
  · subst e
    rw [if_pos rfl]
    simp
  · rw [if_neg fun z => e (cl_inj (kx_inj z)), h x]
    simp [e]
theorem Has.eq {kvs : List (List Key × V)} {S S' : Cell → Prop} (h : Has kvs S) (e : ∀ x, S x ↔ S' x) : Has kvs S' := fun x => (h x).trans (e x)
theorem Taken.zero (s : Yd) (pl : List Nat) (but : Nat) (x : Cell) : Taken s pl but 0 x ↔ False := ⟨fun ⟨j, h, _⟩ => absurd h (Nat.not_lt_zero _), fun h => h.elim⟩
theorem Taken.skip {s : Yd} {pl : List Nat} {but : Nat} (x : Cell) : Taken s pl but but x ↔ Taken s pl but (but + 1) x := by
  constructor
  · rintro ⟨j, h, r⟩; exact ⟨j, by omega, r⟩
  · rintro ⟨j, h, ne, r⟩; exact ⟨j, by omega, ne, r⟩
theorem Taken.more {s : Yd} {pl : List Nat} {but n : Nat} (h : n ≠ but) (x : Cell) : (Taken s pl but n x ∨ x ∈ cells (carOf s n) (pl.getD n 0) (pl.getD n 0)) ↔ Taken s pl but (n + 1) x := by
  constructor
  · rintro (⟨j, h, r⟩ | h')
    · exact ⟨j, by omega, r⟩
    · exact ⟨n, by omega, h, h'⟩
  · rintro ⟨j, hj, ne, r⟩
    by_cases e : j = n
    · subst e; exact .inr r
    · exact .inl ⟨j, by omega, ne, r⟩
def spTk (C : Addr) : Sp := fun vs H Q _ => ∃ (l t : Addr) (s : Yd) (pl : List Nat) (but : Nat), vs = [.ref l, .ref t, nI but] ∧ CarsAt C H l s ∧ H t = some (.tup (nums pl)) ∧ pl.length ≤ s.cars.length ∧ Yard s ∧ (∀ x ∈ pl, x ≤ 1000) ∧
  ∀ H' p kvs, Same H H' → H p = none → H' p = some (.dT kvs) → Has kvs (Taken s pl but pl.length) → Q (.ref p) H'
theorem take_snoc {α : Type} : ∀ {l : List α} {i : Nat} {x : α}, l[i]? = some x → l.take (i + 1) = l.take i ++ [x]
  | [], i, x, h => by simp at h
  | a :: l, 0, x, h => by
    have e : a = x := Option.some.inj h
    rw [e]; rfl
  | a :: l, i + 1, x, h => by
    show a :: l.take (i + 1) = a :: l.take i ++ [x]
    rw [take_snoc (l := l) (i := i) (x := x) h]
    rfl
theorem getD_of {l : List Nat} {i n : Nat} (h : l[i]? = some n) : l.getD i 0 = n := by
  rw [List.getD_eq_getElem?_getD, h]
  rfl
theorem ok_Tk (T : Tx K mg C CK CR) (cCs : Met P w K mg base 2 C "cells" (spCs C) []) {f : Addr} {fd : FuncData} (F : Fun K "taken" "taken" sTk f fd) : FnOk P w K mg base CX0 3 f fd ["cars", "places", "but"] (spTk C) := by
  refine F.ok scTk (fun vs H Q E h => ?_) (fun cdv A outer s H vs Q E hr h => ?_)
  · obtain ⟨l, t, s, pl, but, rfl, _⟩ := h
    rfl
  · obtain ⟨l, t, yd, pl, but, rfl, hl, ht, hlen, hy, hsm, q⟩ := h
    refine ⟨_, pss_cons (ps_set (i := 3) scTk.nd rfl (Or.inl rfl) pe_dnewT) (pss_cons (ps_for PassesOwn.never rfl (pi_enumT rfl T.nEnum (pa_cons (pv 1) pa_nil)) (pg_tup rfl (pgs_cons (pg_name (i := 4) scTk.nd rfl (Or.inl rfl)) (pgs_cons (pg_name (i := 5) scTk.nd rfl (Or.inl rfl)) pgs_nil)))
      (pss_one (ps_if (pt_cmpR op_ne (pv 4) (pv 2) (nomark _)) (pss_one (ps_for PassesOwn.never rfl (pi_list (pe_mt cCs hr (Nat.le_refl _) (pe_ix ix_list (pv 0) (pv 4) (fun _ _ => rfl)) (pa_cons (pv 5) (pa_cons (pv 5) pa_nil)))) (pg_name (i := 6) scTk.nd rfl (Or.inl rfl))
        (pss_one (ps_dput (hu_of hr) (pv 3) (pv 6) pe_bl rfl)))) pss_nil))) (pss_one (ps_ret (pv 3)))), ?_⟩
    intro D hD
    have five := hy.few
    refine ⟨_, rfl, t, nums pl, rfl, SqT.of (Same.upd hD _ _ ht), for_enumT (K := K) (a := t) (xs := nums pl) (fun i σ H' => ∃ (a4 a5 a6 : Option V) (kvs : List (List Key × V)), σ = [some (.ref l), some (.ref t), some (nI but), some (.ref D), a4, a5, a6] ∧ Same H H' ∧ H' D = some (.dT kvs) ∧ Has kvs (Taken yd pl but i) ∧ kvs.length ≤ 5 * i)
      ⟨none, none, none, [], rfl, Same.upd hD, upd_same, fun x => by rw [Taken.zero]; simp [valV], Nat.le_refl _⟩ (fun i σ H' _ ⟨_, _, _, _, _, sm, _⟩ => SqT.of (sm _ _ ht)) ?_ ?_⟩
    · rintro i x B σ H' hx ⟨a4, a5, a6, kvs, rfl, sm, hd, has, hk⟩ hB
      obtain ⟨p, hp, rfl⟩ := nums_get hx
      have hi : i < pl.length := (List.getElem?_eq_some_iff.mp hp).1
      have sB : Same H' (upd H' B (.tup [.int (i : Nat), nI p])) := Same.upd hB
      refine ⟨B, _, rfl, SqT.of upd_same, rfl, _, _, rfl, _, _, rfl, rfl, ?_⟩
      refine ⟨_, rfl, _, rfl, rfl, _, rfl, ?_⟩
      by_cases e : i = but
      · subst e
        refine if_no (by simp [nI]) ?_
        exact ⟨_, _, _, kvs, rfl, sm.trans sB, sB _ _ hd, has.eq Taken.skip, by omega⟩
      · refine if_yes (by simp [nI]; omega) ?_
        have hc := (hl.same (sm.trans sB))
        obtain ⟨as, a, h1, h2, h3, dx, h4⟩ := hc.car (k := i) (by omega)
        have ck := hy.cars (Nat.le_refl _) i (by omega)
        have hp1 := hsm p (List.mem_of_getElem? hp)
        refine ⟨_, rfl, _, rfl, l, _, (i : Int), _, rfl, rfl, SqL.of h1, atI_nat h3, a, dx, _, rfl, h4, carF_no yd _ (by decide +kernel) (by decide +kernel) (by decide +kernel) (by decide +kernel), _, rfl, _, rfl, ?_⟩
        refine ⟨a, yd, carOf yd i, p, p, rfl, ⟨dx, h4⟩, hp1, hp1, ck.hi, fun H2 L ps sm2 hL hps tp => ?_⟩
        have sm3 := (sm.trans sB).trans sm2
        have lenc : (cells (carOf yd i) p p).length = (carOf yd i).long := by unfold cells; rw [List.length_map, List.length_range]; omega
        have lenp : ps.length = (carOf yd i).long := by rw [tp.len, List.length_map, lenc]
        refine ⟨L, rfl, ⟨_, SqL.of hps⟩, for_list (K := K) (a := L) (xs := ps.map V.ref) (fun j σ H' => ∃ (b6 : Option V) (kvs' : List (List Key × V)), σ = [some (.ref l), some (.ref t), some (nI but), some (.ref D), some (nI i), some (nI p), b6] ∧ Same H H' ∧ H' D = some (.dT kvs') ∧ H' L = some (.lst (ps.map V.ref)) ∧ Tups H' ps ((cells (carOf yd i) p p).map cl) ∧
            Has kvs' (fun x => Taken yd pl but i x ∨ x ∈ (cells (carOf yd i) p p).take j) ∧ kvs'.length ≤ kvs.length + j)
          ⟨_, kvs, rfl, sm3, sm2 _ _ (sB _ _ hd), hps, tp, has.eq fun x => by simp, Nat.le_refl _⟩ (fun j σ H' _ ⟨_, _, _, _, _, hq, _⟩ => SqL.of hq) ?_ ?_⟩
        · rintro j x σ H3 hx3 ⟨b6, kvs', rfl, s3, hd3, hL3, tp3, has3, hk3⟩
          obtain ⟨q3, z3, e1, e2, rfl, hq3⟩ := tp3.get hx3
          rw [List.getElem?_map] at e2
          obtain ⟨c3, e3, rfl⟩ := Option.map_eq_some_iff.mp e2
          have hj : j < (carOf yd i).long := by rw [← lenp]; exact (List.getElem?_eq_some_iff.mp e1).1
          refine ⟨_, rfl, _, rfl, D, _, rfl, DPut.t (k := kx (cl c3)) hd3 (by rw [kx_nums]; exact hq3) (sz' (by have := ck.hi; omega)), ?_⟩
          have nD : ∀ {b : Addr} {o : HO}, H3 b = some o → (∀ k, o ≠ .dT k) → b ≠ D := fun {b o} z n => ne_of z hd3 (n _)
          refine ⟨_, _, rfl, same_put s3 hD, upd_same, ?_, ?_, ?_, ?_⟩
          · rw [upd_ne (nD hL3 (fun k z => nomatch z))]; exact hL3
          · exact Paired.mapP tp3 fun q y z => by rw [upd_ne (nD z (fun k z => nomatch z))]; exact z
          · refine (has3.put c3 _).eq fun x => ?_
            rw [take_snoc e3, List.mem_append, List.mem_singleton]
            constructor
            · rintro ((h | h) | h)
              · exact .inl h
              · exact .inr (.inl h)
              · exact .inr (.inr h)
            · rintro (h | h | h)
              · exact .inl (.inl h)
              · exact .inl (.inr h)
              · exact .inr h
          · have := length_putK kvs' (kx (cl c3)) (.bl true)
            omega
        · rintro σ H3 ⟨b6, kvs', rfl, s3, hd3, _, _, has3, hk3⟩
          rw [List.length_map, lenp] at hk3
          rw [List.length_map, lenp, ← lenc, List.take_length] at has3
          have := ck.hi
          refine ⟨_, _, _, kvs', rfl, s3, hd3, has3.eq fun x => ?_, by omega⟩
          rw [← Taken.more e, getD_of hp]
    · rintro σ H' ⟨a4, a5, a6, kvs, rfl, sm, hd, has, _⟩
      rw [nums_len] at has
      exact ⟨_, rfl, q H' D kvs sm hD hd has⟩
end
end Cy
end
section
set_option Elab.async false
set_option linter.all false
set_option maxRecDepth 100000
set_option maxHeartbeats 4000000
namespace Cy
open PySem PySem.Spec L2
open PyProof.Rows hiding St
open Sy66 (Car lineLong carOf legal moved moves nexts every arrangements from_ reach ends distance)
open C8 (Cal Met Mak pe_c pe_mk pe_mt pe_mt0)
section
variable {P : Program} {w : World} {K : PySem.W.Frag} {mg : Str → Option Value} {base : Heap} {C CK CR : Addr}

/-! ### is_free -/
abbrev sFr : Stmt := top 3
theorem scFr : FnScope ["cells", "others", "cell"] ["cells", "others"] (defScope sFr) := ⟨rfl, rfl, rfl, by decide +kernel, rfl, by decide +kernel, by decide +kernel⟩
def spFr : Sp := fun vs H Q _ => ∃ (a d : Addr) (ps : List Addr) (xs : List Cell) (kvs : List (List Key × V)) (S : Cell → Prop), vs = [.ref a, .ref d] ∧ H a = some (.lst (ps.map V.ref)) ∧ Tups H ps (xs.map cl) ∧ xs.length ≤ 1000 ∧ H d = some (.dT kvs) ∧ Has kvs S ∧
  ∀ H' b, Same H H' → (b = true ↔ ∀ x ∈ xs, ¬ S x) → Q (.bl b) H'
theorem ok_Fr (T : Tx K mg C CK CR) {f : Addr} {fd : FuncData} (F : Fun K "is_free" "is_free" sFr f fd) : FnOk P w K mg base CX0 1 f fd ["cells", "others"] spFr := by
  refine F.ok scFr (fun vs H Q E h => ?_) (fun cdv A outer s H vs Q E hr h => ?_)
  · obtain ⟨a, d, ps, xs, kvs, S, rfl, _⟩ := h
    rfl
  · obtain ⟨a, d, ps, xs, kvs, S, rfl, ha, tp, hlen, hd, has, q⟩ := h
    refine ⟨_, pss_one (ps_ret (pe_not (pe_callB (cr_any rfl) (by rfl) T.nAny (by decide +kernel) (pa_cons (pe_lc (own := [("cell", 2)]) (g := gName 2) (tt := tYes) rfl scFr.nd (pi_list (pv 0)) (blkOk_by (N := ["cells", "others", "cell"]) (sc := defScope sFr) (by decide +kernel)) (fun _ _ _ _ _ => pg_name (i := 2) scFr.nd rfl (Or.inl rfl)) (fun _ _ _ _ _ => pts_nil)
      (fun _ _ _ _ _ => pe_cmp (pc_din (hu_of hr) (pv 2) (pv 1)) rfl)) pa_nil)))), ?_⟩
    have lp : ps.length = xs.length := by rw [tp.len, List.length_map]
    refine ⟨_, rfl, a, rfl, ⟨_, SqL.of ha⟩, fun D hD => ?_⟩
    refine lc_list (K := K) (a := a) (xs := ps.map V.ref) (fun i H' => Same H H' ∧ H' D = some (.lst (((xs.take i).map fun x => (valV kvs (kx (cl x))).isSome).map V.bl))) ⟨Same.upd hD, upd_same⟩ (fun i H' _ ⟨sm, _⟩ => SqL.of (sm _ _ ha)) ?_ ?_
    · rintro i x H' hx ⟨sm, hl⟩
      obtain ⟨q1, z1, e1, e2, rfl, hq⟩ := (tp.same sm).get hx
      rw [List.getElem?_map] at e2
      obtain ⟨c, e3, rfl⟩ := Option.map_eq_some_iff.mp e2
      refine ⟨rfl, ?_⟩
      refine yes_of ?_
      refine if_yes rfl ?_
      refine ⟨_, rfl, _, rfl, d, _, rfl, DGet.t (k := kx (cl c)) (sm _ _ hd) (by rw [kx_nums]; exact hq), _, hl, sz' (by rw [List.length_map, List.length_map, List.length_take]; omega), same_put sm hD, ?_⟩
      rw [upd_same, take_snoc e3, List.map_append, List.map_append]
      rfl
    · rintro H' ⟨sm, hl⟩
      rw [List.length_map, lp, List.take_length] at hl
      refine ⟨D, _, rfl, SqL.of hl, _, rfl, q H' _ sm ?_⟩
      rw [Bool.not_eq_true', List.any_map, List.any_eq_false]
      constructor
      · intro h x hx hs
        exact h x hx ((has x).mpr hs)
      · intro h x hx hs
        exact h x hx ((has x).mp hs)

/-! ### goals_of -/
abbrev sGo : Stmt := top 4
theorem scGo : FnScope ["cars", "places", "number", "others", "here", "found", "there"] ["cars", "places", "number"] (defScope sGo) := ⟨rfl, rfl, rfl, by decide +kernel, rfl, by decide +kernel, by decide +kernel⟩
def goals (s : Yd) (pl : List Nat) (k : Nat) : List Nat := (List.range 5).filter fun o => (moved s pl k o).isSome
def spGo (C : Addr) : Sp := fun vs H Q _ => ∃ (l t : Addr) (s : Yd) (pl : List Nat) (k : Nat), vs = [.ref l, .ref t, nI k] ∧ CarsAt C H l s ∧ H t = some (.tup (nums pl)) ∧ Yard s ∧ Val s pl ∧ k < pl.length ∧
  ∀ H' p, Same H H' → H p = none → H' p = some (.lst (nums (goals s pl k))) → Q (.ref p) H'
theorem min_nI (a b : Nat) : V.int (if (b : Int) < (a : Int) then (b : Int) else (a : Int)) = nI (min a b) := by
  unfold nI
  congr 1
  split <;> omega
theorem max_nI (a b : Nat) : V.int (if (b : Int) > (a : Int) then (b : Int) else (a : Int)) = nI (max a b) := by
  unfold nI
  congr 1
  split <;> omega
theorem goal_iff {s : Yd} (y : Yard s) {pl : List Nat} (v : Val s pl) {k o : Nat} (hk : k < pl.length) (ho : o + (carOf s k).long ≤ lineLong s (carOf s k)) :
    (moved s pl k o).isSome = true ↔ o ≠ pl.getD k 0 ∧ ∀ x ∈ cells (carOf s k) (min (pl.getD k 0) o) (max (pl.getD k 0) o), ¬ Taken s pl k pl.length x := by
  rw [Option.isSome_iff_exists]
  constructor
  · rintro ⟨m, hm⟩
    obtain ⟨_, h1, _, h2, _⟩ := (moved_iff (v.cars y) v.leg).mp hm
    exact ⟨h1, fun x hx ⟨j, hj, ne, h⟩ => h2 j hj ne x hx h⟩
  · rintro ⟨h1, h2⟩
    exact ⟨_, (moved_iff (v.cars y) v.leg).mpr ⟨hk, h1, ho, fun j hj ne x hx h => h2 x hx ⟨j, hj, ne, h⟩, rfl⟩⟩
theorem filter_range_succ (p : Nat → Bool) (i : Nat) : (List.range (i + 1)).filter p = (List.range i).filter p ++ (if p i = true then [i] else []) := by
  rw [List.range_succ, List.filter_append]
  congr 1
  by_cases h : p i = true
  · rw [if_pos h, List.filter_cons_of_pos h]
    rfl
  · rw [if_neg h, List.filter_cons_of_neg h]
    rfl
theorem nI_ne {i j : Nat} (h : i ≠ j) : (!decide (nI i = nI j)) = true := by
  rw [decide_eq_false fun z => h (nI_inj z)]
  rfl
theorem nI_eq {i j : Nat} (h : i = j) : (!decide (nI i = nI j)) = false := by
  rw [h, decide_eq_true rfl]
  rfl
theorem nums_app (a b : List Nat) : nums (a ++ b) = nums a ++ nums b := List.map_append
theorem range_at {n i : Nat} {v : V} (h : (nums (List.range n))[i]? = some v) : i < n ∧ v = nI i := by
  obtain ⟨m, h1, rfl⟩ := nums_get h
  have hi : i < n := by
    have := (List.getElem?_eq_some_iff.mp h1).1
    rwa [List.length_range] at this
  rw [List.getElem?_range hi] at h1
  cases h1
  exact ⟨hi, rfl⟩
theorem ok_Go (T : Tx K mg C CK CR) (cTk : Cal P w K mg base 3 "taken" (spTk C) []) (cFr : Cal P w K mg base 1 "is_free" spFr []) (cCs : Met P w K mg base 2 C "cells" (spCs C) []) (cAp : Met P w K mg base 1 C "all_places" (spAp C) [])
    {f : Addr} {fd : FuncData} (F : Fun K "goals_of" "goals_of" sGo f fd) : FnOk P w K mg base CX0 4 f fd ["cars", "places", "number"] (spGo C) := by
  refine F.ok scGo (fun vs H Q E h => ?_) (fun cdv A outer s H vs Q E hr h => ?_)
  · obtain ⟨l, t, s, pl, k, rfl, _⟩ := h
    rfl
  · obtain ⟨l, t, yd, pl, k, rfl, hl, ht, hy, hv, hk, q⟩ := h
    refine ⟨_, pss_cons (ps_set (i := 3) scGo.nd rfl (Or.inl rfl) (pe_c cTk hr (by decide) rfl (pa_cons (pv 0) (pa_cons (pv 1) (pa_cons (pv 2) pa_nil)))))
      (pss_cons (ps_set (i := 4) scGo.nd rfl (Or.inl rfl) (pe_ix ix_tup (pv 1) (pv 2) (fun _ _ => rfl)))
      (pss_cons (ps_set (i := 5) scGo.nd rfl (Or.inl rfl) (pe_lst pa_nil))
      (pss_cons (ps_for PassesOwn.never rfl (pi_list (pe_mt0 cAp hr (by decide) (pe_ix ix_list (pv 0) (pv 2) (fun _ _ => rfl)))) (pg_name (i := 6) scGo.nd rfl (Or.inl rfl))
        (pss_one (ps_if (PW.pt (pw_and (pt_cmpR op_ne (pv 6) (pv 4) (nomark _)) (pw_and1 (pt_val (pe_c cFr hr (by decide) rfl (pa_cons (pe_mt cCs hr (by decide) (pe_ix ix_list (pv 0) (pv 2) (fun _ _ => rfl))
            (pa_cons (pe_callB (call_min2 rfl) (by rfl) T.nMin (by decide +kernel) (pa_cons (pv 4) (pa_cons (pv 6) pa_nil))) (pa_cons (pe_callB (call_max2 rfl) (by rfl) T.nMax (by decide +kernel) (pa_cons (pv 4) (pa_cons (pv 6) pa_nil))) pa_nil))) (pa_cons (pv 3) pa_nil)))))))
          (pss_one (ps_expr (pe_bm PySem.F.plainAttrs_list PySem.F.slot_list_append PySem.F.type_list_append mt_append (pv 5) (pa_cons (pv 6) pa_nil)))) pss_nil)))
      (pss_one (ps_ret (pv 5)))))), ?_⟩
    have lenP : pl.length = yd.cars.length := hv.len
    have ck := hv.cars hy k hk
    have hfit := hv.leg.fit k hk
    have h5 := hy.line (carOf yd k)
    refine ⟨_, rfl, _, rfl, _, rfl, l, t, yd, pl, k, rfl, hl, ht, by omega, hy, fun x hx => by have := hv.mem_small hy hx; omega, fun H1 d kvs s1 nd hd has => ?_⟩
    refine ⟨_, rfl, _, rfl, t, _, (k : Int), _, rfl, rfl, SqT.of (s1 _ _ ht), atI_nat (nums_at hk), (by show 0 ≤ sizeLine; decide), fun D hD => ?_⟩
    have s2 := s1.trans (Same.upd (o := .lst []) hD)
    have dD : H D = none := s1.free hD
    obtain ⟨as, a, h1, h2, h3, dx, h4⟩ := (hl.same s2).car (k := k) (by omega)
    refine ⟨_, rfl, _, rfl, l, _, (k : Int), _, rfl, rfl, SqL.of h1, atI_nat h3, a, dx, _, rfl, h4, carF_no yd _ (by decide +kernel) (by decide +kernel) (by decide +kernel) (by decide +kernel), a, yd, carOf yd k, rfl, ⟨dx, h4⟩, by omega, h5, fun L hL => ?_⟩
    have s3 := s2.trans (Same.upd (o := .lst (nums (List.range (lineLong yd (carOf yd k) - (carOf yd k).long + 1)))) hL)
    have neDL : D ≠ L := ne_of_none upd_same hL
    refine ⟨L, rfl, ⟨_, SqL.of upd_same⟩, for_list (K := K) (a := L) (xs := nums (List.range (lineLong yd (carOf yd k) - (carOf yd k).long + 1)))
      (fun i σ H' => ∃ a6 : Option V, σ = [some (.ref l), some (.ref t), some (nI k), some (.ref d), some (nI (pl.getD k 0)), some (.ref D), a6] ∧ Same H H' ∧ H' d = some (.dT kvs) ∧ H' L = some (.lst (nums (List.range (lineLong yd (carOf yd k) - (carOf yd k).long + 1)))) ∧
        H' D = some (.lst (nums ((List.range i).filter fun o => (moved yd pl k o).isSome))))
      ⟨_, rfl, s3, ?_, upd_same, ?_⟩ (fun i σ H' _ ⟨_, _, _, _, hq, _⟩ => SqL.of hq) ?_ ?_⟩
    · rw [upd_ne (ne_of_none (Same.upd hD _ _ hd) hL)]
      exact Same.upd hD _ _ hd
    · rw [upd_ne neDL, upd_same]
      rfl
    · rintro i x σ H3 hx ⟨a6, rfl, sm, hd3, hL3, hD3⟩
      obtain ⟨hi, rfl⟩ := range_at hx
      have gi := goal_iff hy hv (o := i) hk (by omega)
      have hp4 := hv.small hy hk
      refine ⟨_, rfl, _, rfl, rfl, _, rfl, ?_⟩
      by_cases e : i = pl.getD k 0
      · refine if_no (nI_eq e) ?_
        refine if_no rfl ?_
        refine ⟨_, rfl, sm, hd3, hL3, ?_⟩
        rw [filter_range_succ, if_neg fun z => (gi.mp z).1 e, List.append_nil]
        exact hD3
      · refine if_yes (nI_ne e) ?_
        obtain ⟨as', a', g1, g2, g3, dx', g4⟩ := (hl.same sm).car (k := k) (by omega)
        refine ⟨_, rfl, _, rfl, l, _, (k : Int), _, rfl, rfl, SqL.of g1, atI_nat g3, a', dx', _, rfl, g4, carF_no yd _ (by decide +kernel) (by decide +kernel) (by decide +kernel) (by decide +kernel), ?_⟩
        refine ⟨_, rfl, _, rfl, _, _, rfl, _, rfl, _, rfl, _, _, rfl, a', yd, carOf yd k, min (pl.getD k 0) i, max (pl.getD k 0) i, ?_, ⟨dx', g4⟩, by omega, by omega, ck.hi, fun H4 p ps s4 np hps tp => ?_⟩
        · show [V.ref a', V.int _, V.int _] = _
          rw [min_nI, max_nI]
        · refine ⟨_, rfl, p, d, ps, cells (carOf yd k) (min (pl.getD k 0) i) (max (pl.getD k 0) i), kvs, _, rfl, hps, tp, ?_, s4 _ _ hd3, has, fun H5 b s5 hb => ?_⟩
          · unfold cells
            rw [List.length_map, List.length_range]
            have := ck.hi
            omega
          · have s6 := s4.trans s5
            refine ⟨b, rfl, ?_⟩
            by_cases hb1 : b = true
            · refine if_yes hb1 ?_
              have hm : (moved yd pl k i).isSome = true := gi.mpr ⟨e, hb.mp hb1⟩
              refine ⟨_, rfl, .inl ⟨rfl, _, SqL.of (s6 _ _ hD3)⟩, _, rfl, D, _, _, rfl, rfl, s6 _ _ hD3, sz' ?_, ?_⟩
              · rw [nums_len]
                exact Nat.le_trans (List.length_filter_le _ _) (by rw [List.length_range]; omega)
              · have nD : ∀ {b : Addr} {o : HO}, H5 b = some o → (∀ k, o ≠ .lst k) → b ≠ D := fun {b o} z n => ne_of z (s6 _ _ hD3) (n _)
                refine ⟨_, rfl, same_put (sm.trans s6) dD, ?_, ?_, ?_⟩
                · rw [upd_ne (nD (s6 _ _ hd3) fun k z => nomatch z)]
                  exact s6 _ _ hd3
                · rw [upd_ne neDL.symm]
                  exact s6 _ _ hL3
                · rw [upd_same, filter_range_succ, if_pos hm, nums_app]
                  rfl
            · refine if_no (by simpa using hb1) ?_
              have hm : ¬ (moved yd pl k i).isSome = true := fun z => hb1 (hb.mpr (gi.mp z).2)
              refine ⟨_, rfl, sm.trans s6, s6 _ _ hd3, s6 _ _ hL3, ?_⟩
              rw [filter_range_succ, if_neg hm, List.append_nil]
              exact s6 _ _ hD3
    · rintro σ H3 ⟨a6, rfl, sm, hd3, hL3, hD3⟩
      rw [nums_len, List.length_range] at hD3
      refine ⟨_, rfl, q H3 D sm dD ?_⟩
      unfold goals
      rw [range_filter _ (n := lineLong yd (carOf yd k) - (carOf yd k).long + 1)]
      · exact hD3
      · have := ck.lo
        omega
      · intro i hi
        cases hm : moved yd pl k i with
        | none => rfl
        | some m =>
          have := ((moved_iff (hv.cars hy) hv.leg).mp hm).2.2.1
          omega
end
end Cy
end
section
set_option Elab.async false
set_option linter.all false
set_option maxRecDepth 100000
set_option maxHeartbeats 4000000
namespace Cy
open PySem PySem.Spec L2
open PyProof.Rows hiding St
open Sy66 (Car lineLong carOf legal moved moves nexts every arrangements from_ reach ends distance)
open C8 (Cal Met Mak pe_c pe_mk pe_mt pe_mt0)
section
variable {P : Program} {w : World} {K : PySem.W.Frag} {mg : Str → Option Value} {base : Heap} {C CK CR : Addr}

/-! ### with_place -/
abbrev sWp : Stmt := top 5
theorem scWp : FnScope ["places", "number", "there"] ["places", "number", "there"] (defScope sWp) := ⟨rfl, rfl, rfl, by decide +kernel, rfl, by decide +kernel, by decide +kernel⟩
theorem catA_go {H : Hp} {a b : Addr} {xs ys : List V} {Q : VK} (ha : H a = some (.tup xs)) (hb : H b = some (.tup ys)) (hz : xs.length + ys.length ≤ sizeLine) (h : ∀ H' p, Same H H' → H' p = some (.tup (xs ++ ys)) → Q (.ref p) H') : rCatA K (.ref a) (.ref b) H Q := by
  refine ⟨a, b, xs, ys, rfl, rfl, SqT.of ha, SqT.of hb, hz, fun e => ?_, fun _ e => ?_, fun _ _ p hp => h _ p (Same.upd hp) upd_same⟩
  · refine h H b (Same.refl H) ?_
    rw [e]
    exact hb
  · refine h H a (Same.refl H) ?_
    rw [e, List.append_nil]
    exact ha
theorem cut_take (xs : List V) (k : Nat) (h : k ≤ xs.length) : cutV xs none (some (k : Int)) = xs.take k := by
  unfold cutV
  rw [HT.sIx_none, HT.sIx_nat, List.drop_zero, Nat.sub_zero, Nat.min_eq_left h]
theorem cut_drop (xs : List V) (k : Nat) (h : k ≤ xs.length) : cutV xs (some (k : Int)) none = xs.drop k := by
  unfold cutV
  rw [HT.sIx_none, HT.sIx_nat, Nat.min_eq_left h]
  exact List.take_of_length_le (by rw [List.length_drop]; exact Nat.le_refl _)
def spWp : Sp := fun vs H Q _ => ∃ (t : Addr) (pl : List Nat) (k o : Nat), vs = [.ref t, nI k, nI o] ∧ H t = some (.tup (nums pl)) ∧ k < pl.length ∧ pl.length ≤ 1000 ∧
  ∀ H' p, Same H H' → H' p = some (.tup (nums (pl.set k o))) → Q (.ref p) H'
theorem ok_Wp {f : Addr} {fd : FuncData} (F : Fun K "with_place" "with_place" sWp f fd) : FnOk P w K mg base CX0 1 f fd ["places", "number", "there"] spWp := by
  refine F.ok scWp (fun vs H Q E h => ?_) (fun cdv A outer s H vs Q E hr h => ?_)
  · obtain ⟨t, pl, k, o, rfl, _⟩ := h
    rfl
  · obtain ⟨t, pl, k, o, rfl, ht, hk, hz, q⟩ := h
    refine ⟨_, pss_one (ps_ret (pe_op op_catA (pe_op op_catA (pe_slice sl_tup (pv 0) po_none (po_some (pv 1))) (pe_tup (pa_cons (pv 2) pa_nil))) (pe_slice sl_tup (pv 0) (po_some (pe_op op_add (pv 1) pe_int)) po_none))), ?_⟩
    have ln : (nums pl).length = pl.length := nums_len pl
    refine ⟨_, rfl, _, rfl, (k : Int), rfl, t, _, rfl, SqT.of ht, ?_, fun p hp => ?_⟩
    · rw [HT.sIx_none, HT.sIx_nat, ln]
      omega
    have s1 := Same.upd (o := .tup (cutV (nums pl) none (some (k : Int)))) hp
    refine ⟨_, rfl, (by show 1 ≤ sizeLine; decide), fun p2 hp2 => ?_⟩
    have s2 := s1.trans (Same.upd (o := .tup [nI o]) hp2)
    refine catA_go (Same.upd hp2 _ _ upd_same) upd_same (sz ?_) fun H3 p3 s3 h3 => ?_
    · have := cutV_length (nums pl) none (some (k : Int))
      show _ + 1 ≤ 10000
      omega
    have s4 := s2.trans s3
    refine ⟨_, rfl, _, rfl, _, _, rfl, rfl, (k : Int) + 1, rfl, t, _, rfl, SqT.of (s4 _ _ ht), ?_, fun p4 hp4 => ?_⟩
    · rw [show (k : Int) + 1 = ((k + 1 : Nat) : Int) by omega, HT.sIx_nat, ln]
      omega
    refine catA_go (Same.upd hp4 _ _ h3) upd_same (sz ?_) fun H5 p5 s5 h5 => ?_
    · have h1 := cutV_length (nums pl) none (some (k : Int))
      have h2 := cutV_length (nums pl) (some ((k : Int) + 1)) none
      rw [List.length_append]
      show _ + 1 + _ ≤ 10000
      omega
    refine q H5 p5 ((s4.trans (Same.upd hp4)).trans s5) ?_
    rw [h5, show (k : Int) + 1 = ((k + 1 : Nat) : Int) by omega, cut_take _ _ (by omega), cut_drop _ _ (by omega)]
    have e : pl.set k o = pl.take k ++ o :: pl.drop (k + 1) := by rw [List.set_eq_take_append_cons_drop, if_pos hk]
    rw [e]
    unfold nums
    rw [List.map_append, List.map_cons, List.map_take, List.map_drop, List.append_assoc]
    rfl

/-! ### moves_of -/
abbrev sMo : Stmt := top 6
theorem scMo : FnScope ["cars", "places", "found", "number", "there"] ["cars", "places"] (defScope sMo) := ⟨rfl, rfl, rfl, by decide +kernel, rfl, by decide +kernel, by decide +kernel⟩
def pr (x : Nat × Nat) : List Nat := [x.1, x.2]
def upto (s : Yd) (pl : List Nat) (i : Nat) : List (Nat × Nat) := (List.range i).flatMap fun k => (goals s pl k).map fun o => (k, o)
theorem goals_len (s : Yd) (pl : List Nat) (k : Nat) : (goals s pl k).length ≤ 5 := Nat.le_trans (List.length_filter_le _ _) (by rw [List.length_range]; exact Nat.le_refl _)
theorem upto_succ (s : Yd) (pl : List Nat) (i : Nat) : upto s pl (i + 1) = upto s pl i ++ (goals s pl i).map fun o => (i, o) := by
  unfold upto
  rw [List.range_succ, List.flatMap_append]
  simp
theorem upto_len (s : Yd) (pl : List Nat) : ∀ i, (upto s pl i).length ≤ 5 * i
  | 0 => Nat.le_refl _
  | i + 1 => by
    have h1 := upto_len s pl i
    have h2 := goals_len s pl i
    rw [upto_succ, List.length_append, List.length_map]
    omega
theorem moves_upto (s : Yd) (pl : List Nat) : movesM s pl = upto s pl pl.length := by
  unfold movesM upto moves
  rw [filter_flatMap']
  refine flatMap_congr' fun k _ => ?_
  rw [List.filter_map]
  rfl
def spMo (C : Addr) : Sp := fun vs H Q _ => ∃ (l t : Addr) (s : Yd) (pl : List Nat), vs = [.ref l, .ref t] ∧ CarsAt C H l s ∧ H t = some (.tup (nums pl)) ∧ Yard s ∧ Val s pl ∧
  ∀ H' p ps, Same H H' → H p = none → H' p = some (.lst (ps.map V.ref)) → Tups H' ps ((movesM s pl).map pr) → Q (.ref p) H'
theorem ok_Mo (T : Tx K mg C CK CR) (cGo : Cal P w K mg base 4 "goals_of" (spGo C) []) {f : Addr} {fd : FuncData} (F : Fun K "moves_of" "moves_of" sMo f fd) : FnOk P w K mg base CX0 5 f fd ["cars", "places"] (spMo C) := by
  refine F.ok scMo (fun vs H Q E h => ?_) (fun cdv A outer s H vs Q E hr h => ?_)
  · obtain ⟨l, t, s, pl, rfl, _⟩ := h
    rfl
  · obtain ⟨l, t, yd, pl, rfl, hl, ht, hy, hv, q⟩ := h
    refine ⟨_, pss_cons (ps_set (i := 2) scMo.nd rfl (Or.inl rfl) (pe_lst pa_nil))
      (pss_cons (ps_for PassesOwn.never rfl (pi_range1 rfl T.nRange (pa_cons (pe_callB call_len_seq (by rfl) T.nLen PySem.boot_len (pa_cons (pv 0) pa_nil)) pa_nil)) (pg_name (i := 3) scMo.nd rfl (Or.inr rfl))
        (pss_one (ps_expr (pe_bm PySem.F.plainAttrs_list PySem.F.slot_list_extend PySem.F.type_list_extend mt_extend (pv 2) (pa_cons
          (pe_lc (own := [("there", 4)]) (g := gName 4) (tt := tYes) rfl scMo.nd (pi_list (pe_c cGo hr (Nat.le_refl _) rfl (pa_cons (pv 0) (pa_cons (pv 1) (pa_cons (pv 3) pa_nil))))) (blkOk_by (N := ["cars", "places", "found", "number", "there"]) (sc := defScope sMo) (by decide +kernel))
            (fun _ _ _ _ _ => pg_name (i := 4) scMo.nd rfl (Or.inl rfl)) (fun _ _ _ _ _ => pts_nil) (fun _ _ _ _ _ => pe_tup (pa_cons (pv 3) (pa_cons (pv 4) pa_nil)))) pa_nil)))))
      (pss_one (ps_ret (pv 2)))), ?_⟩
    have five := hy.few
    have lenP := hv.len
    refine ⟨(by show 0 ≤ sizeLine; decide), fun D hD => ?_⟩
    have s1 := Same.upd (o := .lst []) hD
    obtain ⟨as, h1, h2, _⟩ := hl.same s1
    refine ⟨_, rfl, l, _, rfl, .inl (SqL.of h1), _, rfl, by rw [List.length_map, h2]; omega, by rw [List.length_map, h2]; omega, ?_⟩
    refine for_range (n := ((as.map V.ref).length : Int).toNat) (fun i σ H' => ∃ (a3 a4 : Option V) (ps : List Addr), σ = [some (.ref l), some (.ref t), some (.ref D), a3, a4] ∧ Same H H' ∧ H' D = some (.lst (ps.map V.ref)) ∧ Tups H' ps ((upto yd pl i).map pr))
      ⟨none, none, [], rfl, s1, upd_same, Tups.nil⟩ ?_ ?_
    · rintro i σ H1 hi ⟨a3, a4, ps, rfl, sm, hd, tp⟩
      rw [List.length_map, h2] at hi
      have hi' : i < pl.length := by omega
      have e0 : V.int ((0 : Int) + (i : Nat)) = nI i := by unfold nI; rw [Int.zero_add]
      rw [e0]
      refine ⟨_, rfl, .inl ⟨rfl, _, SqL.of hd⟩, _, rfl, _, rfl, _, rfl, l, t, yd, pl, i, rfl, hl.same sm, sm _ _ ht, hy, hv, hi', fun H2 L sm2 hL hLp => ?_⟩
      refine ⟨L, rfl, ⟨_, SqL.of hLp⟩, fun B hB => ?_⟩
      refine lc_list (K := K) (a := L) (xs := nums (goals yd pl i)) (fun j H' => Same H2 H' ∧ ∃ qs : List Addr, H' B = some (.lst (qs.map V.ref)) ∧ Tups H' qs (((goals yd pl i).take j).map fun o => pr (i, o)))
        ⟨Same.upd hB, [], upd_same, Tups.nil⟩ (fun j H' _ ⟨sm3, _⟩ => SqL.of (sm3 _ _ hLp)) ?_ ?_
      · rintro j x H3 hx ⟨sm3, qs, hqs, tq⟩
        obtain ⟨o, ho, rfl⟩ := nums_get hx
        refine ⟨rfl, ?_⟩
        refine yes_of ?_
        refine if_yes rfl ?_
        refine ⟨_, rfl, _, rfl, (by show 2 ≤ sizeLine; decide), fun p hp => ?_⟩
        have hl' : (qs.map V.ref).length < sizeLine := sz' (by
          have := goals_len yd pl i
          rw [List.length_map, tq.len, List.length_map, List.length_take]
          omega)
        refine ⟨qs.map V.ref, by rw [upd_ne (ne_of_none hqs hp)]; exact hqs, hl', ?_⟩
        rw [take_snoc ho, List.map_append]
        exact grow sm3 hB hqs tq (Same.upd hp) (x := pr (i, o)) upd_same
      · rintro H3 ⟨sm3, qs, hqs, tq⟩
        rw [nums_len, List.take_length] at tq
        have s3 := (sm.trans sm2).trans sm3
        have hd3 := sm3 _ _ (sm2 _ _ hd)
        have lps := tp.len
        have lqs := tq.len
        have b1 := upto_len yd pl i
        have b2 := goals_len yd pl i
        rw [List.length_map] at lps lqs
        refine ⟨D, B, _, _, rfl, rfl, hd3, hqs, sz (by rw [List.length_map, List.length_map]; omega), ?_⟩
        have nD : ∀ q ys, H3 q = some (.tup ys) → upd H3 D (.lst (ps.map V.ref ++ qs.map V.ref)) q = some (.tup ys) := fun q ys e => by rw [upd_ne (ne_of e hd3 (fun z => nomatch z))]; exact e
        refine ⟨_, _, ps ++ qs, rfl, same_put s3 hD, by rw [upd_same, List.map_append], ?_⟩
        rw [upto_succ, List.map_append, List.map_map]
        exact Tups.app (Paired.mapP ((tp.same sm2).same sm3) fun q y e => nD q _ e) (Paired.mapP tq fun q y e => nD q _ e)
    · rintro σ H1 ⟨a3, a4, ps, rfl, sm, hd, tp⟩
      rw [List.length_map, h2, Int.toNat_natCast, ← lenP, ← moves_upto] at tp
      exact ⟨_, rfl, q H1 D ps sm hD hd tp⟩

/-! ### following -/
abbrev sFo : Stmt := top 7
theorem scFo : FnScope ["cars", "places", "number", "there"] ["cars", "places"] (defScope sFo) := ⟨rfl, rfl, rfl, by decide +kernel, rfl, by decide +kernel, by decide +kernel⟩
def spFo (C : Addr) : Sp := fun vs H Q _ => ∃ (l t : Addr) (s : Yd) (pl : List Nat), vs = [.ref l, .ref t] ∧ CarsAt C H l s ∧ H t = some (.tup (nums pl)) ∧ Yard s ∧ Val s pl ∧
  ∀ H' p ps, Same H H' → H p = none → H' p = some (.lst (ps.map V.ref)) → Tups H' ps (nexts s pl) → Q (.ref p) H'
theorem moves_len {s : Yd} (y : Yard s) {pl : List Nat} (v : Val s pl) : (movesM s pl).length ≤ 25 := by
  have h1 := upto_len s pl pl.length
  have h2 := v.len
  have h3 := y.few
  rw [moves_upto]
  omega
theorem ok_Fo (cMo : Cal P w K mg base 5 "moves_of" (spMo C) []) (cWp : Cal P w K mg base 1 "with_place" spWp []) {f : Addr} {fd : FuncData} (F : Fun K "following" "following" sFo f fd) : FnOk P w K mg base CX0 6 f fd ["cars", "places"] (spFo C) := by
  refine F.ok scFo (fun vs H Q E h => ?_) (fun cdv A outer s H vs Q E hr h => ?_)
  · obtain ⟨l, t, s, pl, rfl, _⟩ := h
    rfl
  · obtain ⟨l, t, yd, pl, rfl, hl, ht, hy, hv, q⟩ := h
    refine ⟨_, pss_one (ps_ret (pe_lc (own := [("number", 2), ("there", 3)]) (g := gTup K 2 (gCons (gName 2) (gCons (gName 3) gNil))) (tt := tYes) rfl scFo.nd (pi_list (pe_c cMo hr (Nat.le_refl _) rfl (pa_cons (pv 0) (pa_cons (pv 1) pa_nil)))) (blkOk_by (N := ["cars", "places", "number", "there"]) (sc := defScope sFo) (by decide +kernel))
      (fun _ _ _ _ _ => pg_tup rfl (pgs_cons (pg_name (i := 2) scFo.nd rfl (Or.inl rfl)) (pgs_cons (pg_name (i := 3) scFo.nd rfl (Or.inl rfl)) pgs_nil))) (fun _ _ _ _ _ => pts_nil)
      (fun _ _ _ _ _ => pe_c cWp hr (by decide) rfl (pa_cons (pv 1) (pa_cons (pv 2) (pa_cons (pv 3) pa_nil)))))), ?_⟩
    have five := hy.few
    have lenP := hv.len
    have ml := moves_len hy hv
    refine ⟨_, rfl, _, rfl, l, t, yd, pl, rfl, hl, ht, hy, hv, fun H1 L ps sm hL hLp tp => ?_⟩
    refine ⟨L, rfl, ⟨_, SqL.of hLp⟩, fun D hD => ?_⟩
    refine lc_list (K := K) (a := L) (xs := ps.map V.ref) (fun i H' => Same H1 H' ∧ ∃ qs : List Addr, H' D = some (.lst (qs.map V.ref)) ∧ Tups H' qs (((movesM yd pl).take i).map fun x => pl.set x.1 x.2))
      ⟨Same.upd hD, [], upd_same, Tups.nil⟩ (fun i H' _ ⟨sm3, _⟩ => SqL.of (sm3 _ _ hLp)) ?_ ?_
    · rintro i x H3 hx ⟨sm3, qs, hqs, tq⟩
      obtain ⟨q1, z1, e1, e2, rfl, hq⟩ := (tp.same sm3).get hx
      rw [List.getElem?_map] at e2
      obtain ⟨m, e3, rfl⟩ := Option.map_eq_some_iff.mp e2
      obtain ⟨m1, _, _, _⟩ := movesM_mem hy hv (List.mem_of_getElem? e3)
      refine ⟨q1, _, rfl, SqT.of hq, rfl, _, _, rfl, _, _, rfl, rfl, rfl, ?_⟩
      refine yes_of ?_
      refine if_yes rfl ?_
      refine ⟨_, rfl, _, rfl, _, rfl, t, pl, m.1, m.2, rfl, sm3 _ _ (sm _ _ ht), m1, by omega, fun H4 p s4 hp => ?_⟩
      refine ⟨qs.map V.ref, s4 _ _ hqs, sz' ?_, ?_⟩
      · rw [List.length_map, tq.len, List.length_map, List.length_take]
        omega
      · rw [take_snoc e3, List.map_append]
        exact grow sm3 hD hqs tq s4 (x := pl.set m.1 m.2) hp
    · rintro H3 ⟨sm3, qs, hqs, tq⟩
      rw [List.length_map, tp.len, List.length_map, List.take_length, ← nexts_is hy hv] at tq
      exact q H3 D qs (sm.trans sm3) (sm.free hD) hqs tq
end
end Cy
end
section
set_option Elab.async false
set_option linter.all false
set_option maxRecDepth 100000
set_option maxHeartbeats 4000000
namespace Cy
open PySem PySem.Spec L2
open PyProof.Rows hiding St
open Sy66 (Car lineLong carOf legal moved moves nexts every arrangements from_ reach ends distance)
open C8 (Cal Met Mak pe_c pe_mk pe_mt pe_mt0)
section
variable {P : Program} {w : World} {K : PySem.W.Frag} {mg : Str → Option Value} {base : Heap} {C CK CR : Addr}

/-! ### arrangements -/
abbrev sAr : Stmt := top 8
theorem scAr : FnScope ["cars", "found", "number", "car", "longer", "places", "others", "at"] ["cars"] (defScope sAr) := ⟨rfl, rfl, rfl, by decide +kernel, rfl, by decide +kernel, by decide +kernel⟩
theorem every_count : ∀ n, (every n).length = 5 ^ n
  | 0 => rfl
  | n + 1 => by
    show ((List.range 5).flatMap (fun (r : Nat) => (every n).map fun (l : List Nat) => r :: l)).length = _
    rw [show List.range 5 = [0, 1, 2, 3, 4] from rfl]
    simp only [List.flatMap_cons, List.flatMap_nil, List.length_append, List.length_map, List.length_nil, every_count n]
    omega
theorem every_small : ∀ (n : Nat), ∀ l ∈ every n, ∀ x ∈ l, x < 5
  | 0, l, h, x, hx => by
    have : l = [] := by simpa [every] using h
    rw [this] at hx
    cases hx
  | n + 1, l, h, x, hx => by
    rw [every_snoc] at h
    obtain ⟨m, hm, h⟩ := List.mem_flatMap.mp h
    obtain ⟨r, hr, rfl⟩ := List.mem_map.mp h
    rcases List.mem_append.mp hx with z | z
    · exact every_small n m hm x z
    · rw [List.mem_singleton.mp z]
      exact List.mem_range.mp hr
theorem flat_take {α β : Type} (g : α → List β) : ∀ (l : List α) (j : Nat), ((l.take j).flatMap g).length ≤ (l.flatMap g).length
  | [], j => by simp
  | a :: l, 0 => by simp
  | a :: l, j + 1 => by
    have := flat_take g l j
    rw [List.take_succ_cons, List.flatMap_cons, List.flatMap_cons, List.length_append, List.length_append]
    omega
def spAr (C : Addr) : Sp := fun vs H Q _ => ∃ (l : Addr) (s : Yd), vs = [.ref l] ∧ CarsAt C H l s ∧ Yard s ∧ (∀ i, i < s.cars.length → (carOf s i).long ≤ lineLong s (carOf s i)) ∧
  ∀ (H' : Hp) (p : Addr) (ps : List Addr), Same H H' → H' p = some (.lst (ps.map V.ref)) → ps.length = ((every s.cars.length).filter (legal s)).length → Q (.ref p) H'
theorem ok_Ar (T : Tx K mg C CK CR) (cTk : Cal P w K mg base 3 "taken" (spTk C) []) (cFr : Cal P w K mg base 1 "is_free" spFr []) (cCs : Met P w K mg base 2 C "cells" (spCs C) []) (cAp : Met P w K mg base 1 C "all_places" (spAp C) [])
    {f : Addr} {fd : FuncData} (F : Fun K "arrangements" "arrangements" sAr f fd) : FnOk P w K mg base CX0 4 f fd ["cars"] (spAr C) := by
  refine F.ok scAr (fun vs H Q E h => ?_) (fun cdv A outer s H vs Q E hr h => ?_)
  · obtain ⟨l, s, rfl, _⟩ := h
    rfl
  · obtain ⟨l, yd, rfl, hl, hy, hfit, q⟩ := h
    refine ⟨_, pss_cons (ps_set (i := 1) scAr.nd rfl (Or.inl rfl) (pe_lst (pa_cons (pe_tup pa_nil) pa_nil)))
      (pss_cons (ps_for PassesOwn.never rfl (pi_enum rfl T.nEnum (pa_cons (pv 0) pa_nil)) (pg_tup rfl (pgs_cons (pg_name (i := 2) scAr.nd rfl (Or.inl rfl)) (pgs_cons (pg_name (i := 3) scAr.nd rfl (Or.inr rfl)) pgs_nil)))
        (pss_cons (ps_set (i := 4) scAr.nd rfl (Or.inl rfl) (pe_lst pa_nil))
        (pss_cons (ps_for PassesOwn.never rfl (pi_list (pv 1)) (pg_name (i := 5) scAr.nd rfl (Or.inr rfl))
          (pss_cons (ps_set (i := 6) scAr.nd rfl (Or.inr rfl) (pe_c cTk hr (by decide) rfl (pa_cons (pv 0) (pa_cons (pv 5) (pa_cons (pe_callB call_len_seq (by rfl) T.nLen PySem.boot_len (pa_cons (pv 0) pa_nil)) pa_nil)))))
          (pss_one (ps_expr (pe_bm PySem.F.plainAttrs_list PySem.F.slot_list_extend PySem.F.type_list_extend mt_extend (pv 4) (pa_cons
            (pe_lc (own := [("at", 7)]) (g := gName 7) rfl scAr.nd (pi_list (pe_mt0 cAp hr (by decide) (pv 3))) (blkOk_by (N := ["cars", "found", "number", "car", "longer", "places", "others", "at"]) (sc := defScope sAr) (by decide +kernel))
              (fun _ _ _ _ _ => pg_name (i := 7) scAr.nd rfl (Or.inl rfl)) (fun _ _ _ _ _ => pts_one (pt_val (pe_c cFr hr (by decide) rfl (pa_cons (pe_mt cCs hr (by decide) (pv 3) (pa_cons (pv 7) (pa_cons (pv 7) pa_nil))) (pa_cons (pv 6) pa_nil)))))
              (fun _ _ _ _ _ => pe_op (r := rCatA K) op_catA (pv 5) (pe_tup (pa_cons (pv 7) pa_nil)))) pa_nil))))))
        (pss_one (ps_set (i := 1) scAr.nd rfl (Or.inl rfl) (pv 4))))))
      (pss_one (ps_ret (pv 1)))), ?_⟩
    obtain ⟨p, hp⟩ : ∃ p : List Nat → Nat → Bool, ∀ l r, p l r = true ↔ FreeAt yd l (carOf yd l.length) r := ⟨fun l r => @decide (FreeAt yd l (carOf yd l.length) r) (Classical.propDecidable _), fun l r => by simp⟩
    have isA := arr_is hy hfit (p := p) fun l r _ _ => hp l r
    have five := hy.few
    have inA : ∀ i, i ≤ yd.cars.length → ∀ x ∈ arrM yd p i, x.length = i ∧ ∀ y ∈ x, y < 5 := fun i hi x hx => by
      rw [← isA i hi] at hx
      have h := (List.mem_filter.mp hx).1
      exact ⟨every_len i x h, every_small i x h⟩
    have lenA : ∀ i, i ≤ yd.cars.length → (arrM yd p i).length ≤ 3125 := fun i hi => by
      rw [← isA i hi]
      refine Nat.le_trans (List.length_filter_le _ _) ?_
      rw [every_count]
      exact Nat.le_trans (Nat.pow_le_pow_right (by decide) (Nat.le_trans hi five)) (by decide)
    obtain ⟨as0, h10, h20, _⟩ := hl
    refine ⟨(by show 0 ≤ sizeLine; decide), fun p0 hp0 => ⟨(by show 1 ≤ sizeLine; decide), fun F0 hF0 => ?_⟩⟩
    have s0 := Same.upd (o := .tup []) hp0
    have s1 := s0.trans (Same.upd (o := .lst [.ref p0]) hF0)
    refine ⟨_, rfl, l, as0.map V.ref, rfl, SqL.of (s1 _ _ h10), for_it walk_enum (fun i σ H' => ∃ (a2 a3 a4 a5 a6 a7 : Option V) (F : Addr) (ps : List Addr), σ = [some (.ref l), some (.ref F), a2, a3, a4, a5, a6, a7] ∧ Same H H' ∧ H' F = some (.lst (ps.map V.ref)) ∧ Tups H' ps (arrM yd p i))
      ⟨none, none, none, none, none, none, F0, [p0], rfl, s1, upd_same, .cons (Same.upd hF0 _ _ upd_same) .nil⟩ (fun i σ H' _ ⟨_, _, _, _, _, _, _, _, _, sm, _⟩ => SqL.of (sm _ _ h10)) ?_ ?_⟩
    · rintro i v σ H1 H2 hi ⟨a2, a3, a4, a5, a6, a7, F, ps, rfl, sm, hF, tp⟩ ⟨TT, x, y, rfl, hTT, rfl, ex, ey⟩
      rw [List.length_map, h20] at hi
      cases ex
      have sB : Same H1 (upd H1 TT (.tup [.int (i : Nat), y])) := Same.upd hTT
      obtain ⟨as, a, g1, g2, g3, g4⟩ := (show CarsAt C H l yd from ⟨as0, h10, h20, by assumption⟩).car (k := i) hi
      rw [h10] at g1
      have eas : as0.map V.ref = as.map V.ref := by injection g1 with g1; injection g1
      have ey : (as0.map V.ref)[i]? = some y := ey
      rw [eas, g3] at ey
      cases ey
      refine ⟨TT, _, rfl, SqT.of upd_same, rfl, _, _, rfl, _, _, rfl, rfl, ?_⟩
      refine ⟨(by show 0 ≤ sizeLine; decide), fun L hL => ?_⟩
      have sL := Same.upd (o := .lst []) hL
      have sm1 := (sm.trans sB).trans sL
      have hL0 : H L = none := (sm.trans sB).free hL
      have cki := hy.cars (Nat.le_refl _) i hi
      have h5 := hy.line (carOf yd i)
      have fit := hfit i hi
      refine ⟨_, rfl, F, rfl, ⟨_, SqL.of (sL _ _ (sB _ _ hF))⟩, for_list (K := K) (a := F) (xs := ps.map V.ref) (fun j σ H' => ∃ (b5 b6 b7 : Option V) (qs : List Addr), σ = [some (.ref l), some (.ref F), some (nI i), some (.ref a), some (.ref L), b5, b6, b7] ∧ Same H H' ∧ H' F = some (.lst (ps.map V.ref)) ∧ Tups H' ps (arrM yd p i) ∧ H' L = some (.lst (qs.map V.ref)) ∧
          Tups H' qs (((arrM yd p i).take j).flatMap fun x => ((List.range (lineLong yd (carOf yd i) - (carOf yd i).long + 1)).filter (p x)).map fun r => x ++ [r]))
        ⟨_, _, _, [], rfl, sm1, sL _ _ (sB _ _ hF), (tp.same sB).same sL, upd_same, .nil⟩ (fun j σ H' _ ⟨_, _, _, _, _, _, hq, _⟩ => SqL.of hq) ?_ ?_⟩
      · rintro j v σ H3 hv ⟨b5, b6, b7, qs, rfl, sm3, hF3, tp3, hL3, tq3⟩
        obtain ⟨q1, x, e1, e2, rfl, hq1⟩ := tp3.get hv
        obtain ⟨xl, xs5⟩ := inA i (by omega) x (List.mem_of_getElem? e2)
        refine ⟨_, rfl, _, rfl, _, rfl, l, _, rfl, .inl (SqL.of (sm3 _ _ h10)), l, q1, yd, x, yd.cars.length, ?_, CarsAt.same ⟨as0, h10, h20, by assumption⟩ sm3, hq1, by omega, hy, fun z hz => by have := xs5 z hz; omega, fun H4 d kvs s4 nd hd has => ?_⟩
        · rw [List.length_map, h20]
          rfl
        refine ⟨_, rfl, .inl ⟨rfl, _, SqL.of (s4 _ _ hL3)⟩, _, rfl, ?_⟩
        obtain ⟨dx, ha⟩ := g4
        have sm4 := sm3.trans s4
        refine ⟨a, dx, _, rfl, sm4 _ _ ha, carF_no yd _ (by decide +kernel) (by decide +kernel) (by decide +kernel) (by decide +kernel), a, yd, carOf yd i, rfl, ⟨dx, sm4 _ _ ha⟩, fit, h5, fun R hR => ?_⟩
        have sR := Same.upd (o := .lst (nums (List.range (lineLong yd (carOf yd i) - (carOf yd i).long + 1)))) hR
        refine ⟨R, rfl, ⟨_, SqL.of upd_same⟩, fun B hB => ?_⟩
        have sB5 := Same.upd (o := .lst []) hB
        refine lc_list (K := K) (a := R) (xs := nums (List.range (lineLong yd (carOf yd i) - (carOf yd i).long + 1))) (fun k H' => Same (upd H4 R (.lst (nums (List.range (lineLong yd (carOf yd i) - (carOf yd i).long + 1))))) H' ∧ ∃ rs : List Addr, H' B = some (.lst (rs.map V.ref)) ∧ Tups H' rs (((List.range k).filter (p x)).map fun r => x ++ [r]))
          ⟨sB5, [], upd_same, .nil⟩ (fun k H' _ ⟨z, _⟩ => SqL.of (z _ _ upd_same)) ?_ ?_
        · rintro k v H5 hv5 ⟨sm5, rs, hrs, tr⟩
          obtain ⟨hk, rfl⟩ := range_at hv5
          have sm45 := sR.trans sm5
          have ha5 := sm45 _ _ (sm4 _ _ ha)
          refine ⟨rfl, ?_⟩
          refine ⟨_, rfl, a, dx, _, rfl, ha5, carF_no yd _ (by decide +kernel) (by decide +kernel) (by decide +kernel) (by decide +kernel), _, rfl, _, rfl, a, yd, carOf yd i, k, k, rfl, ⟨dx, ha5⟩, by omega, by omega, cki.hi, fun H6 L6 ps6 s6 np6 hps6 tp6 => ?_⟩
          refine ⟨_, rfl, L6, d, ps6, cells (carOf yd i) k k, kvs, _, rfl, hps6, tp6, ?_, s6 _ _ (sm45 _ _ hd), has, fun H7 b s7 hb => ?_⟩
          · unfold cells
            rw [List.length_map, List.length_range]
            have := cki.hi
            omega
          have sm57 := s6.trans s7
          have hpb : p x k = b := by
            rw [Bool.eq_iff_iff, hp, hb, xl]
            constructor
            · rintro h z hz ⟨j', hj', _, hz'⟩
              exact h j' (xl ▸ hj') z hz hz'
            · intro h j' hj' z hz hz'
              exact h z hz ⟨j', by omega, by omega, hz'⟩
          refine ⟨b, rfl, ?_⟩
          by_cases hb1 : b = true
          · refine if_yes hb1 ?_
            refine ⟨_, rfl, _, rfl, (by show 1 ≤ sizeLine; decide), fun p8 hp8 => ?_⟩
            have s8 := Same.upd (o := .tup [nI k]) hp8
            have hq8 := s8 _ _ (sm57 _ _ (sm45 _ _ (s4 _ _ hq1)))
            refine catA_go hq8 upd_same (sz ?_) fun H9 p9 s9 h9 => ?_
            · rw [nums_len, xl]
              show i + 1 ≤ 10000
              omega
            · have sm59 := (sm57.trans s8).trans s9
              refine ⟨rs.map V.ref, sm59 _ _ hrs, sz' ?_, ?_⟩
              · rw [List.length_map, tr.len, List.length_map]
                exact Nat.le_trans (List.length_filter_le _ _) (by rw [List.length_range]; omega)
              · rw [filter_range_succ, hpb, if_pos hb1, List.map_append]
                refine grow sm5 hB hrs tr sm59 (x := x ++ [k]) ?_
                rw [h9, nums_app]
                rfl
          · refine if_no (by simpa using hb1) ?_
            refine ⟨sm5.trans sm57, rs, sm57 _ _ hrs, ?_⟩
            rw [filter_range_succ, hpb, if_neg hb1, List.append_nil]
            exact tr.same sm57
        · rintro H5 ⟨sm5, rs, hrs, tr⟩
          rw [nums_len, List.length_range] at tr
          have sm45 := (s4.trans sR).trans sm5
          have hL5 := sm45 _ _ hL3
          have lq := tq3.len
          have lr := tr.len
          have e3 : (((arrM yd p i).take (j + 1)).flatMap fun x => ((List.range (lineLong yd (carOf yd i) - (carOf yd i).long + 1)).filter (p x)).map fun r => x ++ [r]) = (((arrM yd p i).take j).flatMap fun x => ((List.range (lineLong yd (carOf yd i) - (carOf yd i).long + 1)).filter (p x)).map fun r => x ++ [r]) ++ ((List.range (lineLong yd (carOf yd i) - (carOf yd i).long + 1)).filter (p x)).map fun r => x ++ [r] := by
            rw [take_snoc e2, List.flatMap_append]
            simp
          have big : (((arrM yd p i).take (j + 1)).flatMap fun x => ((List.range (lineLong yd (carOf yd i) - (carOf yd i).long + 1)).filter (p x)).map fun r => x ++ [r]).length ≤ 3125 := Nat.le_trans (flat_take _ _ _) (lenA (i + 1) hi)
          rw [e3, List.length_append] at big
          refine ⟨L, B, _, _, rfl, rfl, hL5, hrs, sz (by rw [List.length_map, List.length_map]; omega), ?_⟩
          have nD : ∀ {b : Addr} {o : HO}, H5 b = some o → (∀ k, o ≠ .lst k) → b ≠ L := fun {b o} z n => ne_of z hL5 (n _)
          have nF : F ≠ L := ne_of_none (sB _ _ hF) hL
          refine ⟨_, _, _, qs ++ rs, rfl, same_put (sm3.trans sm45) hL0, ?_, ?_, ?_, ?_⟩
          · rw [upd_ne nF]
            exact sm45 _ _ hF3
          · exact Paired.mapP (tp3.same sm45) fun q y e => by rw [upd_ne (nD e fun k z => nomatch z)]; exact e
          · rw [upd_same, List.map_append]
          · rw [e3]
            exact Tups.app (Paired.mapP (tq3.same sm45) fun q y e => by rw [upd_ne (nD e fun k z => nomatch z)]; exact e) (Paired.mapP tr fun q y e => by rw [upd_ne (nD e fun k z => nomatch z)]; exact e)
      · rintro σ H3 ⟨b5, b6, b7, qs, rfl, sm3, hF3, tp3, hL3, tq3⟩
        rw [List.length_map, tp.len, List.take_length] at tq3
        refine ⟨_, rfl, ?_⟩
        exact ⟨_, _, _, _, _, _, L, qs, rfl, sm3, hL3, tq3⟩
    · rintro σ H1 ⟨a2, a3, a4, a5, a6, a7, F, ps, rfl, sm, hF, tp⟩
      rw [List.length_map, h20] at tp
      refine ⟨_, rfl, q H1 F ps sm hF ?_⟩
      rw [tp.len, isA _ (Nat.le_refl _)]
end
end Cy
end
section
set_option Elab.async false
set_option linter.all false
set_option maxRecDepth 100000
set_option maxHeartbeats 4000000
namespace Cy
open PySem PySem.Spec L2
open PyProof.Rows hiding St
open Sy66 (Car lineLong carOf legal moved moves nexts every arrangements from_ reach ends distance)
open C8 (Cal Met Mak pe_c pe_mk pe_mt pe_mt0)
section
variable {P : Program} {w : World} {K : PySem.W.Frag} {mg : Str → Option Value} {base : Heap} {C CK CR : Addr}

theorem hu_n {A : Around} {k : Nat} (hr : Room k A) (n : Nat) (h : n ≤ 200) : A.units + n < cLine := by
  have := hr.un
  omega
def tupD (l : List Nat) : PyData := .tuple (l.map fun (n : Nat) => PyData.int (n : Int))
theorem dp_nums {H : Hp} : ∀ l : List Nat, DpAll K H (nums l) (l.map fun (n : Nat) => PyData.int (n : Int))
  | [] => .nil
  | n :: l => .cons (.int (n : Int)) (dp_nums l)
theorem dp_tups {H : Hp} {qs : List Addr} {xs : List (List Nat)} (t : Tups H qs xs) : DpAll K H (qs.map V.ref) (xs.map tupD) := by
  induction t with
  | nil => exact .nil
  | cons h _ ih => exact .cons (.tup (SqT.of h) (dp_nums _)) ih
theorem lay_nums : ∀ l : List Nat, PyData.canLayAll0 (l.map fun (n : Nat) => PyData.int (n : Int)) = true
  | [] => rfl
  | n :: l => by
    rw [List.map_cons]
    unfold PyData.canLayAll0
    rw [lay_nums l]
    rfl
theorem lay_tups : ∀ xs : List (List Nat), PyData.canLayAll0 (xs.map tupD) = true
  | [] => rfl
  | x :: xs => by
    rw [List.map_cons]
    unfold PyData.canLayAll0
    rw [lay_tups xs, Bool.and_true]
    unfold tupD PyData.canLay0
    exact lay_nums x
theorem deep_nums : ∀ l : List Nat, PyData.depthAll (l.map fun (n : Nat) => PyData.int (n : Int)) = 0
  | [] => rfl
  | n :: l => by
    rw [List.map_cons]
    unfold PyData.depthAll
    rw [deep_nums l]
    rfl
theorem deep_tups : ∀ xs : List (List Nat), PyData.depthAll (xs.map tupD) ≤ 1
  | [] => by decide
  | x :: xs => by
    rw [List.map_cons]
    unfold PyData.depthAll
    have h := deep_tups xs
    have e : (tupD x).depth = 1 := by
      unfold tupD PyData.depth
      rw [deep_nums]
    omega
theorem shaped_tups (xs : List (List Nat)) : SeqAt.shaped (.list (xs.map tupD)) = true := by
  unfold SeqAt.shaped PyData.canLay0 PyData.depth
  rw [lay_tups]
  have := deep_tups xs
  simp
  omega
theorem eqv_nil : ∀ xs : List (List Nat), PyData.eqv (.list (xs.map tupD)) (.list []) = xs.isEmpty
  | [] => by simp [PyData.eqv, PyData.eqvAll]
  | x :: xs => by simp [PyData.eqv, PyData.eqvAll]

def kvV (L : List (List Nat × Nat)) : List (List Key × V) := L.map fun x => (kx x.1, nI x.2)
theorem kvV_keys (L : List (List Nat × Nat)) : (kvV L).map (·.1) = (L.map (·.1)).map kx := by
  unfold kvV
  rw [List.map_map, List.map_map]
  rfl
theorem kvV_app (A B : List (List Nat × Nat)) : kvV (A ++ B) = kvV A ++ kvV B := List.map_append
theorem kvV_len (A : List (List Nat × Nat)) : (kvV A).length = A.length := List.length_map _
theorem kvV_not {L : List (List Nat × Nat)} {x : List Nat} (h : x ∉ L.map (·.1)) : valV (kvV L) (kx x) = none := by
  induction L with
  | nil => rfl
  | cons a L ih =>
    rw [List.map_cons, List.mem_cons, not_or] at h
    show valV ((kx a.1, nI a.2) :: kvV L) (kx x) = none
    rw [valV_neg fun e => h.1 (kx_inj e).symm, ih h.2]
theorem kvV_get {L : List (List Nat × Nat)} {x : List Nat} {i : Nat} (nd : (L.map (·.1)).Nodup) (h : (x, i) ∈ L) : valV (kvV L) (kx x) = some (nI i) := by
  induction L with
  | nil => cases h
  | cons a L ih =>
    rw [List.map_cons, List.nodup_cons] at nd
    show valV ((kx a.1, nI a.2) :: kvV L) (kx x) = _
    rcases List.mem_cons.mp h with e | h'
    · subst e
      exact valV_pos rfl
    · have ne : a.1 ≠ x := fun e => nd.1 (e ▸ List.mem_map.mpr ⟨(x, i), h', rfl⟩)
      rw [valV_neg fun e => ne (kx_inj e), ih nd.2 h']
theorem kvV_has {L : List (List Nat × Nat)} {x : List Nat} : (valV (kvV L) (kx x)).isSome = decide (x ∈ L.map (·.1)) := by
  by_cases h : x ∈ L.map (·.1)
  · rw [decide_eq_true h]
    induction L with
    | nil => cases h
    | cons a L ih =>
      show (valV ((kx a.1, nI a.2) :: kvV L) (kx x)).isSome = true
      by_cases e : a.1 = x
      · rw [valV_pos (by rw [e])]
        rfl
      · rw [valV_neg fun z => e (kx_inj z)]
        rcases List.mem_cons.mp h with h | h
        · exact absurd h.symm e
        · exact ih h
  · rw [decide_eq_false h, kvV_not h]
    rfl

/-! ### steps_from -/
abbrev sSF : Stmt := top 10
abbrev nSF : List Str := ["cars", "starts", "places", "found", "newest", "many", "more", "other"]
theorem scSF : FnScope nSF ["cars", "starts"] (defScope sSF) := ⟨rfl, rfl, rfl, by decide +kernel, rfl, by decide +kernel, by decide +kernel⟩
/-- the table while a level is made -/
def tabM (s : Yd) (done : List (List (List Nat))) (now acc : List (List Nat)) : List (List Nat × Nat) := kvOf (done ++ [now]) ++ acc.map fun x => (x, done.length + 1)
theorem tabM_keys (s : Yd) (done : List (List (List Nat))) (now acc : List (List Nat)) : (tabM s done now acc).map (·.1) = done.flatten ++ now ++ acc := by
  unfold tabM
  rw [List.map_append, kvFrom_keys, flatten_snoc, List.map_map]
  congr 1
  exact List.map_id'' (fun _ => rfl) acc
theorem tabM_next (s : Yd) (done : List (List (List Nat))) (now new : List (List Nat)) : tabM s done now new = kvOf (done ++ [now] ++ [new]) := by
  show _ = kvFrom 0 ((done ++ [now]) ++ [new])
  unfold tabM
  rw [kvFrom_app (done ++ [now]) [new] 0, List.length_append]
  simp [kvFrom]
def PairN (H : Hp) (q : Addr) (x : List Nat) : Prop := ∃ b, H q = some (.tup [.ref b, nI 0]) ∧ H b = some (.tup (nums x))
theorem pairN_to {H : Hp} {qs : List Addr} {xs : List (List Nat)} (t : Paired (PairN H) qs xs) : Paired (PairT K H) qs (kvV (xs.map fun x => (x, 0))) := by
  induction t with
  | nil => exact .nil
  | @cons q x _ _ h _ ih =>
    obtain ⟨b, h1, h2⟩ := h
    exact .cons ⟨b, SqT.of h1, by show H b = some (.tup ((kx x).map kV)); rw [kx_nums]; exact h2⟩ ih
structure SFI (C : Addr) (l t : Addr) (s : Yd) (S : List (List Nat)) (H : Hp) (F N : Addr) (done : List (List (List Nat))) (now : List (List Nat)) (ns : List Addr) (H' : Hp) : Prop where
  pre : Pre s S done now
  all : done ++ levelsM s (3200 - done.length) now (done.flatten ++ now) = from_ s S
  sm : Same H H'
  free : H F = none
  tab : H' F = some (.dT (kvV (kvOf (done ++ [now]))))
  new : H' N = some (.lst (ns.map V.ref))
  tups : Tups H' ns now
def SFW (C : Addr) (l t : Addr) (s : Yd) (S : List (List Nat)) (H : Hp) (m : Nat) (σ : L2.St) (H' : Hp) : Prop := ∃ (done : List (List (List Nat))) (now : List (List Nat)) (F N : Addr) (ns : List Addr) (a2 a6 a7 : Option V),
  m = 3200 - done.length ∧ σ = [some (.ref l), some (.ref t), a2, some (.ref F), some (.ref N), some (nI done.length), a6, a7] ∧ SFI C l t s S H F N done now ns H'
def spSF (C : Addr) : Sp := fun vs H Q _ => ∃ (l t : Addr) (s : Yd) (as : List Addr) (S : List (List Nat)), vs = [.ref l, .ref t] ∧ CarsAt C H l s ∧ H t = some (.lst (as.map V.ref)) ∧ Tups H as S ∧ Yard s ∧ S.Nodup ∧ (∀ x ∈ S, Val s x) ∧
  ∀ (H' : Hp) (p : Addr), Same H H' → H p = none → H' p = some (.dT (kvV (kvOf (from_ s S)))) → Q (.ref p) H'
theorem ok_SF (T : Tx K mg C CK CR) (cFo : Cal P w K mg base 6 "following" (spFo C) []) {f : Addr} {fd : FuncData} (F : Fun K "steps_from" "steps_from" sSF f fd) : FnOk P w K mg base CX0 7 f fd ["cars", "starts"] (spSF C) := by
  refine F.ok scSF (fun vs H Q E h => ?_) (fun cdv A outer s H vs Q E hr h => ?_)
  · obtain ⟨l, t, s, as, S, rfl, _⟩ := h
    rfl
  · obtain ⟨l, t, yd, as, S, rfl, hl, ht, ta, hy, nd, hv, q⟩ := h
    refine ⟨_, pss_cons (ps_set (i := 3) scSF.nd rfl (Or.inl rfl) (pe_callTy (cr_dictT rfl (hu_n hr 2 (by decide))) (by rfl) T.nDict (by decide +kernel) (pa_cons (pe_lc (own := [("places", 2)]) (g := gName 2) (tt := tYes) rfl scSF.nd (pi_list (pv 1)) (blkOk_by (N := nSF) (sc := defScope sSF) (by decide +kernel))
        (fun _ _ _ _ _ => pg_name (i := 2) scSF.nd rfl (Or.inl rfl)) (fun _ _ _ _ _ => pts_nil) (fun _ _ _ _ _ => pe_tup (pa_cons (pv 2) (pa_cons pe_int pa_nil)))) pa_nil)))
      (pss_cons (ps_set (i := 4) scSF.nd rfl (Or.inl rfl) (pe_callTy call_list_of (by rfl) T.nList (by decide +kernel) (pa_cons (pv 1) pa_nil)))
      (pss_cons (ps_set (i := 5) scSF.nd rfl (Or.inl rfl) pe_int)
      (pss_cons (ps_while PassesOwn.never (pt_cmpR (op_neD (hu_n hr 64 (by decide))) (pv 4) (pe_lst pa_nil) (nomark _))
        (pss_cons (ps_set (i := 5) scSF.nd rfl (Or.inl rfl) (pe_op op_add (pv 5) pe_int))
        (pss_cons (ps_set (i := 6) scSF.nd rfl (Or.inl rfl) (pe_lst pa_nil))
        (pss_cons (ps_for PassesOwn.never rfl (pi_list (pv 4)) (pg_name (i := 2) scSF.nd rfl (Or.inl rfl))
          (pss_one (ps_for PassesOwn.never rfl (pi_list (pe_c cFo hr (Nat.le_refl _) rfl (pa_cons (pv 0) (pa_cons (pv 2) pa_nil)))) (pg_name (i := 7) scSF.nd rfl (Or.inl rfl))
            (pss_one (ps_if (pt_cmp (pc_dnotin (hu_of hr) (pv 7) (pv 3)) rfl) (pss_cons (ps_dput (hu_of hr) (pv 3) (pv 7) (pv 5) rfl)
              (pss_one (ps_expr (pe_bm PySem.F.plainAttrs_list PySem.F.slot_list_append PySem.F.type_list_append mt_append (pv 6) (pa_cons (pv 7) pa_nil))))) pss_nil)))))
        (pss_one (ps_set (i := 4) scSF.nd rfl (Or.inl rfl) (pv 6)))))))
      (pss_one (ps_ret (pv 3)))))), ?_⟩
    refine ⟨_, rfl, t, rfl, ⟨_, SqL.of ht⟩, fun D hD => ?_⟩
    have lS := ta.len
    have cS : S.length ≤ 3125 := vals_le hy nd hv
    refine lc_list (K := K) (a := t) (xs := as.map V.ref) (fun i H' => Same H H' ∧ ∃ qs : List Addr, H' D = some (.lst (qs.map V.ref)) ∧ Paired (PairN H') qs (S.take i))
      ⟨Same.upd hD, [], upd_same, .nil⟩ (fun i H' _ ⟨sm, _⟩ => SqL.of (sm _ _ ht)) ?_ ?_
    · rintro i v H1 hx ⟨sm, qs, hqs, tq⟩
      obtain ⟨q1, x, e1, e2, rfl, hq1⟩ := (ta.same sm).get hx
      refine ⟨rfl, ?_⟩
      refine yes_of ?_
      refine if_yes rfl ?_
      refine ⟨_, rfl, (by show 2 ≤ sizeLine; decide), fun p hp => ?_⟩
      have sp := Same.upd (o := .tup [.ref q1, .int 0]) hp
      have nDp : D ≠ p := ne_of_none hqs hp
      have lq := Paired.length tq
      rw [List.length_take] at lq
      refine ⟨qs.map V.ref, sp _ _ hqs, sz' (by rw [List.length_map]; omega), same_put (sm.trans sp) hD, qs ++ [p], ?_, ?_⟩
      · rw [upd_same, List.map_append]
        rfl
      · rw [take_snoc e2]
        have kp : ∀ {b : Addr} {ys : List V}, upd H1 p (.tup [.ref q1, .int 0]) b = some (.tup ys) → upd (upd H1 p (.tup [.ref q1, .int 0])) D (.lst (qs.map V.ref ++ [.ref p])) b = some (.tup ys) := fun {b ys} e => by
          rw [upd_ne (ne_of e (sp _ _ hqs) fun z => nomatch z)]
          exact e
        refine Paired.snoc (Paired.mapP tq fun q y ⟨b, h1, h2⟩ => ⟨b, kp (sp _ _ h1), kp (sp _ _ h2)⟩) ⟨q1, kp upd_same, kp (sp _ _ hq1)⟩
    · rintro H1 ⟨sm, qs, hqs, tq⟩
      rw [List.length_map, lS, List.take_length] at tq
      refine ⟨D, qs, _, rfl, SqL.of hqs, pairN_to tq, ?_, fun F0 hF0 => ?_⟩
      · rw [kvV_keys, List.map_map, List.map_map]
        exact List.pairwise_map.mpr (nd.imp fun h e => h (kx_inj e))
      have sF := Same.upd (o := .dT (kvV (S.map fun x => (x, 0)))) hF0
      have smF := sm.trans sF
      refine ⟨_, rfl, t, _, rfl, .inl (SqL.of (smF _ _ ht)), fun N0 hN0 => ?_⟩
      have sN := Same.upd (o := .lst (as.map V.ref)) hN0
      refine ⟨fun m σ H' => SFW C l t yd S H m σ H', ⟨3200, [], S, F0, N0, as, _, _, _, rfl, rfl, Pre.start nd hv, ?_, smF.trans sN, sm.free hF0, ?_, upd_same, ta.same (smF.trans sN)⟩, ?_⟩
      · show [] ++ levelsM yd 3200 S ([] ++ S) = _
        rw [List.nil_append, List.nil_append, from_is hy nd hv]
      · refine sN _ _ ?_
        rw [upd_same]
        congr 3
        simp [kvFrom]
      rintro m σ H2 ⟨done, now, F, N, ns, a2, a6, a7, rfl, rfl, I⟩
      refine ⟨_, rfl, (by show 0 ≤ sizeLine; decide), fun E0 hE0 => ?_⟩
      have sE := Same.upd (o := .lst []) hE0
      refine ⟨_, _, .lst (SqL.of (sE _ _ I.new)) (dp_tups (I.tups.same sE)), .lst (SqL.of upd_same) .nil, shaped_tups now, rfl, ?_⟩
      rw [eqv_nil]
      refine ⟨_, rfl, ?_⟩
      have few := I.pre.few hy
      by_cases hn : now = []
      · subst hn
        refine if_no rfl ?_
        refine ⟨_, rfl, q _ F (I.sm.trans sE) I.free ?_⟩
        have e1 : from_ yd S = done := by
          rw [← I.all]
          have : ∀ k f, levelsM yd k [] f = [] := fun k f => by cases k <;> rfl
          rw [this, List.append_nil]
        rw [e1, sE _ _ I.tab]
        congr 3
        show kvFrom 0 (done ++ [[]]) = _
        rw [kvFrom_app]
        simp [kvFrom]
      · refine if_yes (by simpa using hn) ?_
        refine ⟨fun σ' H' => ∃ m', m' < 3200 - done.length ∧ SFW C l t yd S H m' σ' H', fun _ _ h => h, ?_⟩
        refine ⟨_, rfl, _, _, rfl, rfl, (by show 0 ≤ sizeLine; decide), fun M hM => ?_⟩
        have e1 : V.int ((done.length : Int) + 1) = nI (done.length + 1) := rfl
        have sM := Same.upd (o := .lst []) hM
        have smM := (I.sm.trans sE).trans sM
        have hM0 : H M = none := (I.sm.trans sE).free hM
        have nNM : N ≠ M := ne_of_none (sE _ _ I.new) hM
        have ln := I.tups.len
        have nowV : ∀ x ∈ now, Val yd x := fun x hx => I.pre.val x (List.mem_append_right _ hx)
        have acc3 : ∀ L : List (List Nat), (∀ x ∈ L, Val yd x) → (done.flatten ++ now ++ freshM L (done.flatten ++ now) []).length ≤ 3125 := fun L hL => vals_le hy (freshM_nd (by rw [List.append_nil]; exact I.pre.nd)) fun x hx => by
          rcases List.mem_append.mp hx with h | h
          · exact I.pre.val x h
          · exact fresh_val hL x h
        refine ⟨_, rfl, N, rfl, ⟨_, SqL.of (sM _ _ (sE _ _ I.new))⟩, for_list (K := K) (a := N) (xs := ns.map V.ref) (fun j σ H' => ∃ (b2 b7 : Option V) (ms : List Addr), σ = [some (.ref l), some (.ref t), b2, some (.ref F), some (.ref N), some (nI (done.length + 1)), some (.ref M), b7] ∧ Same H H' ∧
            H' F = some (.dT (kvV (tabM yd done now (freshM ((now.take j).flatMap (nexts yd)) (done.flatten ++ now) [])))) ∧ H' N = some (.lst (ns.map V.ref)) ∧ Tups H' ns now ∧ H' M = some (.lst (ms.map V.ref)) ∧ Tups H' ms (freshM ((now.take j).flatMap (nexts yd)) (done.flatten ++ now) []))
          ⟨_, _, [], rfl, smM, ?_, sM _ _ (sE _ _ I.new), (I.tups.same sE).same sM, upd_same, .nil⟩ (fun j σ H' _ ⟨_, _, _, _, _, _, hq, _⟩ => SqL.of hq) ?_ ?_⟩
        · rw [sM _ _ (sE _ _ I.tab)]
          congr 3
          show _ = kvOf (done ++ [now]) ++ []
          rw [List.append_nil]
        · rintro j v σ H3 hx ⟨b2, b7, ms, rfl, sm3, hF3, hN3, tn3, hM3, tm3⟩
          obtain ⟨q1, x, g1, g2, rfl, hq1⟩ := tn3.get hx
          have xV := nowV x (List.mem_of_getElem? g2)
          refine ⟨_, rfl, _, rfl, l, q1, yd, x, rfl, hl.same sm3, hq1, hy, xV, fun H4 L os s4 npL hL4 to4 => ?_⟩
          have nLM : L ≠ M := (ne_of_none hM3 npL).symm
          have lo := to4.len
          refine ⟨L, rfl, ⟨_, SqL.of hL4⟩, for_list (K := K) (a := L) (xs := os.map V.ref) (fun k σ H' => ∃ (b7 : Option V) (ms : List Addr), σ = [some (.ref l), some (.ref t), some (.ref q1), some (.ref F), some (.ref N), some (nI (done.length + 1)), some (.ref M), b7] ∧ Same H H' ∧
              H' F = some (.dT (kvV (tabM yd done now (freshM ((now.take j).flatMap (nexts yd) ++ (nexts yd x).take k) (done.flatten ++ now) [])))) ∧ H' N = some (.lst (ns.map V.ref)) ∧ Tups H' ns now ∧ H' L = some (.lst (os.map V.ref)) ∧ Tups H' os (nexts yd x) ∧ H' M = some (.lst (ms.map V.ref)) ∧
              Tups H' ms (freshM ((now.take j).flatMap (nexts yd) ++ (nexts yd x).take k) (done.flatten ++ now) []))
            ⟨_, ms, rfl, sm3.trans s4, ?_, s4 _ _ hN3, tn3.same s4, hL4, to4, s4 _ _ hM3, ?_⟩ (fun j σ H' _ ⟨_, _, _, _, _, _, _, hq, _⟩ => SqL.of hq) ?_ ?_⟩
          · rw [List.take_zero, List.append_nil]
            exact s4 _ _ hF3
          · rw [List.take_zero, List.append_nil]
            exact tm3.same s4
          · rintro k v σ H5 hx5 ⟨c7, mt, rfl, sm5, hF5, hN5, tn5, hL5, to5, hM5, tm5⟩
            obtain ⟨q2, n, g3, g4, rfl, hq2⟩ := to5.get hx5
            have preV : ∀ z ∈ (now.take j).flatMap (nexts yd) ++ (nexts yd x).take k, Val yd z := fun z hz => by
              rcases List.mem_append.mp hz with h | h
              · exact nexts_val hy (fun y hy' => nowV y (List.mem_of_mem_take hy')) z h
              · exact xV.next hy (List.mem_of_mem_take h)
            have cnt := acc3 _ preV
            have e4 : freshM ((now.take j).flatMap (nexts yd) ++ (nexts yd x).take (k + 1)) (done.flatten ++ now) [] = stepF (done.flatten ++ now) (freshM ((now.take j).flatMap (nexts yd) ++ (nexts yd x).take k) (done.flatten ++ now) []) n := by
              rw [take_snoc g4, ← List.append_assoc, freshM_app]
              rfl
            refine ⟨_, rfl, _, rfl, F, _, rfl, DGet.t (k := kx n) hF5 (by rw [kx_nums]; exact hq2), _, rfl, ?_⟩
            rw [kvV_has, tabM_keys]
            by_cases hin : n ∈ done.flatten ++ now ++ freshM ((now.take j).flatMap (nexts yd) ++ (nexts yd x).take k) (done.flatten ++ now) []
            · refine if_no (by rw [decide_eq_true hin]; rfl) ?_
              have e5 : stepF (done.flatten ++ now) (freshM ((now.take j).flatMap (nexts yd) ++ (nexts yd x).take k) (done.flatten ++ now) []) n = freshM ((now.take j).flatMap (nexts yd) ++ (nexts yd x).take k) (done.flatten ++ now) [] := if_pos (List.mem_append.mp hin)
              rw [← e5, ← e4] at hF5 tm5
              exact ⟨_, mt, rfl, sm5, hF5, hN5, tn5, hL5, to5, hM5, tm5⟩
            · refine if_yes (by rw [decide_eq_false hin]; rfl) ?_
              have e5 : stepF (done.flatten ++ now) (freshM ((now.take j).flatMap (nexts yd) ++ (nexts yd x).take k) (done.flatten ++ now) []) n = freshM ((now.take j).flatMap (nexts yd) ++ (nexts yd x).take k) (done.flatten ++ now) [] ++ [n] := if_neg fun h => hin (List.mem_append.mpr h)
              rw [e5] at e4
              have nFM : F ≠ M := ne_of hF5 hM5 fun z => nomatch z
              have lt5 := tm5.len
              rw [List.length_append] at cnt
              refine ⟨_, rfl, _, rfl, _, rfl, F, _, rfl, DPut.t (k := kx n) hF5 (by rw [kx_nums]; exact hq2) (sz' ?_), ?_⟩
              · rw [kvV_len]
                show (kvFrom 0 (done ++ [now]) ++ List.map _ _).length ≤ _
                rw [List.length_append, kvOf_len, flatten_snoc, List.length_map]
                omega
              rw [putK_new _ (kvV_not (by rw [tabM_keys]; exact hin))]
              have keep1 : ∀ {b : Addr} {o : HO}, H5 b = some o → (∀ k, o ≠ .dT k) → upd H5 F (.dT (kvV (tabM yd done now (freshM ((now.take j).flatMap (nexts yd) ++ (nexts yd x).take k) (done.flatten ++ now) [])) ++ [(kx n, nI (done.length + 1))])) b = some o := fun {b o} z h => by
                rw [upd_ne (ne_of z hF5 (h _))]
                exact z
              refine ⟨_, rfl, .inl ⟨rfl, _, SqL.of (keep1 hM5 (fun k z => nomatch z))⟩, _, rfl, M, _, _, rfl, rfl, keep1 hM5 (fun k z => nomatch z), sz' (by rw [List.length_map]; omega), ?_⟩
              have keep2 : ∀ {b : Addr} {ys : List V}, H5 b = some (.tup ys) → upd (upd H5 F (.dT (kvV (tabM yd done now (freshM ((now.take j).flatMap (nexts yd) ++ (nexts yd x).take k) (done.flatten ++ now) [])) ++ [(kx n, nI (done.length + 1))]))) M (.lst (mt.map V.ref ++ [.ref q2])) b = some (.tup ys) := fun {b ys} z => by
                rw [upd_ne (ne_of z hM5 fun z => nomatch z)]
                exact keep1 z fun k z => nomatch z
              refine ⟨_, mt ++ [q2], rfl, same_put (same_put sm5 I.free) hM0, ?_, ?_, Paired.mapP tn5 fun q y z => keep2 z, ?_, Paired.mapP to5 fun q y z => keep2 z, ?_, ?_⟩
              · rw [upd_ne nFM, upd_same, e4]
                congr 2
                unfold tabM
                rw [List.map_append, ← List.append_assoc]
                exact (kvV_app _ [(n, done.length + 1)]).symm
              · rw [upd_ne nNM]
                exact keep1 hN5 fun k z => nomatch z
              · rw [upd_ne nLM]
                exact keep1 hL5 fun k z => nomatch z
              · rw [upd_same, List.map_append]
                rfl
              · rw [e4]
                exact Tups.snoc (Paired.mapP tm5 fun q y z => keep2 z) (keep2 hq2)
          · rintro σ H5 ⟨c7, mt, rfl, sm5, hF5, hN5, tn5, hL5, to5, hM5, tm5⟩
            rw [List.length_map, lo, List.take_length] at hF5 tm5
            have e6 : (now.take (j + 1)).flatMap (nexts yd) = (now.take j).flatMap (nexts yd) ++ nexts yd x := by
              rw [take_snoc g2, List.flatMap_append]
              simp
            rw [← e6] at hF5 tm5
            exact ⟨_, _, mt, rfl, sm5, hF5, hN5, tn5, hM5, tm5⟩
        · rintro σ H3 ⟨b2, b7, ms, rfl, sm3, hF3, hN3, tn3, hM3, tm3⟩
          rw [List.length_map, ln, List.take_length] at hF3 tm3
          refine ⟨_, rfl, ?_⟩
          refine ⟨3200 - (done ++ [now]).length, by rw [List.length_append]; show 3200 - (done.length + 1) < _; omega, done ++ [now], newOf yd done now, F, M, ms, b2, some (.ref M), b7, rfl, ?_, ⟨I.pre.step hy hn, ?_, sm3, I.free, ?_, hM3, tm3⟩⟩
          · rw [List.length_append]
            rfl
          · rw [← I.all, flatten_snoc, List.length_append, List.append_assoc]
            congr 1
            show [now] ++ levelsM yd (3200 - (done.length + 1)) _ _ = _
            rw [show 3200 - done.length = (3200 - (done.length + 1)) + 1 by omega]
            conv => rhs; unfold levelsM
            rw [if_neg (by simpa using hn)]
            rfl
          · rw [hF3, tabM_next]
end
end Cy
end
section
set_option Elab.async false
set_option linter.all false
set_option maxRecDepth 100000
set_option maxHeartbeats 4000000
namespace Cy
open PySem PySem.Spec L2
open PyProof.Rows hiding St
open Sy66 (Car lineLong carOf legal moved moves nexts every arrangements from_ reach ends distance)
open C8 (Cal Met Mak pe_c pe_mk pe_mt pe_mt0)
section
variable {P : Program} {w : World} {K : PySem.W.Frag} {mg : Str → Option Value} {base : Heap} {C CK CR : Addr}

theorem lock_back {H H' : Hp} {d : Addr} {u : HO} {od : Obj} (hd : H d = some u) (s : Same (upd H d (.frz od u)) H') : Same H (upd H' d u) := fun b o e => by
  by_cases h : b = d
  · subst h
    rw [upd_same, ← e, hd]
  · rw [upd_ne h]
    exact s b o (by rw [upd_ne h]; exact e)
theorem lock_in {H : Hp} {d b : Addr} {u v : HO} {od : Obj} (h : b ≠ d) (e : H b = some v) : upd H d (.frz od u) b = some v := by
  rw [upd_ne h]
  exact e
theorem tup_ne {H : Hp} {b d : Addr} {xs : List V} {u : HO} (hb : H b = some (.tup xs)) (hd : H d = some u) (h : ∀ ys, u ≠ .tup ys) : b ≠ d := fun e => by
  subst e
  rw [hb] at hd
  cases hd
  exact h xs rfl

/-! ### is_as_wanted -/
def wk (ws : List (Nat × Nat)) : List (Key × V) := ws.map fun x => (Sum.inl (x.1 : Int), nI x.2)
abbrev sIW : Stmt := top 11
abbrev nIW : List Str := ["places", "wanted", "number", "there"]
theorem scIW : FnScope nIW ["places", "wanted"] (defScope sIW) := ⟨rfl, rfl, rfl, by decide +kernel, rfl, by decide +kernel, by decide +kernel⟩
def spIW : Sp := fun vs H Q _ => ∃ (t d : Addr) (pl : List Nat) (ws : List (Nat × Nat)), vs = [.ref t, .ref d] ∧ H t = some (.tup (nums pl)) ∧ H d = some (.dK (wk ws)) ∧ (∀ x ∈ ws, x.1 < pl.length) ∧ ws.length ≤ 1000 ∧
  ∀ H', Same H H' → Q (.bl (ws.all fun x => pl.getD x.1 0 == x.2)) H'
theorem ok_IW (T : Tx K mg C CK CR) {f : Addr} {fd : FuncData} (F : Fun K "is_as_wanted" "is_as_wanted" sIW f fd) : FnOk P w K mg base CX0 1 f fd ["places", "wanted"] spIW := by
  refine F.ok scIW (fun vs H Q E h => ?_) (fun cdv A outer s H vs Q E hr h => ?_)
  · obtain ⟨t, d, pl, ws, rfl, _⟩ := h
    rfl
  · obtain ⟨t, d, pl, ws, rfl, ht, hd, hlt, hws, q⟩ := h
    refine ⟨_, pss_one (ps_ret (pe_callB (cr_all rfl) (by rfl) T.nAll (by decide +kernel) (pa_cons (pe_lock (pe_lc (own := [("number", 2), ("there", 3)]) (g := gTup K 2 (gCons (gName 2) (gCons (gName 3) gNil))) (tt := tYes) rfl scIW.nd (pi_items (pv 1)) (blkOk_by (N := nIW) (sc := defScope sIW) (by decide +kernel))
      (fun _ _ _ _ _ => pg_tup rfl (pgs_cons (pg_name (i := 2) scIW.nd rfl (Or.inl rfl)) (pgs_cons (pg_name (i := 3) scIW.nd rfl (Or.inl rfl)) pgs_nil))) (fun _ _ _ _ _ => pts_nil)
      (fun _ _ _ _ _ => pe_cmpR op_eq (pe_ix (r := rIxT K) ix_tup (pv 0) (pv 2) (fun _ _ => rfl)) (pv 3) (nomark _)))) pa_nil))), ?_⟩
    have ntd : t ≠ d := tup_ne ht hd fun _ z => nomatch z
    refine ⟨d, _, hd, trivial, fun od => ?_⟩
    refine ⟨_, rfl, d, od, _, rfl, upd_same, fun D hD => ?_⟩
    have hD0 : H D = none := by
      rw [upd_ne (fun z => by subst z; rw [upd_same] at hD; cases hD)] at hD
      exact hD
    have lw : (wk ws).length = ws.length := List.length_map _
    refine lc_it walk_items (fun i H' => Same (upd H d (.frz od (.dK (wk ws)))) H' ∧ H' D = some (.lst (((ws.take i).map fun x => pl.getD x.1 0 == x.2).map V.bl))) ⟨Same.upd hD, upd_same⟩ (fun i H' _ ⟨sm, _⟩ => sm _ _ upd_same) ?_ ?_
    · rintro i v H1 H2 hi ⟨sm, hl⟩ ⟨TT, x, y, rfl, hTT, rfl, ex, ey⟩
      rw [lw] at hi
      have e0 : (wk ws)[i]? = some (Sum.inl ((ws[i]).1 : Int), nI (ws[i]).2) := by
        unfold wk
        rw [List.getElem?_map, List.getElem?_eq_getElem hi]
        rfl
      have ex : ((wk ws)[i]?).map (fun kv => kV kv.1) = some x := ex
      have ey : ((wk ws)[i]?).map Prod.snd = some y := ey
      rw [e0] at ex ey
      cases ex
      cases ey
      have mem := hlt _ (List.getElem_mem hi)
      have sT := Same.upd (o := .tup [kV (Sum.inl ((ws[i]).1 : Int)), nI (ws[i]).2]) hTT
      refine ⟨TT, _, rfl, SqT.of upd_same, rfl, _, _, rfl, _, _, rfl, rfl, rfl, ?_⟩
      refine yes_of ?_
      refine if_yes rfl ?_
      refine ⟨_, rfl, _, rfl, t, _, ((ws[i]).1 : Int), _, rfl, rfl, SqT.of (sT _ _ (sm _ _ (lock_in ntd ht))), atI_nat (nums_at mem), _, rfl, rfl, ?_⟩
      refine ⟨_, sT _ _ hl, sz' (by rw [List.length_map, List.length_map, List.length_take]; omega), same_put (sm.trans sT) hD, ?_⟩
      rw [upd_same, take_snoc (List.getElem?_eq_getElem hi), List.map_append, List.map_append]
      congr 4
      show V.bl (decide (nI (pl.getD (ws[i]).1 0) = nI (ws[i]).2)) = V.bl (pl.getD (ws[i]).1 0 == (ws[i]).2)
      congr 1
      by_cases e : pl.getD (ws[i]).1 0 = (ws[i]).2
      · rw [e]
        simp
      · rw [decide_eq_false fun z => e (nI_inj z)]
        simp only [beq_eq_false_iff_ne.mpr e]
    · rintro H1 ⟨sm, hl⟩
      rw [lw, List.take_length] at hl
      refine ⟨sm _ _ upd_same, D, ws.map fun x => pl.getD x.1 0 == x.2, rfl, SqL.of ?_, ?_⟩
      · show upd H1 d (.dK (wk ws)) D = _
        rw [upd_ne (fun z => by subst z; rw [hd] at hD0; cases hD0), hl]
      · have := q _ (lock_back hd sm)
        rw [List.all_map]
        exact this

/-! ### steps_to_wanted -/
abbrev sSW : Stmt := top 12
abbrev nSW : List Str := ["cars", "places", "wanted", "other"]
theorem scSW : FnScope nSW ["cars", "places", "wanted"] (defScope sSW) := ⟨rfl, rfl, rfl, by decide +kernel, rfl, by decide +kernel, by decide +kernel⟩
def spSW (C : Addr) : Sp := fun vs H Q _ => ∃ (l t d : Addr) (s : Yd), vs = [.ref l, .ref t, .ref d] ∧ CarsAt C H l s ∧ H t = some (.tup (nums s.at_)) ∧ H d = some (.dK (wk s.wants)) ∧ StOk s ∧
  ∀ (H' : Hp) (p : Addr), Same H H' → H p = none → H' p = some (.dT (kvV (kvOf (ends s)))) → Q (.ref p) H'
theorem wants_few {s : Yd} (o : StOk s) : s.wants.length ≤ 5 := by
  have h := nodup_le s.cars.length (s.wants.map (·.1)) o.wnd fun x hx => by
    obtain ⟨y, hy, rfl⟩ := List.mem_map.mp hx
    exact o.wlt y hy
  rw [List.length_map] at h
  have := o.yard.few
  omega
theorem filter_snoc {α : Type} (p : α → Bool) {l : List α} {i : Nat} {x : α} (h : l[i]? = some x) : (l.take (i + 1)).filter p = (l.take i).filter p ++ (if p x = true then [x] else []) := by
  rw [take_snoc h, List.filter_append]
  congr 1
  by_cases c : p x = true
  · rw [if_pos c, List.filter_cons_of_pos c]
    rfl
  · rw [if_neg c, List.filter_cons_of_neg c]
    rfl
theorem tab_at {L : List (List (List Nat))} {i : Nat} {k : List Key} {v : V} (h : (kvV (kvOf L))[i]? = some (k, v)) : ∃ x, L.flatten[i]? = some x ∧ k = kx x := by
  unfold kvV at h
  rw [List.getElem?_map] at h
  obtain ⟨y, h1, h2⟩ := Option.map_eq_some_iff.mp h
  refine ⟨y.1, ?_, (Prod.mk.inj h2).1.symm⟩
  rw [← kvFrom_keys L 0, List.getElem?_map, h1]
  rfl
theorem ok_SW (cSF : Cal P w K mg base 7 "steps_from" (spSF C) []) (cIW : Cal P w K mg base 1 "is_as_wanted" spIW []) {f : Addr} {fd : FuncData} (F : Fun K "steps_to_wanted" "steps_to_wanted" sSW f fd) : FnOk P w K mg base CX0 8 f fd ["cars", "places", "wanted"] (spSW C) := by
  refine F.ok scSW (fun vs H Q E h => ?_) (fun cdv A outer s H vs Q E hr h => ?_)
  · obtain ⟨l, t, d, s, rfl, _⟩ := h
    rfl
  · obtain ⟨l, t, d, yd, rfl, hl, ht, hd, o, q⟩ := h
    refine ⟨_, pss_one (ps_ret (pe_c cSF hr (Nat.le_refl _) rfl (pa_cons (pv 0) (pa_cons (pe_lc (own := [("other", 3)]) (g := gName 3) rfl scSW.nd (pi_keys (pe_frz (pe_c cSF hr (Nat.le_refl _) rfl (pa_cons (pv 0) (pa_cons (pe_lst (pa_cons (pv 1) pa_nil)) pa_nil))))) (blkOk_by (N := nSW) (sc := defScope sSW) (by decide +kernel))
      (fun _ _ _ _ _ => pg_name (i := 3) scSW.nd rfl (Or.inl rfl)) (fun _ _ _ _ _ => pts_one (pt_val (pe_c cIW hr (by decide) rfl (pa_cons (pv 3) (pa_cons (pv 2) pa_nil))))) (fun _ _ _ _ _ => pv 3)) pa_nil)))), ?_⟩
    refine ⟨_, rfl, _, rfl, _, rfl, (by show 1 ≤ sizeLine; decide), fun p hp => ?_⟩
    have sp := Same.upd (o := .lst [.ref t]) hp
    refine ⟨l, p, yd, [t], [yd.at_], rfl, hl.same sp, upd_same, .cons (sp _ _ ht) .nil, o.yard, by simp, fun x hx => by rw [List.mem_singleton.mp hx]; exact o.val, fun H1 e s1 npe he => ?_⟩
    refine ⟨e, _, rfl, he, trivial, fun od => ?_⟩
    have s01 := sp.trans s1
    have e0 : H e = none := sp.free npe
    have sm1 : Same H (upd H1 e (.frz od (.dT (kvV (kvOf (from_ yd [yd.at_])))))) := same_put s01 e0
    refine ⟨e, od, rfl, .inr ⟨_, upd_same, fun D hD => ?_⟩⟩
    have five := wants_few o
    have lk : (kvV (kvOf (from_ yd [yd.at_]))).length = (from_ yd [yd.at_]).flatten.length := by rw [kvV_len, kvOf_len]
    have B := reach_bfs o
    have big := vals_le o.yard B.nd B.val
    have hD0 : H D = none := sm1.free hD
    refine lc_it walk_keysT (fun i H' => Same (upd H1 e (.frz od (.dT (kvV (kvOf (from_ yd [yd.at_])))))) H' ∧ ∃ qs : List Addr, H' D = some (.lst (qs.map V.ref)) ∧ Tups H' qs (((from_ yd [yd.at_]).flatten.take i).filter (Sy66.done yd)))
      ⟨Same.upd hD, [], upd_same, .nil⟩ (fun i H' _ ⟨sm, _⟩ => sm _ _ upd_same) ?_ ?_
    · rintro i v H2 H3 hi ⟨sm, qs, hqs, tq⟩ ⟨rfl, k, u, q1, ek, rfl, hq1⟩
      obtain ⟨x, ex, rfl⟩ := tab_at ek
      rw [kx_nums] at hq1
      have xV := B.val x (List.mem_of_getElem? ex)
      have smH := sm1.trans sm
      refine ⟨rfl, ?_⟩
      refine ⟨_, rfl, _, rfl, q1, d, x, yd.wants, rfl, hq1, smH _ _ hd, fun z hz => by rw [xV.len]; exact o.wlt z hz, by omega, fun H4 s4 => ?_⟩
      refine ⟨_, rfl, ?_⟩
      rw [filter_snoc _ ex]
      by_cases c : Sy66.done yd x = true
      · refine if_yes c ?_
        rw [if_pos c]
        have lq := tq.len
        have l2 : (((from_ yd [yd.at_]).flatten.take i).filter (Sy66.done yd)).length ≤ i := Nat.le_trans (List.length_filter_le _ _) (by rw [List.length_take]; omega)
        refine ⟨_, rfl, qs.map V.ref, s4 _ _ hqs, sz' (by rw [List.length_map]; omega), ?_⟩
        exact grow sm hD hqs tq s4 (x := x) (s4 _ _ hq1)
      · refine if_no (Bool.eq_false_iff.mpr c) ?_
        rw [if_neg c, List.append_nil]
        exact ⟨sm.trans s4, qs, s4 _ _ hqs, tq.same s4⟩
    · rintro H2 ⟨sm, qs, hqs, tq⟩
      rw [lk, List.take_length, ← reach_flat] at tq
      have smH := sm1.trans sm
      refine ⟨l, D, yd, qs, _, rfl, hl.same smH, hqs, tq, o.yard, goals_nd o, goals_val o, fun H3 r s3 npr hr3 => ?_⟩
      exact q H3 r (smH.trans s3) (smH.free npr) hr3

/-! ### nearer_move -/
abbrev sNe : Stmt := top 13
abbrev nNe : List Str := ["cars", "places", "steps", "found", "number", "there"]
theorem scNe : FnScope nNe ["cars", "places", "steps"] (defScope sNe) := ⟨rfl, rfl, rfl, by decide +kernel, rfl, by decide +kernel, by decide +kernel⟩
theorem dget_tab {H : Hp} {d q : Addr} {L : List (List (List Nat))} {x : List Nat} {i : Nat} (hd : H d = some (.dT (kvV (kvOf L)))) (hq : H q = some (.tup (nums x))) (nd : L.flatten.Nodup) (h : inLevel L i x) : DGet H d (.ref q) (some (nI i)) := by
  have g := DGet.t (k := kx x) hd (by rw [kx_nums]; exact hq)
  rw [kvV_get (by rw [kvFrom_keys]; exact nd) ((kvOf_mem nd).mpr ((distance_some nd).mpr h))] at g
  exact g
def FoundAt (H : Hp) (v : V) : Option (Nat × Nat) → Prop
  | none => v = .non
  | some x => ∃ p, v = .ref p ∧ H p = some (.tup (nums (pr x)))
theorem FoundAt.same {H H' : Hp} {v : V} {m : Option (Nat × Nat)} (f : FoundAt H v m) (s : Same H H') : FoundAt H' v m := by
  cases m with
  | none => exact f
  | some x =>
    obtain ⟨p, e, h⟩ := f
    exact ⟨p, e, s _ _ h⟩
theorem find_snoc {α : Type} (p : α → Bool) {l : List α} {i : Nat} {x : α} (h : l[i]? = some x) : (l.take (i + 1)).find? p = ((l.take i).find? p).or (if p x = true then some x else none) := by
  rw [take_snoc h, List.find?_append]
  congr 1
  by_cases c : p x = true
  · rw [if_pos c, List.find?_cons_of_pos c]
  · rw [if_neg c, List.find?_cons_of_neg c]
    rfl
def spNe (C : Addr) : Sp := fun vs H Q _ => ∃ (l t d : Addr) (s : Yd) (pl : List Nat) (st : List (List Nat)) (L : List (List (List Nat))) (k : Nat), vs = [.ref l, .ref t, .ref d] ∧ CarsAt C H l s ∧ H t = some (.tup (nums pl)) ∧ H d = some (.dT (kvV (kvOf L))) ∧ Yard s ∧ Bfs s st L ∧ inLevel L (k + 1) pl ∧
  ∀ (H' : Hp) (p : Addr) (x : Nat × Nat), Same H H' → H' p = some (.tup (nums (pr x))) → near s L k pl = some x → Q (.ref p) H'
theorem ok_Ne (cMo : Cal P w K mg base 5 "moves_of" (spMo C) []) (cWp : Cal P w K mg base 1 "with_place" spWp []) {f : Addr} {fd : FuncData} (F : Fun K "nearer_move" "nearer_move" sNe f fd) : FnOk P w K mg base CX0 6 f fd ["cars", "places", "steps"] (spNe C) := by
  refine F.ok scNe (fun vs H Q E h => ?_) (fun cdv A outer s H vs Q E hr h => ?_)
  · obtain ⟨l, t, d, s, pl, st, L, k, rfl, _⟩ := h
    rfl
  · obtain ⟨l, t, d, yd, pl, st, L, k, rfl, hl, ht, hd, hy, B, hk, q⟩ := h
    refine ⟨_, pss_cons (ps_set (i := 3) scNe.nd rfl (Or.inl rfl) pe_non)
      (pss_cons (ps_for PassesOwn.never rfl (pi_list (pe_c cMo hr (Nat.le_refl _) rfl (pa_cons (pv 0) (pa_cons (pv 1) pa_nil)))) (pg_tup rfl (pgs_cons (pg_name (i := 4) scNe.nd rfl (Or.inl rfl)) (pgs_cons (pg_name (i := 5) scNe.nd rfl (Or.inl rfl)) pgs_nil)))
        (pss_one (ps_if (PW.pt (pw_and (pt_cmp (pc_isN (pv 3)) rfl) (pw_and1 (pt_cmpR op_lt (pe_dget (hu_of hr) (pv 2) (pe_c cWp hr (by decide) rfl (pa_cons (pv 1) (pa_cons (pv 4) (pa_cons (pv 5) pa_nil)))) (fun _ _ => rfl)) (pe_dget (hu_of hr) (pv 2) (pv 1) (fun _ _ => rfl)) (nomark _)))))
          (pss_one (ps_set (i := 3) scNe.nd rfl (Or.inl rfl) (pe_tup (pa_cons (pv 4) (pa_cons (pv 5) pa_nil))))) pss_nil)))
      (pss_one (ps_ret (pv 3)))), ?_⟩
    have hv := B.val pl (inLevel_mem hk)
    have five := hy.few
    have lenP := hv.len
    refine ⟨_, rfl, _, rfl, l, t, yd, pl, rfl, hl, ht, hy, hv, fun H1 M ps s1 npM hM tp => ?_⟩
    refine ⟨M, rfl, ⟨_, SqL.of hM⟩, for_list (K := K) (a := M) (xs := ps.map V.ref) (fun i σ H' => ∃ (a3 : V) (a4 a5 : Option V), σ = [some (.ref l), some (.ref t), some (.ref d), some a3, a4, a5] ∧ Same H1 H' ∧ FoundAt H' a3 (((movesM yd pl).take i).find? fun x => decide (stepsOf L (pl.set x.1 x.2) < k + 1)))
      ⟨.non, none, none, rfl, Same.refl _, rfl⟩ (fun i σ H' _ ⟨_, _, _, _, sm, _⟩ => SqL.of (sm _ _ hM)) ?_ ?_⟩
    · rintro i v σ H2 hx ⟨a3, a4, a5, rfl, sm, fa⟩
      obtain ⟨q1, z, e1, e2, rfl, hq⟩ := (tp.same sm).get hx
      rw [List.getElem?_map] at e2
      obtain ⟨m, e3, rfl⟩ := Option.map_eq_some_iff.mp e2
      obtain ⟨m1, _, _, mn⟩ := movesM_mem hy hv (List.mem_of_getElem? e3)
      refine ⟨q1, _, rfl, SqT.of hq, rfl, _, _, rfl, _, _, rfl, rfl, ?_⟩
      refine ⟨_, rfl, _, rfl, ?_⟩
      rw [find_snoc _ e3]
      cases hf : ((movesM yd pl).take i).find? fun x => decide (stepsOf L (pl.set x.1 x.2) < k + 1) with
      | some y =>
        rw [hf] at fa
        obtain ⟨p, rfl, hp⟩ := fa
        refine if_no rfl ?_
        refine if_no rfl ?_
        exact ⟨.ref p, _, _, rfl, sm, p, rfl, hp⟩
      | none =>
        rw [hf] at fa
        obtain rfl : a3 = .non := fa
        have sH := s1.trans sm
        obtain ⟨j, _, hj⟩ := B.fwd (k + 1) pl _ hk mn
        refine if_yes rfl ?_
        refine ⟨_, rfl, _, rfl, _, rfl, _, rfl, t, pl, m.1, m.2, rfl, sH _ _ ht, m1, by omega, fun H4 p s4 hp => ?_⟩
        have sH4 := sH.trans s4
        refine ⟨d, _, rfl, dget_tab (sH4 _ _ hd) hp B.nd hj, ?_⟩
        refine ⟨_, rfl, _, rfl, d, _, rfl, dget_tab (sH4 _ _ hd) (sH4 _ _ ht) B.nd hk, _, _, rfl, rfl, _, rfl, ?_⟩
        rw [stepsOf_of B.nd hj]
        by_cases c : j < k + 1
        · refine if_yes (by rw [decide_eq_true_eq]; omega) ?_
          refine ⟨_, rfl, _, rfl, (by show 2 ≤ sizeLine; decide), fun p5 hp5 => ?_⟩
          refine ⟨.ref p5, _, _, rfl, (sm.trans s4).trans (Same.upd hp5), ?_⟩
          rw [if_pos (decide_eq_true c)]
          exact ⟨p5, rfl, upd_same⟩
        · refine if_no (by rw [decide_eq_false_iff_not]; omega) ?_
          refine ⟨.non, _, _, rfl, sm.trans s4, ?_⟩
          rw [if_neg (by simpa using c)]
          exact rfl
    · rintro σ H2 ⟨a3, a4, a5, rfl, sm, fa⟩
      rw [List.length_map, tp.len, List.length_map, List.take_length, ← near_is hy B hk] at fa
      obtain ⟨x, hx, _⟩ := near_some hy B hk
      rw [hx] at fa
      obtain ⟨p, rfl, hp⟩ := fa
      exact ⟨_, rfl, q H2 p x (s1.trans sm) hp hx⟩

/-! ### plan_of -/
abbrev sPl : Stmt := top 14
abbrev nPl : List Str := ["cars", "places", "steps", "found", "here", "turn", "number", "there"]
theorem scPl : FnScope nPl ["cars", "places", "steps"] (defScope sPl) := ⟨rfl, rfl, rfl, by decide +kernel, rfl, by decide +kernel, by decide +kernel⟩
def spPl (C : Addr) : Sp := fun vs H Q _ => ∃ (l t d : Addr) (s : Yd) (pl : List Nat) (st : List (List Nat)) (L : List (List (List Nat))) (k : Nat), vs = [.ref l, .ref t, .ref d] ∧ CarsAt C H l s ∧ H t = some (.tup (nums pl)) ∧ H d = some (.dT (kvV (kvOf L))) ∧ Yard s ∧ Bfs s st L ∧ inLevel L k pl ∧ k ≤ 3125 ∧
  ∀ (H' : Hp) (p : Addr) (ps : List Addr), Same H H' → H' p = some (.lst (ps.map V.ref)) → Tups H' ps ((Sy66.plan s L k pl).map pr) → Q (.ref p) H'
theorem ok_Pl (T : Tx K mg C CK CR) (cNe : Cal P w K mg base 6 "nearer_move" (spNe C) []) (cWp : Cal P w K mg base 1 "with_place" spWp []) {f : Addr} {fd : FuncData} (F : Fun K "plan_of" "plan_of" sPl f fd) : FnOk P w K mg base CX0 7 f fd ["cars", "places", "steps"] (spPl C) := by
  refine F.ok scPl (fun vs H Q E h => ?_) (fun cdv A outer s H vs Q E hr h => ?_)
  · obtain ⟨l, t, d, s, pl, st, L, k, rfl, _⟩ := h
    rfl
  · obtain ⟨l, t, d, yd, pl, st, L, k, rfl, hl, ht, hd, hy, B, hk, hk3, q⟩ := h
    refine ⟨_, pss_cons (ps_set (i := 3) scPl.nd rfl (Or.inl rfl) (pe_lst pa_nil))
      (pss_cons (ps_set (i := 4) scPl.nd rfl (Or.inl rfl) (pv 1))
      (pss_cons (ps_for PassesOwn.never rfl (pi_range1 rfl T.nRange (pa_cons (pe_dget (hu_of hr) (pv 2) (pv 1) (fun _ _ => rfl)) pa_nil)) (pg_name (i := 5) scPl.nd rfl (Or.inl rfl))
        (pss_cons (ps_asg (pe_c cNe hr (Nat.le_refl _) rfl (pa_cons (pv 0) (pa_cons (pv 4) (pa_cons (pv 2) pa_nil)))) (pg_tup rfl (pgs_cons (pg_name (i := 6) scPl.nd rfl (Or.inl rfl)) (pgs_cons (pg_name (i := 7) scPl.nd rfl (Or.inl rfl)) pgs_nil))))
        (pss_cons (ps_expr (pe_bm PySem.F.plainAttrs_list PySem.F.slot_list_append PySem.F.type_list_append mt_append (pv 3) (pa_cons (pe_tup (pa_cons (pv 6) (pa_cons (pv 7) pa_nil))) pa_nil)))
        (pss_one (ps_set (i := 4) scPl.nd rfl (Or.inl rfl) (pe_c cWp hr (by decide) rfl (pa_cons (pv 4) (pa_cons (pv 6) (pa_cons (pv 7) pa_nil)))))))))
      (pss_one (ps_ret (pv 3))))), ?_⟩
    have five := hy.few
    refine ⟨(by show 0 ≤ sizeLine; decide), fun D hD => ?_⟩
    have s1 := Same.upd (o := .lst []) hD
    refine ⟨_, rfl, ?_⟩
    refine ⟨_, rfl, _, rfl, d, _, rfl, dget_tab (s1 _ _ hd) (s1 _ _ ht) B.nd hk, _, rfl, by omega, by omega, ?_⟩
    refine for_range (n := (k : Int).toNat) (fun i σ H' => ∃ (q1 : Addr) (x : List Nat) (pre : List (Nat × Nat)) (ps : List Addr) (a5 a6 a7 : Option V), σ = [some (.ref l), some (.ref t), some (.ref d), some (.ref D), some (.ref q1), a5, a6, a7] ∧ Same H H' ∧ H' D = some (.lst (ps.map V.ref)) ∧ Tups H' ps (pre.map pr) ∧
        H' q1 = some (.tup (nums x)) ∧ inLevel L (k - i) x ∧ pre.length = i ∧ Sy66.plan yd L k pl = pre ++ Sy66.plan yd L (k - i) x)
      ⟨t, pl, [], [], none, none, none, rfl, s1, upd_same, .nil, s1 _ _ ht, hk, rfl, rfl⟩ ?_ ?_
    · rintro i σ H1 hi ⟨q1, x, pre, ps, a5, a6, a7, rfl, sm, hD1, tp, hq1, lv, lp, pe⟩
      rw [Int.toNat_natCast] at hi
      obtain ⟨n, en⟩ : ∃ n, k - i = n + 1 := ⟨k - i - 1, by omega⟩
      rw [en] at lv pe
      have xv := B.val x (inLevel_mem lv)
      refine ⟨_, rfl, _, rfl, _, rfl, l, q1, d, yd, x, st, L, n, rfl, hl.same sm, hq1, sm _ _ hd, hy, B, lv, fun H2 p m s2 hp hm => ?_⟩
      obtain ⟨m', em, mm, _, lv2⟩ := near_some hy B lv
      rw [hm] at em
      cases em
      obtain ⟨m1, _, _, _⟩ := movesM_mem hy xv mm
      rw [plan_succ hy B lv hm] at pe
      refine ⟨p, _, rfl, SqT.of hp, rfl, _, _, rfl, _, _, rfl, rfl, ?_⟩
      refine ⟨_, rfl, .inl ⟨rfl, _, SqL.of (s2 _ _ hD1)⟩, _, rfl, _, rfl, (by show 2 ≤ sizeLine; decide), fun p3 hp3 => ?_⟩
      have s3 := Same.upd (o := .tup [nI m.1, nI m.2]) hp3
      have s23 := s2.trans s3
      have lps := tp.len
      rw [List.length_map] at lps
      refine ⟨D, _, _, rfl, rfl, s23 _ _ hD1, sz' (by rw [List.length_map]; omega), ?_⟩
      obtain ⟨sg, qs, hqs, tq⟩ := grow sm hD hD1 tp s23 (x := pr m) (p := p3) upd_same
      refine ⟨_, rfl, _, rfl, _, rfl, q1, x, m.1, m.2, rfl, ?_, m1, by have := xv.len; omega, fun H5 p5 s5 hp5 => ?_⟩
      · rw [upd_ne (tup_ne (s23 _ _ hq1) (s23 _ _ hD1) fun _ z => nomatch z)]
        exact s23 _ _ hq1
      · refine ⟨p5, x.set m.1 m.2, pre ++ [m], qs, _, _, _, rfl, sg.trans s5, s5 _ _ hqs, ?_, hp5, ?_, ?_, ?_⟩
        · rw [List.map_append]
          exact tq.same s5
        · rw [show k - (i + 1) = n by omega]
          exact lv2
        · rw [List.length_append, lp]
          rfl
        · rw [show k - (i + 1) = n by omega, pe, List.append_assoc]
          rfl
    · rintro σ H1 ⟨q1, x, pre, ps, a5, a6, a7, rfl, sm, hD1, tp, hq1, lv, lp, pe⟩
      rw [Int.toNat_natCast, Nat.sub_self] at pe
      have e : Sy66.plan yd L k pl = pre := by
        rw [pe]
        exact List.append_nil _
      rw [← e] at tp
      exact ⟨_, rfl, q H1 D ps sm hD1 tp⟩
end
end Cy
end
section
set_option Elab.async false
set_option linter.all false
set_option maxRecDepth 100000
set_option maxHeartbeats 4000000
namespace Cy
open PySem PySem.Spec L2
open PyProof.Rows hiding St
open Sy66 (Car lineLong carOf legal moved moves nexts every arrangements from_ reach ends distance)
open C8 (Cal Met Mak pe_c pe_mk pe_mt pe_mt0)

/-! ### calls that may let an exception out -/
section
variable {X : Cx} {k j : Nat} {C : Addr} {x m : Str} {sp : Sp} {p pos apos : Pos} {e o : Expr} {es : List Expr} {ta : TE} {t : TA} {E : XK}
theorem pe_cx (c : CalX X.prog X.w X.K X.mg X.base k x sp) (hr : Room j X.A) (hk : k ≤ j) (hx : Passes (L2.CX X.prog X.w) X E) (hg : Gl X x) (ha : PA X (e :: es) t)
    (hdb : (x == ("__debug__" : Str)) = false := by decide) (he : starEach (e :: es) X.env = (false, eval e X.env) :: starEach es X.env := by rfl) (hpl : (backTo pos (starEach es X.env)).any (·.1) = false := by rfl) :
    PE X (.Call (.Name x p) (e :: es) [] pos) (tCall sp [] E t) := by
  obtain ⟨f, fd, ps, F, hm, kp, b⟩ := c.ex
  exact pe_call F (hr.mono hk) hg hm kp b .nil hx ha hdb he hpl
theorem pe_mx {pl : Sem Bool} (c : MetX X.prog X.w X.K X.mg X.base k C m sp) (hr : Room j X.A) (hk : k ≤ j) (hx : Passes (L2.CX X.prog X.w) X E) (he : PE X o ta) (ha : PA X (e :: es) t)
    (hst : starEach (e :: es) X.env = (false, eval e X.env) :: starEach es X.env := by rfl) (hpl : (backTo pos (starEach es X.env)).any (·.1) = false := by rfl)
    (ht : eval (.Call (.Attribute o m apos) (e :: es) [] pos) X.env = (do
      let ov ← eval o X.env
      standAt apos.atName
      let (f, first) ← holding [ov] (getMethod ov m pl)
      callWith pos f first (backTo pos (starEach (e :: es) X.env)) (backToKw pos (keywordEach [] X.env))) := by rfl) :
    PE X (.Call (.Attribute o m apos) (e :: es) [] pos) (tMeth C m sp [] E ta t) := by
  obtain ⟨f, fd, ps, hc, hm, F, b⟩ := c.ex
  exact pe_meth (pl := pl) he hc hm F (hr.mono hk) b .nil hx ha hst hpl ht
theorem pe_mx0 {pl : Sem Bool} (c : MetX X.prog X.w X.K X.mg X.base k C m sp) (hr : Room j X.A) (hk : k ≤ j) (hx : Passes (L2.CX X.prog X.w) X E) (he : PE X o ta)
    (ht : eval (.Call (.Attribute o m apos) [] [] pos) X.env = (do
      let ov ← eval o X.env
      standAt apos.atName
      let (f, first) ← holding [ov] (getMethod ov m pl)
      callWith pos f first (backTo pos (starEach [] X.env)) (backToKw pos (keywordEach [] X.env))) := by rfl) :
    PE X (.Call (.Attribute o m apos) [] [] pos) (tMeth C m sp [] E ta tNil) := by
  obtain ⟨f, fd, ps, hc, hm, F, b⟩ := c.ex
  exact pe_meth0 (pl := pl) he hc hm F (hr.mono hk) b .nil hx ht
end
section
variable {P : Program} {w : World} {K : PySem.W.Frag} {mg : Str → Option Value} {base : Heap} {C CK CR fR : Addr}

/-- what the top has written of Refused -/
structure RTx (K : PySem.W.Frag) (CR fR : Addr) : Prop where
  oex : OexC K CR
  noC : PySem.W.findIn K (.ref CR) "code" = some none
  vV : PySem.W.findCls K (.type "ValueError") (.type "type") "__init__" = some (.val (.builtin "ValueError.__init__"))
  iR : PySem.W.findIn K (.ref CR) "__init__" = some (some (.ref fR))
  tR : PySem.W.typeIn K (.ref fR) = some (.type "function")
  xf : XfC K CR
  te : PySem.W.exmOne K (.ref CR) (.ref CR) = some true

/-! ### Refused.__init__ -/
abbrev sRI : Stmt := inClass (top 24) 0
theorem scRI : FnScope ["self", "code"] ["self", "code"] (defScope sRI) := ⟨rfl, rfl, rfl, by decide +kernel, rfl, by decide +kernel, by decide +kernel⟩
def spRI (CR : Addr) : Sp := fun vs H Q _ => ∃ (a : Addr) (v : V), vs = [.ref a, v] ∧ H a = some (exo a CR none) ∧ ∀ dx, H dx = none → dx ≠ a → Q .non (upd (upd H dx (exd dx [("code", v)])) a (exo a CR (some dx)))
theorem ok_RI (T : Tx K mg C CK CR) (R : RTx K CR fR) {f : Addr} {fd : FuncData} (F : Fun K "__init__" "Refused.__init__" sRI f fd) : FnOk P w K mg base CX0 1 f fd ["self", "code"] (spRI CR) := by
  refine F.ok scRI (fun vs H Q E h => ?_) (fun cdv A outer s H vs Q E hr h => ?_)
  · obtain ⟨a, v, rfl, _⟩ := h
    rfl
  · obtain ⟨a, v, rfl, ha, q⟩ := h
    refine ⟨_, pss_cons (ps_expr (pe_veinit (by rfl) T.nVE R.vV (pa_cons (pv 0) (pa_cons pe_str pa_nil)))) (pss_one (ps_ost (pv 0) (pv 1))), ?_⟩
    refine ⟨_, rfl, a, CR, _, rfl, (by show 1 ≤ 1000; decide), R.oex, ha, ?_⟩
    refine ⟨_, rfl, _, rfl, a, CR, rfl, R.oex, R.noC, .inl ⟨ha, fun dx h1 h2 => q dx h1 h2⟩⟩

/-! ### want -/
abbrev sWa : Stmt := top 25
theorem scWa : FnScope ["is_so", "code"] ["is_so", "code"] (defScope sWa) := ⟨rfl, rfl, rfl, by decide +kernel, rfl, by decide +kernel, by decide +kernel⟩
/-- a refusal by a number: all that was tracked stays -/
def Ref (CR : Addr) (H : Hp) (E : XK) (c : Int) : Prop := ∀ (d : Addr) (H' : Hp), Same H H' → H' d = some (.xd [("code", .int c)]) → E (.ref CR) (some d) H'
theorem Ref.same {CR : Addr} {H H' : Hp} {E : XK} {c : Int} (r : Ref CR H E c) (s : Same H H') : Ref CR H' E c := fun d H2 s2 h => r d H2 (s.trans s2) h
def spWa (CR : Addr) : Sp := fun vs H Q E => ∃ (b : Bool) (c : Int), vs = [.bl b, .int c] ∧ (b = true → Q .non H) ∧ (b = false → Ref CR H E c)
theorem ok_Wa (T : Tx K mg C CK CR) (R : RTx K CR fR) {fdR : FuncData} (FR : Fun K "__init__" "Refused.__init__" sRI fR fdR) (bR : Binds K fdR ["self", "code"] []) {f : Addr} {fd : FuncData} (F : Fun K "want" "want" sWa f fd) : FnOk P w K mg base (L2.CX P w) 3 f fd ["is_so", "code"] (spWa CR) := by
  have GR : FnOk P w K mg base CX0 1 fR fdR ["self", "code"] (spRI CR) := ok_RI T R FR
  refine F.okX scWa (fun vs H Q E h => ?_) (fun cdv A outer s H vs Q E hr h => ?_)
  · obtain ⟨b, c, rfl, _⟩ := h
    rfl
  · obtain ⟨b, c, rfl, q1, q2⟩ := h
    refine ⟨_, pss_one (ps_if (pt_not (pt_val (pv 0))) (pss_one (ps_raise rfl (takes_of rfl rfl rfl rfl) (pmk_oex R.oex R.iR R.tR GR (hr.mono (Nat.le_refl _)) bR .nil C8.pass0 (by rfl) T.gR (by exact (pa_cons (pv 1) pa_nil))))) pss_nil), ?_⟩
    refine ⟨_, rfl, b, rfl, ?_⟩
    cases b with
    | true => exact if_no rfl (q1 rfl)
    | false =>
      refine if_yes rfl ?_
      refine ⟨_, rfl, (by show 1 ≤ 1000; decide), fun a ha => ⟨a, .int c, rfl, upd_same, fun dx h1 h2 => ⟨rfl, dx, [("code", .int c)], upd_same, ?_, ?_, ?_⟩⟩⟩
      · rw [upd_ne h2, upd_same]
      · rw [upd_ne h2] at h1
        exact h1
      · rw [upd_ne h2] at h1
        refine q2 rfl dx _ (fun b u e => ?_) upd_same
        have nb : b ≠ a := ne_of_none e ha
        have nd : b ≠ dx := ne_of_none e h1
        rw [upd_ne nd, del_ne nb, upd_ne nb, upd_ne nd, upd_ne nb]
        exact e

/-! ### listed -/
abbrev sLi : Stmt := top 26
theorem scLi : FnScope ["some"] ["some"] (defScope sLi) := ⟨rfl, rfl, rfl, by decide +kernel, rfl, by decide +kernel, by decide +kernel⟩
def spLi : Sp := fun vs H Q _ => ∃ (a : Addr) (xs : List V), vs = [.ref a] ∧ (H a = some (.lst xs) ∨ H a = some (.tup xs)) ∧ xs.length ≤ 9000 ∧
  ∀ (H' : Hp) (p : Addr), Same H H' → H p = none → H' p = some (.lst (.int (xs.length : Int) :: xs)) → Q (.ref p) H'
theorem ok_Li (T : Tx K mg C CK CR) {f : Addr} {fd : FuncData} (F : Fun K "listed" "listed" sLi f fd) : FnOk P w K mg base CX0 1 f fd ["some"] spLi := by
  refine F.ok scLi (fun vs H Q E h => ?_) (fun cdv A outer s H vs Q E hr h => ?_)
  · obtain ⟨a, xs, rfl, _⟩ := h
    rfl
  · obtain ⟨a, xs, rfl, ha, hz, q⟩ := h
    refine ⟨_, pss_one (ps_ret (pe_op op_cat (pe_lst (pa_cons (pe_callB call_len_seq (by rfl) T.nLen PySem.boot_len (pa_cons (pv 0) pa_nil)) pa_nil)) (pe_callTy call_list_of (by rfl) T.nList (by decide +kernel) (pa_cons (pv 0) pa_nil)))), ?_⟩
    have sq : ∀ {H' : Hp}, Same H H' → SqL K H' a xs ∨ SqT K H' a xs := fun {H'} s => by
      rcases ha with h | h
      · exact .inl (SqL.of (s _ _ h))
      · exact .inr (SqT.of (s _ _ h))
    refine ⟨_, rfl, a, xs, rfl, sq (Same.refl _), (by show 1 ≤ sizeLine; decide), fun p hp => ?_⟩
    have s1 := Same.upd (o := .lst [.int (xs.length : Int)]) hp
    refine ⟨_, rfl, a, xs, rfl, sq s1, fun l hl => ?_⟩
    have s2 := Same.upd (o := .lst xs) hl
    refine ⟨p, l, _, _, rfl, rfl, s2 _ _ upd_same, upd_same, sz (by show 1 + xs.length ≤ 10000; omega), fun r hr => ?_⟩
    have s12 := s1.trans s2
    exact q _ r (s12.trans (Same.upd hr)) (s12.free hr) upd_same

/-! ### flat -/
abbrev sFl : Stmt := top 27
theorem scFl : FnScope ["rows", "found", "row"] ["rows"] (defScope sFl) := ⟨rfl, rfl, rfl, by decide +kernel, rfl, by decide +kernel, by decide +kernel⟩
def spFl : Sp := fun vs H Q _ => ∃ (a : Addr) (ps : List Addr) (xs : List (List Nat)), vs = [.ref a] ∧ H a = some (.lst (ps.map V.ref)) ∧ Tups H ps xs ∧ xs.flatten.length ≤ 9000 ∧
  ∀ (H' : Hp) (p : Addr), Same H H' → H p = none → H' p = some (.lst (nums xs.flatten)) → Q (.ref p) H'
theorem flat_len : ∀ (xs : List (List Nat)) (i : Nat), (xs.take i).flatten.length ≤ xs.flatten.length
  | [], i => by simp
  | a :: xs, 0 => by simp
  | a :: xs, i + 1 => by
    have := flat_len xs i
    rw [List.take_succ_cons, List.flatten_cons, List.flatten_cons, List.length_append, List.length_append]
    omega
theorem ok_Fl (T : Tx K mg C CK CR) {f : Addr} {fd : FuncData} (F : Fun K "flat" "flat" sFl f fd) : FnOk P w K mg base CX0 1 f fd ["rows"] spFl := by
  refine F.ok scFl (fun vs H Q E h => ?_) (fun cdv A outer s H vs Q E hr h => ?_)
  · obtain ⟨a, ps, xs, rfl, _⟩ := h
    rfl
  · obtain ⟨a, ps, xs, rfl, ha, tp, hz, q⟩ := h
    refine ⟨_, pss_cons (ps_set (i := 1) scFl.nd rfl (Or.inl rfl) (pe_lst pa_nil))
      (pss_cons (ps_for PassesOwn.never rfl (pi_list (pv 0)) (pg_name (i := 2) scFl.nd rfl (Or.inl rfl))
        (pss_one (ps_expr (pe_bm PySem.F.plainAttrs_list PySem.F.slot_list_extend PySem.F.type_list_extend mt_extend (pv 1) (pa_cons (pe_callTy call_list_of (by rfl) T.nList (by decide +kernel) (pa_cons (pv 2) pa_nil)) pa_nil)))))
      (pss_one (ps_ret (pv 1)))), ?_⟩
    refine ⟨(by show 0 ≤ sizeLine; decide), fun D hD => ?_⟩
    have s1 := Same.upd (o := .lst []) hD
    refine ⟨_, rfl, a, rfl, ⟨_, SqL.of (s1 _ _ ha)⟩, for_list (K := K) (a := a) (xs := ps.map V.ref) (fun i σ H' => ∃ a2 : Option V, σ = [some (.ref a), some (.ref D), a2] ∧ Same H H' ∧ H' D = some (.lst (nums (xs.take i).flatten)))
      ⟨none, rfl, s1, upd_same⟩ (fun i σ H' _ ⟨_, _, sm, _⟩ => SqL.of (sm _ _ ha)) ?_ ?_⟩
    · rintro i v σ H1 hx ⟨a2, rfl, sm, hD1⟩
      obtain ⟨q1, x, e1, e2, rfl, hq⟩ := (tp.same sm).get hx
      refine ⟨_, rfl, .inl ⟨rfl, _, SqL.of hD1⟩, _, rfl, q1, _, rfl, .inr (SqT.of hq), fun l hl => ?_⟩
      have s2 := Same.upd (o := .lst (nums x)) hl
      have b1 := flat_len xs (i + 1)
      rw [take_snoc e2, List.flatten_append, List.length_append] at b1
      have e3 : [x].flatten = x := by simp
      rw [e3] at b1
      refine ⟨D, l, _, _, rfl, rfl, s2 _ _ hD1, upd_same, sz (by rw [nums_len, nums_len]; omega), ?_⟩
      refine ⟨_, rfl, same_put (sm.trans s2) hD, ?_⟩
      rw [upd_same, take_snoc e2, List.flatten_append, e3, nums_app]
    · rintro σ H1 ⟨a2, rfl, sm, hD1⟩
      rw [List.length_map, tp.len, List.take_length] at hD1
      exact ⟨_, rfl, q H1 D sm hD hD1⟩
end
end Cy
end
section
set_option Elab.async false
set_option linter.all false
set_option maxRecDepth 100000
set_option maxHeartbeats 4000000
namespace Cy
open PySem PySem.Spec L2
open PyProof.Rows hiding St
open Sy66 (Car lineLong carOf legal moved moves nexts every arrangements from_ reach ends distance)
open C8 (Cal Met Mak pe_c pe_mk pe_mt pe_mt0)

abbrev K1 (a : V) : List (Str × V) := [("many_rows", a)]
abbrev K2 (a b : V) : List (Str × V) := [("many_rows", a), ("many_columns", b)]
abbrev K3 (a b c : V) : List (Str × V) := [("many_rows", a), ("many_columns", b), ("cars", c)]
abbrev K4 (a b c d : V) : List (Str × V) := [("many_rows", a), ("many_columns", b), ("cars", c), ("places", d)]
abbrev K5 (a b c d e : V) : List (Str × V) := [("many_rows", a), ("many_columns", b), ("cars", c), ("places", d), ("wanted", e)]
def K6 (a b c d e f : V) : List (Str × V) := [("many_rows", a), ("many_columns", b), ("cars", c), ("places", d), ("wanted", e), ("made", f)]
theorem kn1 (a : V) : putF "many_rows" a [] = K1 a := rfl
theorem kn2 (a b : V) : putF "many_columns" b (K1 a) = K2 a b := (put_skip (f := "many_columns") (by decide +kernel)).trans rfl
theorem kn3 (a b c : V) : putF "cars" c (K2 a b) = K3 a b c := (put_skip (f := "cars") (by decide +kernel)).trans (congrArg _ ((put_skip (f := "cars") (by decide +kernel)).trans rfl))
theorem kn4 (a b c d : V) : putF "places" d (K3 a b c) = K4 a b c d := (put_skip (f := "places") (by decide +kernel)).trans (congrArg _ ((put_skip (f := "places") (by decide +kernel)).trans (congrArg _ ((put_skip (f := "places") (by decide +kernel)).trans rfl))))
theorem kn5 (a b c d e : V) : putF "wanted" e (K4 a b c d) = K5 a b c d e := (put_skip (f := "wanted") (by decide +kernel)).trans (congrArg _ ((put_skip (f := "wanted") (by decide +kernel)).trans (congrArg _ ((put_skip (f := "wanted") (by decide +kernel)).trans (congrArg _ ((put_skip (f := "wanted") (by decide +kernel)).trans rfl))))))
theorem kn6 (a b c d e f : V) : putF "made" f (K5 a b c d e) = K6 a b c d e f := (put_skip (f := "made") (by decide +kernel)).trans (congrArg _ ((put_skip (f := "made") (by decide +kernel)).trans (congrArg _ ((put_skip (f := "made") (by decide +kernel)).trans (congrArg _ ((put_skip (f := "made") (by decide +kernel)).trans (congrArg _ ((put_skip (f := "made") (by decide +kernel)).trans rfl))))))))
theorem kp1 (a b c d e f x : V) : putF "many_rows" x (K6 a b c d e f) = K6 x b c d e f := put_hit
theorem kp2 (a b c d e f x : V) : putF "many_columns" x (K6 a b c d e f) = K6 a x c d e f := (put_skip (f := "many_columns") (by decide +kernel)).trans (congrArg _ put_hit)
theorem kp3 (a b c d e f x : V) : putF "cars" x (K6 a b c d e f) = K6 a b x d e f := (put_skip (f := "cars") (by decide +kernel)).trans (congrArg _ ((put_skip (f := "cars") (by decide +kernel)).trans (congrArg _ put_hit)))
theorem kp4 (a b c d e f x : V) : putF "places" x (K6 a b c d e f) = K6 a b c x e f := (put_skip (f := "places") (by decide +kernel)).trans (congrArg _ ((put_skip (f := "places") (by decide +kernel)).trans (congrArg _ ((put_skip (f := "places") (by decide +kernel)).trans (congrArg _ put_hit)))))
theorem kp5 (a b c d e f x : V) : putF "wanted" x (K6 a b c d e f) = K6 a b c d x f := (put_skip (f := "wanted") (by decide +kernel)).trans (congrArg _ ((put_skip (f := "wanted") (by decide +kernel)).trans (congrArg _ ((put_skip (f := "wanted") (by decide +kernel)).trans (congrArg _ ((put_skip (f := "wanted") (by decide +kernel)).trans (congrArg _ put_hit)))))))
theorem kp6 (a b c d e f x : V) : putF "made" x (K6 a b c d e f) = K6 a b c d e x := (put_skip (f := "made") (by decide +kernel)).trans (congrArg _ ((put_skip (f := "made") (by decide +kernel)).trans (congrArg _ ((put_skip (f := "made") (by decide +kernel)).trans (congrArg _ ((put_skip (f := "made") (by decide +kernel)).trans (congrArg _ ((put_skip (f := "made") (by decide +kernel)).trans (congrArg _ put_hit)))))))))
theorem kg1 (a b c d e f : V) : (K6 a b c d e f).lookup ("many_rows" : Str) = some a := lk_hit
theorem kg2 (a b c d e f : V) : (K6 a b c d e f).lookup ("many_columns" : Str) = some b := (lk_skip (by decide +kernel)).trans lk_hit
theorem kg3 (a b c d e f : V) : (K6 a b c d e f).lookup ("cars" : Str) = some c := (lk_skip (by decide +kernel)).trans ((lk_skip (by decide +kernel)).trans lk_hit)
theorem kg4 (a b c d e f : V) : (K6 a b c d e f).lookup ("places" : Str) = some d := (lk_skip (by decide +kernel)).trans ((lk_skip (by decide +kernel)).trans ((lk_skip (by decide +kernel)).trans lk_hit))
theorem kg5 (a b c d e f : V) : (K6 a b c d e f).lookup ("wanted" : Str) = some e := (lk_skip (by decide +kernel)).trans ((lk_skip (by decide +kernel)).trans ((lk_skip (by decide +kernel)).trans ((lk_skip (by decide +kernel)).trans lk_hit)))
theorem kg6 (a b c d e f : V) : (K6 a b c d e f).lookup ("made" : Str) = some f := (lk_skip (by decide +kernel)).trans ((lk_skip (by decide +kernel)).trans ((lk_skip (by decide +kernel)).trans ((lk_skip (by decide +kernel)).trans ((lk_skip (by decide +kernel)).trans lk_hit))))
theorem kNo (a b c d e f : V) {m : Str} (h1 : (m == ("many_rows" : Str)) = false) (h2 : (m == ("many_columns" : Str)) = false) (h3 : (m == ("cars" : Str)) = false) (h4 : (m == ("places" : Str)) = false) (h5 : (m == ("wanted" : Str)) = false) (h6 : (m == ("made" : Str)) = false) : (K6 a b c d e f).lookup m = none :=
  (lk_skip h1).trans ((lk_skip h2).trans ((lk_skip h3).trans ((lk_skip h4).trans ((lk_skip h5).trans ((lk_skip h6).trans rfl)))))
theorem k6_len (a b c d e f : V) : (K6 a b c d e f).length < 1000 := by
  show 6 < 1000
  decide

abbrev kF (s : Yd) (l t d : Addr) : List (Str × V) := K6 (nI s.rows) (nI s.cols) (.ref l) (.ref t) (.ref d) (nI s.made)
structure KAt (C CK : Addr) (H : Hp) (k l t d : Addr) (s : Yd) : Prop where
  self : ∃ dx, H k = some (.ins CK dx (kF s l t d))
  cars : CarsAt C H l s
  pl : H t = some (.tup (nums s.at_))
  wt : H d = some (.dK (wk s.wants))
def Kp (H H' : Hp) (k l d : Addr) : Prop := ∀ b o, b ≠ k → b ≠ l → b ≠ d → H b = some o → H' b = some o
theorem Same.kp {H H' : Hp} (s : Same H H') (k l d : Addr) : Kp H H' k l d := fun b o _ _ _ e => s b o e
theorem Kp.trans {H H1 H2 : Hp} {k l d : Addr} (a : Kp H H1 k l d) (b : Kp H1 H2 k l d) : Kp H H2 k l d := fun x o h1 h2 h3 e => b x o h1 h2 h3 (a x o h1 h2 h3 e)
theorem KAt.same {C CK : Addr} {H H' : Hp} {k l t d : Addr} {s : Yd} (a : KAt C CK H k l t d s) (e : Same H H') : KAt C CK H' k l t d s :=
  ⟨let ⟨dx, h⟩ := a.self; ⟨dx, e _ _ h⟩, a.cars.same e, e _ _ a.pl, e _ _ a.wt⟩
def Done (C CK : Addr) (H : Hp) (k l d : Addr) (s : Yd) (out : List Int) (Q : VK) : Prop := ∀ (H' : Hp) (p l' t' d' : Addr), Kp H H' k l d → KAt C CK H' k l' t' d' s → (l' = l ∨ H l' = none) → (d' = d ∨ H d' = none) → H p = none → H' p = some (.lst (out.map V.int)) → Q (.ref p) H'
structure Due (C CK CR : Addr) (H : Hp) (k l d : Addr) (s : Yd) (r : Yd × Sy66.Ans) (Q : VK) (E : XK) : Prop where
  ok : Done C CK H k l d r.1 (Sy66Neutral.out r.2) Q
  no : ∀ c, r = (s, Sy66.ok c) → Ref CR H E c
theorem Due.keep {C CK CR : Addr} {H H' : Hp} {k l t d p : Addr} {s : Yd} {r : Yd × Sy66.Ans} {Q : VK} {E : XK} (h : Due C CK CR H k l d s r Q E) (a : KAt C CK H k l t d s) (e : r.1 = s) (sm : Same H H') (hp : H p = none) (hp' : H' p = some (.lst ((Sy66Neutral.out r.2).map V.int))) : Q (.ref p) H' := by
  refine h.ok H' p l t d (Same.kp sm k l d) ?_ (.inl rfl) (.inl rfl) hp hp'
  rw [e]
  exact a.same sm
def spK0 (C CK CR : Addr) (f : Sy66.Call) : Sp := fun vs H Q E => ∃ (k l t d : Addr) (s : Yd), vs = [.ref k] ∧ KAt C CK H k l t d s ∧ StOk s ∧ Due C CK CR H k l d s (Sy66.step s f) Q E
def spK1 (C CK CR : Addr) (f : Nat → Sy66.Call) : Sp := fun vs H Q E => ∃ (k l t d : Addr) (s : Yd) (a : Nat), vs = [.ref k, nI a] ∧ KAt C CK H k l t d s ∧ StOk s ∧ Due C CK CR H k l d s (Sy66.step s (f a)) Q E
def spK2 (C CK CR : Addr) (f : Nat → Nat → Sy66.Call) : Sp := fun vs H Q E => ∃ (k l t d : Addr) (s : Yd) (a b : Nat), vs = [.ref k, nI a, nI b] ∧ KAt C CK H k l t d s ∧ StOk s ∧ Due C CK CR H k l d s (Sy66.step s (f a b)) Q E
def spK4 (C CK CR : Addr) (f : Nat → Nat → Nat → Nat → Sy66.Call) : Sp := fun vs H Q E => ∃ (k l t d : Addr) (s : Yd) (a b c e : Nat), vs = [.ref k, nI a, nI b, nI c, nI e] ∧ KAt C CK H k l t d s ∧ StOk s ∧ Due C CK CR H k l d s (Sy66.step s (f a b c e)) Q E
/-- the numbers of the module -/
structure Gx (mg : Str → Option Value) : Prop where
  bad : ∃ u, mg "BAD" = some u ∧ RelV (.int (-1)) u
  noCar : ∃ u, mg "NO_CAR" = some u ∧ RelV (.int (-2)) u
  full : ∃ u, mg "FULL" = some u ∧ RelV (.int (-5)) u
  cannot : ∃ u, mg "CANNOT" = some u ∧ RelV (.int (-6)) u
  side : ∃ u, mg "MOST_SIDE" = some u ∧ RelV (.int 5) u
  least : ∃ u, mg "LEAST_LENGTH" = some u ∧ RelV (.int 2) u
  most : ∃ u, mg "MOST_LENGTH" = some u ∧ RelV (.int 5) u
  cars : ∃ u, mg "MOST_CARS" = some u ∧ RelV (.int 5) u
section
variable {P : Program} {w : World} {K : PySem.W.Frag} {mg : Str → Option Value} {base : Heap} {C CK CR fR : Addr}

/-! ### Keeper.__init__ -/
abbrev sKI : Stmt := inClass (top 28) 0
theorem scKI : FnScope ["self"] ["self"] (defScope sKI) := ⟨rfl, rfl, rfl, by decide +kernel, rfl, by decide +kernel, by decide +kernel⟩
def spKI (C CK : Addr) : Sp := fun vs H Q _ => ∃ (k dx : Addr), vs = [.ref k] ∧ H k = some (.ins CK dx []) ∧
  ∀ (H' : Hp) (l t d : Addr), (∀ b o, b ≠ k → H b = some o → H' b = some o) → KAt C CK H' k l t d Sy66.init → H l = none → H d = none → Q .non H'
theorem ok_KI (T : Tx K mg C CK CR) {f : Addr} {fd : FuncData} (F : Fun K "__init__" "Keeper.__init__" sKI f fd) : FnOk P w K mg base CX0 1 f fd ["self"] (spKI C CK) := by
  refine F.ok scKI (fun vs H Q E h => ?_) (fun cdv A outer s H vs Q E hr h => ?_)
  · obtain ⟨k, dx, rfl, _⟩ := h
    rfl
  · obtain ⟨k, dx, rfl, hk, q⟩ := h
    refine ⟨_, pss_cons (ps_fld (pv 0) pe_int rfl) (pss_cons (ps_fld (pv 0) pe_int rfl) (pss_cons (ps_fld (pv 0) (pe_lst pa_nil) rfl) (pss_cons (ps_fld (pv 0) (pe_tup pa_nil) rfl) (pss_cons (ps_fld (pv 0) pe_dnewK rfl) (pss_one (ps_fld (pv 0) pe_int rfl)))))), ?_⟩
    refine ⟨_, rfl, k, CK, dx, _, rfl, hk, T.cK, T.k1, (by show 0 < 1000; decide), ?_⟩
    rw [kn1]
    refine ⟨_, rfl, k, CK, dx, _, rfl, upd_same, T.cK, T.k2, (by show 1 < 1000; decide), ?_⟩
    rw [kn2, upd_upd]
    refine ⟨(by show 0 ≤ sizeLine; decide), fun l hl => ?_⟩
    have nlk : k ≠ l := ne_of_none upd_same hl
    refine ⟨_, rfl, k, CK, dx, K2 (.int 1) (.int 1), rfl, by rw [upd_ne nlk, upd_same], T.cK, T.k3, (by show 2 < 1000; decide), ?_⟩
    rw [kn3]
    refine ⟨(by show 0 ≤ sizeLine; decide), fun t ht => ?_⟩
    have ntk : k ≠ t := ne_of_none upd_same ht
    refine ⟨_, rfl, k, CK, dx, K3 (.int 1) (.int 1) (.ref l), rfl, by rw [upd_ne ntk, upd_same], T.cK, T.k4, (by show 3 < 1000; decide), ?_⟩
    rw [kn4]
    intro d hd
    have ndk : k ≠ d := ne_of_none upd_same hd
    refine ⟨_, rfl, k, CK, dx, K4 (.int 1) (.int 1) (.ref l) (.ref t), rfl, by rw [upd_ne ndk, upd_same], T.cK, T.k5, (by show 4 < 1000; decide), ?_⟩
    rw [kn5]
    refine ⟨_, rfl, k, CK, dx, _, rfl, upd_same, T.cK, T.k6, (by show 5 < 1000; decide), ?_⟩
    rw [kn6]
    have hl0 : H l = none := by
      rw [upd_ne nlk.symm] at hl
      exact hl
    have nlt : l ≠ t := ne_of_none (by rw [upd_ne nlk.symm, upd_same]) ht
    have nld : l ≠ d := ne_of_none (by rw [upd_ne nlk.symm, upd_ne nlt, upd_ne nlk.symm, upd_same]) hd
    have ntd : t ≠ d := ne_of_none (by rw [upd_ne ntk.symm, upd_same]) hd
    have ht0 : H t = none := by
      rw [upd_ne ntk.symm, upd_ne nlt.symm, upd_ne ntk.symm] at ht
      exact ht
    have hd0 : H d = none := by
      rw [upd_ne ndk.symm, upd_ne ntd.symm, upd_ne ndk.symm, upd_ne nld.symm, upd_ne ndk.symm] at hd
      exact hd
    refine q _ l t d (fun b o nb e => ?_) ⟨⟨dx, upd_same⟩, ⟨[], ?_, rfl, fun i a c h => by simp at h⟩, ?_, ?_⟩ hl0 hd0
    · have n1 : b ≠ l := ne_of_none e hl0
      have n2 : b ≠ t := ne_of_none e ht0
      have n3 : b ≠ d := ne_of_none e hd0
      rw [upd_ne nb, upd_ne nb, upd_ne n3, upd_ne nb, upd_ne n2, upd_ne nb, upd_ne n1, upd_ne nb]
      exact e
    · rw [upd_ne nlk.symm, upd_ne nlk.symm, upd_ne nld, upd_ne nlk.symm, upd_ne nlt, upd_ne nlk.symm, upd_same]
      rfl
    · rw [upd_ne ntk.symm, upd_ne ntk.symm, upd_ne ntd, upd_ne ntk.symm, upd_same]
      rfl
    · rw [upd_ne ndk.symm, upd_ne ndk.symm, upd_same]
      rfl
end
end Cy
end
section
set_option Elab.async false
set_option linter.all false
set_option maxRecDepth 100000
set_option maxHeartbeats 4000000
namespace Cy
open PySem PySem.Spec L2
open PyProof.Rows hiding St
open Sy66 (Car lineLong carOf legal moved moves nexts every arrangements from_ reach ends distance)
open C8 (Cal Met Mak pe_c pe_mk pe_mt pe_mt0)

theorem chain_le {σ : L2.St} {H : Hp} {Q : VK} {ta tb tc : TE} {i j k : Int} (ha : ∀ R : VK, R (.int i) H → ta σ H R) (hb : ∀ R : VK, R (.int j) H → tb σ H R) (hc : ∀ R : VK, R (.int k) H → tc σ H R)
    (q : Q (.bl (decide (i ≤ j) && decide (j ≤ k))) H) : tChain (rI0 fun i j => .bl (decide (i ≤ j))) (rI0 fun i j => .bl (decide (i ≤ j))) ta tb tc σ H Q := by
  refine ha _ (hb _ ⟨i, j, rfl, rfl, _, rfl, ?_⟩)
  by_cases h : i ≤ j
  · refine if_yes (decide_eq_true h) (hc _ ⟨j, k, rfl, rfl, ?_⟩)
    rw [decide_eq_true h, Bool.true_and] at q
    exact q
  · refine if_no (decide_eq_false h) ?_
    rw [decide_eq_false h, Bool.false_and] at q
    exact q
theorem and_vv {σ : L2.St} {H : Hp} {Q : VK} {ta tb : TE} {a b : Bool} (ha : ∀ R : VK, R (.bl a) H → ta σ H R) (hb : ∀ R : VK, R (.bl b) H → tb σ H R) (q : Q (.bl (a && b)) H) : tAndV ta tb σ H Q := by
  refine ha _ ⟨a, rfl, ?_⟩
  cases a with
  | true => exact if_yes rfl (hb _ q)
  | false => exact if_no rfl q
section
variable {P : Program} {w : World} {K : PySem.W.Frag} {mg : Str → Option Value} {base : Heap} {C CK CR fR : Addr}
theorem px {N : List Str} {q : Str} {sc : Scope} {f : Addr} {cdv : Value} {A : Around} {outer : List Env} {s : Shared} {H : Hp} {E : XK} : Passes (L2.CX P w) (cxOf (L2.CX P w) P w K mg base N q sc f cdv A outer s H E) E :=
  L2.passes_call (L2.takes_of rfl rfl rfl rfl) (fun _ _ _ _ h => h)

theorem old8 {H : Hp} {k l1 t1 d1 b : Addr} {o o1 o2 o3 o4 o5 o6 o7 o8 : HO} (hl0 : H l1 = none) (ht0 : H t1 = none) (hd0 : H d1 = none) (nb : b ≠ k) (e : H b = some o) :
    (upd (upd (upd (upd (upd (upd (upd (upd H k o1) l1 o2) k o3) t1 o4) k o5) d1 o6) k o7) k o8) b = some o := by
  have n1 : b ≠ l1 := ne_of_none e hl0
  have n2 : b ≠ t1 := ne_of_none e ht0
  have n3 : b ≠ d1 := ne_of_none e hd0
  rw [upd_ne nb, upd_ne nb, upd_ne n3, upd_ne nb, upd_ne n2, upd_ne nb, upd_ne n1, upd_ne nb]
  exact e

/-! ### begins -/
abbrev sBe : Stmt := inClass (top 28) 1
theorem scBe : FnScope ["self", "many_rows", "many_columns"] ["self", "many_rows", "many_columns"] (defScope sBe) := ⟨rfl, rfl, rfl, by decide +kernel, rfl, by decide +kernel, by decide +kernel⟩
theorem ok_Be (T : Tx K mg C CK CR) (G : Gx mg) (cWa : CalX P w K mg base 3 "want" (spWa CR)) {f : Addr} {fd : FuncData} (F : Fun K "begins" "Keeper.begins" sBe f fd) : FnOk P w K mg base (L2.CX P w) 4 f fd ["self", "many_rows", "many_columns"] (spK2 C CK CR .begins) := by
  refine F.okX scBe (fun vs H Q E h => ?_) (fun cdv A outer s H vs Q E hr h => ?_)
  · obtain ⟨k, l, t, d, s, a, b, rfl, _⟩ := h
    rfl
  · obtain ⟨k, l, t, d, yd, r, c, rfl, ka, o, due⟩ := h
    refine ⟨_, pss_cons (ps_expr (pe_cx cWa hr (Nat.le_refl _) px (by rfl) (pa_cons (pe_and (pe_chain op_le op_le pe_int (pv 1) (C8.pe_gc (by rfl) G.side)) (pe_one (pe_chain op_le op_le pe_int (pv 2) (C8.pe_gc (by rfl) G.side)))) (pa_cons (C8.pe_gc (by rfl) G.bad) pa_nil))))
      (pss_cons (ps_fld (pv 0) (pv 1) rfl) (pss_cons (ps_fld (pv 0) (pv 2) rfl) (pss_cons (ps_fld (pv 0) (pe_lst pa_nil) rfl) (pss_cons (ps_fld (pv 0) (pe_tup pa_nil) rfl) (pss_cons (ps_fld (pv 0) pe_dnewK rfl) (pss_cons (ps_fld (pv 0) pe_int rfl)
      (pss_one (ps_ret (pe_lst (pa_cons (pe_op op_mul (pv 1) (pv 2)) pa_nil)))))))))), ?_⟩
    refine and_vv (fun R h => chain_le (fun _ h => h) (fun _ h => ⟨nI r, rfl, h⟩) (fun _ h => h) h) (fun R h => chain_le (fun _ h => h) (fun _ h => ⟨nI c, rfl, h⟩) (fun _ h => h) h) ?_
    refine ⟨_, _, rfl, fun hb => ?_, fun hb => ?_⟩
    · simp only [Bool.and_eq_true, decide_eq_true_eq] at hb
      have h1 : ¬ (r < 1 ∨ 5 < r ∨ c < 1 ∨ 5 < c) := by omega
      have cm : CMul (r : Int) (c : Int) := .inl ⟨by omega, by omega⟩
      have es : Sy66.step yd (.begins r c) = ({ Sy66.init with rows := r, cols := c }, Sy66.ok (r * c : Nat)) := if_neg h1
      rw [es] at due
      obtain ⟨dx, hk⟩ := ka.self
      refine ⟨_, rfl, _, rfl, k, CK, dx, _, rfl, hk, T.cK, T.k1, k6_len .., ?_⟩
      rw [kp1]
      refine ⟨_, rfl, _, rfl, k, CK, dx, _, rfl, upd_same, T.cK, T.k2, k6_len .., ?_⟩
      rw [kp2, upd_upd]
      refine ⟨(by show 0 ≤ sizeLine; decide), fun l1 hl => ?_⟩
      have nlk : k ≠ l1 := ne_of_none upd_same hl
      refine ⟨_, rfl, k, CK, dx, K6 (nI r) (nI c) (.ref l) (.ref t) (.ref d) (nI yd.made), rfl, by rw [upd_ne nlk, upd_same], T.cK, T.k3, k6_len .., ?_⟩
      rw [kp3]
      refine ⟨(by show 0 ≤ sizeLine; decide), fun t1 ht => ?_⟩
      have ntk : k ≠ t1 := ne_of_none upd_same ht
      refine ⟨_, rfl, k, CK, dx, K6 (nI r) (nI c) (.ref l1) (.ref t) (.ref d) (nI yd.made), rfl, by rw [upd_ne ntk, upd_same], T.cK, T.k4, k6_len .., ?_⟩
      rw [kp4]
      intro d1 hd
      have ndk : k ≠ d1 := ne_of_none upd_same hd
      refine ⟨_, rfl, k, CK, dx, K6 (nI r) (nI c) (.ref l1) (.ref t1) (.ref d) (nI yd.made), rfl, by rw [upd_ne ndk, upd_same], T.cK, T.k5, k6_len .., ?_⟩
      rw [kp5]
      refine ⟨_, rfl, k, CK, dx, _, rfl, upd_same, T.cK, T.k6, k6_len .., ?_⟩
      rw [kp6]
      have hl0 : H l1 = none := by
        rw [upd_ne nlk.symm] at hl
        exact hl
      have nlt : l1 ≠ t1 := ne_of_none (by rw [upd_ne nlk.symm, upd_same]) ht
      have nld : l1 ≠ d1 := ne_of_none (by rw [upd_ne nlk.symm, upd_ne nlt, upd_ne nlk.symm, upd_same]) hd
      have ntd : t1 ≠ d1 := ne_of_none (by rw [upd_ne ntk.symm, upd_same]) hd
      have ht0 : H t1 = none := by
        rw [upd_ne ntk.symm, upd_ne nlt.symm, upd_ne ntk.symm] at ht
        exact ht
      have hd0 : H d1 = none := by
        rw [upd_ne ndk.symm, upd_ne ntd.symm, upd_ne ndk.symm, upd_ne nld.symm, upd_ne ndk.symm] at hd
        exact hd
      refine ⟨_, rfl, _, rfl, _, _, rfl, rfl, cm, (by show 1 ≤ sizeLine; decide), fun p hp => ?_⟩
      have sp := Same.upd (o := .lst [.int ((r : Int) * (c : Int))]) hp
      refine due.ok _ p l1 t1 d1 (fun b o nb _ _ e => sp _ _ (old8 hl0 ht0 hd0 nb e)) ⟨⟨dx, sp _ _ upd_same⟩, ⟨[], sp _ _ ?_, rfl, fun i a c h => by simp at h⟩, sp _ _ ?_, sp _ _ ?_⟩ (.inr hl0) (.inr hd0) ?_ ?_
      · rw [upd_ne nlk.symm, upd_ne nlk.symm, upd_ne nld, upd_ne nlk.symm, upd_ne nlt, upd_ne nlk.symm, upd_same]
        rfl
      · rw [upd_ne ntk.symm, upd_ne ntk.symm, upd_ne ntd, upd_ne ntk.symm, upd_same]
        rfl
      · rw [upd_ne ndk.symm, upd_ne ndk.symm, upd_same]
        rfl
      · have npk : k ≠ p := ne_of_none upd_same hp
        cases e : H p with
        | none => rfl
        | some u =>
          rw [old8 hl0 ht0 hd0 npk.symm e] at hp
          cases hp
      · rw [upd_same]
        show _ = some (HO.lst [V.int ((r * c : Nat) : Int)])
        rw [Int.natCast_mul]
    · have h1 : r < 1 ∨ 5 < r ∨ c < 1 ∨ 5 < c := by
        rw [Bool.and_eq_false_iff, Bool.and_eq_false_iff, Bool.and_eq_false_iff] at hb
        simp only [decide_eq_false_iff_not] at hb
        omega
      exact due.no (-1) (if_pos h1)

/-! ### want_car -/
abbrev sWc : Stmt := inClass (top 28) 3
theorem scWc : FnScope ["self", "number"] ["self", "number"] (defScope sWc) := ⟨rfl, rfl, rfl, by decide +kernel, rfl, by decide +kernel, by decide +kernel⟩
def spWc (C CK CR : Addr) : Sp := fun vs H Q E => ∃ (k l t d : Addr) (s : Yd) (n : Nat), vs = [.ref k, nI n] ∧ KAt C CK H k l t d s ∧ (n < s.cars.length → Q .non H) ∧ (s.cars.length ≤ n → Ref CR H E (-2))
theorem ok_Wc (T : Tx K mg C CK CR) (G : Gx mg) (cWa : CalX P w K mg base 3 "want" (spWa CR)) {f : Addr} {fd : FuncData} (F : Fun K "want_car" "Keeper.want_car" sWc f fd) : FnOk P w K mg base (L2.CX P w) 4 f fd ["self", "number"] (spWc C CK CR) := by
  refine F.okX scWc (fun vs H Q E h => ?_) (fun cdv A outer s H vs Q E hr h => ?_)
  · obtain ⟨k, l, t, d, s, n, rfl, _⟩ := h
    rfl
  · obtain ⟨k, l, t, d, yd, n, rfl, ka, q1, q2⟩ := h
    refine ⟨_, pss_one (ps_expr (pe_cx cWa hr (Nat.le_refl _) px (by rfl) (pa_cons (pe_cmpR op_lt (pv 1) (pe_callB call_len_seq (by rfl) T.nLen PySem.boot_len (pa_cons (pe_fld (pv 0) rfl) pa_nil)) (nomark _)) (pa_cons (C8.pe_gc (by rfl) G.noCar) pa_nil)))), ?_⟩
    obtain ⟨dx, hk⟩ := ka.self
    obtain ⟨as, h1, h2, _⟩ := ka.cars
    refine ⟨_, rfl, _, rfl, k, CK, dx, _, _, rfl, hk, T.cK, T.k3, kg3 .., l, _, rfl, .inl (SqL.of h1), _, _, rfl, rfl, ?_⟩
    refine ⟨_, _, rfl, fun hb => q1 ?_, fun hb => q2 ?_⟩
    · rw [decide_eq_true_eq, List.length_map, h2] at hb
      omega
    · rw [decide_eq_false_iff_not, List.length_map, h2] at hb
      omega
end
end Cy
end
section
set_option Elab.async false
set_option linter.all false
set_option maxRecDepth 100000
set_option maxHeartbeats 4000000
namespace Cy
open PySem PySem.Spec L2
open PyProof.Rows hiding St
open Sy66 (Car lineLong carOf legal moved moves nexts every arrangements from_ reach ends distance)
open C8 (Cal Met Mak pe_c pe_mk pe_mt pe_mt0)

theorem any_nums (o : Nat) : ∀ l : List Nat, ((l.map fun (n : Nat) => PyData.int (n : Int)).any fun z => PyData.eqv z (.int (o : Int))) = decide (o ∈ l)
  | [] => by simp
  | n :: l => by
    rw [List.map_cons, List.any_cons, any_nums o l]
    have e : PyData.eqv (.int (n : Int)) (.int (o : Int)) = decide (n = o) := by
      simp only [PyData.eqv]
      by_cases h : n = o
      · simp [h]
      · have : ¬ (n : Int) = (o : Int) := by omega
        simp [h, this]
    rw [e]
    by_cases h : n = o
    · simp [h]
    · have h' : ¬ o = n := fun z => h z.symm
      simp [h, h']
theorem shaped_nums (l : List Nat) : SeqAt.shaped (.list (l.map fun (n : Nat) => PyData.int (n : Int))) = true := by
  unfold SeqAt.shaped PyData.canLay0 PyData.depth
  rw [lay_nums, deep_nums]
  rfl
theorem intsV (l : List Nat) : (Sy66.ints l).map V.int = nums l := by
  unfold Sy66.ints nums
  rw [List.map_map]
  rfl
theorem wk_drop (k : Nat) : ∀ ws : List (Nat × Nat), dropK (wk ws) (Sum.inl (k : Int)) = wk (ws.filter fun (x : Nat × Nat) => x.1 != k)
  | [] => rfl
  | x :: ws => by
    have ih := wk_drop k ws
    unfold dropK wk at ih ⊢
    rw [List.map_cons, List.filter_cons, List.filter_cons]
    by_cases h : x.1 = k
    · have h1 : decide ((Sum.inl (x.1 : Int), nI x.2).1 ≠ (Sum.inl (k : Int) : Key)) = false := by simp [h]
      rw [h1, if_neg Bool.false_ne_true, if_neg (by simpa using h)]
      exact ih
    · have h1 : decide ((Sum.inl (x.1 : Int), nI x.2).1 ≠ (Sum.inl (k : Int) : Key)) = true := by
        simp only [ne_eq, Sum.inl.injEq, decide_not, Bool.not_eq_true', decide_eq_false_iff_not]
        omega
      rw [h1, if_pos rfl, if_pos (by simpa using h), List.map_cons]
      exact congrArg _ ih
theorem wk_gone {k : Nat} : ∀ {ws : List (Nat × Nat)}, valV (wk ws) (Sum.inl (k : Int)) = none → ws.filter (fun (x : Nat × Nat) => x.1 != k) = ws
  | [], _ => rfl
  | x :: ws, h => by
    have hx : ¬ x.1 = k := fun e => by
      have : valV (wk (x :: ws)) (Sum.inl (k : Int)) = some (nI x.2) := valV_pos (show (Sum.inl (x.1 : Int) : Key) = Sum.inl (k : Int) by rw [e])
      rw [this] at h
      cases h
    have h' : valV (wk ws) (Sum.inl (k : Int)) = none := by
      have e : valV (wk (x :: ws)) (Sum.inl (k : Int)) = valV (wk ws) (Sum.inl (k : Int)) := valV_neg fun z => hx (by injection z with z; omega)
      rw [← e]
      exact h
    rw [List.filter_cons, if_pos (by simpa using hx), wk_gone h']
theorem wk_not (k : Nat) (ws : List (Nat × Nat)) : valV (wk (ws.filter fun (x : Nat × Nat) => x.1 != k)) (Sum.inl (k : Int)) = none := by
  induction ws with
  | nil => rfl
  | cons x ws ih =>
    rw [List.filter_cons]
    by_cases h : x.1 = k
    · rw [if_neg (by simpa using h)]
      exact ih
    · rw [if_pos (by simpa using h)]
      exact (valV_neg (fun z => h (by injection z with z; omega))).trans ih
section
variable {P : Program} {w : World} {K : PySem.W.Frag} {mg : Str → Option Value} {base : Heap} {C CK CR fR : Addr}

theorem kHit {H : Hp} {k l t d : Addr} {s : Yd} (ka : KAt C CK H k l t d s) : k ≠ l ∧ k ≠ t ∧ k ≠ d ∧ l ≠ t ∧ l ≠ d ∧ t ≠ d := by
  obtain ⟨dx, hk⟩ := ka.self
  obtain ⟨as, hl, _⟩ := ka.cars
  exact ⟨ne_of hk hl (fun z => nomatch z), ne_of hk ka.pl (fun z => nomatch z), ne_of hk ka.wt (fun z => nomatch z), ne_of hl ka.pl (fun z => nomatch z), ne_of hl ka.wt (fun z => nomatch z), ne_of ka.pl ka.wt (fun z => nomatch z)⟩
/-- the cars' objects stay where only k or d is written -/
theorem cars_ne {H : Hp} {l x : Addr} {s s' : Yd} {o u : HO} (c : CarsAt C H l s) (hc : s'.cars = s.cars) (hr : s'.rows = s.rows) (hcc : s'.cols = s.cols) (hx : H x = some u) (nl : ∀ ys, u ≠ .lst ys) (ni : ∀ a (dx : Addr) fs, u = .ins a dx fs → a ≠ C) : CarsAt C (upd H x o) l s' := by
  obtain ⟨as, h1, h2, h3⟩ := c
  refine ⟨as, by rw [upd_ne (ne_of h1 hx fun z => nl _ z.symm)]; exact h1, by rw [hc]; exact h2, fun i a c ha hci => ?_⟩
  rw [hc] at hci
  obtain ⟨dx, h⟩ := h3 i a c ha hci
  have e : carF s' c = carF s c := by
    unfold carF lineLong
    rw [hr, hcc]
  refine ⟨dx, ?_⟩
  rw [e, upd_ne (ne_of h hx fun z => ni _ _ _ z.symm rfl)]
  exact h

/-! ### move -/
abbrev sMv : Stmt := inClass (top 28) 4
theorem scMv : FnScope ["self", "number", "place"] ["self", "number", "place"] (defScope sMv) := ⟨rfl, rfl, rfl, by decide +kernel, rfl, by decide +kernel, by decide +kernel⟩
theorem goals_mem {s : Yd} (o : StOk s) {k p : Nat} : p ∈ goals s s.at_ k ↔ (moved s s.at_ k p).isSome = true := by
  unfold goals
  rw [List.mem_filter, List.mem_range]
  constructor
  · exact fun h => h.2
  · intro h
    refine ⟨?_, h⟩
    obtain ⟨m, hm⟩ := Option.isSome_iff_exists.mp h
    obtain ⟨h1, _, h2, _⟩ := (moved_iff (o.val.cars o.yard) o.val.leg).mp hm
    have h3 := (o.val.cars o.yard k h1).lo
    have h4 := o.yard.line (carOf s k)
    omega
theorem ok_Mv (T : Tx K mg C CK CR) (nCK : CK ≠ C) (G : Gx mg) (cWa : CalX P w K mg base 3 "want" (spWa CR)) (cWc : MetX P w K mg base 4 CK "want_car" (spWc C CK CR)) (cGo : Cal P w K mg base 4 "goals_of" (spGo C) []) (cWp : Cal P w K mg base 1 "with_place" spWp []) (cLi : Cal P w K mg base 1 "listed" spLi [])
    {f : Addr} {fd : FuncData} (F : Fun K "move" "Keeper.move" sMv f fd) : FnOk P w K mg base (L2.CX P w) 5 f fd ["self", "number", "place"] (spK2 C CK CR .move) := by
  refine F.okX scMv (fun vs H Q E h => ?_) (fun cdv A outer s H vs Q E hr h => ?_)
  · obtain ⟨k, l, t, d, s, a, b, rfl, _⟩ := h
    rfl
  · obtain ⟨k, l, t, d, yd, n, p, rfl, ka, o, due⟩ := h
    refine ⟨_, pss_cons (ps_expr (pe_mx cWc hr (Nat.le_refl _) px (pv 0) (pa_cons (pv 1) pa_nil)))
      (pss_cons (ps_expr (pe_cx cWa hr (by decide) px (by rfl) (pa_cons (pe_cmpR (op_inD (hu_n hr 65 (by decide))) (pv 2) (pe_c cGo hr (Nat.le_refl _) (by rfl) (pa_cons (pe_fld (pv 0) rfl) (pa_cons (pe_fld (pv 0) rfl) (pa_cons (pv 1) pa_nil)))) (by with_unfolding_all rfl)) (pa_cons (C8.pe_gc (by rfl) G.cannot) pa_nil))))
      (pss_cons (ps_fld (pv 0) (pe_c cWp hr (by decide) (by rfl) (pa_cons (pe_fld (pv 0) rfl) (pa_cons (pv 1) (pa_cons (pv 2) pa_nil)))) rfl)
      (pss_cons (ps_fld (pv 0) (pe_op op_add (pe_fld (pv 0) rfl) pe_int) rfl)
      (pss_one (ps_ret (pe_op op_cat (pe_lst (pa_cons (pe_fld (pv 0) rfl) pa_nil)) (pe_c cLi hr (by decide) (by rfl) (pa_cons (pe_fld (pv 0) rfl) pa_nil)))))))), ?_⟩
    obtain ⟨dx, hk⟩ := ka.self
    obtain ⟨nkl, nkt, nkd, nlt, nld, ntd⟩ := kHit ka
    have lenP : yd.at_.length = yd.cars.length := o.val.len
    have five := o.yard.few
    refine ⟨_, rfl, k, dx, _, rfl, hk, kNo _ _ _ _ _ _ (by decide +kernel) (by decide +kernel) (by decide +kernel) (by decide +kernel) (by decide +kernel) (by decide +kernel), _, rfl, k, l, t, d, yd, n, rfl, ka, fun hn => ?_, fun hn => ?_⟩
    · refine ⟨_, rfl, _, rfl, k, CK, dx, _, _, rfl, hk, T.cK, T.k3, kg3 .., _, rfl, k, CK, dx, _, _, rfl, hk, T.cK, T.k4, kg4 .., _, rfl, l, t, yd, yd.at_, n, rfl, ka.cars, ka.pl, o.yard, o.val, by omega, fun H1 g s1 ng hg => ?_⟩
      refine ⟨.int (p : Int), _, .int _, .lst (SqL.of hg) (dp_nums _), rfl, shaped_nums _, ?_⟩
      rw [any_nums]
      refine ⟨_, _, rfl, fun hb => ?_, fun hb => ?_⟩
      · have hm := (goals_mem o).mp (of_decide_eq_true hb)
        obtain ⟨m, hm⟩ := Option.isSome_iff_exists.mp hm
        have em : m = yd.at_.set n p := ((moved_iff (o.val.cars o.yard) o.val.leg).mp hm).2.2.2.2
        have es : Sy66.step yd (.move n p) = ({ yd with at_ := m, made := yd.made + 1 }, ⟨((yd.made + 1 : Nat) : Int), [Sy66.ints m]⟩) := by
          unfold Sy66.step
          simp only
          rw [if_neg (by omega), hm]
        rw [es] at due
        refine ⟨_, rfl, k, CK, dx, _, _, rfl, s1 _ _ hk, T.cK, T.k4, kg4 .., _, rfl, _, rfl, t, yd.at_, n, p, rfl, s1 _ _ ka.pl, by omega, by omega, fun H2 t2 s2 ht2 => ?_⟩
        rw [← em] at ht2
        have s12 := s1.trans s2
        have hk2 := s12 _ _ hk
        have ntk : t2 ≠ k := ne_of ht2 hk2 fun z => nomatch z
        refine ⟨_, rfl, k, CK, dx, _, rfl, hk2, T.cK, T.k4, k6_len .., ?_⟩
        rw [kp4]
        refine ⟨_, rfl, k, CK, dx, _, _, rfl, upd_same, T.cK, T.k6, kg6 .., _, _, rfl, rfl, ?_⟩
        refine ⟨_, rfl, k, CK, dx, _, rfl, upd_same, T.cK, T.k6, k6_len .., ?_⟩
        rw [kp6, upd_upd]
        refine ⟨_, rfl, k, CK, dx, _, _, rfl, upd_same, T.cK, T.k6, kg6 .., (by show 1 ≤ sizeLine; decide), fun q3 hq3 => ?_⟩
        have s3 := Same.upd (o := .lst [nI (yd.made + 1)]) hq3
        refine ⟨_, rfl, k, CK, dx, _, _, rfl, s3 _ _ upd_same, T.cK, T.k4, kg4 .., t2, nums m, rfl, .inr (s3 _ _ (by rw [upd_ne ntk]; exact ht2)), ?_, fun H4 q4 s4 nq4 hq4 => ?_⟩
        · rw [nums_len, em, List.length_set]
          omega
        refine ⟨q3, q4, _, _, rfl, rfl, s4 _ _ upd_same, hq4, sz ?_, fun r hr5 => ?_⟩
        · show 1 + ((nums m).length + 1) ≤ 10000
          rw [nums_len, em, List.length_set]
          omega
        have s5 := Same.upd (o := .lst ([nI (yd.made + 1)] ++ V.int ((nums m).length : Int) :: nums m)) hr5
        have s35 := (s3.trans s4).trans s5
        have cr2 : CarsAt C (upd H2 k (.ins CK dx (K6 (nI yd.rows) (nI yd.cols) (.ref l) (.ref t2) (.ref d) (nI (yd.made + 1))))) l { yd with at_ := m, made := yd.made + 1 } := cars_ne (ka.cars.same s12) rfl rfl rfl hk2 (fun _ z => nomatch z) fun a dx' fs z => by
          injection z with z1 _ _
          rw [← z1]
          exact nCK
        refine due.ok _ r l t2 d (fun b u n1 n2 n3 e => s35 _ _ (by rw [upd_ne n1]; exact s12 _ _ e)) ⟨⟨dx, s35 _ _ upd_same⟩, cr2.same s35, s35 _ _ (by rw [upd_ne ntk]; exact ht2), s35 _ _ (by rw [upd_ne nkd.symm]; exact s12 _ _ ka.wt)⟩ (.inl rfl) (.inl rfl) ?_ ?_
        · cases e : H r with
          | none => rfl
          | some u =>
            by_cases hrk : r = k
            · subst hrk
              rw [s4 _ _ (s3 _ _ upd_same)] at hr5
              cases hr5
            · rw [s4 _ _ (s3 _ _ (show upd H2 k _ r = some u by rw [upd_ne hrk]; exact s12 _ _ e))] at hr5
              cases hr5
        · rw [upd_same, nums_len]
          show _ = some (HO.lst (V.int ((yd.made + 1 : Nat) : Int) :: (List.flatMap (fun (w : List Int) => (w.length : Int) :: w) [Sy66.ints m]).map V.int))
          rw [List.flatMap_cons, List.flatMap_nil, List.append_nil, List.map_cons, intsV]
          unfold Sy66.ints
          rw [List.length_map]
          rfl
      · have hm : moved yd yd.at_ n p = none := by
          cases e : moved yd yd.at_ n p with
          | none => rfl
          | some m => exact absurd ((goals_mem o).mpr (by rw [e]; rfl)) (of_decide_eq_false hb)
        refine Ref.same (due.no (-6) ?_) s1
        unfold Sy66.step
        simp only
        rw [if_neg (by omega), hm]
    · exact due.no (-2) (if_pos hn)
end
end Cy
end
section
set_option Elab.async false
set_option linter.all false
set_option maxRecDepth 100000
set_option maxHeartbeats 4000000
namespace Cy
open PySem PySem.Spec L2
open PyProof.Rows hiding St
open Sy66 (Car lineLong carOf legal moved moves nexts every arrangements from_ reach ends distance)
open C8 (Cal Met Mak pe_c pe_mk pe_mt pe_mt0)

theorem upd_id {H : Hp} {d : Addr} {o : HO} (h : H d = some o) : upd H d o = H := funext fun b => by
  by_cases e : b = d
  · subst e
    rw [upd_same, h]
  · rw [upd_ne e]
abbrev less (ws : List (Nat × Nat)) (k : Nat) : List (Nat × Nat) := ws.filter fun (x : Nat × Nat) => x.1 != k
theorem pop_wk {H : Hp} {d : Addr} {ws : List (Nat × Nat)} {k : Nat} {Q : V → Hp → Prop} (hd : H d = some (.dK (wk ws))) (q : ∀ v, Q v (upd H d (.dK (wk (less ws k))))) :
    (∀ v, valV (wk ws) (Sum.inl (k : Int)) = some v → Q v (upd H d (.dK (dropK (wk ws) (Sum.inl (k : Int)))))) ∧ (valV (wk ws) (Sum.inl (k : Int)) = none → Q .non H) := by
  refine ⟨fun v _ => ?_, fun h => ?_⟩
  · rw [wk_drop]
    exact q v
  · have z := q .non
    rw [show less ws k = ws from wk_gone h, upd_id hd] at z
    exact z
theorem wk_len (ws : List (Nat × Nat)) : (wk ws).length = ws.length := List.length_map _
section
variable {P : Program} {w : World} {K : PySem.W.Frag} {mg : Str → Option Value} {base : Heap} {C CK CR fR : Addr}

/-! ### free -/
abbrev sFe : Stmt := inClass (top 28) 6
theorem scFe : FnScope ["self", "number"] ["self", "number"] (defScope sFe) := ⟨rfl, rfl, rfl, by decide +kernel, rfl, by decide +kernel, by decide +kernel⟩
theorem ok_Fe (T : Tx K mg C CK CR) (cWc : MetX P w K mg base 4 CK "want_car" (spWc C CK CR)) {f : Addr} {fd : FuncData} (F : Fun K "free" "Keeper.free" sFe f fd) : FnOk P w K mg base (L2.CX P w) 5 f fd ["self", "number"] (spK1 C CK CR .free) := by
  refine F.okX scFe (fun vs H Q E h => ?_) (fun cdv A outer s H vs Q E hr h => ?_)
  · obtain ⟨k, l, t, d, s, a, rfl, _⟩ := h
    rfl
  · obtain ⟨k, l, t, d, yd, n, rfl, ka, o, due⟩ := h
    refine ⟨_, pss_cons (ps_expr (pe_mx cWc hr (Nat.le_refl _) px (pv 0) (pa_cons (pv 1) pa_nil)))
      (pss_cons (ps_expr (pe_dpop2 (pe_fld (pv 0) rfl) (pv 1) pe_non ⟨rfl, rfl, rfl, rfl⟩))
      (pss_one (ps_ret (pe_lst (pa_cons (pe_callB call_lenD (by rfl) T.nLen PySem.boot_len (pa_cons (pe_fld (pv 0) rfl) pa_nil)) pa_nil))))), ?_⟩
    obtain ⟨dx, hk⟩ := ka.self
    obtain ⟨nkl, nkt, nkd, nlt, nld, ntd⟩ := kHit ka
    refine ⟨_, rfl, k, dx, _, rfl, hk, kNo _ _ _ _ _ _ (by decide +kernel) (by decide +kernel) (by decide +kernel) (by decide +kernel) (by decide +kernel) (by decide +kernel), _, rfl, k, l, t, d, yd, n, rfl, ka, fun hn => ?_, fun hn => ?_⟩
    · have es : Sy66.step yd (.free n) = ({ yd with wants := less yd.wants n }, Sy66.ok ((less yd.wants n).length : Nat)) := if_neg (by omega)
      rw [es] at due
      refine ⟨_, rfl, k, CK, dx, _, _, rfl, hk, T.cK, T.k5, kg5 .., d, rfl, .inl ⟨_, .inl ka.wt⟩, _, rfl, wk yd.wants, Sum.inl (n : Int), ka.wt, rfl, pop_wk ka.wt fun v => ?_⟩
      refine ⟨_, rfl, k, CK, dx, _, _, rfl, (by rw [upd_ne nkd]; exact hk), T.cK, T.k5, kg5 .., d, _, rfl, upd_same, (by show 1 ≤ sizeLine; decide), fun p hp => ?_⟩
      have sp := Same.upd (o := .lst [V.int ((wk (less yd.wants n)).length : Int)]) hp
      have cr := cars_ne (s' := { yd with wants := less yd.wants n }) (o := .dK (wk (less yd.wants n))) ka.cars rfl rfl rfl ka.wt (fun _ z => nomatch z) (fun a dx' fs z => nomatch z)
      refine due.ok _ p l t d (fun b u n1 n2 n3 e => sp _ _ (by rw [upd_ne n3]; exact e)) ⟨⟨dx, sp _ _ (by rw [upd_ne nkd]; exact hk)⟩, cr.same sp, sp _ _ (by rw [upd_ne ntd]; exact ka.pl), sp _ _ upd_same⟩ (.inl rfl) (.inl rfl) ?_ ?_
      · have npd : p ≠ d := (ne_of_none upd_same hp).symm
        rw [upd_ne npd] at hp
        exact hp
      · rw [upd_same, wk_len]
        rfl
    · exact due.no (-2) (if_pos hn)

/-! ### wish -/
abbrev sWi : Stmt := inClass (top 28) 5
theorem scWi : FnScope ["self", "number", "place"] ["self", "number", "place"] (defScope sWi) := ⟨rfl, rfl, rfl, by decide +kernel, rfl, by decide +kernel, by decide +kernel⟩
theorem ok_Wi (T : Tx K mg C CK CR) (G : Gx mg) (cWa : CalX P w K mg base 3 "want" (spWa CR)) (cWc : MetX P w K mg base 4 CK "want_car" (spWc C CK CR)) (cAp : Met P w K mg base 1 C "all_places" (spAp C) [])
    {f : Addr} {fd : FuncData} (F : Fun K "wish" "Keeper.wish" sWi f fd) : FnOk P w K mg base (L2.CX P w) 5 f fd ["self", "number", "place"] (spK2 C CK CR .want) := by
  refine F.okX scWi (fun vs H Q E h => ?_) (fun cdv A outer s H vs Q E hr h => ?_)
  · obtain ⟨k, l, t, d, s, a, b, rfl, _⟩ := h
    rfl
  · obtain ⟨k, l, t, d, yd, n, p, rfl, ka, o, due⟩ := h
    refine ⟨_, pss_cons (ps_expr (pe_mx cWc hr (Nat.le_refl _) px (pv 0) (pa_cons (pv 1) pa_nil)))
      (pss_cons (ps_expr (pe_cx cWa hr (by decide) px (by rfl) (pa_cons (pe_cmpR (op_inD (hu_n hr 65 (by decide))) (pv 2) (pe_mt0 cAp hr (by decide) (pe_ix ix_list (pe_fld (pv 0) rfl) (pv 1) (fun _ _ => rfl))) (by with_unfolding_all rfl)) (pa_cons (C8.pe_gc (by rfl) G.bad) pa_nil))))
      (pss_cons (ps_expr (pe_dpop2 (pe_fld (pv 0) rfl) (pv 1) pe_non ⟨rfl, rfl, rfl, rfl⟩))
      (pss_cons (ps_dput (hu_of hr) (pe_fld (pv 0) rfl) (pv 1) (pv 2) rfl)
      (pss_one (ps_ret (pe_lst (pa_cons (pe_callB call_lenD (by rfl) T.nLen PySem.boot_len (pa_cons (pe_fld (pv 0) rfl) pa_nil)) pa_nil))))))), ?_⟩
    obtain ⟨dx, hk⟩ := ka.self
    obtain ⟨nkl, nkt, nkd, nlt, nld, ntd⟩ := kHit ka
    have lenP : yd.at_.length = yd.cars.length := o.val.len
    refine ⟨_, rfl, k, dx, _, rfl, hk, kNo _ _ _ _ _ _ (by decide +kernel) (by decide +kernel) (by decide +kernel) (by decide +kernel) (by decide +kernel) (by decide +kernel), _, rfl, k, l, t, d, yd, n, rfl, ka, fun hn => ?_, fun hn => ?_⟩
    · have fit := o.val.leg.fit n (by omega)
      have h5 := o.yard.line (carOf yd n)
      obtain ⟨as, a, h1, h2, h3, dxc, h4⟩ := ka.cars.car (k := n) hn
      refine ⟨_, rfl, _, rfl, k, CK, dx, _, _, rfl, hk, T.cK, T.k3, kg3 .., _, rfl, l, _, (n : Int), _, rfl, rfl, SqL.of h1, atI_nat h3, a, dxc, _, rfl, h4, carF_no yd _ (by decide +kernel) (by decide +kernel) (by decide +kernel) (by decide +kernel), a, yd, carOf yd n, rfl, ⟨dxc, h4⟩, by omega, h5, fun g hg => ?_⟩
      have s1 := Same.upd (o := .lst (nums (List.range (lineLong yd (carOf yd n) - (carOf yd n).long + 1)))) hg
      refine ⟨.int (p : Int), _, .int _, .lst (SqL.of upd_same) (dp_nums _), rfl, shaped_nums _, ?_⟩
      rw [any_nums]
      refine ⟨_, _, rfl, fun hb => ?_, fun hb => ?_⟩
      · have hp : p < lineLong yd (carOf yd n) - (carOf yd n).long + 1 := List.mem_range.mp (of_decide_eq_true hb)
        have es : Sy66.step yd (.want n p) = ({ yd with wants := less yd.wants n ++ [(n, p)] }, Sy66.ok ((less yd.wants n ++ [(n, p)]).length : Nat)) := (if_neg (by omega)).trans (if_neg (by omega))
        rw [es] at due
        have hk1 := s1 _ _ hk
        have hd1 := s1 _ _ ka.wt
        have few : (less yd.wants n).length ≤ 5 := Nat.le_trans (List.length_filter_le _ _) (wants_few o)
        refine ⟨_, rfl, k, CK, dx, _, _, rfl, hk1, T.cK, T.k5, kg5 .., d, rfl, .inl ⟨_, .inl hd1⟩, _, rfl, wk yd.wants, Sum.inl (n : Int), hd1, rfl, pop_wk hd1 fun v => ?_⟩
        refine ⟨_, rfl, _, rfl, k, CK, dx, _, _, rfl, (by rw [upd_ne nkd]; exact hk1), T.cK, T.k5, kg5 .., _, rfl, d, _, rfl, DPut.k (k := Sum.inl (n : Int)) upd_same (sz' (by rw [wk_len]; omega)), ?_⟩
        rw [upd_upd, putK_new _ (wk_not n yd.wants)]
        have ew : wk (less yd.wants n) ++ [(Sum.inl (n : Int), nI p)] = wk (less yd.wants n ++ [(n, p)]) := by
          unfold wk
          rw [List.map_append]
          rfl
        rw [ew]
        refine ⟨_, rfl, k, CK, dx, _, _, rfl, (by rw [upd_ne nkd]; exact hk1), T.cK, T.k5, kg5 .., d, _, rfl, upd_same, (by show 1 ≤ sizeLine; decide), fun r hr5 => ?_⟩
        have sp := Same.upd (o := .lst [V.int ((wk (less yd.wants n ++ [(n, p)])).length : Int)]) hr5
        have cr := cars_ne (s' := { yd with wants := less yd.wants n ++ [(n, p)] }) (o := .dK (wk (less yd.wants n ++ [(n, p)]))) (ka.cars.same s1) rfl rfl rfl hd1 (fun _ z => nomatch z) (fun a dx' fs z => nomatch z)
        refine due.ok _ r l t d (fun b u n1 n2 n3 e => sp _ _ (by rw [upd_ne n3]; exact s1 _ _ e)) ⟨⟨dx, sp _ _ (by rw [upd_ne nkd]; exact hk1)⟩, cr.same sp, sp _ _ (by rw [upd_ne ntd]; exact s1 _ _ ka.pl), sp _ _ upd_same⟩ (.inl rfl) (.inl rfl) ?_ ?_
        · have npd : r ≠ d := (ne_of_none upd_same hr5).symm
          rw [upd_ne npd] at hr5
          exact s1.free hr5
        · rw [upd_same, wk_len]
          rfl
      · have hp : ¬ p < lineLong yd (carOf yd n) - (carOf yd n).long + 1 := fun z => of_decide_eq_false hb (List.mem_range.mpr z)
        exact Ref.same (due.no (-1) ((if_neg (by omega)).trans (if_pos (by omega)))) s1
    · exact due.no (-2) (if_pos hn)

/-! ### steps -/
abbrev sSt : Stmt := inClass (top 28) 7
theorem scSt : FnScope ["self", "found"] ["self"] (defScope sSt) := ⟨rfl, rfl, rfl, by decide +kernel, rfl, by decide +kernel, by decide +kernel⟩
def spSt (C CK CR : Addr) : Sp := fun vs H Q E => ∃ (k l t d : Addr) (s : Yd), vs = [.ref k] ∧ KAt C CK H k l t d s ∧ StOk s ∧
  (ends s ≠ [] → ∀ (H' : Hp) (p : Addr), Same H H' → H p = none → H' p = some (.dT (kvV (kvOf (ends s)))) → Q (.ref p) H') ∧ (ends s = [] → Ref CR H E (-6))
theorem kv_empty {s : Yd} (o : StOk s) : (kvV (kvOf (ends s))).isEmpty = true ↔ ends s = [] := by
  rw [List.isEmpty_iff]
  constructor
  · intro h
    have h0 : (kvV (kvOf (ends s))).length = 0 := by rw [h]; rfl
    rw [kvV_len, kvOf_len] at h0
    have h1 := flatten_ge _ (ends_bfs o).ne
    exact List.eq_nil_of_length_eq_zero (by omega)
  · intro h
    rw [h]
    rfl
theorem ok_St (T : Tx K mg C CK CR) (G : Gx mg) (cWa : CalX P w K mg base 3 "want" (spWa CR)) (cSW : Cal P w K mg base 8 "steps_to_wanted" (spSW C) []) {f : Addr} {fd : FuncData} (F : Fun K "steps" "Keeper.steps" sSt f fd) : FnOk P w K mg base (L2.CX P w) 9 f fd ["self"] (spSt C CK CR) := by
  refine F.okX scSt (fun vs H Q E h => ?_) (fun cdv A outer s H vs Q E hr h => ?_)
  · obtain ⟨k, l, t, d, s, rfl, _⟩ := h
    rfl
  · obtain ⟨k, l, t, d, yd, rfl, ka, o, q1, q2⟩ := h
    refine ⟨_, pss_cons (ps_set (i := 1) scSt.nd rfl (Or.inl rfl) (pe_c cSW hr (Nat.le_refl _) (by rfl) (pa_cons (pe_fld (pv 0) rfl) (pa_cons (pe_fld (pv 0) rfl) (pa_cons (pe_fld (pv 0) rfl) pa_nil)))))
      (pss_cons (ps_expr (pe_cx cWa hr (by decide) px (by rfl) (pa_cons (pe_cmpR (op_neT0 (hu_n hr 0 (by decide))) (pv 1) pe_dnewT (nomark _)) (pa_cons (C8.pe_gc (by rfl) G.cannot) pa_nil))))
      (pss_one (ps_ret (pv 1)))), ?_⟩
    obtain ⟨dx, hk⟩ := ka.self
    refine ⟨_, rfl, k, CK, dx, _, _, rfl, hk, T.cK, T.k3, kg3 .., _, rfl, k, CK, dx, _, _, rfl, hk, T.cK, T.k4, kg4 .., _, rfl, k, CK, dx, _, _, rfl, hk, T.cK, T.k5, kg5 .., l, t, d, yd, rfl, ka.cars, ka.pl, ka.wt, o, fun H1 e s1 ne he => ?_⟩
    refine ⟨_, rfl, fun e0 he0 => ?_⟩
    have s2 := Same.upd (o := .dT []) he0
    refine ⟨e, e0, _, rfl, rfl, .inl (s2 _ _ he), upd_same, _, _, rfl, fun hb => ?_, fun hb => ?_⟩
    · refine ⟨_, rfl, q1 (fun z => ?_) _ e (s1.trans s2) ne (s2 _ _ he)⟩
      rw [(kv_empty o).mpr z] at hb
      cases hb
    · refine Ref.same (q2 ((kv_empty o).mp (by simpa using hb))) (s1.trans s2)

/-! ### fewest -/
abbrev sFw : Stmt := inClass (top 28) 8
theorem scFw : FnScope ["self", "steps"] ["self"] (defScope sFw) := ⟨rfl, rfl, rfl, by decide +kernel, rfl, by decide +kernel, by decide +kernel⟩
theorem ends_in {s : Yd} (o : StOk s) (h : ends s ≠ []) : ∃ k, distance (ends s) s.at_ = some k ∧ inLevel (ends s) k s.at_ ∧ k ≤ 3125 := by
  have B := ends_bfs o
  cases e : distance (ends s) s.at_ with
  | none => exact absurd ((ends_none o).mp e) h
  | some k =>
    have lv := (distance_some B.nd).mp e
    refine ⟨k, rfl, lv, ?_⟩
    obtain ⟨x, hx, _⟩ := lv
    have h1 := (List.getElem?_eq_some_iff.mp hx).1
    have h2 := flatten_ge _ B.ne
    have h3 := vals_le o.yard B.nd B.val
    omega
theorem ok_Fw (T : Tx K mg C CK CR) (cSt : MetX P w K mg base 9 CK "steps" (spSt C CK CR)) {f : Addr} {fd : FuncData} (F : Fun K "fewest" "Keeper.fewest" sFw f fd) : FnOk P w K mg base (L2.CX P w) 10 f fd ["self"] (spK0 C CK CR .fewest) := by
  refine F.okX scFw (fun vs H Q E h => ?_) (fun cdv A outer s H vs Q E hr h => ?_)
  · obtain ⟨k, l, t, d, s, rfl, _⟩ := h
    rfl
  · obtain ⟨k, l, t, d, yd, rfl, ka, o, due⟩ := h
    refine ⟨_, pss_cons (ps_set (i := 1) scFw.nd rfl (Or.inl rfl) (pe_mx0 cSt hr (Nat.le_refl _) px (pv 0)))
      (pss_one (ps_ret (pe_lst (pa_cons (pe_dget (hu_of hr) (pv 1) (pe_fld (pv 0) rfl) (fun _ _ => rfl)) pa_nil)))), ?_⟩
    obtain ⟨dx, hk⟩ := ka.self
    refine ⟨_, rfl, k, dx, _, rfl, hk, kNo _ _ _ _ _ _ (by decide +kernel) (by decide +kernel) (by decide +kernel) (by decide +kernel) (by decide +kernel) (by decide +kernel), k, l, t, d, yd, rfl, ka, o, fun hn H1 e s1 ne he => ?_, fun hn => ?_⟩
    · obtain ⟨n, hd, lv, _⟩ := ends_in o hn
      have es : Sy66.step yd .fewest = (yd, Sy66.ok (n : Nat)) := by
        unfold Sy66.step
        simp only
        rw [hd]
      rw [es] at due
      refine ⟨_, rfl, _, rfl, k, CK, dx, _, _, rfl, s1 _ _ hk, T.cK, T.k4, kg4 .., e, _, rfl, dget_tab he (s1 _ _ ka.pl) (ends_bfs o).nd lv, (by show 1 ≤ sizeLine; decide), fun p hp => ?_⟩
      have sp := Same.upd (o := .lst [nI n]) hp
      exact due.keep ka rfl (s1.trans sp) (s1.free hp) upd_same
    · refine due.no (-6) ?_
      unfold Sy66.step
      simp only
      rw [(ends_none o).mpr hn]

/-! ### plan -/
abbrev sPn : Stmt := inClass (top 28) 9
theorem scPn : FnScope ["self", "some"] ["self"] (defScope sPn) := ⟨rfl, rfl, rfl, by decide +kernel, rfl, by decide +kernel, by decide +kernel⟩
theorem pr_flat (l : List (Nat × Nat)) : (l.map pr).flatten = l.flatMap fun (x : Nat × Nat) => [x.1, x.2] := rfl
theorem pr_len : ∀ l : List (Nat × Nat), (l.map pr).flatten.length = 2 * l.length
  | [] => rfl
  | x :: l => by
    rw [List.map_cons, List.flatten_cons, List.length_append, pr_len l, List.length_cons]
    show 2 + _ = _
    omega
theorem ok_Pn (T : Tx K mg C CK CR) (cSt : MetX P w K mg base 9 CK "steps" (spSt C CK CR)) (cPl : Cal P w K mg base 7 "plan_of" (spPl C) []) (cFl : Cal P w K mg base 1 "flat" spFl []) (cLi : Cal P w K mg base 1 "listed" spLi [])
    {f : Addr} {fd : FuncData} (F : Fun K "plan" "Keeper.plan" sPn f fd) : FnOk P w K mg base (L2.CX P w) 10 f fd ["self"] (spK0 C CK CR .plan) := by
  refine F.okX scPn (fun vs H Q E h => ?_) (fun cdv A outer s H vs Q E hr h => ?_)
  · obtain ⟨k, l, t, d, s, rfl, _⟩ := h
    rfl
  · obtain ⟨k, l, t, d, yd, rfl, ka, o, due⟩ := h
    refine ⟨_, pss_cons (ps_set (i := 1) scPn.nd rfl (Or.inl rfl) (pe_c cPl hr (by decide) (by rfl) (pa_cons (pe_fld (pv 0) rfl) (pa_cons (pe_fld (pv 0) rfl) (pa_cons (pe_mx0 cSt hr (Nat.le_refl _) px (pv 0)) pa_nil)))))
      (pss_one (ps_ret (pe_op op_cat (pe_lst (pa_cons (pe_callB call_len_seq (by rfl) T.nLen PySem.boot_len (pa_cons (pv 1) pa_nil)) pa_nil)) (pe_c cLi hr (by decide) (by rfl) (pa_cons (pe_c cFl hr (by decide) (by rfl) (pa_cons (pv 1) pa_nil)) pa_nil))))), ?_⟩
    obtain ⟨dx, hk⟩ := ka.self
    refine ⟨_, rfl, k, CK, dx, _, _, rfl, hk, T.cK, T.k3, kg3 .., _, rfl, k, CK, dx, _, _, rfl, hk, T.cK, T.k4, kg4 .., _, rfl, k, dx, _, rfl, hk, kNo _ _ _ _ _ _ (by decide +kernel) (by decide +kernel) (by decide +kernel) (by decide +kernel) (by decide +kernel) (by decide +kernel), k, l, t, d, yd, rfl, ka, o, fun hn H1 e s1 ne he => ?_, fun hn => ?_⟩
    · obtain ⟨n, hd, lv, n3⟩ := ends_in o hn
      have B := ends_bfs o
      have pl := plan_len o.yard B n _ lv
      have es : Sy66.step yd .plan = (yd, ⟨(n : Nat), [Sy66.ints ((Sy66.plan yd (ends yd) n yd.at_).flatMap fun (x : Nat × Nat) => [x.1, x.2])]⟩) := by
        unfold Sy66.step
        simp only
        rw [hd]
      rw [es] at due
      refine ⟨l, t, e, yd, yd.at_, _, _, n, rfl, ka.cars.same s1, s1 _ _ ka.pl, he, o.yard, B, lv, n3, fun H2 g ps s2 hg tp => ?_⟩
      have lps := tp.len
      rw [List.length_map, pl] at lps
      refine ⟨_, rfl, g, _, rfl, .inl (SqL.of hg), (by show 1 ≤ sizeLine; decide), fun p3 hp3 => ?_⟩
      have s3 := Same.upd (o := .lst [V.int ((ps.map V.ref).length : Int)]) hp3
      refine ⟨_, rfl, g, ps, _, rfl, s3 _ _ hg, tp.same s3, by rw [pr_len, pl]; omega, fun H4 p4 s4 np4 hp4 => ?_⟩
      have lf : (nums ((Sy66.plan yd (ends yd) n yd.at_).map pr).flatten).length = 2 * n := by rw [nums_len, pr_len, pl]
      refine ⟨p4, _, rfl, .inl hp4, by rw [lf]; omega, fun H5 p5 s5 np5 hp5 => ?_⟩
      refine ⟨p3, p5, _, _, rfl, rfl, s5 _ _ (s4 _ _ upd_same), hp5, sz (by show 1 + (_ + 1) ≤ 10000; rw [lf]; omega), fun r hr6 => ?_⟩
      have s15 := (((s1.trans s2).trans s3).trans s4).trans s5
      refine due.keep ka rfl (s15.trans (Same.upd hr6)) (s15.free hr6) ?_
      rw [upd_same, List.length_map, lps, nums_len]
      show _ = some (HO.lst (V.int ((n : Nat) : Int) :: (List.flatMap (fun (w : List Int) => (w.length : Int) :: w) [Sy66.ints _]).map V.int))
      rw [List.flatMap_cons, List.flatMap_nil, List.append_nil, List.map_cons, intsV, ← pr_flat]
      unfold Sy66.ints
      rw [List.length_map]
      rfl
    · refine due.no (-6) ?_
      unfold Sy66.step
      simp only
      rw [(ends_none o).mpr hn]
end
end Cy
end
section
set_option Elab.async false
set_option linter.all false
set_option maxRecDepth 100000
set_option maxHeartbeats 4000000
namespace Cy
open PySem PySem.Spec L2
open PyProof.Rows hiding St
open Sy66 (Car lineLong carOf legal moved moves nexts every arrangements from_ reach ends distance)
open C8 (Cal Met Mak pe_c pe_mk pe_mt pe_mt0)

theorem join_if {c : TT} {a r : TS} {D : Ends} {σ σ1 : L2.St} {H : Hp} (k : Bool) (hc : ∀ R : Bool → Hp → Prop, R k H → c σ H R) (ha : k = true → r D σ1 H → a { D with nx := r D } σ H) (hb : k = false → σ1 = σ) (q : r D σ1 H) : tSeq (tIfS c a tNext) r D σ H := by
  show c σ H fun k H1 => if k = true then a { D with nx := r D } σ H1 else tNext { D with nx := r D } σ H1
  refine hc _ ?_
  cases k with
  | true => exact if_yes rfl (ha rfl q)
  | false =>
    refine if_no rfl ?_
    rw [hb rfl] at q
    exact q
section
variable {P : Program} {w : World} {K : PySem.W.Frag} {mg : Str → Option Value} {base : Heap} {C CK CR fR : Addr}

/-! ### put_car -/
abbrev sPc : Stmt := inClass (top 28) 2
abbrev nPc : List Str := ["self", "upright", "its_line", "place", "length", "lines", "span", "car", "others"]
theorem scPc : FnScope nPc ["self", "upright", "its_line", "place", "length"] (defScope sPc) := ⟨rfl, rfl, rfl, by decide +kernel, rfl, by decide +kernel, by decide +kernel⟩
theorem ok_Pc (T : Tx K mg C CK CR) (nCK : CK ≠ C) (G : Gx mg) (cWa : CalX P w K mg base 3 "want" (spWa CR)) (cTk : Cal P w K mg base 3 "taken" (spTk C) []) (cFr : Cal P w K mg base 1 "is_free" spFr []) (cCs : Met P w K mg base 2 C "cells" (spCs C) []) (cCar : Mak P w K mg base 1 "Car" C (spCI C) [])
    {f : Addr} {fd : FuncData} (F : Fun K "put_car" "Keeper.put_car" sPc f fd) : FnOk P w K mg base (L2.CX P w) 5 f fd ["self", "upright", "its_line", "place", "length"] (spK4 C CK CR .car) := by
  refine F.okX scPc (fun vs H Q E h => ?_) (fun cdv A outer s H vs Q E hr h => ?_)
  · obtain ⟨k, l, t, d, s, a, b, c, e, rfl, _⟩ := h
    rfl
  · obtain ⟨k, l, t, d, yd, u, ln, p, n, rfl, ka, o, due⟩ := h
    refine ⟨_, pss_cons (ps_expr (pe_cx cWa hr (by decide) px (by rfl) (pa_cons (pe_cmpR op_le (pv 1) pe_int (nomark _)) (pa_cons (C8.pe_gc (by rfl) G.bad) pa_nil))))
      (pss_cons (ps_par (i := 5) (j := 6) rfl scPc.nd rfl rfl (by decide) rfl rfl (pa_cons (pe_fld (pv 0) rfl) (pa_cons (pe_fld (pv 0) rfl) pa_nil)) rfl)
      (pss_cons (ps_if (pt_cmpR op_eq (pv 1) pe_int (nomark _)) (pss_one (ps_par (i := 5) (j := 6) rfl scPc.nd rfl rfl (by decide) rfl rfl (pa_cons (pv 6) (pa_cons (pv 5) pa_nil)) rfl)) pss_nil)
      (pss_cons (ps_expr (pe_cx cWa hr (by decide) px (by rfl) (pa_cons (pe_and (pe_cmpR op_lt (pv 2) (pv 5) (nomark _)) (pe_and (pe_chain op_le op_le (C8.pe_gc (by rfl) G.least) (pv 4) (C8.pe_gc (by rfl) G.most)) (pe_one (pe_cmpR op_le (pe_op op_add (pv 3) (pv 4)) (pv 6) (nomark _))))) (pa_cons (C8.pe_gc (by rfl) G.bad) pa_nil))))
      (pss_cons (ps_expr (pe_cx cWa hr (by decide) px (by rfl) (pa_cons (pe_cmpR op_lt (pe_callB call_len_seq (by rfl) T.nLen PySem.boot_len (pa_cons (pe_fld (pv 0) rfl) pa_nil)) (C8.pe_gc (by rfl) G.cars) (nomark _)) (pa_cons (C8.pe_gc (by rfl) G.full) pa_nil))))
      (pss_cons (ps_set (i := 7) scPc.nd rfl (Or.inl rfl) (pe_mk cCar hr (by decide) (by rfl) (pa_cons (pe_cmpR op_eq (pv 1) pe_int (nomark _)) (pa_cons (pv 2) (pa_cons (pv 4) (pa_cons (pv 6) pa_nil))))))
      (pss_cons (ps_set (i := 8) scPc.nd rfl (Or.inl rfl) (pe_c cTk hr (by decide) (by rfl) (pa_cons (pe_fld (pv 0) rfl) (pa_cons (pe_fld (pv 0) rfl) (pa_cons (pe_callB call_len_seq (by rfl) T.nLen PySem.boot_len (pa_cons (pe_fld (pv 0) rfl) pa_nil)) pa_nil)))))
      (pss_cons (ps_expr (pe_cx cWa hr (by decide) px (by rfl) (pa_cons (pe_c cFr hr (by decide) (by rfl) (pa_cons (pe_mt cCs hr (by decide) (pv 7) (pa_cons (pv 3) (pa_cons (pv 3) pa_nil))) (pa_cons (pv 8) pa_nil))) (pa_cons (C8.pe_gc (by rfl) G.cannot) pa_nil))))
      (pss_cons (ps_expr (pe_bm PySem.F.plainAttrs_list PySem.F.slot_list_append PySem.F.type_list_append mt_append (pe_fld (pv 0) rfl) (pa_cons (pv 7) pa_nil)))
      (pss_cons (ps_fld (pv 0) (pe_op op_catA (pe_fld (pv 0) rfl) (pe_tup (pa_cons (pv 3) pa_nil))) rfl)
      (pss_one (ps_ret (pe_lst (pa_cons (pe_op op_sub (pe_callB call_len_seq (by rfl) T.nLen PySem.boot_len (pa_cons (pe_fld (pv 0) rfl) pa_nil)) pe_int) pa_nil))))))))))))), ?_⟩
    obtain ⟨dx, hk⟩ := ka.self
    obtain ⟨nkl, nkt, nkd, nlt, nld, ntd⟩ := kHit ka
    have lenP : yd.at_.length = yd.cars.length := o.val.len
    have five := o.yard.few
    have badE : (1 < u ∨ n < 2 ∨ 5 < n ∨ (if u = 1 then yd.cols else yd.rows) ≤ ln ∨ lineLong yd ⟨u == 1, ln, n⟩ < p + n) → Sy66.step yd (.car u ln p n) = (yd, Sy66.ok (-1)) := fun h => if_pos h
    refine ⟨_, rfl, _, _, rfl, rfl, _, _, rfl, fun hb => ?_, fun hb => due.no (-1) (badE (.inl ?_))⟩
    · have u1 : u ≤ 1 := by
        have := of_decide_eq_true hb
        omega
      refine ⟨_, rfl, k, CK, dx, _, _, rfl, hk, T.cK, T.k1, kg1 .., _, rfl, k, CK, dx, _, _, rfl, hk, T.cK, T.k2, kg2 .., _, _, rfl, ?_⟩
      have spanE : lineLong yd ⟨u == 1, ln, n⟩ = if u = 1 then yd.rows else yd.cols := by
        unfold lineLong
        simp only [beq_iff_eq]
      dsimp only
      refine join_if (decide (nI u = V.int 1)) (σ1 := [some (.ref k), some (nI u), some (nI ln), some (nI p), some (nI n), some (nI (if u = 1 then yd.cols else yd.rows)), some (nI (lineLong yd ⟨u == 1, ln, n⟩)), none, none]) (fun R h => ⟨_, rfl, rfl, _, rfl, h⟩) (fun hu q => ?_) (fun hu => ?_) ?_
      · have e : u = 1 := nI_inj (b := 1) (of_decide_eq_true hu)
        refine ⟨_, rfl, _, rfl, _, _, rfl, ?_⟩
        rw [spanE, if_pos e, if_pos e] at q
        exact q
      · have e : ¬ u = 1 := fun z => of_decide_eq_false hu (by rw [z]; rfl)
        rw [spanE, if_neg e, if_neg e]
        rfl
      refine and_vv (fun R h => ⟨_, rfl, _, rfl, _, _, rfl, rfl, h⟩) (fun R h => and_vv (fun R h => chain_le (fun _ h => h) (fun _ h => ⟨nI n, rfl, h⟩) (fun _ h => h) h) (fun R h => ⟨_, rfl, _, rfl, _, _, rfl, rfl, _, rfl, _, _, rfl, rfl, h⟩) h) ?_
      refine ⟨_, _, rfl, fun hb => ?_, fun hb => due.no (-1) (badE ?_)⟩
      · simp only [Bool.and_eq_true, decide_eq_true_eq] at hb
        have ok0 : ¬ (1 < u ∨ n < 2 ∨ 5 < n ∨ (if u = 1 then yd.cols else yd.rows) ≤ ln ∨ lineLong yd ⟨u == 1, ln, n⟩ < p + n) := by omega
        obtain ⟨ck, fit⟩ := car_of ok0
        have h5 := o.yard.line ⟨u == 1, ln, n⟩
        obtain ⟨as, h1, h2, h3⟩ := ka.cars
        refine ⟨_, rfl, k, CK, dx, _, _, rfl, hk, T.cK, T.k3, kg3 .., l, _, rfl, .inl (SqL.of h1), _, _, rfl, rfl, _, _, rfl, fun hb5 => ?_, fun hb5 => due.no (-5) ((if_neg ok0).trans (if_pos ?_))⟩
        · have few : yd.cars.length < 5 := by
            have := of_decide_eq_true hb5
            rw [List.length_map, h2] at this
            omega
          refine ⟨_, rfl, rfl, _, rfl, _, rfl, _, rfl, fun x dxc hx hdx nxd => ⟨x, dxc, _, _, _, _, rfl, upd_same, rfl, ?_⟩⟩
          have eup : decide (nI u = V.int 1) = (u == 1) := by
            by_cases e : u = 1
            · subst e
              rfl
            · exact (decide_eq_false fun z => e (nI_inj (b := 1) z)).trans (beq_eq_false_iff_ne.mpr e).symm
          rw [eup]
          have s1 : Same H (upd (upd (upd H dxc (.own x)) x (.ins C dxc [])) x (.ins C dxc (F4 (.bl (u == 1)) (nI ln) (nI n) (nI (lineLong yd ⟨u == 1, ln, n⟩))))) := fun b w e => by
            rw [upd_ne (ne_of_none e hx), upd_ne (ne_of_none e hx), upd_ne (ne_of_none e hdx)]
            exact e
          have hx1 : upd (upd (upd H dxc (.own x)) x (.ins C dxc [])) x (.ins C dxc (F4 (.bl (u == 1)) (nI ln) (nI n) (nI (lineLong yd ⟨u == 1, ln, n⟩)))) x = some (.ins C dxc (carF yd ⟨u == 1, ln, n⟩)) := upd_same
          generalize upd (upd (upd H dxc (.own x)) x (.ins C dxc [])) x (.ins C dxc (F4 (.bl (u == 1)) (nI ln) (nI n) (nI (lineLong yd ⟨u == 1, ln, n⟩)))) = H1 at s1 hx1 ⊢
          have hk1 := s1 _ _ hk
          refine ⟨_, rfl, k, CK, dx, _, _, rfl, hk1, T.cK, T.k3, kg3 .., _, rfl, k, CK, dx, _, _, rfl, hk1, T.cK, T.k4, kg4 .., _, rfl, k, CK, dx, _, _, rfl, hk1, T.cK, T.k3, kg3 .., l, _, rfl, .inl (SqL.of (s1 _ _ h1)), l, t, yd, yd.at_, yd.cars.length, ?_, ka.cars.same s1, s1 _ _ ka.pl, by omega, o.yard, fun z hz => by have := o.val.mem_small o.yard hz; omega, fun H2 e kvs s2 ne he has => ?_⟩
          · rw [List.length_map, h2]
            rfl
          have s12 := s1.trans s2
          have hx2 := s2 _ _ hx1
          have hi := ck.hi
          refine ⟨_, rfl, x, dxc, _, rfl, hx2, carF_no yd _ (by decide +kernel) (by decide +kernel) (by decide +kernel) (by decide +kernel), _, rfl, _, rfl, x, yd, ⟨u == 1, ln, n⟩, p, p, rfl, ⟨dxc, hx2⟩, by omega, by omega, hi, fun H3 L ps s3 npL hps tp => ?_⟩
          refine ⟨_, rfl, L, e, ps, cells ⟨u == 1, ln, n⟩ p p, kvs, _, rfl, hps, tp, ?_, s3 _ _ he, has, fun H4 b s4 hbf => ?_⟩
          · unfold cells
            rw [List.length_map, List.length_range]
            omega
          have s34 := s3.trans s4
          have s14 := s12.trans s34
          have hfree : b = true ↔ FreeAt yd yd.at_ ⟨u == 1, ln, n⟩ p := by
            rw [hbf]
            constructor
            · intro h j hj z hz hz'
              exact h z hz ⟨j, hj, by omega, hz'⟩
            · rintro h z hz ⟨j, hj, _, hz'⟩
              exact h j hj z hz hz'
          refine ⟨_, _, rfl, fun hb6 => ?_, fun hb6 => Ref.same (due.no (-6) ((if_neg ok0).trans ((if_neg (by omega)).trans (if_pos ?_)))) s14⟩
          · have lg : legal (more yd ⟨u == 1, ln, n⟩ p) (more yd ⟨u == 1, ln, n⟩ p).at_ = true := (more_legal o ck fit).mpr (hfree.mp hb6)
            have es : Sy66.step yd (.car u ln p n) = (more yd ⟨u == 1, ln, n⟩ p, Sy66.ok (yd.cars.length : Nat)) := (if_neg ok0).trans ((if_neg (by omega)).trans (if_neg (by rw [lg]; exact fun z => nomatch z)))
            rw [es] at due
            have hk4 := s14 _ _ hk
            have hl4 := s14 _ _ h1
            have hx4 := s34 _ _ hx2
            have ht4 := s14 _ _ ka.pl
            refine ⟨_, rfl, k, CK, dx, _, _, rfl, hk4, T.cK, T.k3, kg3 .., .inl ⟨rfl, _, SqL.of hl4⟩, _, rfl, l, _, _, rfl, rfl, hl4, sz' (by rw [List.length_map]; omega), ?_⟩
            have hk5 : upd H4 l (.lst (as.map V.ref ++ [.ref x])) k = _ := (upd_ne nkl).trans hk4
            have ht5 : upd H4 l (.lst (as.map V.ref ++ [.ref x])) t = _ := (upd_ne nlt.symm).trans ht4
            refine ⟨_, rfl, k, CK, dx, _, _, rfl, hk5, T.cK, T.k4, kg4 .., _, rfl, (by show 1 ≤ sizeLine; decide), fun p5 hp5 => ?_⟩
            have s5 := Same.upd (o := .tup [nI p]) hp5
            refine catA_go (s5 _ _ ht5) upd_same (sz (by show (nums yd.at_).length + 1 ≤ 10000; rw [nums_len]; omega)) fun H6 t2 s6 ht6 => ?_
            have s56 := s5.trans s6
            have hk6 := s56 _ _ hk5
            have nt2k : t2 ≠ k := ne_of ht6 hk6 fun z => nomatch z
            refine ⟨_, rfl, k, CK, dx, _, rfl, hk6, T.cK, T.k4, k6_len .., ?_⟩
            rw [kp4]
            have hl6 := s56 _ _ (show upd H4 l (.lst (as.map V.ref ++ [.ref x])) l = _ from upd_same)
            refine ⟨_, rfl, k, CK, dx, _, _, rfl, upd_same, T.cK, T.k3, kg3 .., l, _, rfl, .inl (SqL.of (by rw [upd_ne nkl.symm]; exact hl6)), _, _, rfl, rfl, (by show 1 ≤ sizeLine; decide), fun r hr8 => ?_⟩
            have s8 := Same.upd (o := .lst [V.int (((as.map V.ref ++ [V.ref x]).length : Int) - 1)]) hr8
            have keep : ∀ b w, b ≠ k → b ≠ l → H4 b = some w → upd H6 k (.ins CK dx (K6 (nI yd.rows) (nI yd.cols) (.ref l) (.ref t2) (.ref d) (nI yd.made))) b = some w := fun b w n1 n2 e => by
              rw [upd_ne n1]
              exact s56 _ _ (by rw [upd_ne n2]; exact e)
            refine due.ok _ r l t2 d (fun b w n1 n2 n3 e => s8 _ _ (keep b w n1 n2 (s14 _ _ e))) ⟨⟨dx, s8 _ _ upd_same⟩, ⟨as ++ [x], ?_, ?_, fun i a c ha hc => ?_⟩, s8 _ _ ?_, s8 _ _ (keep _ _ nkd.symm nld.symm (s14 _ _ ka.wt))⟩ (.inl rfl) (.inl rfl) ?_ ?_
            · rw [List.map_append]
              exact s8 _ _ (by rw [upd_ne nkl.symm]; exact hl6)
            · rw [List.length_append, List.length_append, h2]
              rfl
            · show CarAt C _ a yd c
              rcases Nat.lt_or_ge i as.length with hi' | hi'
              · rw [List.getElem?_append_left hi'] at ha
                have hc' : (yd.cars ++ [⟨u == 1, ln, n⟩])[i]? = some c := hc
                rw [List.getElem?_append_left (by omega)] at hc'
                obtain ⟨dxa, hca⟩ := h3 i a c ha hc'
                exact ⟨dxa, s8 _ _ (keep _ _ (ne_of hca hk fun z => nCK (by injection z with z _ _; exact z.symm)) (ne_of hca h1 fun z => nomatch z) (s14 _ _ hca))⟩
              · have hii : i = as.length := by
                  have := (List.getElem?_eq_some_iff.mp ha).1
                  rw [List.length_append] at this
                  have : i < as.length + 1 := this
                  omega
                subst hii
                have e1 : a = x := by
                  rw [List.getElem?_append_right (Nat.le_refl _), Nat.sub_self] at ha
                  exact (Option.some.inj ha).symm
                have e2 : c = ⟨u == 1, ln, n⟩ := by
                  have hc' : (yd.cars ++ [⟨u == 1, ln, n⟩])[as.length]? = some c := hc
                  rw [h2, List.getElem?_append_right (Nat.le_refl _), Nat.sub_self] at hc'
                  exact (Option.some.inj hc').symm
                subst e1
                subst e2
                exact ⟨dxc, s8 _ _ (keep _ _ (ne_of_none hk hx).symm (ne_of_none h1 hx).symm hx4)⟩
            · rw [upd_ne nt2k, ht6]
              show some (HO.tup (nums yd.at_ ++ [nI p])) = some (HO.tup (nums (yd.at_ ++ [p])))
              rw [nums_app]
              rfl
            · cases e9 : H r with
              | none => rfl
              | some w =>
                by_cases n1 : r = k
                · subst n1
                  rw [upd_same] at hr8
                  cases hr8
                · by_cases n2 : r = l
                  · subst n2
                    rw [upd_ne n1, hl6] at hr8
                    cases hr8
                  · rw [keep r w n1 n2 (s14 _ _ e9)] at hr8
                    cases hr8
            · rw [upd_same, List.length_append, List.length_map, h2]
              show _ = some (HO.lst [V.int ((yd.cars.length : Nat) : Int)])
              congr 4
              show V.int (((yd.cars.length + 1 : Nat) : Int) - 1) = V.int _
              congr 1
              omega
          · cases e : legal (more yd ⟨u == 1, ln, n⟩ p) (more yd ⟨u == 1, ln, n⟩ p).at_ with
            | false => rfl
            | true =>
              have := hfree.mpr ((more_legal o ck fit).mp e)
              rw [hb6] at this
              cases this
        · have := of_decide_eq_false hb5
          rw [List.length_map, h2] at this
          omega
      · rw [Bool.and_eq_false_iff, Bool.and_eq_false_iff, Bool.and_eq_false_iff] at hb
        simp only [decide_eq_false_iff_not] at hb
        omega
    · have := of_decide_eq_false hb
      omega
end
end Cy
end
section
set_option Elab.async false
set_option linter.all false
set_option maxRecDepth 100000
set_option maxHeartbeats 4000000
namespace Cy
open PySem PySem.Spec L2
open PyProof.Rows hiding St
open Sy66 (Car lineLong carOf legal moved moves nexts every arrangements from_ reach ends distance)
open C8 (Cal Met Mak pe_c pe_mk pe_mt pe_mt0)

/-- a call that refuses nothing -/
def spQ0 (C CK : Addr) (f : Sy66.Call) : Sp := fun vs H Q _ => ∃ (k l t d : Addr) (s : Yd), vs = [.ref k] ∧ KAt C CK H k l t d s ∧ StOk s ∧ Done C CK H k l d (Sy66.step s f).1 (Sy66Neutral.out (Sy66.step s f).2) Q
theorem Done.keep {C CK : Addr} {H H' : Hp} {k l t d p : Addr} {s : Yd} {out : List Int} {Q : VK} (h : Done C CK H k l d s out Q) (a : KAt C CK H k l t d s) (sm : Same H H') (hp : H p = none) (hp' : H' p = some (.lst (out.map V.int))) : Q (.ref p) H' :=
  h H' p l t d (Same.kp sm k l d) (a.same sm) (.inl rfl) (.inl rfl) hp hp'
theorem nums_ints (l : List Nat) : nums l = (l.map fun (m : Nat) => (m : Int)).map V.int := by
  unfold nums
  rw [List.map_map]
  rfl
theorem fits {s : Yd} (o : StOk s) : ∀ i, i < s.cars.length → (carOf s i).long ≤ lineLong s (carOf s i) := fun i hi => by
  have := o.val.leg.fit i (by rw [o.val.len]; exact hi)
  omega
section
variable {P : Program} {w : World} {K : PySem.W.Frag} {mg : Str → Option Value} {base : Heap} {C CK CR fR : Addr}

/-! ### reach -/
abbrev sRe : Stmt := inClass (top 28) 10
theorem scRe : FnScope ["self"] ["self"] (defScope sRe) := ⟨rfl, rfl, rfl, by decide +kernel, rfl, by decide +kernel, by decide +kernel⟩
theorem ok_Re (T : Tx K mg C CK CR) (cSF : Cal P w K mg base 7 "steps_from" (spSF C) []) (cAr : Cal P w K mg base 4 "arrangements" (spAr C) []) {f : Addr} {fd : FuncData} (F : Fun K "reach" "Keeper.reach" sRe f fd) : FnOk P w K mg base CX0 8 f fd ["self"] (spQ0 C CK .reach) := by
  refine F.ok scRe (fun vs H Q E h => ?_) (fun cdv A outer s H vs Q E hr h => ?_)
  · obtain ⟨k, l, t, d, s, rfl, _⟩ := h
    rfl
  · obtain ⟨k, l, t, d, yd, rfl, ka, o, due⟩ := h
    refine ⟨_, pss_one (ps_ret (pe_lst (pa_cons (pe_callB call_len_dT (by rfl) T.nLen PySem.boot_len (pa_cons (pe_c cSF hr (Nat.le_refl _) (by rfl) (pa_cons (pe_fld (pv 0) rfl) (pa_cons (pe_lst (pa_cons (pe_fld (pv 0) rfl) pa_nil)) pa_nil))) pa_nil))
      (pa_cons pe_int (pa_cons (pe_callB call_len_seq (by rfl) T.nLen PySem.boot_len (pa_cons (pe_c cAr hr (by decide) (by rfl) (pa_cons (pe_fld (pv 0) rfl) pa_nil)) pa_nil)) pa_nil))))), ?_⟩
    obtain ⟨dx, hk⟩ := ka.self
    refine ⟨_, rfl, k, CK, dx, _, _, rfl, hk, T.cK, T.k3, kg3 .., _, rfl, k, CK, dx, _, _, rfl, hk, T.cK, T.k4, kg4 .., (by show 1 ≤ sizeLine; decide), fun p hp => ?_⟩
    have sp := Same.upd (o := .lst [.ref t]) hp
    refine ⟨l, p, yd, [t], [yd.at_], rfl, ka.cars.same sp, upd_same, .cons (sp _ _ ka.pl) .nil, o.yard, by simp, fun x hx => by rw [List.mem_singleton.mp hx]; exact o.val, fun H1 e s1 ne he => ?_⟩
    have s01 := sp.trans s1
    refine ⟨e, _, rfl, he, _, rfl, k, CK, dx, _, _, rfl, s01 _ _ hk, T.cK, T.k3, kg3 .., l, yd, rfl, ka.cars.same s01, o.yard, fits o, fun H2 g ps s2 hg lps => ?_⟩
    refine ⟨g, _, rfl, .inl (SqL.of hg), (by show 3 ≤ sizeLine; decide), fun r hr3 => ?_⟩
    have s02 := s01.trans s2
    refine due.keep ka (s02.trans (Same.upd hr3)) (s02.free hr3) ?_
    rw [upd_same, List.length_map, lps, kvV_len, kvOf_len, ← reach_flat, ← o.val.len]
    rfl

/-! ### places_of -/
abbrev sPo : Stmt := inClass (top 28) 11
abbrev nPo : List Str := ["self", "number", "some", "places"]
theorem scPo : FnScope nPo ["self", "number"] (defScope sPo) := ⟨rfl, rfl, rfl, by decide +kernel, rfl, by decide +kernel, by decide +kernel⟩
theorem ok_Po (T : Tx K mg C CK CR) (cWc : MetX P w K mg base 4 CK "want_car" (spWc C CK CR)) (cSF : Cal P w K mg base 7 "steps_from" (spSF C) []) (cLi : Cal P w K mg base 1 "listed" spLi [])
    {f : Addr} {fd : FuncData} (F : Fun K "places_of" "Keeper.places_of" sPo f fd) : FnOk P w K mg base (L2.CX P w) 8 f fd ["self", "number"] (spK1 C CK CR .places) := by
  refine F.okX scPo (fun vs H Q E h => ?_) (fun cdv A outer s H vs Q E hr h => ?_)
  · obtain ⟨k, l, t, d, s, a, rfl, _⟩ := h
    rfl
  · obtain ⟨k, l, t, d, yd, n, rfl, ka, o, due⟩ := h
    refine ⟨_, pss_cons (ps_expr (pe_mx cWc hr (by decide) px (pv 0) (pa_cons (pv 1) pa_nil)))
      (pss_cons (ps_set (i := 2) scPo.nd rfl (Or.inl rfl) (pe_callB (cr_sortedSet rfl) (by rfl) T.nSorted (by decide +kernel) (pa_cons (pe_callTy (cr_setI rfl) (by rfl) T.nSet (by decide +kernel) (pa_cons
        (pe_lc (own := [("places", 3)]) (g := gName 3) (tt := tYes) rfl scPo.nd (pi_keys (pe_frz (pe_c cSF hr (Nat.le_refl _) (by rfl) (pa_cons (pe_fld (pv 0) rfl) (pa_cons (pe_lst (pa_cons (pe_fld (pv 0) rfl) pa_nil)) pa_nil))))) (blkOk_by (N := nPo) (sc := defScope sPo) (by decide +kernel))
          (fun _ _ _ _ _ => pg_name (i := 3) scPo.nd rfl (Or.inl rfl)) (fun _ _ _ _ _ => pts_nil) (fun _ _ _ _ _ => pe_ix (r := rIxT K) ix_tup (pv 3) (pv 1) (fun _ _ => rfl))) pa_nil)) pa_nil)))
      (pss_one (ps_ret (pe_op op_cat (pe_lst (pa_cons (pe_callB call_len_seq (by rfl) T.nLen PySem.boot_len (pa_cons (pv 2) pa_nil)) pa_nil)) (pe_c cLi hr (by decide) (by rfl) (pa_cons (pv 2) pa_nil)))))), ?_⟩
    obtain ⟨dx, hk⟩ := ka.self
    have lenP : yd.at_.length = yd.cars.length := o.val.len
    refine ⟨_, rfl, k, dx, _, rfl, hk, kNo _ _ _ _ _ _ (by decide +kernel) (by decide +kernel) (by decide +kernel) (by decide +kernel) (by decide +kernel) (by decide +kernel), _, rfl, k, l, t, d, yd, n, rfl, ka, fun hn => ?_, fun hn => due.no (-2) (?_)⟩
    · have es : Sy66.step yd (.places n) = (yd, ⟨((sortedOf ((reach yd).map fun (x : List Nat) => x.getD n 0)).length : Nat), [Sy66.ints (sortedOf ((reach yd).map fun (x : List Nat) => x.getD n 0))]⟩) := by
        unfold Sy66.step
        simp only
        rw [if_neg (by omega)]
        rfl
      rw [es] at due
      refine ⟨_, rfl, k, CK, dx, _, _, rfl, hk, T.cK, T.k3, kg3 .., _, rfl, k, CK, dx, _, _, rfl, hk, T.cK, T.k4, kg4 .., (by show 1 ≤ sizeLine; decide), fun p hp => ?_⟩
      have sp := Same.upd (o := .lst [.ref t]) hp
      refine ⟨l, p, yd, [t], [yd.at_], rfl, ka.cars.same sp, upd_same, .cons (sp _ _ ka.pl) .nil, o.yard, by simp, fun x hx => by rw [List.mem_singleton.mp hx]; exact o.val, fun H1 e s1 ne he => ?_⟩
      have s01 := sp.trans s1
      have e0 : H e = none := sp.free ne
      refine ⟨e, _, rfl, he, trivial, fun od => ?_⟩
      have sm1 : Same H (upd H1 e (.frz od (.dT (kvV (kvOf (from_ yd [yd.at_])))))) := same_put s01 e0
      refine ⟨e, od, rfl, .inr ⟨_, upd_same, fun D hD => ?_⟩⟩
      have lk : (kvV (kvOf (from_ yd [yd.at_]))).length = (from_ yd [yd.at_]).flatten.length := by rw [kvV_len, kvOf_len]
      have B := reach_bfs o
      have big := vals_le o.yard B.nd B.val
      have hD0 : H D = none := sm1.free hD
      refine lc_it walk_keysT (fun i H' => Same (upd H1 e (.frz od (.dT (kvV (kvOf (from_ yd [yd.at_])))))) H' ∧ H' D = some (.lst (nums (((from_ yd [yd.at_]).flatten.take i).map fun (x : List Nat) => x.getD n 0))))
        ⟨Same.upd hD, upd_same⟩ (fun i H' _ ⟨sm, _⟩ => sm _ _ upd_same) ?_ ?_
      · rintro i v H2 H3 hi ⟨sm, hl⟩ ⟨rfl, ky, u, q1, ek, rfl, hq1⟩
        obtain ⟨x, ex, rfl⟩ := tab_at ek
        rw [kx_nums] at hq1
        have xV := B.val x (List.mem_of_getElem? ex)
        refine ⟨rfl, ?_⟩
        refine yes_of ?_
        refine if_yes rfl ?_
        refine ⟨_, rfl, _, rfl, q1, _, (n : Int), _, rfl, rfl, SqT.of hq1, atI_nat (nums_at (by rw [xV.len]; exact hn)), ?_⟩
        refine ⟨_, hl, sz' (by rw [nums_len, List.length_map, List.length_take]; omega), same_put sm hD, ?_⟩
        rw [upd_same, take_snoc ex, List.map_append, nums_app]
        rfl
      · rintro H2 ⟨sm, hl⟩
        rw [lk, List.take_length, ← reach_flat] at hl
        have s2 := sm1.trans sm
        have en : nums ((reach yd).map fun (x : List Nat) => x.getD n 0) = (((reach yd).map fun (x : List Nat) => x.getD n 0).map fun (m : Nat) => (m : Int)).map V.int := nums_ints _
        rw [en] at hl
        refine ⟨D, _, rfl, SqL.of hl, ?_, fun p2 c hp2 hc => ?_⟩
        · rw [List.length_map, List.length_map, reach_flat]
          omega
        have pw := sortedOf_pw ((reach yd).map fun (x : List Nat) => x.getD n 0)
        have ndS : (sortedOf ((reach yd).map fun (x : List Nat) => x.getD n 0)).Nodup := pw.imp fun h => Nat.ne_of_lt h
        have hc1 := hc ((sortedOf ((reach yd).map fun (x : List Nat) => x.getD n 0)).map fun (m : Nat) => (m : Int)) (fun x => by
          constructor
          · intro h
            obtain ⟨y, hy, rfl⟩ := List.mem_map.mp h
            exact List.mem_map.mpr ⟨y, sortedOf_mem.mp hy, rfl⟩
          · intro h
            obtain ⟨y, hy, rfl⟩ := List.mem_map.mp h
            exact List.mem_map.mpr ⟨y, sortedOf_mem.mpr hy, rfl⟩) (List.pairwise_map.mpr (ndS.imp fun h e => h (by omega)))
        rw [List.length_map] at hc1
        have few : (sortedOf ((reach yd).map fun (x : List Nat) => x.getD n 0)).length ≤ 5 := nodup_le 5 _ ndS fun x hx => by
          obtain ⟨y, hy, rfl⟩ := List.mem_map.mp (sortedOf_mem.mp hx)
          rw [reach_flat] at hy
          have yV := B.val y hy
          have := yV.small o.yard (i := n) (by rw [yV.len]; exact hn)
          omega
        refine ⟨p2, _, c, rfl, upd_same, by omega, fun ns p3 h1 h2 h3 hp3 => ?_⟩
        have s3 := s2.trans ((Same.upd hp2).trans (Same.upd (o := .lst (ns.map V.int)) hp3))
        have ens := sorted_is h1 (fun x => by rw [h2 x, decide_eq_true_eq])
        have eV : ns.map V.int = nums (sortedOf ((reach yd).map fun (x : List Nat) => x.getD n 0)) := by
          rw [ens]
          exact (nums_ints _).symm
        rw [eV] at s3 ⊢
        refine ⟨_, rfl, p3, _, rfl, .inl (SqL.of upd_same), (by show 1 ≤ sizeLine; decide), fun p4 hp4 => ?_⟩
        have s4 := Same.upd (o := .lst [V.int ((nums (sortedOf ((reach yd).map fun (x : List Nat) => x.getD n 0))).length : Int)]) hp4
        refine ⟨_, rfl, p3, _, rfl, .inl (s4 _ _ upd_same), by rw [nums_len]; omega, fun H5 p5 s5 np5 hp5 => ?_⟩
        refine ⟨p4, p5, _, _, rfl, rfl, s5 _ _ upd_same, hp5, sz (by show 1 + (_ + 1) ≤ 10000; rw [nums_len]; omega), fun r hr6 => ?_⟩
        have s05 := s3.trans (s4.trans s5)
        refine due.keep ka rfl (s05.trans (Same.upd hr6)) (s05.free hr6) ?_
        rw [upd_same, nums_len]
        show _ = some (HO.lst (V.int ((_ : Nat) : Int) :: (List.flatMap (fun (w : List Int) => (w.length : Int) :: w) [Sy66.ints _]).map V.int))
        rw [List.flatMap_cons, List.flatMap_nil, List.append_nil, List.map_cons, intsV]
        unfold Sy66.ints
        rw [List.length_map]
        rfl
    · unfold Sy66.step
      simp only
      rw [if_pos hn]
end
end Cy
end
section
set_option Elab.async false
set_option linter.all false
set_option maxRecDepth 100000
set_option maxHeartbeats 4000000
namespace Cy
open PySem PySem.Spec L2
open PyProof.Rows hiding St
open Sy66 (Car lineLong carOf legal moved moves nexts every arrangements from_ reach ends distance before first)
open C8 (Cal Met Mak pe_c pe_mk pe_mt pe_mt0)

def toI (l : List Nat) : List Int := l.map fun (n : Nat) => (n : Int)
theorem toI_V (l : List Nat) : (toI l).map V.int = nums l := (nums_ints l).symm
theorem lex_before : ∀ a b : List Nat, a.length = b.length → HT.lexLt (toI a) (toI b) = before a b
  | [], [], _ => rfl
  | [], _ :: _, h => by simp at h
  | _ :: _, [], h => by simp at h
  | x :: a, y :: b, h => by
    have ih := lex_before a b (by simpa using h)
    show (if (x : Int) = (y : Int) then HT.lexLt (toI a) (toI b) else decide ((x : Int) < (y : Int))) = (decide (x < y) || (x == y && before a b))
    by_cases e : x = y
    · subst e
      rw [if_pos rfl, ih]
      simp
    · have e' : ¬ (x : Int) = (y : Int) := by omega
      rw [if_neg e']
      simp [e]
theorem min_ks {H : Hp} {qs : List Addr} {xs : List (List Nat)} (t : Tups H qs xs) : ∃ ks : List (Addr × List Int), ks.map (fun p => V.ref p.1) = qs.map V.ref ∧ ks.length = xs.length ∧ (∀ p ∈ ks, ∃ x ∈ xs, p.2 = toI x ∧ H p.1 = some (.tup (nums x))) ∧ ∀ x ∈ xs, ∃ p ∈ ks, p.2 = toI x := by
  induction t with
  | nil => exact ⟨[], rfl, rfl, (fun p h => nomatch h), (fun x h => nomatch h)⟩
  | @cons q x qs xs h t ih =>
    obtain ⟨ks, h1, h2, h3, h4⟩ := ih
    refine ⟨(q, toI x) :: ks, by rw [List.map_cons, List.map_cons, h1], by rw [List.length_cons, List.length_cons, h2], fun p hp => ?_, fun y hy => ?_⟩
    · rcases List.mem_cons.mp hp with e | hp
      · subst e
        exact ⟨x, List.mem_cons_self, rfl, h⟩
      · obtain ⟨y, hy, e⟩ := h3 p hp
        exact ⟨y, List.mem_cons_of_mem _ hy, e⟩
    · rcases List.mem_cons.mp hy with e | hy
      · subst e
        exact ⟨_, List.mem_cons_self, rfl⟩
      · obtain ⟨p, hp, e⟩ := h4 y hy
        exact ⟨p, List.mem_cons_of_mem _ hp, e⟩
theorem tab_at2 {L : List (List (List Nat))} {i : Nat} {k : List Key} {v : V} (h : (kvV (kvOf L))[i]? = some (k, v)) : ∃ y : List Nat × Nat, (kvOf L)[i]? = some y ∧ k = kx y.1 ∧ v = nI y.2 := by
  unfold kvV at h
  rw [List.getElem?_map] at h
  obtain ⟨y, h1, h2⟩ := Option.map_eq_some_iff.mp h
  exact ⟨y, h1, (Prod.mk.inj h2).1.symm, (Prod.mk.inj h2).2.symm⟩
theorem max_is {s : Yd} (o : StOk s) (hn : ends s ≠ []) {m : Int} (hm : m ∈ toI ((kvOf (ends s)).map (·.2))) (hle : ∀ y, y ∈ toI ((kvOf (ends s)).map (·.2)) → y ≤ m) : m = (((ends s).length - 1 : Nat) : Int) := by
  have pos : 0 < (ends s).length := List.length_pos_iff.mpr hn
  obtain ⟨j, hj, rfl⟩ := List.mem_map.mp hm
  obtain ⟨⟨x, j'⟩, hx, e⟩ := List.mem_map.mp hj
  have e : j' = j := e
  subst e
  obtain ⟨n, en, lv, e1, _⟩ := (kvFrom_mem (ends s) 0 x j').mp hx
  have h1 := (List.getElem?_eq_some_iff.mp e1).1
  have h2 : (ends s).length - 1 < (ends s).length := by omega
  have e2 := List.getElem?_eq_getElem h2
  have ne := (ends_bfs o).ne _ (List.getElem_mem h2)
  obtain ⟨y, hy⟩ := List.exists_mem_of_ne_nil _ ne
  have h3 : (y, (ends s).length - 1) ∈ kvOf (ends s) := (kvFrom_mem (ends s) 0 y _).mpr ⟨(ends s).length - 1, by omega, _, e2, hy⟩
  have h4 := hle _ (List.mem_map.mpr ⟨(ends s).length - 1, List.mem_map.mpr ⟨_, h3, rfl⟩, rfl⟩)
  omega
theorem last_is {s : Yd} (hn : ends s ≠ []) : ∃ lv, (ends s).getLast? = some lv ∧ ((kvOf (ends s)).filter fun p => decide (p.2 = (ends s).length - 1)).map (·.1) = lv := by
  have pos : 0 < (ends s).length := List.length_pos_iff.mpr hn
  have h2 : (ends s).length - 1 < (ends s).length := by omega
  refine ⟨(ends s)[(ends s).length - 1], ?_, ?_⟩
  · rw [List.getLast?_eq_getElem?]
    exact List.getElem?_eq_getElem h2
  · show ((kvFrom 0 (ends s)).filter fun p => decide (p.2 = (ends s).length - 1)).map (·.1) = _
    rw [kvFrom_last (ends s) 0 ((ends s).length - 1) (Nat.zero_le _), Nat.sub_zero, List.getElem?_eq_getElem h2, List.map_map]
    exact List.map_id'' (fun _ => rfl) _
section
variable {P : Program} {w : World} {K : PySem.W.Frag} {mg : Str → Option Value} {base : Heap} {C CK CR fR : Addr}

/-! ### hardest -/
abbrev sHa : Stmt := inClass (top 28) 12
abbrev nHa : List Str := ["self", "steps", "most", "some", "places"]
theorem scHa : FnScope nHa ["self"] (defScope sHa) := ⟨rfl, rfl, rfl, by decide +kernel, rfl, by decide +kernel, by decide +kernel⟩
theorem ok_Ha (T : Tx K mg C CK CR) (cSt : MetX P w K mg base 9 CK "steps" (spSt C CK CR)) (cLi : Cal P w K mg base 1 "listed" spLi []) {f : Addr} {fd : FuncData} (F : Fun K "hardest" "Keeper.hardest" sHa f fd) : FnOk P w K mg base (L2.CX P w) 10 f fd ["self"] (spK0 C CK CR .hardest) := by
  refine F.okX scHa (fun vs H Q E h => ?_) (fun cdv A outer s H vs Q E hr h => ?_)
  · obtain ⟨k, l, t, d, s, rfl, _⟩ := h
    rfl
  · obtain ⟨k, l, t, d, yd, rfl, ka, o, due⟩ := h
    refine ⟨_, pss_cons (ps_set (i := 1) scHa.nd rfl (Or.inr rfl) (pe_mx0 cSt hr (Nat.le_refl _) px (pv 0)))
      (pss_cons (ps_set (i := 2) scHa.nd rfl (Or.inr rfl) (pe_callB (cr_max rfl) (by rfl) T.nMax (by decide +kernel) (pa_cons (pe_listValsT rfl (pv 1) (by rfl) T.nList) pa_nil)))
      (pss_cons (ps_lock (ps_setLc (i := 3) (own := [("places", 4)]) (g := gName 4) rfl scHa.nd rfl rfl rfl (pi_keys (pv 1)) (blkOk_by (N := nHa) (sc := defScope sHa) (by decide +kernel))
        (fun _ _ _ _ _ => pg_name (i := 4) scHa.nd rfl (Or.inl rfl)) (fun _ _ _ _ _ => pts_one (pt_cmpR op_eq (pe_dget (hu_of hr) (pv 1) (pv 4) (fun _ _ => rfl)) (pv 2) (nomark _))) (fun _ _ _ _ _ => pv 4)))
      (pss_one (ps_ret (pe_op op_cat (pe_op op_cat (pe_lst (pa_cons (pv 2) pa_nil)) (pe_c cLi hr (by decide) (by rfl) (pa_cons (pe_callB (cr_minT rfl (hu_n hr 1 (by decide))) (by rfl) T.nMin (by decide +kernel) (pa_cons (pv 3) pa_nil)) pa_nil)))
        (pe_lst (pa_cons pe_int (pa_cons (pe_callB call_len_seq (by rfl) T.nLen PySem.boot_len (pa_cons (pv 3) pa_nil)) pa_nil)))))))), ?_⟩
    obtain ⟨dx, hk⟩ := ka.self
    refine ⟨_, rfl, k, dx, _, rfl, hk, kNo _ _ _ _ _ _ (by decide +kernel) (by decide +kernel) (by decide +kernel) (by decide +kernel) (by decide +kernel) (by decide +kernel), k, l, t, d, yd, rfl, ka, o, fun hn H1 e s1 ne he => ?_, fun hn => due.no (-6) ?_⟩
    · have B := ends_bfs o
      have big := vals_le o.yard B.nd B.val
      have pos : 0 < (ends yd).length := List.length_pos_iff.mpr hn
      have bigL := flatten_ge _ B.ne
      obtain ⟨lv, hlast, hfil⟩ := last_is hn
      have lvm : ∀ x ∈ lv, x ∈ (ends yd).flatten := fun x hx => List.mem_flatten.mpr ⟨lv, List.mem_of_getLast? hlast, hx⟩
      have lvl : lv.length ≤ 3125 := by
        rw [← hfil, List.length_map]
        refine Nat.le_trans (List.length_filter_le _ _) ?_
        rw [kvOf_len]
        exact big
      have es : Sy66.step yd .hardest = (yd, ⟨(((ends yd).length - 1 : Nat) : Int), [Sy66.ints (first lv), [(lv.length : Int)]]⟩) := by
        unfold Sy66.step
        simp only
        rw [hlast]
      rw [es] at due
      refine ⟨_, rfl, e, _, rfl, .inl he, fun p2 hp2 => ?_⟩
      have s2 := Same.upd (o := .lst ((kvV (kvOf (ends yd))).map (·.2))) hp2
      have ev : (kvV (kvOf (ends yd))).map (·.2) = (toI ((kvOf (ends yd)).map (·.2))).map V.int := by
        rw [toI_V]
        unfold kvV nums
        rw [List.map_map, List.map_map]
        rfl
      refine ⟨p2, toI ((kvOf (ends yd)).map (·.2)), rfl, SqL.of (by rw [upd_same, ev]), ?_, fun m hm hle => ?_⟩
      · unfold toI
        rw [List.length_map, List.length_map, kvOf_len]
        omega
      rw [max_is o hn hm hle]
      have he2 := s2 _ _ he
      have s02 := s1.trans s2
      refine ⟨e, _, he2, trivial, fun od => ?_⟩
      refine ⟨_, rfl, e, od, rfl, .inr ⟨_, upd_same, fun D hD => ?_⟩⟩
      have nDe : D ≠ e := fun z => by
        subst z
        rw [upd_same] at hD
        cases hD
      have lk : (kvV (kvOf (ends yd))).length = (kvOf (ends yd)).length := kvV_len _
      refine lc_it walk_keysT (fun i H' => Same (upd (upd H1 p2 (.lst ((kvV (kvOf (ends yd))).map (·.2)))) e (.frz od (.dT (kvV (kvOf (ends yd)))))) H' ∧ ∃ qs : List Addr, H' D = some (.lst (qs.map V.ref)) ∧ Tups H' qs ((((kvOf (ends yd)).take i).filter fun p => decide (p.2 = (ends yd).length - 1)).map (·.1)))
        ⟨Same.upd hD, [], upd_same, .nil⟩ (fun i H' _ ⟨sm, _⟩ => sm _ _ upd_same) ?_ ?_
      · rintro i v H3 H4 hi ⟨sm, qs, hqs, tq⟩ ⟨rfl, ky, u, q1, ek, rfl, hq1⟩
        obtain ⟨y, ey, rfl, rfl⟩ := tab_at2 ek
        rw [kx_nums] at hq1
        rw [lk, kvOf_len] at hi
        have lq := tq.len
        rw [List.length_map] at lq
        have l2 : (((kvOf (ends yd)).take i).filter fun p => decide (p.2 = (ends yd).length - 1)).length ≤ i := Nat.le_trans (List.length_filter_le _ _) (by rw [List.length_take]; omega)
        refine ⟨rfl, ?_⟩
        refine ⟨_, rfl, _, rfl, e, _, rfl, .inr ⟨_, kx y.1, q1, .inr ⟨od, sm _ _ upd_same⟩, rfl, by rw [kx_nums]; exact hq1, (kvV_get (by rw [kvFrom_keys]; exact B.nd) (List.mem_of_getElem? ey)).symm⟩, _, rfl, rfl, _, rfl, ?_⟩
        rw [filter_snoc _ ey]
        by_cases c : y.2 = (ends yd).length - 1
        · refine if_yes (decide_eq_true (by rw [c]; rfl)) ?_
          rw [if_pos (decide_eq_true c), List.map_append]
          refine ⟨_, rfl, qs.map V.ref, hqs, sz' (by rw [List.length_map]; omega), ?_⟩
          exact grow sm hD hqs tq (Same.refl _) (x := y.1) hq1
        · refine if_no (decide_eq_false fun z => c (nI_inj z)) ?_
          rw [if_neg (by simpa using c), List.append_nil]
          exact ⟨sm, qs, hqs, tq⟩
      · rintro H3 ⟨sm, qs, hqs, tq⟩
        rw [lk, List.take_length, hfil] at tq
        have s4 := lock_back he2 sm
        have hD4 : upd H3 e (.dT (kvV (kvOf (ends yd)))) D = some (.lst (qs.map V.ref)) := (upd_ne nDe).trans hqs
        have he3 := sm _ _ upd_same
        have tq4 : Tups (upd H3 e (.dT (kvV (kvOf (ends yd))))) qs lv := Paired.mapP tq fun q y z => by
          rw [upd_ne (tup_ne z he3 fun _ z => nomatch z)]
          exact z
        refine ⟨he3, ?_⟩
        generalize upd H3 e (.dT (kvV (kvOf (ends yd)))) = H4 at s4 hD4 tq4 ⊢
        have s04 := s02.trans s4
        obtain ⟨ks, k1, k2, k3, k4⟩ := min_ks tq4
        have lqs := tq4.len
        refine ⟨_, rfl, (by show 1 ≤ sizeLine; decide), fun p5 hp5 => ?_⟩
        have s5 := Same.upd (o := .lst [V.int (((ends yd).length - 1 : Nat) : Int)]) hp5
        refine ⟨_, rfl, D, ks, rfl, SqL.of (by rw [k1]; exact s5 _ _ hD4), fun p hp => ?_, ?_, fun p hp hmin => ?_⟩
        · obtain ⟨x, _, ex, hx⟩ := k3 p hp
          rw [ex, toI_V]
          exact SqT.of (s5 _ _ hx)
        · intro z
          rw [z] at k2
          have : lv = [] := List.eq_nil_of_length_eq_zero k2.symm
          exact B.ne lv (List.mem_of_getLast? hlast) this
        obtain ⟨x, hx, ex, hpx⟩ := k3 p hp
        have xl : ∀ y ∈ lv, y.length = yd.cars.length := fun y hy => (B.val y (lvm y hy)).len
        have efirst : first lv = x := first_is xl hx fun y hy => by
          obtain ⟨q, hq, eq⟩ := k4 y hy
          have := hmin q hq
          rw [eq, ex, lex_before y x ((xl y hy).trans (xl x hx).symm)] at this
          exact this
        have five := o.yard.few
        have lx := xl x hx
        refine ⟨p.1, nums x, rfl, .inr (s5 _ _ hpx), by rw [nums_len]; omega, fun H6 p6 s6 np6 hp6 => ?_⟩
        refine ⟨p5, p6, _, _, rfl, rfl, s6 _ _ upd_same, hp6, sz (by show 1 + (_ + 1) ≤ 10000; rw [nums_len]; omega), fun p7 hp7 => ?_⟩
        have s7 := Same.upd (o := .lst ([V.int (((ends yd).length - 1 : Nat) : Int)] ++ V.int ((nums x).length : Int) :: nums x)) hp7
        refine ⟨_, rfl, D, _, rfl, .inl (SqL.of (s7 _ _ (s6 _ _ (s5 _ _ hD4)))), (by show 2 ≤ sizeLine; decide), fun p8 hp8 => ?_⟩
        have s8 := Same.upd (o := .lst [V.int 1, V.int ((qs.map V.ref).length : Int)]) hp8
        refine ⟨p7, p8, _, _, rfl, rfl, s8 _ _ upd_same, upd_same, sz (by simp only [List.length_append, List.length_cons, List.length_nil, nums_len]; omega), fun r hr9 => ?_⟩
        have s08 := s04.trans (((s5.trans s6).trans s7).trans s8)
        refine due.keep ka rfl (s08.trans (Same.upd hr9)) (s08.free hr9) ?_
        rw [upd_same, List.length_map, lqs, nums_len]
        show _ = some (HO.lst (V.int ((_ : Nat) : Int) :: (List.flatMap (fun (w : List Int) => (w.length : Int) :: w) [Sy66.ints (first lv), [(lv.length : Int)]]).map V.int))
        rw [efirst, List.flatMap_cons, List.flatMap_cons, List.flatMap_nil, List.append_nil, List.map_append, List.map_cons, intsV]
        unfold Sy66.ints
        rw [List.length_map]
        rfl
    · unfold Sy66.step
      simp only
      rw [hn]
      rfl
end
end Cy
end
section
set_option Elab.async false
set_option linter.all false
set_option maxRecDepth 100000
set_option maxHeartbeats 4000000
namespace Cy
open PySem PySem.Spec L2
open PyProof.Rows hiding St
open Sy66 (Car lineLong carOf legal moved moves nexts every arrangements from_ reach ends distance before first)
open C8 (Cal Met Mak pe_c pe_mk pe_mt pe_mt0)

def carL (c : Car) : List Nat := [if c.upright = true then 1 else 0, c.line, c.long]
theorem outs : ∀ ls : List (List Nat), ((ls.map Sy66.ints).flatMap fun (w : List Int) => (w.length : Int) :: w).map V.int = ls.flatMap fun l => V.int ((nums l).length : Int) :: nums l
  | [] => rfl
  | l :: ls => by
    rw [List.map_cons, List.flatMap_cons, List.flatMap_cons, List.map_append, outs ls, List.map_cons, intsV, nums_len]
    unfold Sy66.ints
    rw [List.length_map]
theorem flat_len_of {xs : List (List Nat)} {n : Nat} (h : ∀ x ∈ xs, x.length = n) : xs.flatten.length = n * xs.length := by
  induction xs with
  | nil => rfl
  | cons x xs ih =>
    rw [List.flatten_cons, List.length_append, ih fun y hy => h y (List.mem_cons_of_mem _ hy), h x List.mem_cons_self, List.length_cons, Nat.mul_succ]
    omega
section
variable {P : Program} {w : World} {K : PySem.W.Frag} {mg : Str → Option Value} {base : Heap} {C CK CR fR : Addr}

/-! ### state -/
abbrev sSa : Stmt := inClass (top 28) 13
abbrev nSa : List Str := ["self", "cars", "wanted", "sides", "car", "number", "place"]
theorem scSa : FnScope nSa ["self"] (defScope sSa) := ⟨rfl, rfl, rfl, by decide +kernel, rfl, by decide +kernel, by decide +kernel⟩
theorem ok_Sa (T : Tx K mg C CK CR) (cFl : Cal P w K mg base 1 "flat" spFl []) (cLi : Cal P w K mg base 1 "listed" spLi []) {f : Addr} {fd : FuncData} (F : Fun K "state" "Keeper.state" sSa f fd) : FnOk P w K mg base CX0 2 f fd ["self"] (spQ0 C CK .state) := by
  refine F.ok scSa (fun vs H Q E h => ?_) (fun cdv A outer s H vs Q E hr h => ?_)
  · obtain ⟨k, l, t, d, s, rfl, _⟩ := h
    rfl
  · obtain ⟨k, l, t, d, yd, rfl, ka, o, due⟩ := h
    refine ⟨_, pss_cons (ps_set (i := 1) scSa.nd rfl (Or.inl rfl) (pe_c cFl hr (Nat.le_refl _) (by rfl) (pa_cons (pe_lc (own := [("car", 4)]) (g := gName 4) (tt := tYes) rfl scSa.nd (pi_list (pe_fld (pv 0) rfl)) (blkOk_by (N := nSa) (sc := defScope sSa) (by decide +kernel))
        (fun _ _ _ _ _ => pg_name (i := 4) scSa.nd rfl (Or.inl rfl)) (fun _ _ _ _ _ => pts_nil) (te := tTup (tCons (tCB (fun xs H Q => (∃ i, xs = [V.int i] ∧ Q (.int i) H) ∨ ∃ k, xs = [V.bl k] ∧ Q (.int (if k then 1 else 0)) H) (tCons (tFld K (tVar 4) "is_upright") tNil)) (tCons (tFld K (tVar 4) "its_line") (tCons (tFld K (tVar 4) "length") tNil))))
        (fun _ _ _ _ _ => pe_tup (pa_cons (pe_callTy call_int1 (by rfl) T.nInt (by decide +kernel) (pa_cons (pe_fld (pv 4) rfl) pa_nil)) (pa_cons (pe_fld (pv 4) rfl) (pa_cons (pe_fld (pv 4) rfl) pa_nil))))) pa_nil)))
      (pss_cons (ps_set (i := 2) scSa.nd rfl (Or.inl rfl) (pe_c cFl hr (Nat.le_refl _) (by rfl) (pa_cons (pe_lock (pe_lc (own := [("number", 5), ("place", 6)]) (g := gTup K 2 (gCons (gName 5) (gCons (gName 6) gNil))) (tt := tYes) rfl scSa.nd (pi_items (pe_fld (pv 0) rfl)) (blkOk_by (N := nSa) (sc := defScope sSa) (by decide +kernel))
        (fun _ _ _ _ _ => pg_tup rfl (pgs_cons (pg_name (i := 5) scSa.nd rfl (Or.inl rfl)) (pgs_cons (pg_name (i := 6) scSa.nd rfl (Or.inl rfl)) pgs_nil))) (fun _ _ _ _ _ => pts_nil) (fun _ _ _ _ _ => pe_tup (pa_cons (pv 5) (pa_cons (pv 6) pa_nil))))) pa_nil)))
      (pss_cons (ps_set (i := 3) scSa.nd rfl (Or.inl rfl) (pe_lst (pa_cons (pe_fld (pv 0) rfl) (pa_cons (pe_fld (pv 0) rfl) pa_nil))))
      (pss_one (ps_ret (pe_op op_cat (pe_op op_cat (pe_op op_cat (pe_op op_cat (pe_lst (pa_cons (pe_fld (pv 0) rfl) pa_nil)) (pe_c cLi hr (Nat.le_refl _) (by rfl) (pa_cons (pv 3) pa_nil))) (pe_c cLi hr (Nat.le_refl _) (by rfl) (pa_cons (pv 1) pa_nil)))
        (pe_c cLi hr (Nat.le_refl _) (by rfl) (pa_cons (pe_fld (pv 0) rfl) pa_nil))) (pe_c cLi hr (Nat.le_refl _) (by rfl) (pa_cons (pv 2) pa_nil))))))), ?_⟩
    obtain ⟨dx, hk⟩ := ka.self
    obtain ⟨nkl, nkt, nkd, nlt, nld, ntd⟩ := kHit ka
    have lenP : yd.at_.length = yd.cars.length := o.val.len
    have five := o.yard.few
    have wfew := wants_few o
    obtain ⟨as, h1, h2, h3⟩ := ka.cars
    refine ⟨_, rfl, k, CK, dx, _, _, rfl, hk, T.cK, T.k3, kg3 .., l, rfl, ⟨_, SqL.of h1⟩, fun D hD => ?_⟩
    refine lc_list (K := K) (a := l) (xs := as.map V.ref) (fun i H' => Same H H' ∧ ∃ qs : List Addr, H' D = some (.lst (qs.map V.ref)) ∧ Tups H' qs ((yd.cars.take i).map carL)) ⟨Same.upd hD, [], upd_same, .nil⟩ (fun i H' _ ⟨sm, _⟩ => SqL.of (sm _ _ h1)) ?_ ?_
    · rintro i v H1 hx ⟨sm, qs, hqs, tq⟩
      rw [List.getElem?_map] at hx
      obtain ⟨a, ha, rfl⟩ := Option.map_eq_some_iff.mp hx
      have hi : i < yd.cars.length := by
        rw [← h2]
        exact (List.getElem?_eq_some_iff.mp ha).1
      obtain ⟨dxa, hca⟩ := h3 i a _ ha (List.getElem?_eq_getElem hi)
      have hc1 := sm _ _ hca
      have lq := tq.len
      rw [List.length_map, List.length_take] at lq
      refine ⟨rfl, ?_⟩
      refine yes_of ?_
      refine if_yes rfl ?_
      refine ⟨_, rfl, a, C, dxa, _, _, rfl, hc1, T.cC, T.c1, carF_up .., .inr ⟨_, rfl, _, rfl, a, C, dxa, _, _, rfl, hc1, T.cC, T.c2, carF_line .., _, rfl, a, C, dxa, _, _, rfl, hc1, T.cC, T.c3, carF_long .., (by show 3 ≤ sizeLine; decide), fun p hp => ?_⟩⟩
      have ev : [V.int (if (yd.cars[i]).upright = true then 1 else 0), nI (yd.cars[i]).line, nI (yd.cars[i]).long] = nums (carL yd.cars[i]) := by
        unfold carL
        cases (yd.cars[i]).upright <;> rfl
      rw [ev]
      have sp := Same.upd (o := .tup (nums (carL yd.cars[i]))) hp
      refine ⟨qs.map V.ref, sp _ _ hqs, sz' (by rw [List.length_map]; omega), ?_⟩
      rw [take_snoc (List.getElem?_eq_getElem hi), List.map_append]
      exact grow sm hD hqs tq sp (x := carL yd.cars[i]) upd_same
    · rintro H1 ⟨s1, qs, hqs, tq⟩
      rw [List.length_map, h2, List.take_length] at tq
      have lc1 : ((yd.cars.map carL).flatten).length = 3 * yd.cars.length := by
        rw [flat_len_of (n := 3), List.length_map]
        intro x hx
        obtain ⟨c, _, rfl⟩ := List.mem_map.mp hx
        rfl
      refine ⟨D, qs, _, rfl, hqs, tq, by rw [lc1]; omega, fun H2 p2 s2 np2 hp2 => ?_⟩
      have s02 := s1.trans s2
      have hk2 := s02 _ _ hk
      have hd2 := s02 _ _ ka.wt
      refine ⟨d, _, hd2, trivial, fun od => ?_⟩
      refine ⟨_, rfl, k, CK, dx, _, _, rfl, (upd_ne nkd).trans hk2, T.cK, T.k5, kg5 .., d, od, _, rfl, upd_same, fun D2 hD2 => ?_⟩
      have nD2 : D2 ≠ d := fun z => by
        subst z
        rw [upd_same] at hD2
        cases hD2
      have lw : (wk yd.wants).length = yd.wants.length := wk_len _
      refine lc_it walk_items (fun i H' => Same (upd H2 d (.frz od (.dK (wk yd.wants)))) H' ∧ ∃ qs : List Addr, H' D2 = some (.lst (qs.map V.ref)) ∧ Tups H' qs ((yd.wants.take i).map pr)) ⟨Same.upd hD2, [], upd_same, .nil⟩ (fun i H' _ ⟨sm, _⟩ => sm _ _ upd_same) ?_ ?_
      · rintro i v H3 H4 hi ⟨sm, qs2, hqs2, tq2⟩ ⟨TT, x, y, rfl, hTT, rfl, ex, ey⟩
        rw [lw] at hi
        have e0 : (wk yd.wants)[i]? = some (Sum.inl ((yd.wants[i]).1 : Int), nI (yd.wants[i]).2) := by
          unfold wk
          rw [List.getElem?_map, List.getElem?_eq_getElem hi]
          rfl
        have ex : ((wk yd.wants)[i]?).map (fun kv => kV kv.1) = some x := ex
        have ey : ((wk yd.wants)[i]?).map Prod.snd = some y := ey
        rw [e0] at ex ey
        cases ex
        cases ey
        have sT := Same.upd (o := .tup [kV (Sum.inl ((yd.wants[i]).1 : Int)), nI (yd.wants[i]).2]) hTT
        have lq := tq2.len
        rw [List.length_map, List.length_take] at lq
        refine ⟨TT, _, rfl, SqT.of upd_same, rfl, _, _, rfl, _, _, rfl, rfl, rfl, ?_⟩
        refine yes_of ?_
        refine if_yes rfl ?_
        refine ⟨_, rfl, _, rfl, (by show 2 ≤ sizeLine; decide), fun p hp => ?_⟩
        have sp := sT.trans (Same.upd (o := .tup (nums (pr yd.wants[i]))) hp)
        refine ⟨qs2.map V.ref, sp _ _ hqs2, sz' (by rw [List.length_map]; omega), ?_⟩
        rw [take_snoc (List.getElem?_eq_getElem hi), List.map_append]
        exact grow sm hD2 hqs2 tq2 sp (x := pr yd.wants[i]) upd_same
      · rintro H3 ⟨sm, qs2, hqs2, tq2⟩
        rw [lw, List.take_length] at tq2
        have s3 := lock_back hd2 sm
        have hd3 := sm _ _ upd_same
        have hD3 : upd H3 d (.dK (wk yd.wants)) D2 = some (.lst (qs2.map V.ref)) := (upd_ne nD2).trans hqs2
        have tq3 : Tups (upd H3 d (.dK (wk yd.wants))) qs2 (yd.wants.map pr) := Paired.mapP tq2 fun q y z => by
          rw [upd_ne (tup_ne z hd3 fun _ z => nomatch z)]
          exact z
        refine ⟨hd3, ?_⟩
        generalize upd H3 d (.dK (wk yd.wants)) = H4 at s3 hD3 tq3 ⊢
        have s04 := s02.trans s3
        have lw2 : ((yd.wants.map pr).flatten).length = 2 * yd.wants.length := pr_len _
        refine ⟨D2, qs2, _, rfl, hD3, tq3, by rw [lw2]; omega, fun H5 p5 s5 np5 hp5 => ?_⟩
        have s05 := s04.trans s5
        have hk5 := s05 _ _ hk
        have hc5 := s5 _ _ (s3 _ _ hp2)
        refine ⟨_, rfl, k, CK, dx, _, _, rfl, hk5, T.cK, T.k1, kg1 .., _, rfl, k, CK, dx, _, _, rfl, hk5, T.cK, T.k2, kg2 .., (by show 2 ≤ sizeLine; decide), fun p6 hp6 => ?_⟩
        have s6 := Same.upd (o := .lst (nums [yd.rows, yd.cols])) hp6
        have s06 := s05.trans s6
        refine ⟨_, rfl, k, CK, dx, _, _, rfl, s6 _ _ hk5, T.cK, T.k6, kg6 .., (by show 1 ≤ sizeLine; decide), fun p7 hp7 => ?_⟩
        have s7 := Same.upd (o := .lst [nI yd.made]) hp7
        refine ⟨_, rfl, p6, nums [yd.rows, yd.cols], rfl, .inl (s7 _ _ upd_same), (by show 2 ≤ 9000; decide), fun H8 p8 s8 np8 hp8 => ?_⟩
        refine ⟨p7, p8, _, _, rfl, rfl, s8 _ _ upd_same, hp8, sz (by show 1 + 3 ≤ 10000; decide), fun p9 hp9 => ?_⟩
        have s9 := Same.upd (o := .lst ([nI yd.made] ++ V.int ((nums [yd.rows, yd.cols]).length : Int) :: nums [yd.rows, yd.cols])) hp9
        have s69 := (s7.trans s8).trans s9
        refine ⟨_, rfl, p2, nums (yd.cars.map carL).flatten, rfl, .inl (s69 _ _ (s6 _ _ hc5)), by rw [nums_len, lc1]; omega, fun H10 p10 s10 np10 hp10 => ?_⟩
        refine ⟨p9, p10, _, _, rfl, rfl, s10 _ _ upd_same, hp10, sz (by simp only [List.length_append, List.length_cons, List.length_nil, nums_len, lc1]; omega), fun p11 hp11 => ?_⟩
        have s11 := Same.upd (o := .lst (([nI yd.made] ++ V.int ((nums [yd.rows, yd.cols]).length : Int) :: nums [yd.rows, yd.cols]) ++ V.int ((nums (yd.cars.map carL).flatten).length : Int) :: nums (yd.cars.map carL).flatten)) hp11
        have s6b := (s69.trans s10).trans s11
        refine ⟨_, rfl, k, CK, dx, _, _, rfl, s6b _ _ (s6 _ _ hk5), T.cK, T.k4, kg4 .., t, nums yd.at_, rfl, .inr (s6b _ _ (s06 _ _ ka.pl)), by rw [nums_len]; omega, fun H12 p12 s12 np12 hp12 => ?_⟩
        refine ⟨p11, p12, _, _, rfl, rfl, s12 _ _ upd_same, hp12, sz (by simp only [List.length_append, List.length_cons, List.length_nil, nums_len, lc1]; omega), fun p13 hp13 => ?_⟩
        have s13 := Same.upd (o := .lst ((([nI yd.made] ++ V.int ((nums [yd.rows, yd.cols]).length : Int) :: nums [yd.rows, yd.cols]) ++ V.int ((nums (yd.cars.map carL).flatten).length : Int) :: nums (yd.cars.map carL).flatten) ++ V.int ((nums yd.at_).length : Int) :: nums yd.at_)) hp13
        have s6c := (s6b.trans s12).trans s13
        refine ⟨_, rfl, p5, nums (yd.wants.map pr).flatten, rfl, .inl (s6c _ _ (s6 _ _ hp5)), by rw [nums_len, lw2]; omega, fun H14 p14 s14 np14 hp14 => ?_⟩
        refine ⟨p13, p14, _, _, rfl, rfl, s14 _ _ upd_same, hp14, sz (by simp only [List.length_append, List.length_cons, List.length_nil, nums_len, lc1, lw2]; omega), fun r hr15 => ?_⟩
        have s0e := s06.trans (s6c.trans s14)
        refine due.keep ka (s0e.trans (Same.upd hr15)) (s0e.free hr15) ?_
        rw [upd_same]
        have eo := outs [[yd.rows, yd.cols], (yd.cars.map carL).flatten, yd.at_, (yd.wants.map pr).flatten]
        show _ = some (HO.lst (nI yd.made :: (([[yd.rows, yd.cols], (yd.cars.map carL).flatten, yd.at_, (yd.wants.map pr).flatten].map Sy66.ints).flatMap fun (w : List Int) => (w.length : Int) :: w).map V.int))
        rw [eo]
        simp only [List.flatMap_cons, List.flatMap_nil, List.append_nil, List.append_assoc, List.cons_append, List.nil_append]
end
end Cy
end
section
set_option Elab.async false
set_option linter.all false
set_option maxRecDepth 100000
set_option maxHeartbeats 4000000
namespace Cy
open PySem PySem.Spec L2
open PyProof.Rows hiding St
open Sy66 (Car lineLong carOf legal moved moves nexts every arrangements from_ reach ends distance before first)
open C8 (Cal Met Mak pe_c pe_mk pe_mt pe_mt0)

theorem callC_low {c : Nat} {xs : List Nat} {x : Sy66.Call} (h : callC c xs = some x) : c ≤ 10 := by
  have h1 := (List.getElem?_eq_some_iff.mp (callC_num h)).1
  have h2 : NUMS.length = 11 := rfl
  omega
/-- what is due of a call by its number and its numbers -/
def spCall (C CK CR : Addr) (lo hi : Nat) : Sp := fun vs H Q E => ∃ (k l t d : Addr) (s : Yd) (c : Nat) (a : Addr) (xs : List Nat) (x : Sy66.Call), vs = [.ref k, nI c, .ref a] ∧ H a = some (.lst (nums xs)) ∧ KAt C CK H k l t d s ∧ StOk s ∧ callC c xs = some x ∧ lo ≤ c ∧ c ≤ hi ∧ Due C CK CR H k l d s (Sy66.step s x) Q E
def spAn (C CK : Addr) : Sp := fun vs H Q _ => ∃ (k l t d : Addr) (s : Yd) (c : Nat) (a : Addr) (xs : List Nat) (x : Sy66.Call), vs = [.ref k, nI c, .ref a] ∧ H a = some (.lst (nums xs)) ∧ KAt C CK H k l t d s ∧ StOk s ∧ callC c xs = some x ∧ Done C CK H k l d (Sy66.step s x).1 (Sy66Neutral.out (Sy66.step s x).2) Q
theorem dEq (a : Nat) : decide (nI a = V.int (a : Int)) = true := decide_eq_true rfl
theorem dNe {a b : Nat} (h : a ≠ b) : decide (nI a = V.int (b : Int)) = false := decide_eq_false fun z => h (nI_inj z)
section
variable {P : Program} {w : World} {K : PySem.W.Frag} {mg : Str → Option Value} {base : Heap} {C CK CR fR : Addr}

/-! ### of_cars -/
abbrev sOc : Stmt := top 31
theorem scOc : FnScope ["keeper", "call", "n"] ["keeper", "call", "n"] (defScope sOc) := ⟨rfl, rfl, rfl, by decide +kernel, rfl, by decide +kernel, by decide +kernel⟩
theorem ok_Oc (cBe : MetX P w K mg base 4 CK "begins" (spK2 C CK CR .begins)) (cPc : MetX P w K mg base 5 CK "put_car" (spK4 C CK CR .car)) (cMv : MetX P w K mg base 5 CK "move" (spK2 C CK CR .move)) (cWi : MetX P w K mg base 5 CK "wish" (spK2 C CK CR .want)) (cFe : MetX P w K mg base 5 CK "free" (spK1 C CK CR .free))
    {f : Addr} {fd : FuncData} (F : Fun K "of_cars" "of_cars" sOc f fd) : FnOk P w K mg base (L2.CX P w) 6 f fd ["keeper", "call", "n"] (spCall C CK CR 0 4) := by
  refine F.okX scOc (fun vs H Q E h => ?_) (fun cdv A outer s H vs Q E hr h => ?_)
  · obtain ⟨k, l, t, d, s, c, a, xs, x, rfl, _⟩ := h
    rfl
  · obtain ⟨k, l, t, d, yd, c, a, xs, x, rfl, ha, ka, o, hx, lo, hi, due⟩ := h
    refine ⟨_, pss_cons (ps_if (pt_cmpR op_eq (pv 1) pe_int (nomark _)) (pss_one (ps_ret (pe_mx cBe hr (by decide) px (pv 0) (pa_cons (pe_ix ix_list (pv 2) pe_int (fun _ _ => rfl)) (pa_cons (pe_ix ix_list (pv 2) pe_int (fun _ _ => rfl)) pa_nil))))) pss_nil)
      (pss_cons (ps_if (pt_cmpR op_eq (pv 1) pe_int (nomark _)) (pss_one (ps_ret (pe_mx cPc hr (by decide) px (pv 0) (pa_cons (pe_ix ix_list (pv 2) pe_int (fun _ _ => rfl)) (pa_cons (pe_ix ix_list (pv 2) pe_int (fun _ _ => rfl)) (pa_cons (pe_ix ix_list (pv 2) pe_int (fun _ _ => rfl)) (pa_cons (pe_ix ix_list (pv 2) pe_int (fun _ _ => rfl)) pa_nil))))))) pss_nil)
      (pss_cons (ps_if (pt_cmpR op_eq (pv 1) pe_int (nomark _)) (pss_one (ps_ret (pe_mx cMv hr (by decide) px (pv 0) (pa_cons (pe_ix ix_list (pv 2) pe_int (fun _ _ => rfl)) (pa_cons (pe_ix ix_list (pv 2) pe_int (fun _ _ => rfl)) pa_nil))))) pss_nil)
      (pss_one (ps_ret (pe_ifExp (pt_cmpR op_eq (pv 1) pe_int (nomark _)) (pe_mx cWi hr (by decide) px (pv 0) (pa_cons (pe_ix ix_list (pv 2) pe_int (fun _ _ => rfl)) (pa_cons (pe_ix ix_list (pv 2) pe_int (fun _ _ => rfl)) pa_nil))) (pe_mx cFe hr (by decide) px (pv 0) (pa_cons (pe_ix ix_list (pv 2) pe_int (fun _ _ => rfl)) pa_nil))))))), ?_⟩
    obtain ⟨dx, hk⟩ := ka.self
    have no : ∀ {m : Str}, (m == ("many_rows" : Str)) = false → (m == ("many_columns" : Str)) = false → (m == ("cars" : Str)) = false → (m == ("places" : Str)) = false → (m == ("wanted" : Str)) = false → (m == ("made" : Str)) = false → (kF yd l t d).lookup m = none := fun h1 h2 h3 h4 h5 h6 => kNo _ _ _ _ _ _ h1 h2 h3 h4 h5 h6
    have hl := SqL.of (K := K) ha
    unfold callC at hx
    split at hx <;> first | (exfalso; omega) | (injection hx with hx; subst hx) | cases hx
    · rename_i n0 n1
      refine ⟨_, rfl, rfl, _, rfl, if_yes (dEq 0) ?_⟩
      exact ⟨_, rfl, k, dx, _, rfl, hk, no (by decide +kernel) (by decide +kernel) (by decide +kernel) (by decide +kernel) (by decide +kernel) (by decide +kernel), _, rfl, a, _, ((0 : Nat) : Int), _, rfl, rfl, hl, atI_nat rfl, _, rfl, a, _, ((1 : Nat) : Int), _, rfl, rfl, hl, atI_nat rfl, k, l, t, d, yd, n0, n1, rfl, ka, o, due⟩
    · rename_i n0 n1 n2 n3
      refine ⟨_, rfl, rfl, _, rfl, if_no (dNe (b := 0) (by decide)) ?_⟩
      refine ⟨_, rfl, rfl, _, rfl, if_yes (dEq 1) ?_⟩
      exact ⟨_, rfl, k, dx, _, rfl, hk, no (by decide +kernel) (by decide +kernel) (by decide +kernel) (by decide +kernel) (by decide +kernel) (by decide +kernel), _, rfl, a, _, ((0 : Nat) : Int), _, rfl, rfl, hl, atI_nat rfl, _, rfl, a, _, ((1 : Nat) : Int), _, rfl, rfl, hl, atI_nat rfl, _, rfl, a, _, ((2 : Nat) : Int), _, rfl, rfl, hl, atI_nat rfl, _, rfl, a, _, ((3 : Nat) : Int), _, rfl, rfl, hl, atI_nat rfl, k, l, t, d, yd, n0, n1, n2, n3, rfl, ka, o, due⟩
    · rename_i n0 n1
      refine ⟨_, rfl, rfl, _, rfl, if_no (dNe (b := 0) (by decide)) ?_⟩
      refine ⟨_, rfl, rfl, _, rfl, if_no (dNe (b := 1) (by decide)) ?_⟩
      refine ⟨_, rfl, rfl, _, rfl, if_yes (dEq 2) ?_⟩
      exact ⟨_, rfl, k, dx, _, rfl, hk, no (by decide +kernel) (by decide +kernel) (by decide +kernel) (by decide +kernel) (by decide +kernel) (by decide +kernel), _, rfl, a, _, ((0 : Nat) : Int), _, rfl, rfl, hl, atI_nat rfl, _, rfl, a, _, ((1 : Nat) : Int), _, rfl, rfl, hl, atI_nat rfl, k, l, t, d, yd, n0, n1, rfl, ka, o, due⟩
    · rename_i n0 n1
      refine ⟨_, rfl, rfl, _, rfl, if_no (dNe (b := 0) (by decide)) ?_⟩
      refine ⟨_, rfl, rfl, _, rfl, if_no (dNe (b := 1) (by decide)) ?_⟩
      refine ⟨_, rfl, rfl, _, rfl, if_no (dNe (b := 2) (by decide)) ?_⟩
      refine ⟨_, rfl, rfl, _, rfl, if_yes (dEq 3) ?_⟩
      exact ⟨_, rfl, k, dx, _, rfl, hk, no (by decide +kernel) (by decide +kernel) (by decide +kernel) (by decide +kernel) (by decide +kernel) (by decide +kernel), _, rfl, a, _, ((0 : Nat) : Int), _, rfl, rfl, hl, atI_nat rfl, _, rfl, a, _, ((1 : Nat) : Int), _, rfl, rfl, hl, atI_nat rfl, k, l, t, d, yd, n0, n1, rfl, ka, o, due⟩
    · rename_i n0
      refine ⟨_, rfl, rfl, _, rfl, if_no (dNe (b := 0) (by decide)) ?_⟩
      refine ⟨_, rfl, rfl, _, rfl, if_no (dNe (b := 1) (by decide)) ?_⟩
      refine ⟨_, rfl, rfl, _, rfl, if_no (dNe (b := 2) (by decide)) ?_⟩
      refine ⟨_, rfl, rfl, _, rfl, if_no (dNe (b := 3) (by decide)) ?_⟩
      exact ⟨_, rfl, k, dx, _, rfl, hk, no (by decide +kernel) (by decide +kernel) (by decide +kernel) (by decide +kernel) (by decide +kernel) (by decide +kernel), _, rfl, a, _, ((0 : Nat) : Int), _, rfl, rfl, hl, atI_nat rfl, k, l, t, d, yd, n0, rfl, ka, o, due⟩

/-! ### of_plans -/
abbrev sOp : Stmt := top 32
theorem scOp : FnScope ["keeper", "call", "n"] ["keeper", "call", "n"] (defScope sOp) := ⟨rfl, rfl, rfl, by decide +kernel, rfl, by decide +kernel, by decide +kernel⟩
theorem ok_Op (cFw : MetX P w K mg base 10 CK "fewest" (spK0 C CK CR .fewest)) (cPn : MetX P w K mg base 10 CK "plan" (spK0 C CK CR .plan)) (cRe : Met P w K mg base 8 CK "reach" (spQ0 C CK .reach) []) (cPo : MetX P w K mg base 8 CK "places_of" (spK1 C CK CR .places)) (cHa : MetX P w K mg base 10 CK "hardest" (spK0 C CK CR .hardest)) (cSa : Met P w K mg base 2 CK "state" (spQ0 C CK .state) [])
    {f : Addr} {fd : FuncData} (F : Fun K "of_plans" "of_plans" sOp f fd) : FnOk P w K mg base (L2.CX P w) 11 f fd ["keeper", "call", "n"] (spCall C CK CR 5 10) := by
  refine F.okX scOp (fun vs H Q E h => ?_) (fun cdv A outer s H vs Q E hr h => ?_)
  · obtain ⟨k, l, t, d, s, c, a, xs, x, rfl, _⟩ := h
    rfl
  · obtain ⟨k, l, t, d, yd, c, a, xs, x, rfl, ha, ka, o, hx, lo, hi, due⟩ := h
    refine ⟨_, pss_cons (ps_if (pt_cmpR op_eq (pv 1) pe_int (nomark _)) (pss_one (ps_ret (pe_mx0 cFw hr (by decide) px (pv 0)))) pss_nil)
      (pss_cons (ps_if (pt_cmpR op_eq (pv 1) pe_int (nomark _)) (pss_one (ps_ret (pe_mx0 cPn hr (by decide) px (pv 0)))) pss_nil)
      (pss_cons (ps_if (pt_cmpR op_eq (pv 1) pe_int (nomark _)) (pss_one (ps_ret (pe_mt0 cRe hr (by decide) (pv 0)))) pss_nil)
      (pss_cons (ps_if (pt_cmpR op_eq (pv 1) pe_int (nomark _)) (pss_one (ps_ret (pe_mx cPo hr (by decide) px (pv 0) (pa_cons (pe_ix ix_list (pv 2) pe_int (fun _ _ => rfl)) pa_nil)))) pss_nil)
      (pss_one (ps_ret (pe_ifExp (pt_cmpR op_eq (pv 1) pe_int (nomark _)) (pe_mx0 cHa hr (by decide) px (pv 0)) (pe_mt0 cSa hr (by decide) (pv 0)))))))), ?_⟩
    obtain ⟨dx, hk⟩ := ka.self
    have no : ∀ {m : Str}, (m == ("many_rows" : Str)) = false → (m == ("many_columns" : Str)) = false → (m == ("cars" : Str)) = false → (m == ("places" : Str)) = false → (m == ("wanted" : Str)) = false → (m == ("made" : Str)) = false → (kF yd l t d).lookup m = none := fun h1 h2 h3 h4 h5 h6 => kNo _ _ _ _ _ _ h1 h2 h3 h4 h5 h6
    have hl := SqL.of (K := K) ha
    unfold callC at hx
    split at hx <;> first | (exfalso; omega) | (injection hx with hx; subst hx) | cases hx
    · refine ⟨_, rfl, rfl, _, rfl, if_yes (dEq 5) ?_⟩
      exact ⟨_, rfl, k, dx, _, rfl, hk, no (by decide +kernel) (by decide +kernel) (by decide +kernel) (by decide +kernel) (by decide +kernel) (by decide +kernel), k, l, t, d, yd, rfl, ka, o, due⟩
    · refine ⟨_, rfl, rfl, _, rfl, if_no (dNe (b := 5) (by decide)) ?_⟩
      refine ⟨_, rfl, rfl, _, rfl, if_yes (dEq 6) ?_⟩
      exact ⟨_, rfl, k, dx, _, rfl, hk, no (by decide +kernel) (by decide +kernel) (by decide +kernel) (by decide +kernel) (by decide +kernel) (by decide +kernel), k, l, t, d, yd, rfl, ka, o, due⟩
    · refine ⟨_, rfl, rfl, _, rfl, if_no (dNe (b := 5) (by decide)) ?_⟩
      refine ⟨_, rfl, rfl, _, rfl, if_no (dNe (b := 6) (by decide)) ?_⟩
      refine ⟨_, rfl, rfl, _, rfl, if_yes (dEq 7) ?_⟩
      exact ⟨_, rfl, k, dx, _, rfl, hk, no (by decide +kernel) (by decide +kernel) (by decide +kernel) (by decide +kernel) (by decide +kernel) (by decide +kernel), k, l, t, d, yd, rfl, ka, o, due.ok⟩
    · rename_i n0
      refine ⟨_, rfl, rfl, _, rfl, if_no (dNe (b := 5) (by decide)) ?_⟩
      refine ⟨_, rfl, rfl, _, rfl, if_no (dNe (b := 6) (by decide)) ?_⟩
      refine ⟨_, rfl, rfl, _, rfl, if_no (dNe (b := 7) (by decide)) ?_⟩
      refine ⟨_, rfl, rfl, _, rfl, if_yes (dEq 8) ?_⟩
      exact ⟨_, rfl, k, dx, _, rfl, hk, no (by decide +kernel) (by decide +kernel) (by decide +kernel) (by decide +kernel) (by decide +kernel) (by decide +kernel), _, rfl, a, _, ((0 : Nat) : Int), _, rfl, rfl, hl, atI_nat rfl, k, l, t, d, yd, n0, rfl, ka, o, due⟩
    · refine ⟨_, rfl, rfl, _, rfl, if_no (dNe (b := 5) (by decide)) ?_⟩
      refine ⟨_, rfl, rfl, _, rfl, if_no (dNe (b := 6) (by decide)) ?_⟩
      refine ⟨_, rfl, rfl, _, rfl, if_no (dNe (b := 7) (by decide)) ?_⟩
      refine ⟨_, rfl, rfl, _, rfl, if_no (dNe (b := 8) (by decide)) ?_⟩
      refine ⟨_, rfl, rfl, _, rfl, if_yes (dEq 9) ?_⟩
      exact ⟨_, rfl, k, dx, _, rfl, hk, no (by decide +kernel) (by decide +kernel) (by decide +kernel) (by decide +kernel) (by decide +kernel) (by decide +kernel), k, l, t, d, yd, rfl, ka, o, due⟩
    · refine ⟨_, rfl, rfl, _, rfl, if_no (dNe (b := 5) (by decide)) ?_⟩
      refine ⟨_, rfl, rfl, _, rfl, if_no (dNe (b := 6) (by decide)) ?_⟩
      refine ⟨_, rfl, rfl, _, rfl, if_no (dNe (b := 7) (by decide)) ?_⟩
      refine ⟨_, rfl, rfl, _, rfl, if_no (dNe (b := 8) (by decide)) ?_⟩
      refine ⟨_, rfl, rfl, _, rfl, if_no (dNe (b := 9) (by decide)) ?_⟩
      exact ⟨_, rfl, k, dx, _, rfl, hk, no (by decide +kernel) (by decide +kernel) (by decide +kernel) (by decide +kernel) (by decide +kernel) (by decide +kernel), k, l, t, d, yd, rfl, ka, o, due.ok⟩
end
end Cy
end
section
set_option Elab.async false
set_option linter.all false
set_option maxRecDepth 100000
set_option maxHeartbeats 4000000
namespace Cy
open PySem PySem.Spec L2
open PyProof.Rows hiding St
open Sy66 (Car lineLong carOf legal moved moves nexts every arrangements from_ reach ends distance before first)
open C8 (Cal Met Mak pe_c pe_mk pe_mt pe_mt0)
section
variable {P : Program} {w : World} {K : PySem.W.Frag} {mg : Str → Option Value} {base : Heap} {C CK CR fR : Addr}

/-! ### answer -/
abbrev sAn : Stmt := top 33
theorem scAn : FnScope ["keeper", "call", "n", "e"] ["keeper", "call", "n"] (defScope sAn) := ⟨rfl, rfl, rfl, by decide +kernel, rfl, by decide +kernel, by decide +kernel⟩
def t_suite (CR : Addr) : Addr → Value → Option Addr → TS := fun a cls d => tRet (tLst (tCons (tXf a cls d CR "code" (tVar 3)) tNil))
def t_body (C CK CR : Addr) : WX → TS := fun W => tRet (tIf (tTest (tOp (rI0 fun i j => .bl (decide (i < j))) (tVar 1) (tC (.int 5)))) (tCallS (spCall C CK CR 0 4) (WE W) (tCons (tVar 0) (tCons (tVar 1) (tCons (tVar 2) tNil)))) (tCallS (spCall C CK CR 5 10) (WE W) (tCons (tVar 0) (tCons (tVar 1) (tCons (tVar 2) tNil)))))
theorem ok_An (T : Tx K mg C CK CR) (R : RTx K CR fR) (cOc : CalX P w K mg base 6 "of_cars" (spCall C CK CR 0 4)) (cOp : CalX P w K mg base 11 "of_plans" (spCall C CK CR 5 10))
    {f : Addr} {fd : FuncData} (F : Fun K "answer" "answer" sAn f fd) : FnOk P w K mg base CX0 12 f fd ["keeper", "call", "n"] (spAn C CK) := by
  obtain ⟨f1, fd1, ps1, G1, g1, k1, b1⟩ := cOc.ex
  obtain ⟨f2, fd2, ps2, G2, g2, k2, b2⟩ := cOp.ex
  refine F.ok scAn (fun vs H Q E h => ?_) (fun cdv A outer s H vs Q E hr h => ?_)
  · obtain ⟨k, l, t, d, s, c, a, xs, x, rfl, _⟩ := h
    rfl
  · obtain ⟨k, l, t, d, yd, c, a, xs, x, rfl, ha, ka, o, hx, due⟩ := h
    have hr1 : Room 6 _ := hr.mono (by decide)
    refine ⟨_, pss_one (ps_try_as (i := 3) (tb := t_body C CK CR) (ts := t_suite CR) (Wout := fun _ _ _ _ => False) rfl rfl scAn.nd rfl rfl ⟨rfl, by decide, Or.inl T.gR⟩ takes0
      (fun W pn xe tk _ => pss_one (ps_ret (pe_ifExp (pt_cmpR op_lt (pv 1) pe_int (nomark _)) (by exact (pe_callS G1 hr1 rfl g1 k1 b1 (fun σ => passAt tk σ) (by exact (pa_cons (pv 0) (pa_cons (pv 1) (pa_cons (pv 2) pa_nil)))))) (by exact (pe_callS G2 hr rfl g2 k2 b2 (fun σ => passAt tk σ) (by exact (pa_cons (pv 0) (pa_cons (pv 1) (pa_cons (pv 2) pa_nil)))))))))
      (fun a oe cls d pn hz hf => pss_one (ps_ret (by exact (pe_lst (pa_cons (pe_xf R.xf R.noC hz hf (pv 3)) pa_nil)))))), ?_⟩
    have low := callC_low hx
    have due2 : Due C CK CR H k l d yd (Sy66.step yd x) Q (WE (wAs K (.ref CR) 3 (t_suite CR) (fun _ _ _ _ => False) { nx := fun _ H' => Q .non H', rt := Q }) (L2.start ["keeper", "call", "n", "e"] [.ref k, nI c, .ref a])) := by
      refine ⟨due, fun cc e dd H' sm hd => ?_⟩
      refine ⟨true, R.te, fun _ a0 _ => ?_, fun q => Bool.noConfusion q⟩
      refine ⟨_, rfl, rfl, rfl, dd, _, _, rfl, hd, rfl, (by show 1 ≤ sizeLine; decide), fun p hp => ?_⟩
      have sp := Same.upd (o := .lst [V.int cc]) hp
      rw [e] at due
      exact due.keep ka (sm.trans sp) (sm.free hp) upd_same
    refine ⟨_, rfl, _, _, rfl, rfl, _, rfl, ?_⟩
    by_cases h5 : c < 5
    · refine if_yes (decide_eq_true (show (c : Int) < 5 by omega)) ?_
      exact ⟨_, rfl, _, rfl, _, rfl, k, l, t, d, yd, c, a, xs, x, rfl, ha, ka, o, hx, Nat.zero_le _, by omega, due2⟩
    · refine if_no (decide_eq_false (show ¬ (c : Int) < 5 by omega)) ?_
      exact ⟨_, rfl, _, rfl, _, rfl, k, l, t, d, yd, c, a, xs, x, rfl, ha, ka, o, hx, by omega, low, due2⟩
end
end Cy
end
section
set_option Elab.async false
set_option linter.all false
set_option maxRecDepth 100000
set_option maxHeartbeats 4000000
namespace Cy
open PySem PySem.Spec L2
open PyProof.Rows hiding St
open Sy66 (Car lineLong carOf legal moved moves nexts every arrangements from_ reach ends distance before first)
open C8 (Cal Met Mak pe_c pe_mk pe_mt pe_mt0)
theorem pe_mk0 {X : Cx} {k j : Nat} {C : Addr} {x : Str} {sp : Sp} {dvs : List V} {p pos : Pos} (c : Mak X.prog X.w X.K X.mg X.base k x C sp dvs) (hr : Room j X.A) (hk : k + 1 ≤ j) (hg : Gl X x) (hdb : (x == ("__debug__" : Str)) = false := by decide) :
    PE X (.Call (.Name x p) [] [] pos) (tMake C sp dvs C8.E0 tNil) := by
  obtain ⟨f, fd, ps, ds, M, F, hm, b, d⟩ := c.ex
  exact pe_make0 M F (hr.mono hk) hg hm b d C8.pass0 hdb
theorem big' {n : Nat} (h : n ≤ 10000000) : n < sizeLine := Nat.lt_of_le_of_lt h (by rw [sizeLine_eq]; decide)
theorem told_cons (x : List Int) (l : List (List Int)) : PyFlat.told (x :: l) = ((x.length : Int) :: x) ++ PyFlat.told l := by
  unfold PyFlat.told
  rw [List.flatMap_cons]
section
variable {P : Program} {w : World} {K : PySem.W.Frag} {mg : Str → Option Value} {base : Heap} {C CK CR fR : Addr}
/-- how many numbers each call has, as the module holds them -/
structure NTx (K : PySem.W.Frag) (mg : Str → Option Value) (aN : Addr) : Prop where
  g : ∃ u, mg "NUMBERS" = some u ∧ RelV (.ref aN) u
  t : ∀ H : Hp, SqT K H aN (nums NUMS)

/-! ### answers -/
abbrev sAs : Stmt := top 34
abbrev nAs : List Str := ["calls", "keeper", "found", "at", "behind", "one"]
theorem scAs : FnScope nAs ["calls"] (defScope sAs) := ⟨rfl, rfl, rfl, by decide +kernel, rfl, by decide +kernel, by decide +kernel⟩
def spAs (K : PySem.W.Frag) : Sp := fun vs H Q _ => ∃ (a : Addr) (ns : List Int), vs = [.ref a] ∧ SqL K H a (ns.map V.int) ∧ PySy66.answers_asked ns = true ∧
  ∀ (H' : Hp) (p : Addr), Same H H' → H' p = some (.lst ((PySy66.answers ns).map V.int)) → Q (.ref p) H'
structure AsI (C CK : Addr) (H0 : Hp) (ns : List Int) (i : Nat) (k F : Addr) (H' : Hp) : Prop where
  ex : ∃ (l t d : Addr) (s : Yd) (rs : List (List (List Int))) (f : Nat) (out : List Int), KAt C CK H' k l t d s ∧ StOk s ∧ H0 l = none ∧ H0 d = none ∧ F ≠ l ∧ H' F = some (.lst (out.map V.int)) ∧
    PyFlat.calls PySy66.shape f (ns.drop i) = some rs ∧ (∀ c ∈ rs, (Sy66Neutral.callOf (c.headD [])).isSome = true) ∧ PySy66.answers ns = out ++ PyFlat.told (PyFlat.played stepR s rs)
  sm : Same H0 H'
  k0 : H0 k = none
  f0 : H0 F = none
theorem cut_nat (ns : List Int) (i n : Nat) (h : i + 1 + n ≤ ns.length) : cutV (ns.map V.int) (some ((i : Int) + 1)) (some ((i : Int) + 1 + (n : Int))) = ((ns.drop (i + 1)).take n).map V.int := by
  have e1 : (i : Int) + 1 = ((i + 1 : Nat) : Int) := rfl
  have e2 : (i : Int) + 1 + (n : Int) = ((i + 1 + n : Nat) : Int) := rfl
  unfold cutV
  rw [e2, e1, HT.sIx_nat, HT.sIx_nat, List.length_map, Nat.min_eq_left h, Nat.min_eq_left (by omega), ← List.map_drop, ← List.map_take, show i + 1 + n - (i + 1) = n by omega]
theorem ok_As (T : Tx K mg C CK CR) {aN : Addr} (N : NTx K mg aN) (cKe : Mak P w K mg base 1 "Keeper" CK (spKI C CK) []) (cAn : Cal P w K mg base 12 "answer" (spAn C CK) []) {f : Addr} {fd : FuncData} (F : Fun K "answers" "answers" sAs f fd) : FnOk P w K mg base CX0 13 f fd ["calls"] (spAs K) := by
  refine F.ok scAs (fun vs H Q E h => ?_) (fun cdv A outer s H vs Q E hr h => ?_)
  · obtain ⟨a, ns, rfl, _⟩ := h
    rfl
  · obtain ⟨a, ns, rfl, hS, hask, q⟩ := h
    refine ⟨_, pss_cons (ps_set (i := 1) scAs.nd rfl (Or.inl rfl) (pe_mk0 cKe hr (by decide) (by rfl)))
      (pss_cons (ps_set (i := 2) scAs.nd rfl (Or.inl rfl) (pe_lst pa_nil))
      (pss_cons (ps_set (i := 3) scAs.nd rfl (Or.inl rfl) pe_int)
      (pss_cons (ps_while PassesOwn.never (pt_cmpR op_lt (pv 3) (pe_callB call_len_seq (by rfl) T.nLen PySem.boot_len (pa_cons (pv 0) pa_nil)) (nomark _))
        (pss_cons (ps_set (i := 4) scAs.nd rfl (Or.inl rfl) (pe_op op_add (pe_op op_add (pv 3) pe_int) (pe_ix ix_tup (C8.pe_gc (by rfl) N.g) (pe_ix ix_list (pv 0) (pv 3) (fun _ _ => rfl)) (fun _ _ => rfl))))
        (pss_cons (ps_set (i := 5) scAs.nd rfl (Or.inl rfl) (pe_c cAn hr (Nat.le_refl _) (by rfl) (pa_cons (pv 1) (pa_cons (pe_ix ix_list (pv 0) (pv 3) (fun _ _ => rfl)) (pa_cons (pe_slice sl_list (pv 0) (po_some (pe_op op_add (pv 3) pe_int)) (po_some (pv 4))) pa_nil)))))
        (pss_cons (ps_expr (pe_bm PySem.F.plainAttrs_list PySem.F.slot_list_append PySem.F.type_list_append mt_append (pv 2) (pa_cons (pe_callB call_len_seq (by rfl) T.nLen PySem.boot_len (pa_cons (pv 5) pa_nil)) pa_nil)))
        (pss_cons (ps_expr (pe_bm PySem.F.plainAttrs_list PySem.F.slot_list_extend PySem.F.type_list_extend mt_extend (pv 2) (pa_cons (pv 5) pa_nil)))
        (pss_one (ps_set (i := 3) scAs.nd rfl (Or.inl rfl) (pv 4))))))))
      (pss_one (ps_ret (pv 2)))))), ?_⟩
    obtain ⟨raw, hraw, hcalls, hans, hbig⟩ := asked_raw hask
    refine fun k dx hk hdx nkd => ⟨k, dx, rfl, upd_same, fun H1 l t d keep ka hl hd => ⟨rfl, ?_⟩⟩
    have s01 : Same H H1 := fun b o e => by
      have n1 : b ≠ k := ne_of_none e hk
      have n2 : b ≠ dx := ne_of_none e hdx
      exact keep b o n1 (by rw [upd_ne n1, upd_ne n2]; exact e)
    have fresh1 : ∀ b, upd (upd H dx (.own k)) k (.ins CK dx []) b = none → H b = none := fun b e => by
      have n1 : b ≠ k := fun z => by
        subst z
        rw [upd_same] at e
        cases e
      rw [upd_ne n1] at e
      have n2 : b ≠ dx := fun z => by
        subst z
        rw [upd_same] at e
        cases e
      rw [upd_ne n2] at e
      exact e
    refine ⟨(by show 0 ≤ sizeLine; decide), fun F0 hF0 => ?_⟩
    have sF := Same.upd (o := .lst []) hF0
    obtain ⟨as0, hl1, _⟩ := ka.cars
    refine ⟨fun m σ H' => ∃ (i : Nat) (a4 a5 : Option V), m = ns.length - i ∧ i ≤ ns.length ∧ σ = [some (.ref a), some (.ref k), some (.ref F0), some (nI i), a4, a5] ∧ AsI C CK H ns i k F0 H',
      ⟨ns.length, 0, none, none, rfl, Nat.zero_le _, rfl, ⟨l, t, d, Sy66.init, raw, ns.length, [], ka.same sF, init_ok ⟨by decide, by decide⟩ ⟨by decide, by decide⟩, fresh1 _ hl, fresh1 _ hd, (ne_of_none hl1 hF0).symm, upd_same, hraw, hcalls, hans⟩, s01.trans sF, hk, s01.free hF0⟩, ?_⟩
    rintro m σ H2 ⟨i, a4, a5, rfl, hi, rfl, I⟩
    obtain ⟨l, t, d, yd, rs, f0, out, ka, o, hl0, hd0, nFl, hF, hpc, hcs, hout⟩ := I.ex
    have sm := I.sm
    have hS2 := sm.seq hS
    refine ⟨_, rfl, _, rfl, a, _, rfl, .inl hS2, _, _, rfl, rfl, _, rfl, ?_⟩
    rw [List.length_map]
    by_cases hlt : i < ns.length
    · refine if_yes (decide_eq_true (by omega)) ?_
      refine ⟨fun σ' H' => ∃ m', m' < ns.length - i ∧ ∃ (i : Nat) (a4 a5 : Option V), m' = ns.length - i ∧ i ≤ ns.length ∧ σ' = [some (.ref a), some (.ref k), some (.ref F0), some (nI i), a4, a5] ∧ AsI C CK H ns i k F0 H', fun _ _ h => h, ?_⟩
      have edrop : ns.drop i = ns[i] :: ns.drop (i + 1) := List.drop_eq_getElem_cons hlt
      have hgi : ns[i]? = some ns[i] := List.getElem?_eq_getElem hlt
      rw [edrop] at hpc
      obtain ⟨f1, n, cs, hn, hpc2, rfl⟩ := parse_step hpc
      obtain ⟨x, hx⟩ := Option.isSome_iff_exists.mp (hcs _ List.mem_cons_self)
      have hx' : Sy66Neutral.callOf (ns[i] :: (ns.drop (i + 1)).take n) = some x := hx
      obtain ⟨c, xs, hp, hxs, hcx⟩ := call_of hx'
      have lx : xs.length = n := by
        have := congrArg List.length hxs
        rw [List.length_take, List.length_map, Nat.min_eq_left hn] at this
        exact this.symm
      have hnum := callC_num hcx
      rw [lx] at hnum
      rw [List.length_drop] at hn
      have hgi' : (ns.map V.int)[i]? = some (nI c) := by
        rw [List.getElem?_map, hgi, hp]
        rfl
      have hnum' : (nums NUMS)[c]? = some (nI n) := by
        unfold nums
        rw [List.getElem?_map, hnum]
        rfl
      refine ⟨_, rfl, _, _, rfl, rfl, _, rfl, _, rfl, a, _, (i : Int), _, rfl, rfl, hS2, atI_nat hgi', aN, _, (c : Int), _, rfl, rfl, N.t _, atI_nat hnum', _, _, rfl, rfl, ?_⟩
      refine ⟨_, rfl, _, rfl, _, rfl, a, _, (i : Int), _, rfl, rfl, hS2, atI_nat hgi', _, rfl, _, rfl, _, _, rfl, rfl, (i : Int) + 1, rfl, _, rfl, (i : Int) + 1 + (n : Int), rfl, a, _, rfl, hS2, fun p hp3 => ?_⟩
      rw [cut_nat ns i n (by omega), hxs, ← nums_ints] at *
      have s3 := Same.upd (o := .lst (nums xs)) hp3
      refine ⟨k, l, t, d, yd, c, p, xs, x, rfl, upd_same, ka.same s3, o, hcx, fun H4 r l' t' d' kp ka' hl' hd' nr hr4 => ?_⟩
      have hF3 := s3 _ _ hF
      obtain ⟨dxk, hk2⟩ := ka.self
      have hd2 := ka.wt
      have hF4 : H4 F0 = some (.lst (out.map V.int)) := kp _ _ (ne_of hF hk2 fun z => nomatch z) nFl (ne_of hF hd2 fun z => nomatch z) hF3
      have nrF : r ≠ F0 := (ne_of_none hF3 nr).symm
      have estep : stepR yd [ns[i] :: (ns.drop (i + 1)).take n] = ((Sy66.step yd x).1, Sy66Neutral.out (Sy66.step yd x).2) := by
        show Sy66Neutral.step yd (ns[i] :: (ns.drop (i + 1)).take n) = _
        unfold Sy66Neutral.step
        rw [hx']
      have hout2 : PySy66.answers ns = (out ++ ((Sy66Neutral.out (Sy66.step yd x).2).length : Int) :: Sy66Neutral.out (Sy66.step yd x).2) ++ PyFlat.told (PyFlat.played stepR (Sy66.step yd x).1 cs) := by
        rw [hout]
        show out ++ PyFlat.told ((stepR yd [ns[i] :: (ns.drop (i + 1)).take n]).2 :: PyFlat.played stepR (stepR yd [ns[i] :: (ns.drop (i + 1)).take n]).1 cs) = _
        rw [told_cons, estep, List.append_assoc]
      have sz1 : out.length + 1 + (Sy66Neutral.out (Sy66.step yd x).2).length ≤ 10000000 := by
        have := hbig
        rw [hout2, List.length_append, List.length_append, List.length_cons] at this
        omega
      have s24 : Same H H4 := fun b w e => kp _ _ (ne_of_none e I.k0) (ne_of_none e hl0) (ne_of_none e hd0) (s3 _ _ (sm _ _ e))
      refine ⟨_, rfl, .inl ⟨rfl, _, SqL.of hF4⟩, _, rfl, r, _, rfl, .inl (SqL.of hr4), F0, _, _, rfl, rfl, hF4, big' (by rw [List.length_map]; omega), ?_⟩
      refine ⟨_, rfl, .inl ⟨rfl, _, SqL.of upd_same⟩, _, rfl, F0, r, _, _, rfl, rfl, upd_same, (upd_ne nrF).trans hr4, Nat.le_of_lt (big' (by rw [List.length_append, List.length_map, List.length_map]; show out.length + 1 + _ ≤ _; omega)), ?_⟩
      refine ⟨_, rfl, ?_⟩
      rw [upd_upd]
      have hl0' : H l' = none := by
        rcases hl' with e | e
        · rw [e]; exact hl0
        · exact sm.free (s3.free e)
      have hd0' : H d' = none := by
        rcases hd' with e | e
        · rw [e]; exact hd0
        · exact sm.free (s3.free e)
      have nFl' : F0 ≠ l' := by
        rcases hl' with e | e
        · rw [e]; exact nFl
        · exact ne_of_none hF3 e
      refine ⟨ns.length - (i + 1 + n), by omega, i + 1 + n, _, _, rfl, by omega, rfl, ⟨l', t', d', (Sy66.step yd x).1, cs, f1, _, ?_, step_ok o x, hl0', hd0', nFl', ?_, ?_, fun c hc => hcs c (List.mem_cons_of_mem _ hc), hout2⟩, same_put s24 I.f0, I.k0, I.f0⟩
      · obtain ⟨dxk', hk4⟩ := ka'.self
        obtain ⟨as', h1, h2, h3⟩ := ka'.cars
        refine ⟨⟨dxk', by rw [upd_ne (ne_of hk4 hF4 fun z => nomatch z)]; exact hk4⟩, ⟨as', by rw [upd_ne nFl'.symm]; exact h1, h2, fun j b cc hb hc => ?_⟩, ?_, ?_⟩
        · obtain ⟨dxc, hb4⟩ := h3 j b cc hb hc
          exact ⟨dxc, by rw [upd_ne (ne_of hb4 hF4 fun z => nomatch z)]; exact hb4⟩
        · rw [upd_ne (tup_ne ka'.pl hF4 fun _ z => nomatch z)]
          exact ka'.pl
        · rw [upd_ne (ne_of ka'.wt hF4 fun z => nomatch z)]
          exact ka'.wt
      · rw [upd_same, List.map_append, List.map_cons, List.length_map, List.append_assoc]
        rfl
      · rw [List.drop_drop] at hpc2
        exact hpc2
    · refine if_no (decide_eq_false (by omega)) ?_
      have ei : i = ns.length := by omega
      subst ei
      rw [List.drop_length] at hpc
      have ers : rs = [] := by
        cases f0 <;> (injection hpc with hpc; exact hpc.symm)
      subst ers
      have eo : PySy66.answers ns = out := by
        rw [hout]
        exact List.append_nil _
      rw [← eo] at hF
      exact ⟨_, rfl, q _ F0 sm hF⟩
end
end Cy
end
set_option Elab.async false
set_option linter.all false
set_option maxRecDepth 100000
set_option maxHeartbeats 4000000
/-! # The end -/
namespace Cy
open PySem PySem.Spec L2
open PyProof.Rows hiding St
open C8 (Cal Met Mak)
/-- an error of the class at S is what except S names -/
theorem exm_own {K : PySem.W.Frag} {S : Addr} (h1 : PySem.W.subIn K (.ref S) (.type "BaseException") = some true) (h2 : PySem.W.isClsIn K S = true) (h3 : PySem.W.typeIn K (.ref S) = some (.type "type")) (h4 : PySem.W.subIn K (.ref S) (.ref S) = some true) :
    PySem.W.exmOne K (.ref S) (.ref S) = some true := by
  have h2' : (PySem.W.clsIn K S).isSome = true := h2
  have e1 : (PySem.W.subIn K (.ref S) (.type "BaseException") == some true) = true := by
    rw [h1]
    rfl
  have e2 : ((PySem.W.clsIn K S).isSome && PySem.W.typeIn K (.ref S) == some (.type "type")) = true := by
    rw [h2', h3]
    rfl
  have go : ∀ {a b : Bool} {x : Option Bool}, a = true → b = true → x = some true → (if a = true then (if b = true then x else none) else none) = some true := fun {a b x} ha hb hx => by
    rw [if_pos ha, if_pos hb]
    exact hx
  exact go e1 e2 h4
theorem all_mk {P : Program} {w : World} {K : PySem.W.Frag} {h : Heap} {mg : Str → Option Value} {fa C CK CR : Addr} (X : K.In h) (G : h.Ns mainGlobals mg) (hfa : mg "answers" = some (.ref fa)) (nCK : CK ≠ C)
    {fCI : Addr} {odCI anCI : Option Addr} {slCI : Array (Option Value)} {ocCI kVCI dcCI pmCI cdCI ctCI : Value}
    {fCe : Addr} {odCe anCe : Option Addr} {slCe : Array (Option Value)} {ocCe kVCe dcCe pmCe cdCe ctCe : Value}
    {fCs : Addr} {odCs anCs : Option Addr} {slCs : Array (Option Value)} {ocCs kVCs dcCs pmCs cdCs ctCs : Value}
    {fAp : Addr} {odAp anAp : Option Addr} {slAp : Array (Option Value)} {ocAp kVAp dcAp pmAp cdAp ctAp : Value}
    {fTk : Addr} {odTk anTk : Option Addr} {slTk : Array (Option Value)} {ocTk kVTk dcTk pmTk cdTk ctTk : Value}
    {fFr : Addr} {odFr anFr : Option Addr} {slFr : Array (Option Value)} {ocFr kVFr dcFr pmFr cdFr ctFr : Value}
    {fGo : Addr} {odGo anGo : Option Addr} {slGo : Array (Option Value)} {ocGo kVGo dcGo pmGo cdGo ctGo : Value}
    {fWp : Addr} {odWp anWp : Option Addr} {slWp : Array (Option Value)} {ocWp kVWp dcWp pmWp cdWp ctWp : Value}
    {fMo : Addr} {odMo anMo : Option Addr} {slMo : Array (Option Value)} {ocMo kVMo dcMo pmMo cdMo ctMo : Value}
    {fFo : Addr} {odFo anFo : Option Addr} {slFo : Array (Option Value)} {ocFo kVFo dcFo pmFo cdFo ctFo : Value}
    {fAr : Addr} {odAr anAr : Option Addr} {slAr : Array (Option Value)} {ocAr kVAr dcAr pmAr cdAr ctAr : Value}
    {fSF : Addr} {odSF anSF : Option Addr} {slSF : Array (Option Value)} {ocSF kVSF dcSF pmSF cdSF ctSF : Value}
    {fIW : Addr} {odIW anIW : Option Addr} {slIW : Array (Option Value)} {ocIW kVIW dcIW pmIW cdIW ctIW : Value}
    {fSW : Addr} {odSW anSW : Option Addr} {slSW : Array (Option Value)} {ocSW kVSW dcSW pmSW cdSW ctSW : Value}
    {fNe : Addr} {odNe anNe : Option Addr} {slNe : Array (Option Value)} {ocNe kVNe dcNe pmNe cdNe ctNe : Value}
    {fPl : Addr} {odPl anPl : Option Addr} {slPl : Array (Option Value)} {ocPl kVPl dcPl pmPl cdPl ctPl : Value}
    {fRI : Addr} {odRI anRI : Option Addr} {slRI : Array (Option Value)} {ocRI kVRI dcRI pmRI cdRI ctRI : Value}
    {fWa : Addr} {odWa anWa : Option Addr} {slWa : Array (Option Value)} {ocWa kVWa dcWa pmWa cdWa ctWa : Value}
    {fLi : Addr} {odLi anLi : Option Addr} {slLi : Array (Option Value)} {ocLi kVLi dcLi pmLi cdLi ctLi : Value}
    {fFl : Addr} {odFl anFl : Option Addr} {slFl : Array (Option Value)} {ocFl kVFl dcFl pmFl cdFl ctFl : Value}
    {fKI : Addr} {odKI anKI : Option Addr} {slKI : Array (Option Value)} {ocKI kVKI dcKI pmKI cdKI ctKI : Value}
    {fBe : Addr} {odBe anBe : Option Addr} {slBe : Array (Option Value)} {ocBe kVBe dcBe pmBe cdBe ctBe : Value}
    {fPc : Addr} {odPc anPc : Option Addr} {slPc : Array (Option Value)} {ocPc kVPc dcPc pmPc cdPc ctPc : Value}
    {fWc : Addr} {odWc anWc : Option Addr} {slWc : Array (Option Value)} {ocWc kVWc dcWc pmWc cdWc ctWc : Value}
    {fMv : Addr} {odMv anMv : Option Addr} {slMv : Array (Option Value)} {ocMv kVMv dcMv pmMv cdMv ctMv : Value}
    {fWi : Addr} {odWi anWi : Option Addr} {slWi : Array (Option Value)} {ocWi kVWi dcWi pmWi cdWi ctWi : Value}
    {fFe : Addr} {odFe anFe : Option Addr} {slFe : Array (Option Value)} {ocFe kVFe dcFe pmFe cdFe ctFe : Value}
    {fSt : Addr} {odSt anSt : Option Addr} {slSt : Array (Option Value)} {ocSt kVSt dcSt pmSt cdSt ctSt : Value}
    {fFw : Addr} {odFw anFw : Option Addr} {slFw : Array (Option Value)} {ocFw kVFw dcFw pmFw cdFw ctFw : Value}
    {fPn : Addr} {odPn anPn : Option Addr} {slPn : Array (Option Value)} {ocPn kVPn dcPn pmPn cdPn ctPn : Value}
    {fRe : Addr} {odRe anRe : Option Addr} {slRe : Array (Option Value)} {ocRe kVRe dcRe pmRe cdRe ctRe : Value}
    {fPo : Addr} {odPo anPo : Option Addr} {slPo : Array (Option Value)} {ocPo kVPo dcPo pmPo cdPo ctPo : Value}
    {fHa : Addr} {odHa anHa : Option Addr} {slHa : Array (Option Value)} {ocHa kVHa dcHa pmHa cdHa ctHa : Value}
    {fSa : Addr} {odSa anSa : Option Addr} {slSa : Array (Option Value)} {ocSa kVSa dcSa pmSa cdSa ctSa : Value}
    {fOc : Addr} {odOc anOc : Option Addr} {slOc : Array (Option Value)} {ocOc kVOc dcOc pmOc cdOc ctOc : Value}
    {fOp : Addr} {odOp anOp : Option Addr} {slOp : Array (Option Value)} {ocOp kVOp dcOp pmOp cdOp ctOp : Value}
    {fAn : Addr} {odAn anAn : Option Addr} {slAn : Array (Option Value)} {ocAn kVAn dcAn pmAn cdAn ctAn : Value}
    {fAs : Addr} {odAs anAs : Option Addr} {slAs : Array (Option Value)} {ocAs kVAs dcAs pmAs cdAs ctAs : Value}
    {nm q : Str} {N : Addr} {bs : List Value} {sn : List Str} {sub : List Value} {ab : Bool} {col : Option Bool} {dd : Option Addr} {m0 m1 m2 m3 m5 : Option Value}
    {tkbad : Tok}
    {tknoCar : Tok}
    {tkfull : Tok}
    {tkcannot : Tok}
    {tkside : Tok}
    {tkleast : Tok}
    {tkmost : Tok}
    {tkcars : Tok}
    {aN : Addr} {odN : Option Addr} {szN : Nat} {slN : Array (Option Value)} {tn0 tn1 tn2 tn3 tn4 tn5 tn6 tn7 tn8 tn9 tn10 : Tok}
    (gC : PySem.W.nsIn K mainGlobals "Car" = some (some (.ref C)))
    (gCK : PySem.W.nsIn K mainGlobals "Keeper" = some (some (.ref CK)))
    (gCR : PySem.W.nsIn K mainGlobals "Refused" = some (some (.ref CR)))
    (aCI : PySem.W.findIn K (.ref C) "__init__" = some (some (.ref fCI)))
    (iCI : PySem.W.isFn K (.ref fCI) = true)
    (lCI : K.lookup fCI = some ⟨ocCI, odCI, .func (PySem.W.fnOf "__init__" "Car.__init__" (defArgs sCI) (defBody sCI) (defScope sCI) .none kVCI dcCI pmCI anCI cdCI ctCI), slCI⟩)
    (cCI : PySem.W.codeIn K cdCI "Car.__init__" = true)
    (kCI : PySem.W.keepIn K (.ref fCI) = true)
    (aCe : PySem.W.findIn K (.ref C) "cell" = some (some (.ref fCe)))
    (iCe : PySem.W.isFn K (.ref fCe) = true)
    (lCe : K.lookup fCe = some ⟨ocCe, odCe, .func (PySem.W.fnOf "cell" "Car.cell" (defArgs sCe) (defBody sCe) (defScope sCe) .none kVCe dcCe pmCe anCe cdCe ctCe), slCe⟩)
    (cCe : PySem.W.codeIn K cdCe "Car.cell" = true)
    (kCe : PySem.W.keepIn K (.ref fCe) = true)
    (aCs : PySem.W.findIn K (.ref C) "cells" = some (some (.ref fCs)))
    (iCs : PySem.W.isFn K (.ref fCs) = true)
    (lCs : K.lookup fCs = some ⟨ocCs, odCs, .func (PySem.W.fnOf "cells" "Car.cells" (defArgs sCs) (defBody sCs) (defScope sCs) .none kVCs dcCs pmCs anCs cdCs ctCs), slCs⟩)
    (cCs : PySem.W.codeIn K cdCs "Car.cells" = true)
    (kCs : PySem.W.keepIn K (.ref fCs) = true)
    (aAp : PySem.W.findIn K (.ref C) "all_places" = some (some (.ref fAp)))
    (iAp : PySem.W.isFn K (.ref fAp) = true)
    (lAp : K.lookup fAp = some ⟨ocAp, odAp, .func (PySem.W.fnOf "all_places" "Car.all_places" (defArgs sAp) (defBody sAp) (defScope sAp) .none kVAp dcAp pmAp anAp cdAp ctAp), slAp⟩)
    (cAp : PySem.W.codeIn K cdAp "Car.all_places" = true)
    (kAp : PySem.W.keepIn K (.ref fAp) = true)
    (aTk : PySem.W.nsIn K mainGlobals "taken" = some (some (.ref fTk)))
    (lTk : K.lookup fTk = some ⟨ocTk, odTk, .func (PySem.W.fnOf "taken" "taken" (defArgs sTk) (defBody sTk) (defScope sTk) .none kVTk dcTk pmTk anTk cdTk ctTk), slTk⟩)
    (cTk : PySem.W.codeIn K cdTk "taken" = true)
    (kTk : PySem.W.keepIn K (.ref fTk) = true)
    (aFr : PySem.W.nsIn K mainGlobals "is_free" = some (some (.ref fFr)))
    (lFr : K.lookup fFr = some ⟨ocFr, odFr, .func (PySem.W.fnOf "is_free" "is_free" (defArgs sFr) (defBody sFr) (defScope sFr) .none kVFr dcFr pmFr anFr cdFr ctFr), slFr⟩)
    (cFr : PySem.W.codeIn K cdFr "is_free" = true)
    (kFr : PySem.W.keepIn K (.ref fFr) = true)
    (aGo : PySem.W.nsIn K mainGlobals "goals_of" = some (some (.ref fGo)))
    (lGo : K.lookup fGo = some ⟨ocGo, odGo, .func (PySem.W.fnOf "goals_of" "goals_of" (defArgs sGo) (defBody sGo) (defScope sGo) .none kVGo dcGo pmGo anGo cdGo ctGo), slGo⟩)
    (cGo : PySem.W.codeIn K cdGo "goals_of" = true)
    (kGo : PySem.W.keepIn K (.ref fGo) = true)
    (aWp : PySem.W.nsIn K mainGlobals "with_place" = some (some (.ref fWp)))
    (lWp : K.lookup fWp = some ⟨ocWp, odWp, .func (PySem.W.fnOf "with_place" "with_place" (defArgs sWp) (defBody sWp) (defScope sWp) .none kVWp dcWp pmWp anWp cdWp ctWp), slWp⟩)
    (cWp : PySem.W.codeIn K cdWp "with_place" = true)
    (kWp : PySem.W.keepIn K (.ref fWp) = true)
    (aMo : PySem.W.nsIn K mainGlobals "moves_of" = some (some (.ref fMo)))
    (lMo : K.lookup fMo = some ⟨ocMo, odMo, .func (PySem.W.fnOf "moves_of" "moves_of" (defArgs sMo) (defBody sMo) (defScope sMo) .none kVMo dcMo pmMo anMo cdMo ctMo), slMo⟩)
    (cMo : PySem.W.codeIn K cdMo "moves_of" = true)
    (kMo : PySem.W.keepIn K (.ref fMo) = true)
    (aFo : PySem.W.nsIn K mainGlobals "following" = some (some (.ref fFo)))
    (lFo : K.lookup fFo = some ⟨ocFo, odFo, .func (PySem.W.fnOf "following" "following" (defArgs sFo) (defBody sFo) (defScope sFo) .none kVFo dcFo pmFo anFo cdFo ctFo), slFo⟩)
    (cFo : PySem.W.codeIn K cdFo "following" = true)
    (kFo : PySem.W.keepIn K (.ref fFo) = true)
    (aAr : PySem.W.nsIn K mainGlobals "arrangements" = some (some (.ref fAr)))
    (lAr : K.lookup fAr = some ⟨ocAr, odAr, .func (PySem.W.fnOf "arrangements" "arrangements" (defArgs sAr) (defBody sAr) (defScope sAr) .none kVAr dcAr pmAr anAr cdAr ctAr), slAr⟩)
    (cAr : PySem.W.codeIn K cdAr "arrangements" = true)
    (kAr : PySem.W.keepIn K (.ref fAr) = true)
    (aSF : PySem.W.nsIn K mainGlobals "steps_from" = some (some (.ref fSF)))
    (lSF : K.lookup fSF = some ⟨ocSF, odSF, .func (PySem.W.fnOf "steps_from" "steps_from" (defArgs sSF) (defBody sSF) (defScope sSF) .none kVSF dcSF pmSF anSF cdSF ctSF), slSF⟩)
    (cSF : PySem.W.codeIn K cdSF "steps_from" = true)
    (kSF : PySem.W.keepIn K (.ref fSF) = true)
    (aIW : PySem.W.nsIn K mainGlobals "is_as_wanted" = some (some (.ref fIW)))
    (lIW : K.lookup fIW = some ⟨ocIW, odIW, .func (PySem.W.fnOf "is_as_wanted" "is_as_wanted" (defArgs sIW) (defBody sIW) (defScope sIW) .none kVIW dcIW pmIW anIW cdIW ctIW), slIW⟩)
    (cIW : PySem.W.codeIn K cdIW "is_as_wanted" = true)
    (kIW : PySem.W.keepIn K (.ref fIW) = true)
    (aSW : PySem.W.nsIn K mainGlobals "steps_to_wanted" = some (some (.ref fSW)))
    (lSW : K.lookup fSW = some ⟨ocSW, odSW, .func (PySem.W.fnOf "steps_to_wanted" "steps_to_wanted" (defArgs sSW) (defBody sSW) (defScope sSW) .none kVSW dcSW pmSW anSW cdSW ctSW), slSW⟩)
    (cSW : PySem.W.codeIn K cdSW "steps_to_wanted" = true)
    (kSW : PySem.W.keepIn K (.ref fSW) = true)
    (aNe : PySem.W.nsIn K mainGlobals "nearer_move" = some (some (.ref fNe)))
    (lNe : K.lookup fNe = some ⟨ocNe, odNe, .func (PySem.W.fnOf "nearer_move" "nearer_move" (defArgs sNe) (defBody sNe) (defScope sNe) .none kVNe dcNe pmNe anNe cdNe ctNe), slNe⟩)
    (cNe : PySem.W.codeIn K cdNe "nearer_move" = true)
    (kNe : PySem.W.keepIn K (.ref fNe) = true)
    (aPl : PySem.W.nsIn K mainGlobals "plan_of" = some (some (.ref fPl)))
    (lPl : K.lookup fPl = some ⟨ocPl, odPl, .func (PySem.W.fnOf "plan_of" "plan_of" (defArgs sPl) (defBody sPl) (defScope sPl) .none kVPl dcPl pmPl anPl cdPl ctPl), slPl⟩)
    (cPl : PySem.W.codeIn K cdPl "plan_of" = true)
    (kPl : PySem.W.keepIn K (.ref fPl) = true)
    (aRI : PySem.W.findIn K (.ref CR) "__init__" = some (some (.ref fRI)))
    (iRI : PySem.W.typeIn K (.ref fRI) = some (.type "function"))
    (lRI : K.lookup fRI = some ⟨ocRI, odRI, .func (PySem.W.fnOf "__init__" "Refused.__init__" (defArgs sRI) (defBody sRI) (defScope sRI) .none kVRI dcRI pmRI anRI cdRI ctRI), slRI⟩)
    (cRI : PySem.W.codeIn K cdRI "Refused.__init__" = true)
    (kRI : PySem.W.keepIn K (.ref fRI) = true)
    (aWa : PySem.W.nsIn K mainGlobals "want" = some (some (.ref fWa)))
    (lWa : K.lookup fWa = some ⟨ocWa, odWa, .func (PySem.W.fnOf "want" "want" (defArgs sWa) (defBody sWa) (defScope sWa) .none kVWa dcWa pmWa anWa cdWa ctWa), slWa⟩)
    (cWa : PySem.W.codeIn K cdWa "want" = true)
    (kWa : PySem.W.keepIn K (.ref fWa) = true)
    (aLi : PySem.W.nsIn K mainGlobals "listed" = some (some (.ref fLi)))
    (lLi : K.lookup fLi = some ⟨ocLi, odLi, .func (PySem.W.fnOf "listed" "listed" (defArgs sLi) (defBody sLi) (defScope sLi) .none kVLi dcLi pmLi anLi cdLi ctLi), slLi⟩)
    (cLi : PySem.W.codeIn K cdLi "listed" = true)
    (kLi : PySem.W.keepIn K (.ref fLi) = true)
    (aFl : PySem.W.nsIn K mainGlobals "flat" = some (some (.ref fFl)))
    (lFl : K.lookup fFl = some ⟨ocFl, odFl, .func (PySem.W.fnOf "flat" "flat" (defArgs sFl) (defBody sFl) (defScope sFl) .none kVFl dcFl pmFl anFl cdFl ctFl), slFl⟩)
    (cFl : PySem.W.codeIn K cdFl "flat" = true)
    (kFl : PySem.W.keepIn K (.ref fFl) = true)
    (aKI : PySem.W.findIn K (.ref CK) "__init__" = some (some (.ref fKI)))
    (iKI : PySem.W.isFn K (.ref fKI) = true)
    (lKI : K.lookup fKI = some ⟨ocKI, odKI, .func (PySem.W.fnOf "__init__" "Keeper.__init__" (defArgs sKI) (defBody sKI) (defScope sKI) .none kVKI dcKI pmKI anKI cdKI ctKI), slKI⟩)
    (cKI : PySem.W.codeIn K cdKI "Keeper.__init__" = true)
    (kKI : PySem.W.keepIn K (.ref fKI) = true)
    (aBe : PySem.W.findIn K (.ref CK) "begins" = some (some (.ref fBe)))
    (iBe : PySem.W.isFn K (.ref fBe) = true)
    (lBe : K.lookup fBe = some ⟨ocBe, odBe, .func (PySem.W.fnOf "begins" "Keeper.begins" (defArgs sBe) (defBody sBe) (defScope sBe) .none kVBe dcBe pmBe anBe cdBe ctBe), slBe⟩)
    (cBe : PySem.W.codeIn K cdBe "Keeper.begins" = true)
    (kBe : PySem.W.keepIn K (.ref fBe) = true)
    (aPc : PySem.W.findIn K (.ref CK) "put_car" = some (some (.ref fPc)))
    (iPc : PySem.W.isFn K (.ref fPc) = true)
    (lPc : K.lookup fPc = some ⟨ocPc, odPc, .func (PySem.W.fnOf "put_car" "Keeper.put_car" (defArgs sPc) (defBody sPc) (defScope sPc) .none kVPc dcPc pmPc anPc cdPc ctPc), slPc⟩)
    (cPc : PySem.W.codeIn K cdPc "Keeper.put_car" = true)
    (kPc : PySem.W.keepIn K (.ref fPc) = true)
    (aWc : PySem.W.findIn K (.ref CK) "want_car" = some (some (.ref fWc)))
    (iWc : PySem.W.isFn K (.ref fWc) = true)
    (lWc : K.lookup fWc = some ⟨ocWc, odWc, .func (PySem.W.fnOf "want_car" "Keeper.want_car" (defArgs sWc) (defBody sWc) (defScope sWc) .none kVWc dcWc pmWc anWc cdWc ctWc), slWc⟩)
    (cWc : PySem.W.codeIn K cdWc "Keeper.want_car" = true)
    (kWc : PySem.W.keepIn K (.ref fWc) = true)
    (aMv : PySem.W.findIn K (.ref CK) "move" = some (some (.ref fMv)))
    (iMv : PySem.W.isFn K (.ref fMv) = true)
    (lMv : K.lookup fMv = some ⟨ocMv, odMv, .func (PySem.W.fnOf "move" "Keeper.move" (defArgs sMv) (defBody sMv) (defScope sMv) .none kVMv dcMv pmMv anMv cdMv ctMv), slMv⟩)
    (cMv : PySem.W.codeIn K cdMv "Keeper.move" = true)
    (kMv : PySem.W.keepIn K (.ref fMv) = true)
    (aWi : PySem.W.findIn K (.ref CK) "wish" = some (some (.ref fWi)))
    (iWi : PySem.W.isFn K (.ref fWi) = true)
    (lWi : K.lookup fWi = some ⟨ocWi, odWi, .func (PySem.W.fnOf "wish" "Keeper.wish" (defArgs sWi) (defBody sWi) (defScope sWi) .none kVWi dcWi pmWi anWi cdWi ctWi), slWi⟩)
    (cWi : PySem.W.codeIn K cdWi "Keeper.wish" = true)
    (kWi : PySem.W.keepIn K (.ref fWi) = true)
    (aFe : PySem.W.findIn K (.ref CK) "free" = some (some (.ref fFe)))
    (iFe : PySem.W.isFn K (.ref fFe) = true)
    (lFe : K.lookup fFe = some ⟨ocFe, odFe, .func (PySem.W.fnOf "free" "Keeper.free" (defArgs sFe) (defBody sFe) (defScope sFe) .none kVFe dcFe pmFe anFe cdFe ctFe), slFe⟩)
    (cFe : PySem.W.codeIn K cdFe "Keeper.free" = true)
    (kFe : PySem.W.keepIn K (.ref fFe) = true)
    (aSt : PySem.W.findIn K (.ref CK) "steps" = some (some (.ref fSt)))
    (iSt : PySem.W.isFn K (.ref fSt) = true)
    (lSt : K.lookup fSt = some ⟨ocSt, odSt, .func (PySem.W.fnOf "steps" "Keeper.steps" (defArgs sSt) (defBody sSt) (defScope sSt) .none kVSt dcSt pmSt anSt cdSt ctSt), slSt⟩)
    (cSt : PySem.W.codeIn K cdSt "Keeper.steps" = true)
    (kSt : PySem.W.keepIn K (.ref fSt) = true)
    (aFw : PySem.W.findIn K (.ref CK) "fewest" = some (some (.ref fFw)))
    (iFw : PySem.W.isFn K (.ref fFw) = true)
    (lFw : K.lookup fFw = some ⟨ocFw, odFw, .func (PySem.W.fnOf "fewest" "Keeper.fewest" (defArgs sFw) (defBody sFw) (defScope sFw) .none kVFw dcFw pmFw anFw cdFw ctFw), slFw⟩)
    (cFw : PySem.W.codeIn K cdFw "Keeper.fewest" = true)
    (kFw : PySem.W.keepIn K (.ref fFw) = true)
    (aPn : PySem.W.findIn K (.ref CK) "plan" = some (some (.ref fPn)))
    (iPn : PySem.W.isFn K (.ref fPn) = true)
    (lPn : K.lookup fPn = some ⟨ocPn, odPn, .func (PySem.W.fnOf "plan" "Keeper.plan" (defArgs sPn) (defBody sPn) (defScope sPn) .none kVPn dcPn pmPn anPn cdPn ctPn), slPn⟩)
    (cPn : PySem.W.codeIn K cdPn "Keeper.plan" = true)
    (kPn : PySem.W.keepIn K (.ref fPn) = true)
    (aRe : PySem.W.findIn K (.ref CK) "reach" = some (some (.ref fRe)))
    (iRe : PySem.W.isFn K (.ref fRe) = true)
    (lRe : K.lookup fRe = some ⟨ocRe, odRe, .func (PySem.W.fnOf "reach" "Keeper.reach" (defArgs sRe) (defBody sRe) (defScope sRe) .none kVRe dcRe pmRe anRe cdRe ctRe), slRe⟩)
    (cRe : PySem.W.codeIn K cdRe "Keeper.reach" = true)
    (kRe : PySem.W.keepIn K (.ref fRe) = true)
    (aPo : PySem.W.findIn K (.ref CK) "places_of" = some (some (.ref fPo)))
    (iPo : PySem.W.isFn K (.ref fPo) = true)
    (lPo : K.lookup fPo = some ⟨ocPo, odPo, .func (PySem.W.fnOf "places_of" "Keeper.places_of" (defArgs sPo) (defBody sPo) (defScope sPo) .none kVPo dcPo pmPo anPo cdPo ctPo), slPo⟩)
    (cPo : PySem.W.codeIn K cdPo "Keeper.places_of" = true)
    (kPo : PySem.W.keepIn K (.ref fPo) = true)
    (aHa : PySem.W.findIn K (.ref CK) "hardest" = some (some (.ref fHa)))
    (iHa : PySem.W.isFn K (.ref fHa) = true)
    (lHa : K.lookup fHa = some ⟨ocHa, odHa, .func (PySem.W.fnOf "hardest" "Keeper.hardest" (defArgs sHa) (defBody sHa) (defScope sHa) .none kVHa dcHa pmHa anHa cdHa ctHa), slHa⟩)
    (cHa : PySem.W.codeIn K cdHa "Keeper.hardest" = true)
    (kHa : PySem.W.keepIn K (.ref fHa) = true)
    (aSa : PySem.W.findIn K (.ref CK) "state" = some (some (.ref fSa)))
    (iSa : PySem.W.isFn K (.ref fSa) = true)
    (lSa : K.lookup fSa = some ⟨ocSa, odSa, .func (PySem.W.fnOf "state" "Keeper.state" (defArgs sSa) (defBody sSa) (defScope sSa) .none kVSa dcSa pmSa anSa cdSa ctSa), slSa⟩)
    (cSa : PySem.W.codeIn K cdSa "Keeper.state" = true)
    (kSa : PySem.W.keepIn K (.ref fSa) = true)
    (aOc : PySem.W.nsIn K mainGlobals "of_cars" = some (some (.ref fOc)))
    (lOc : K.lookup fOc = some ⟨ocOc, odOc, .func (PySem.W.fnOf "of_cars" "of_cars" (defArgs sOc) (defBody sOc) (defScope sOc) .none kVOc dcOc pmOc anOc cdOc ctOc), slOc⟩)
    (cOc : PySem.W.codeIn K cdOc "of_cars" = true)
    (kOc : PySem.W.keepIn K (.ref fOc) = true)
    (aOp : PySem.W.nsIn K mainGlobals "of_plans" = some (some (.ref fOp)))
    (lOp : K.lookup fOp = some ⟨ocOp, odOp, .func (PySem.W.fnOf "of_plans" "of_plans" (defArgs sOp) (defBody sOp) (defScope sOp) .none kVOp dcOp pmOp anOp cdOp ctOp), slOp⟩)
    (cOp : PySem.W.codeIn K cdOp "of_plans" = true)
    (kOp : PySem.W.keepIn K (.ref fOp) = true)
    (aAn : PySem.W.nsIn K mainGlobals "answer" = some (some (.ref fAn)))
    (lAn : K.lookup fAn = some ⟨ocAn, odAn, .func (PySem.W.fnOf "answer" "answer" (defArgs sAn) (defBody sAn) (defScope sAn) .none kVAn dcAn pmAn anAn cdAn ctAn), slAn⟩)
    (cAn : PySem.W.codeIn K cdAn "answer" = true)
    (kAn : PySem.W.keepIn K (.ref fAn) = true)
    (aAs : PySem.W.nsIn K mainGlobals "answers" = some (some (.ref fAs)))
    (lAs : K.lookup fAs = some ⟨ocAs, odAs, .func (PySem.W.fnOf "answers" "answers" (defArgs sAs) (defBody sAs) (defScope sAs) .none kVAs dcAs pmAs anAs cdAs ctAs), slAs⟩)
    (cAs : PySem.W.codeIn K cdAs "answers" = true)
    (kAs : PySem.W.keepIn K (.ref fAs) = true)
    (pgC : PySem.W.plainGet K C Str.empty = true)
    (hdC : PySem.W.hasDictIn K C = true)
    (poC : PySem.W.plainOver K C = true)
    (saC : PySem.W.findIn K (.ref C) "__setattr__" = some (some (.builtin "object.__setattr__")))
    (mkC : PySem.W.makesIn K C = true)
    (kcC : PySem.W.keepIn K (.ref C) = true)
    (pgCK : PySem.W.plainGet K CK Str.empty = true)
    (hdCK : PySem.W.hasDictIn K CK = true)
    (poCK : PySem.W.plainOver K CK = true)
    (saCK : PySem.W.findIn K (.ref CK) "__setattr__" = some (some (.builtin "object.__setattr__")))
    (mkCK : PySem.W.makesIn K CK = true)
    (kcCK : PySem.W.keepIn K (.ref CK) = true)
    (nC0 : PySem.W.findIn K (.ref C) "is_upright" = some none)
    (nC1 : PySem.W.findIn K (.ref C) "its_line" = some none)
    (nC2 : PySem.W.findIn K (.ref C) "length" = some none)
    (nC3 : PySem.W.findIn K (.ref C) "span" = some none)
    (nCK0 : PySem.W.findIn K (.ref CK) "many_rows" = some none)
    (nCK1 : PySem.W.findIn K (.ref CK) "many_columns" = some none)
    (nCK2 : PySem.W.findIn K (.ref CK) "cars" = some none)
    (nCK3 : PySem.W.findIn K (.ref CK) "places" = some none)
    (nCK4 : PySem.W.findIn K (.ref CK) "wanted" = some none)
    (nCK5 : PySem.W.findIn K (.ref CK) "made" = some none)
    (xR : K.lookup CR = some (excClassObj nm q CR N bs [.type "ValueError", .type "Exception", .type "BaseException", .type "object"] true sn sub ab col dd m0 m1 m2 m3 m5 "ValueError.__new__"))
    (saR : PySem.W.findIn K (.ref CR) "__setattr__" = some (some (.builtin "object.__setattr__")))
    (gaR : PySem.W.findIn K (.ref CR) "__getattribute__" = some (some (.builtin "BaseException.__getattribute__")))
    (ggR : PySem.W.findIn K (.ref CR) "__getattr__" = some none)
    (nbR : PySem.W.findIn K (.ref CR) "code" = some none)
    (vvR : PySem.W.findCls K (.type "ValueError") (.type "type") "__init__" = some (.val (.builtin "ValueError.__init__")))
    (kcR : PySem.W.keepIn K (.ref CR) = true)
    (ecR : PySem.W.subIn K (.ref CR) (.type "BaseException") = some true)
    (tcR : PySem.W.typeIn K (.ref CR) = some (.type "type"))
    (hdR : PySem.W.hasDictIn K CR = true)
    (icR : PySem.W.isClsIn K CR = true)
    (scR : PySem.W.subIn K (.ref CR) (.ref CR) = some true)
    (zany : PySem.W.nsIn K mainGlobals "any" = some none)
    (zall : PySem.W.nsIn K mainGlobals "all" = some none)
    (zlist : PySem.W.nsIn K mainGlobals "list" = some none)
    (zrange : PySem.W.nsIn K mainGlobals "range" = some none)
    (zenumerate : PySem.W.nsIn K mainGlobals "enumerate" = some none)
    (zlen : PySem.W.nsIn K mainGlobals "len" = some none)
    (zmin : PySem.W.nsIn K mainGlobals "min" = some none)
    (zmax : PySem.W.nsIn K mainGlobals "max" = some none)
    (zdict : PySem.W.nsIn K mainGlobals "dict" = some none)
    (zsorted : PySem.W.nsIn K mainGlobals "sorted" = some none)
    (zset : PySem.W.nsIn K mainGlobals "set" = some none)
    (zint : PySem.W.nsIn K mainGlobals "int" = some none)
    (zValueError : PySem.W.nsIn K mainGlobals "ValueError" = some none)
    (vbad : PySem.W.nsIn K mainGlobals "BAD" = some (some (.int (-1) tkbad)))
    (vnoCar : PySem.W.nsIn K mainGlobals "NO_CAR" = some (some (.int (-2) tknoCar)))
    (vfull : PySem.W.nsIn K mainGlobals "FULL" = some (some (.int (-5) tkfull)))
    (vcannot : PySem.W.nsIn K mainGlobals "CANNOT" = some (some (.int (-6) tkcannot)))
    (vside : PySem.W.nsIn K mainGlobals "MOST_SIDE" = some (some (.int 5 tkside)))
    (vleast : PySem.W.nsIn K mainGlobals "LEAST_LENGTH" = some (some (.int 2 tkleast)))
    (vmost : PySem.W.nsIn K mainGlobals "MOST_LENGTH" = some (some (.int 5 tkmost)))
    (vcars : PySem.W.nsIn K mainGlobals "MOST_CARS" = some (some (.int 5 tkcars)))
    (gN : PySem.W.nsIn K mainGlobals "NUMBERS" = some (some (.ref aN)))
    (lN : K.lookup aN = some ⟨.type "tuple", odN, .seq #[.int 2 tn0, .int 4 tn1, .int 2 tn2, .int 2 tn3, .int 1 tn4, .int 0 tn5, .int 0 tn6, .int 0 tn7, .int 1 tn8, .int 0 tn9, .int 0 tn10] szN, slN⟩)
    : ∃ fd : FuncData, (∀ (s : Shared) (us : List Value), us.length = (["calls"] : List Str).length → BindsTo s fd ⟨us, []⟩ ((["calls"] : List Str).zip us)) ∧ ∀ base : Heap, K.In base → base.Ns mainGlobals mg → FnOk P w K mg base CX0 13 fa fd ["calls"] (spAs K) := by
  have e := hfa.symm.trans (PySem.W.mg_of X G aAs)
  cases e
  have FCI := fun_mk (st := sCI) lCI cCI kCI
  have bCI := FCI.binds (ps := ["self", "is_upright", "its_line", "length", "span"]) fun _ _ _ _ _ _ us hl => match us, hl with | [_, _, _, _, _], _ => rfl
  have FCe := fun_mk (st := sCe) lCe cCe kCe
  have bCe := FCe.binds (ps := ["self", "at"]) fun _ _ _ _ _ _ us hl => match us, hl with | [_, _], _ => rfl
  have FCs := fun_mk (st := sCs) lCs cCs kCs
  have bCs := FCs.binds (ps := ["self", "first", "last"]) fun _ _ _ _ _ _ us hl => match us, hl with | [_, _, _], _ => rfl
  have FAp := fun_mk (st := sAp) lAp cAp kAp
  have bAp := FAp.binds (ps := ["self"]) fun _ _ _ _ _ _ us hl => match us, hl with | [_], _ => rfl
  have FTk := fun_mk (st := sTk) lTk cTk kTk
  have bTk := FTk.binds (ps := ["cars", "places", "but"]) fun _ _ _ _ _ _ us hl => match us, hl with | [_, _, _], _ => rfl
  have gTk := PySem.W.mg_of X G aTk
  have FFr := fun_mk (st := sFr) lFr cFr kFr
  have bFr := FFr.binds (ps := ["cells", "others"]) fun _ _ _ _ _ _ us hl => match us, hl with | [_, _], _ => rfl
  have gFr := PySem.W.mg_of X G aFr
  have FGo := fun_mk (st := sGo) lGo cGo kGo
  have bGo := FGo.binds (ps := ["cars", "places", "number"]) fun _ _ _ _ _ _ us hl => match us, hl with | [_, _, _], _ => rfl
  have gGo := PySem.W.mg_of X G aGo
  have FWp := fun_mk (st := sWp) lWp cWp kWp
  have bWp := FWp.binds (ps := ["places", "number", "there"]) fun _ _ _ _ _ _ us hl => match us, hl with | [_, _, _], _ => rfl
  have gWp := PySem.W.mg_of X G aWp
  have FMo := fun_mk (st := sMo) lMo cMo kMo
  have bMo := FMo.binds (ps := ["cars", "places"]) fun _ _ _ _ _ _ us hl => match us, hl with | [_, _], _ => rfl
  have gMo := PySem.W.mg_of X G aMo
  have FFo := fun_mk (st := sFo) lFo cFo kFo
  have bFo := FFo.binds (ps := ["cars", "places"]) fun _ _ _ _ _ _ us hl => match us, hl with | [_, _], _ => rfl
  have gFo := PySem.W.mg_of X G aFo
  have FAr := fun_mk (st := sAr) lAr cAr kAr
  have bAr := FAr.binds (ps := ["cars"]) fun _ _ _ _ _ _ us hl => match us, hl with | [_], _ => rfl
  have gAr := PySem.W.mg_of X G aAr
  have FSF := fun_mk (st := sSF) lSF cSF kSF
  have bSF := FSF.binds (ps := ["cars", "starts"]) fun _ _ _ _ _ _ us hl => match us, hl with | [_, _], _ => rfl
  have gSF := PySem.W.mg_of X G aSF
  have FIW := fun_mk (st := sIW) lIW cIW kIW
  have bIW := FIW.binds (ps := ["places", "wanted"]) fun _ _ _ _ _ _ us hl => match us, hl with | [_, _], _ => rfl
  have gIW := PySem.W.mg_of X G aIW
  have FSW := fun_mk (st := sSW) lSW cSW kSW
  have bSW := FSW.binds (ps := ["cars", "places", "wanted"]) fun _ _ _ _ _ _ us hl => match us, hl with | [_, _, _], _ => rfl
  have gSW := PySem.W.mg_of X G aSW
  have FNe := fun_mk (st := sNe) lNe cNe kNe
  have bNe := FNe.binds (ps := ["cars", "places", "steps"]) fun _ _ _ _ _ _ us hl => match us, hl with | [_, _, _], _ => rfl
  have gNe := PySem.W.mg_of X G aNe
  have FPl := fun_mk (st := sPl) lPl cPl kPl
  have bPl := FPl.binds (ps := ["cars", "places", "steps"]) fun _ _ _ _ _ _ us hl => match us, hl with | [_, _, _], _ => rfl
  have gPl := PySem.W.mg_of X G aPl
  have FRI := fun_mk (st := sRI) lRI cRI kRI
  have bRI := FRI.binds (ps := ["self", "code"]) fun _ _ _ _ _ _ us hl => match us, hl with | [_, _], _ => rfl
  have FWa := fun_mk (st := sWa) lWa cWa kWa
  have bWa := FWa.binds (ps := ["is_so", "code"]) fun _ _ _ _ _ _ us hl => match us, hl with | [_, _], _ => rfl
  have gWa := PySem.W.mg_of X G aWa
  have FLi := fun_mk (st := sLi) lLi cLi kLi
  have bLi := FLi.binds (ps := ["some"]) fun _ _ _ _ _ _ us hl => match us, hl with | [_], _ => rfl
  have gLi := PySem.W.mg_of X G aLi
  have FFl := fun_mk (st := sFl) lFl cFl kFl
  have bFl := FFl.binds (ps := ["rows"]) fun _ _ _ _ _ _ us hl => match us, hl with | [_], _ => rfl
  have gFl := PySem.W.mg_of X G aFl
  have FKI := fun_mk (st := sKI) lKI cKI kKI
  have bKI := FKI.binds (ps := ["self"]) fun _ _ _ _ _ _ us hl => match us, hl with | [_], _ => rfl
  have FBe := fun_mk (st := sBe) lBe cBe kBe
  have bBe := FBe.binds (ps := ["self", "many_rows", "many_columns"]) fun _ _ _ _ _ _ us hl => match us, hl with | [_, _, _], _ => rfl
  have FPc := fun_mk (st := sPc) lPc cPc kPc
  have bPc := FPc.binds (ps := ["self", "upright", "its_line", "place", "length"]) fun _ _ _ _ _ _ us hl => match us, hl with | [_, _, _, _, _], _ => rfl
  have FWc := fun_mk (st := sWc) lWc cWc kWc
  have bWc := FWc.binds (ps := ["self", "number"]) fun _ _ _ _ _ _ us hl => match us, hl with | [_, _], _ => rfl
  have FMv := fun_mk (st := sMv) lMv cMv kMv
  have bMv := FMv.binds (ps := ["self", "number", "place"]) fun _ _ _ _ _ _ us hl => match us, hl with | [_, _, _], _ => rfl
  have FWi := fun_mk (st := sWi) lWi cWi kWi
  have bWi := FWi.binds (ps := ["self", "number", "place"]) fun _ _ _ _ _ _ us hl => match us, hl with | [_, _, _], _ => rfl
  have FFe := fun_mk (st := sFe) lFe cFe kFe
  have bFe := FFe.binds (ps := ["self", "number"]) fun _ _ _ _ _ _ us hl => match us, hl with | [_, _], _ => rfl
  have FSt := fun_mk (st := sSt) lSt cSt kSt
  have bSt := FSt.binds (ps := ["self"]) fun _ _ _ _ _ _ us hl => match us, hl with | [_], _ => rfl
  have FFw := fun_mk (st := sFw) lFw cFw kFw
  have bFw := FFw.binds (ps := ["self"]) fun _ _ _ _ _ _ us hl => match us, hl with | [_], _ => rfl
  have FPn := fun_mk (st := sPn) lPn cPn kPn
  have bPn := FPn.binds (ps := ["self"]) fun _ _ _ _ _ _ us hl => match us, hl with | [_], _ => rfl
  have FRe := fun_mk (st := sRe) lRe cRe kRe
  have bRe := FRe.binds (ps := ["self"]) fun _ _ _ _ _ _ us hl => match us, hl with | [_], _ => rfl
  have FPo := fun_mk (st := sPo) lPo cPo kPo
  have bPo := FPo.binds (ps := ["self", "number"]) fun _ _ _ _ _ _ us hl => match us, hl with | [_, _], _ => rfl
  have FHa := fun_mk (st := sHa) lHa cHa kHa
  have bHa := FHa.binds (ps := ["self"]) fun _ _ _ _ _ _ us hl => match us, hl with | [_], _ => rfl
  have FSa := fun_mk (st := sSa) lSa cSa kSa
  have bSa := FSa.binds (ps := ["self"]) fun _ _ _ _ _ _ us hl => match us, hl with | [_], _ => rfl
  have FOc := fun_mk (st := sOc) lOc cOc kOc
  have bOc := FOc.binds (ps := ["keeper", "call", "n"]) fun _ _ _ _ _ _ us hl => match us, hl with | [_, _, _], _ => rfl
  have gOc := PySem.W.mg_of X G aOc
  have FOp := fun_mk (st := sOp) lOp cOp kOp
  have bOp := FOp.binds (ps := ["keeper", "call", "n"]) fun _ _ _ _ _ _ us hl => match us, hl with | [_, _, _], _ => rfl
  have gOp := PySem.W.mg_of X G aOp
  have FAn := fun_mk (st := sAn) lAn cAn kAn
  have bAn := FAn.binds (ps := ["keeper", "call", "n"]) fun _ _ _ _ _ _ us hl => match us, hl with | [_, _, _], _ => rfl
  have gAn := PySem.W.mg_of X G aAn
  have FAs := fun_mk (st := sAs) lAs cAs kAs
  have T : Tx K mg C CK CR := ⟨⟨pgC, hdC, poC, saC⟩, nC0, nC1, nC2, nC3, ⟨pgCK, hdCK, poCK, saCK⟩, nCK0, nCK1, nCK2, nCK3, nCK4, nCK5, PySem.W.mg_of X G gC, PySem.W.mg_of X G gCK, PySem.W.mg_of X G gCR, PySem.W.mg_none_of X G zany, PySem.W.mg_none_of X G zall, PySem.W.mg_none_of X G zlist, PySem.W.mg_none_of X G zrange, PySem.W.mg_none_of X G zenumerate, PySem.W.mg_none_of X G zlen, PySem.W.mg_none_of X G zmin, PySem.W.mg_none_of X G zmax, PySem.W.mg_none_of X G zdict, PySem.W.mg_none_of X G zsorted, PySem.W.mg_none_of X G zset, PySem.W.mg_none_of X G zint, PySem.W.mg_none_of X G zValueError⟩
  have R : RTx K CR fRI := ⟨⟨⟨_, _, _, _, _, _, _, _, _, _, _, _, _, _, _, xR, by decide +kernel⟩, saR, ecR, tcR, kcR⟩, nbR, vvR, aRI, iRI, ⟨gaR, ggR, ecR, hdR⟩, exm_own ecR icR tcR scR⟩
  have Gc : Gx mg := ⟨⟨_, PySem.W.mg_of X G vbad, ⟨_, rfl⟩⟩, ⟨_, PySem.W.mg_of X G vnoCar, ⟨_, rfl⟩⟩, ⟨_, PySem.W.mg_of X G vfull, ⟨_, rfl⟩⟩, ⟨_, PySem.W.mg_of X G vcannot, ⟨_, rfl⟩⟩, ⟨_, PySem.W.mg_of X G vside, ⟨_, rfl⟩⟩, ⟨_, PySem.W.mg_of X G vleast, ⟨_, rfl⟩⟩, ⟨_, PySem.W.mg_of X G vmost, ⟨_, rfl⟩⟩, ⟨_, PySem.W.mg_of X G vcars, ⟨_, rfl⟩⟩⟩
  have NT : NTx K mg aN := ⟨⟨_, PySem.W.mg_of X G gN, rfl⟩, fun H => .inr ⟨_, _, _, lN, rfl, rfl, (by show 11 ≤ sizeLine; exact sz (by decide)), .cons ⟨_, rfl⟩ (.cons ⟨_, rfl⟩ (.cons ⟨_, rfl⟩ (.cons ⟨_, rfl⟩ (.cons ⟨_, rfl⟩ (.cons ⟨_, rfl⟩ (.cons ⟨_, rfl⟩ (.cons ⟨_, rfl⟩ (.cons ⟨_, rfl⟩ (.cons ⟨_, rfl⟩ (.cons ⟨_, rfl⟩ (.nil)))))))))))⟩⟩
  refine ⟨PySem.W.fnOf "answers" "answers" (defArgs sAs) (defBody sAs) (defScope sAs) .none kVAs dcAs pmAs anAs cdAs ctAs, fun s us hu => match us, hu with | [_], _ => .of_eq rfl, fun base _ _ => ?_⟩
  have dCe := met_mk (P := P) (w := w) (base := base) T.cC ⟨aCe, iCe, kCe⟩ FCe bCe (ok_Ce T FCe)
  have dCs := met_mk (P := P) (w := w) (base := base) T.cC ⟨aCs, iCs, kCs⟩ FCs bCs (ok_Cs T dCe FCs)
  have dAp := met_mk (P := P) (w := w) (base := base) T.cC ⟨aAp, iAp, kAp⟩ FAp bAp (ok_Ap T FAp)
  have dCar : Mak P w K mg base 1 "Car" C (spCI C) [] := ⟨_, _, _, [], ⟨mkC, aCI, iCI, kcC⟩, ok_CI T FCI, T.gC, bCI, .nil⟩
  have dKe : Mak P w K mg base 1 "Keeper" CK (spKI C CK) [] := ⟨_, _, _, [], ⟨mkCK, aKI, iKI, kcCK⟩, ok_KI T FKI, T.gK, bKI, .nil⟩
  have dTk := cal_mk (P := P) (w := w) (base := base) gTk FTk bTk (ok_Tk T dCs FTk)
  have dFr := cal_mk (P := P) (w := w) (base := base) gFr FFr bFr (ok_Fr T FFr)
  have dGo := cal_mk (P := P) (w := w) (base := base) gGo FGo bGo (ok_Go T dTk dFr dCs dAp FGo)
  have dWp := cal_mk (P := P) (w := w) (base := base) gWp FWp bWp (ok_Wp  FWp)
  have dMo := cal_mk (P := P) (w := w) (base := base) gMo FMo bMo (ok_Mo T dGo FMo)
  have dFo := cal_mk (P := P) (w := w) (base := base) gFo FFo bFo (ok_Fo dMo dWp FFo)
  have dAr := cal_mk (P := P) (w := w) (base := base) gAr FAr bAr (ok_Ar T dTk dFr dCs dAp FAr)
  have dSF := cal_mk (P := P) (w := w) (base := base) gSF FSF bSF (ok_SF T dFo FSF)
  have dIW := cal_mk (P := P) (w := w) (base := base) gIW FIW bIW (ok_IW T FIW)
  have dSW := cal_mk (P := P) (w := w) (base := base) gSW FSW bSW (ok_SW dSF dIW FSW)
  have dNe := cal_mk (P := P) (w := w) (base := base) gNe FNe bNe (ok_Ne dMo dWp FNe)
  have dPl := cal_mk (P := P) (w := w) (base := base) gPl FPl bPl (ok_Pl T dNe dWp FPl)
  have dWa := calx_mk (P := P) (w := w) (base := base) gWa FWa bWa (ok_Wa T R FRI bRI FWa)
  have dLi := cal_mk (P := P) (w := w) (base := base) gLi FLi bLi (ok_Li T FLi)
  have dFl := cal_mk (P := P) (w := w) (base := base) gFl FFl bFl (ok_Fl T FFl)
  have dBe := metx_mk (P := P) (w := w) (base := base) T.cK ⟨aBe, iBe, kBe⟩ FBe bBe (ok_Be T Gc dWa FBe)
  have dWc := metx_mk (P := P) (w := w) (base := base) T.cK ⟨aWc, iWc, kWc⟩ FWc bWc (ok_Wc T Gc dWa FWc)
  have dPc := metx_mk (P := P) (w := w) (base := base) T.cK ⟨aPc, iPc, kPc⟩ FPc bPc (ok_Pc T nCK Gc dWa dTk dFr dCs dCar FPc)
  have dMv := metx_mk (P := P) (w := w) (base := base) T.cK ⟨aMv, iMv, kMv⟩ FMv bMv (ok_Mv T nCK Gc dWa dWc dGo dWp dLi FMv)
  have dWi := metx_mk (P := P) (w := w) (base := base) T.cK ⟨aWi, iWi, kWi⟩ FWi bWi (ok_Wi T Gc dWa dWc dAp FWi)
  have dFe := metx_mk (P := P) (w := w) (base := base) T.cK ⟨aFe, iFe, kFe⟩ FFe bFe (ok_Fe T dWc FFe)
  have dSt := metx_mk (P := P) (w := w) (base := base) T.cK ⟨aSt, iSt, kSt⟩ FSt bSt (ok_St T Gc dWa dSW FSt)
  have dFw := metx_mk (P := P) (w := w) (base := base) T.cK ⟨aFw, iFw, kFw⟩ FFw bFw (ok_Fw T dSt FFw)
  have dPn := metx_mk (P := P) (w := w) (base := base) T.cK ⟨aPn, iPn, kPn⟩ FPn bPn (ok_Pn T dSt dPl dFl dLi FPn)
  have dRe := met_mk (P := P) (w := w) (base := base) T.cK ⟨aRe, iRe, kRe⟩ FRe bRe (ok_Re T dSF dAr FRe)
  have dPo := metx_mk (P := P) (w := w) (base := base) T.cK ⟨aPo, iPo, kPo⟩ FPo bPo (ok_Po T dWc dSF dLi FPo)
  have dHa := metx_mk (P := P) (w := w) (base := base) T.cK ⟨aHa, iHa, kHa⟩ FHa bHa (ok_Ha T dSt dLi FHa)
  have dSa := met_mk (P := P) (w := w) (base := base) T.cK ⟨aSa, iSa, kSa⟩ FSa bSa (ok_Sa T dFl dLi FSa)
  have dOc := calx_mk (P := P) (w := w) (base := base) gOc FOc bOc (ok_Oc dBe dPc dMv dWi dFe FOc)
  have dOp := calx_mk (P := P) (w := w) (base := base) gOp FOp bOp (ok_Op dFw dPn dRe dPo dHa dSa FOp)
  have dAn := cal_mk (P := P) (w := w) (base := base) gAn FAn bAn (ok_An T R dOc dOp FAn)
  exact ok_As T NT dKe dAn FAs
end Cy
open PySem PySem.W PyProof.Rows
set_option maxRecDepth 100000 in
set_option maxHeartbeats 8000000 in
theorem PySem.Challenge.cw_caryard_s01_answers_holds : PySem.Challenge.rw_caryard_s01_answers.Holds := by
  w_on; k_headS; (case hw => exact ⟨[.list [.int 10]], by decide +kernel, by decide +kernel⟩)
  k_fillS
  refine L2.walk_specK (r := PySem.Challenge.rw_caryard_s01_answers) (k := 13) (CX := L2.CX0) (ps := ["calls"]) (sp := Cy.spAs) (by decide +kernel) rfl rfl ⟨rfl, by decide, by decide⟩ (fun w h Y => PySem.W.kIn_of Y) ?F ?S (fun _ _ _ _ z => z)
  case F =>
    intro w mg fa h Y KX G hmg
    refine' Cy.all_mk KX G hmg ?nCK ?gC ?gCK ?gCR ?aCI ?iCI ?lCI ?cCI ?kCI ?aCe ?iCe ?lCe ?cCe ?kCe ?aCs ?iCs ?lCs ?cCs ?kCs ?aAp ?iAp ?lAp ?cAp ?kAp ?aTk ?lTk ?cTk ?kTk ?aFr ?lFr ?cFr ?kFr ?aGo ?lGo ?cGo ?kGo ?aWp ?lWp ?cWp ?kWp ?aMo ?lMo ?cMo ?kMo ?aFo ?lFo ?cFo ?kFo ?aAr ?lAr ?cAr ?kAr ?aSF ?lSF ?cSF ?kSF ?aIW ?lIW ?cIW ?kIW ?aSW ?lSW ?cSW ?kSW ?aNe ?lNe ?cNe ?kNe ?aPl ?lPl ?cPl ?kPl ?aRI ?iRI ?lRI ?cRI ?kRI ?aWa ?lWa ?cWa ?kWa ?aLi ?lLi ?cLi ?kLi ?aFl ?lFl ?cFl ?kFl ?aKI ?iKI ?lKI ?cKI ?kKI ?aBe ?iBe ?lBe ?cBe ?kBe ?aPc ?iPc ?lPc ?cPc ?kPc ?aWc ?iWc ?lWc ?cWc ?kWc ?aMv ?iMv ?lMv ?cMv ?kMv ?aWi ?iWi ?lWi ?cWi ?kWi ?aFe ?iFe ?lFe ?cFe ?kFe ?aSt ?iSt ?lSt ?cSt ?kSt ?aFw ?iFw ?lFw ?cFw ?kFw ?aPn ?iPn ?lPn ?cPn ?kPn ?aRe ?iRe ?lRe ?cRe ?kRe ?aPo ?iPo ?lPo ?cPo ?kPo ?aHa ?iHa ?lHa ?cHa ?kHa ?aSa ?iSa ?lSa ?cSa ?kSa ?aOc ?lOc ?cOc ?kOc ?aOp ?lOp ?cOp ?kOp ?aAn ?lAn ?cAn ?kAn ?aAs ?lAs ?cAs ?kAs ?pgC ?hdC ?poC ?saC ?mkC ?kcC ?pgCK ?hdCK ?poCK ?saCK ?mkCK ?kcCK ?nC0 ?nC1 ?nC2 ?nC3 ?nCK0 ?nCK1 ?nCK2 ?nCK3 ?nCK4 ?nCK5 ?xR ?saR ?gaR ?ggR ?nbR ?vvR ?kcR ?ecR ?tcR ?hdR ?icR ?scR ?zany ?zall ?zlist ?zrange ?zenumerate ?zlen ?zmin ?zmax ?zdict ?zsorted ?zset ?zint ?zValueError ?vbad ?vnoCar ?vfull ?vcannot ?vside ?vleast ?vmost ?vcars ?gN ?lN
    (case gC => k_is)
    (case gCK => k_is)
    (case gCR => k_is)
    (case aCI => k_is)
    (case iCI => k_is)
    (case lCI => k_is)
    (case cCI => k_is)
    (case kCI => k_is)
    (case aCe => k_is)
    (case iCe => k_is)
    (case lCe => k_is)
    (case cCe => k_is)
    (case kCe => k_is)
    (case aCs => k_is)
    (case iCs => k_is)
    (case lCs => k_is)
    (case cCs => k_is)
    (case kCs => k_is)
    (case aAp => k_is)
    (case iAp => k_is)
    (case lAp => k_is)
    (case cAp => k_is)
    (case kAp => k_is)
    (case aTk => k_is)
    (case lTk => k_is)
    (case cTk => k_is)
    (case kTk => k_is)
    (case aFr => k_is)
    (case lFr => k_is)
    (case cFr => k_is)
    (case kFr => k_is)
    (case aGo => k_is)
    (case lGo => k_is)
    (case cGo => k_is)
    (case kGo => k_is)
    (case aWp => k_is)
    (case lWp => k_is)
    (case cWp => k_is)
    (case kWp => k_is)
    (case aMo => k_is)
    (case lMo => k_is)
    (case cMo => k_is)
    (case kMo => k_is)
    (case aFo => k_is)
    (case lFo => k_is)
    (case cFo => k_is)
    (case kFo => k_is)
    (case aAr => k_is)
    (case lAr => k_is)
    (case cAr => k_is)
    (case kAr => k_is)
    (case aSF => k_is)
    (case lSF => k_is)
    (case cSF => k_is)
    (case kSF => k_is)
    (case aIW => k_is)
    (case lIW => k_is)
    (case cIW => k_is)
    (case kIW => k_is)
    (case aSW => k_is)
    (case lSW => k_is)
    (case cSW => k_is)
    (case kSW => k_is)
    (case aNe => k_is)
    (case lNe => k_is)
    (case cNe => k_is)
    (case kNe => k_is)
    (case aPl => k_is)
    (case lPl => k_is)
    (case cPl => k_is)
    (case kPl => k_is)
    (case aRI => k_is)
    (case iRI => k_is)
    (case lRI => k_is)
    (case cRI => k_is)
    (case kRI => k_is)
    (case aWa => k_is)
    (case lWa => k_is)
    (case cWa => k_is)
    (case kWa => k_is)
    (case aLi => k_is)
    (case lLi => k_is)
    (case cLi => k_is)
    (case kLi => k_is)
    (case aFl => k_is)
    (case lFl => k_is)
    (case cFl => k_is)
    (case kFl => k_is)
    (case aKI => k_is)
    (case iKI => k_is)
    (case lKI => k_is)
    (case cKI => k_is)
    (case kKI => k_is)
    (case aBe => k_is)
    (case iBe => k_is)
    (case lBe => k_is)
    (case cBe => k_is)
    (case kBe => k_is)
    (case aPc => k_is)
    (case iPc => k_is)
    (case lPc => k_is)
    (case cPc => k_is)
    (case kPc => k_is)
    (case aWc => k_is)
    (case iWc => k_is)
    (case lWc => k_is)
    (case cWc => k_is)
    (case kWc => k_is)
    (case aMv => k_is)
    (case iMv => k_is)
    (case lMv => k_is)
    (case cMv => k_is)
    (case kMv => k_is)
    (case aWi => k_is)
    (case iWi => k_is)
    (case lWi => k_is)
    (case cWi => k_is)
    (case kWi => k_is)
    (case aFe => k_is)
    (case iFe => k_is)
    (case lFe => k_is)
    (case cFe => k_is)
    (case kFe => k_is)
    (case aSt => k_is)
    (case iSt => k_is)
    (case lSt => k_is)
    (case cSt => k_is)
    (case kSt => k_is)
    (case aFw => k_is)
    (case iFw => k_is)
    (case lFw => k_is)
    (case cFw => k_is)
    (case kFw => k_is)
    (case aPn => k_is)
    (case iPn => k_is)
    (case lPn => k_is)
    (case cPn => k_is)
    (case kPn => k_is)
    (case aRe => k_is)
    (case iRe => k_is)
    (case lRe => k_is)
    (case cRe => k_is)
    (case kRe => k_is)
    (case aPo => k_is)
    (case iPo => k_is)
    (case lPo => k_is)
    (case cPo => k_is)
    (case kPo => k_is)
    (case aHa => k_is)
    (case iHa => k_is)
    (case lHa => k_is)
    (case cHa => k_is)
    (case kHa => k_is)
    (case aSa => k_is)
    (case iSa => k_is)
    (case lSa => k_is)
    (case cSa => k_is)
    (case kSa => k_is)
    (case aOc => k_is)
    (case lOc => k_is)
    (case cOc => k_is)
    (case kOc => k_is)
    (case aOp => k_is)
    (case lOp => k_is)
    (case cOp => k_is)
    (case kOp => k_is)
    (case aAn => k_is)
    (case lAn => k_is)
    (case cAn => k_is)
    (case kAn => k_is)
    (case aAs => k_is)
    (case lAs => k_is)
    (case cAs => k_is)
    (case kAs => k_is)
    (case pgC => k_is)
    (case hdC => k_is)
    (case poC => k_is)
    (case saC => k_is)
    (case mkC => k_is)
    (case kcC => k_is)
    (case pgCK => k_is)
    (case hdCK => k_is)
    (case poCK => k_is)
    (case saCK => k_is)
    (case mkCK => k_is)
    (case kcCK => k_is)
    (case nC0 => k_is)
    (case nC1 => k_is)
    (case nC2 => k_is)
    (case nC3 => k_is)
    (case nCK0 => k_is)
    (case nCK1 => k_is)
    (case nCK2 => k_is)
    (case nCK3 => k_is)
    (case nCK4 => k_is)
    (case nCK5 => k_is)
    (case xR => k_is)
    (case saR => k_is)
    (case gaR => k_is)
    (case ggR => k_is)
    (case nbR => k_is)
    (case vvR => first | k_is | rfl | decide +kernel)
    (case kcR => k_is)
    (case ecR => k_is)
    (case tcR => k_is)
    (case hdR => k_is)
    (case icR => k_is)
    (case scR => first | rfl | k_is)
    (case zany => k_is)
    (case zall => k_is)
    (case zlist => k_is)
    (case zrange => k_is)
    (case zenumerate => k_is)
    (case zlen => k_is)
    (case zmin => k_is)
    (case zmax => k_is)
    (case zdict => k_is)
    (case zsorted => k_is)
    (case zset => k_is)
    (case zint => k_is)
    (case zValueError => k_is)
    (case vbad => k_is)
    (case vnoCar => k_is)
    (case vfull => k_is)
    (case vcannot => k_is)
    (case vside => k_is)
    (case vleast => k_is)
    (case vmost => k_is)
    (case vcars => k_is)
    (case gN => k_is)
    (case lN => k_is)
    (case nCK => decide)
  case S =>
    intro K H xs a hO hwi hask hx
    cases hx with
    | cons h1 h2 =>
      cases h2
      cases h1 with
      | lst hs ha =>
        have e := L2.ints_dw a.1 _ ha
        subst e
        exact ⟨_, a.1, rfl, hs, hask, fun H' p _ hp => .lst (L2.SqL.of hp) (L2.dw_ints _)⟩
