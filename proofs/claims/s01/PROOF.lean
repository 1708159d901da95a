import PyProof.Rows.All
import Wide.All
import OpenK.AllK
import Wide.FinOn
import PyProof.EqAt
import PyProof.EqKinds
import PyProof.TupleCall
import Open.SpecLaws
import KE.OsGo
import KE.DatumOrd
import HandS.ForSpec
import HandS.Comp
import HandS.ExcInit
import HandS.ExcField
import HandS.SortKw
import PySem.Challenge.RW_cabinwait_s01_answers
set_option Elab.async false
set_option linter.all false
set_option maxRecDepth 100000
set_option maxHeartbeats 8000000
/-! The plain law: what the program computes, as total functions over lists of natural numbers, and that the specification says the same. No program here. -/
namespace Cw
open Uw40
/-- a row: of each who waits the minute in which they came; of each who has gone how long they waited -/
structure Rw where
  ws : List Nat
  gs : List Nat
def firsts (round cabins : Nat) : List Nat := (List.range cabins).map fun i => i * round / cabins
def goes (round cabins t : Nat) : Bool := decide (t % round ∈ firsts round cabins)
def cam (d : Day) (t : Nat) : Nat := d.comes.getD t 0
def plc (d : Day) (t : Nat) : Nat := if goes d.round d.cabins t = true then d.seats else 0
def Rw.minute (r : Rw) (t n p : Nat) : Rw :=
  ⟨(r.ws ++ List.replicate n t).drop p, r.gs ++ ((r.ws ++ List.replicate n t).take p).map fun x => t - x⟩
def behind (d : Day) : Nat → Rw
  | 0 => ⟨[], []⟩
  | t + 1 => (behind d t).minute t (cam d t) (plc d t)
/-- i minutes more, nobody comes -/
def after (d : Day) (r : Rw) (t : Nat) : Nat → Rw
  | 0 => r
  | i + 1 => (after d r t i).minute (t + i) 0 (plc d (t + i))
def late (d : Day) : Nat → Nat → Rw → Option Rw
  | 0, _, r => if r.ws = [] then some r else none
  | f + 1, t, r => if r.ws = [] then some r else late d f (t + 1) (r.minute t 0 (plc d t))
def atEnd (d : Day) : Option Rw := late d 200 d.comes.length (behind d d.comes.length)
def longest (r : Rw) : Nat := r.gs.foldl max 0
def isLet (d : Day) (w : Nat) : Bool := match atEnd d with
  | none => false
  | some r => decide (longest r ≤ w)
def withCabins (d : Day) (c : Nat) : Day := { d with cabins := c }
def fewest (d : Day) (w : Nat) : Option Nat := (List.range' 1 (min 20 d.round)).find? fun c => isLet (withCabins d c) w

/-- a day as the document tells it -/
structure Valid (d : Day) : Prop where
  r1 : 1 ≤ d.round
  r2 : d.round ≤ 30
  s1 : 1 ≤ d.seats
  s2 : d.seats ≤ 8
  c1 : 1 ≤ d.cabins
  c2 : d.cabins ≤ 20
  cr : d.cabins ≤ d.round
  m : d.comes.length ≤ 30
  p : ∀ n ∈ d.comes, n ≤ 20
theorem valid_init : Valid init := ⟨by decide, by decide, by decide, by decide, by decide, by decide, by decide, by decide, fun n h => by cases h⟩
theorem Valid.cab {d : Day} (v : Valid d) {c : Nat} (h1 : 1 ≤ c) (h2 : c ≤ min 20 d.round) : Valid (withCabins d c) :=
  ⟨v.r1, v.r2, v.s1, v.s2, h1, by show c ≤ 20; omega, by show c ≤ d.round; omega, v.m, v.p⟩

/-! ### a cabin goes by, or none -/
theorem at_lt {r c i j : Nat} (hc : 1 ≤ c) (hr : c ≤ r) (h : i < j) : i * r / c < j * r / c := by
  have h1 : i * r + r ≤ j * r := by
    have := Nat.mul_le_mul_right r h
    rwa [Nat.succ_mul] at this
  have h2 : (i * r + c) / c ≤ j * r / c := Nat.div_le_div_right (by omega)
  rw [Nat.add_div_right _ (by omega)] at h2
  omega
theorem firsts_nodup {r c : Nat} (hc : 1 ≤ c) (hr : c ≤ r) : (firsts r c).Nodup := by
  unfold firsts
  rw [List.nodup_iff_pairwise_ne, List.pairwise_map]
  exact (List.pairwise_lt_range).imp fun h e => absurd (at_lt hc hr h) (by rw [e]; exact Nat.lt_irrefl _)
theorem by_eq {d : Day} (v : Valid d) (t : Nat) : d.by_ t * d.seats = plc d t := by
  have e : d.by_ t = List.count (t % d.round) (firsts d.round d.cabins) := by
    unfold Day.by_ firsts List.count
    rw [List.countP_map, List.countP_eq_length_filter]
    congr 1
    refine List.filter_congr fun i _ => ?_
    show (t % d.round == d.at_ i) = (i * d.round / d.cabins == t % d.round)
    unfold Day.at_
    exact Bool.eq_iff_iff.mpr ⟨fun h => by rw [beq_iff_eq] at h ⊢; exact h.symm, fun h => by rw [beq_iff_eq] at h ⊢; exact h.symm⟩
  rw [e, (firsts_nodup v.c1 v.cr).count]
  unfold plc goes
  by_cases h : t % d.round ∈ firsts d.round d.cabins
  · rw [if_pos h, if_pos (by rw [decide_eq_true h]), Nat.one_mul]
  · rw [if_neg h, if_neg (by rw [decide_eq_false h]; exact Bool.false_ne_true), Nat.zero_mul]

/-! ### a minute -/
/-- the specification's row behind t minutes, and the program's -/
structure Rel (t : Nat) (r : Rw) (s : Stand) : Prop where
  row : s.row = r.ws.map fun x => t - x
  le : ∀ x ∈ r.ws, x ≤ t
  lg : s.longest = longest r
  sm : s.sum = total r.gs
  tk : s.taken = r.gs.length
theorem foldl_max_at : ∀ (l : List Nat) (a : Nat), l.foldl max a = max a (l.foldl max 0)
  | [], a => by simp
  | x :: l, a => by
    rw [List.foldl_cons, List.foldl_cons, foldl_max_at l (max a x), foldl_max_at l (max 0 x)]
    omega
theorem foldl_add_at : ∀ (l : List Nat) (a : Nat), l.foldl (fun a b => a + b) a = a + total l
  | [], a => by simp [total]
  | x :: l, a => by
    unfold total
    rw [List.foldl_cons, List.foldl_cons, foldl_add_at l (a + x), foldl_add_at l (0 + x)]
    omega
theorem total_app (a b : List Nat) : total (a ++ b) = total a + total b := by
  show (a ++ b).foldl (fun a b => a + b) 0 = _
  rw [List.foldl_append, foldl_add_at b]
  rfl
theorem take_min {α : Type} (l : List α) (k : Nat) : l.take (min l.length k) = l.take k := by
  by_cases h : k ≤ l.length
  · rw [Nat.min_eq_right h]
  · rw [Nat.min_eq_left (by omega), List.take_of_length_le (Nat.le_refl _), List.take_of_length_le (by omega)]
theorem drop_min {α : Type} (l : List α) (k : Nat) : l.drop (min l.length k) = l.drop k := by
  by_cases h : k ≤ l.length
  · rw [Nat.min_eq_right h]
  · rw [Nat.min_eq_left (by omega), List.drop_of_length_le (Nat.le_refl _), List.drop_of_length_le (by omega)]
theorem minute_le {t n p : Nat} {r : Rw} (h : ∀ x ∈ r.ws, x ≤ t) : ∀ x ∈ (r.minute t n p).ws, x ≤ t := fun x hx => by
  have hx' : x ∈ r.ws ++ List.replicate n t := List.mem_of_mem_drop hx
  rcases List.mem_append.mp hx' with z | z
  · exact h x z
  · exact Nat.le_of_eq (List.eq_of_mem_replicate z)
theorem rel_minute {d : Day} (v : Valid d) {t n : Nat} {r : Rw} {s : Stand} (R : Rel t r s) : Rel (t + 1) (r.minute t n (plc d t)) (d.minute t n s) := by
  have e : s.row ++ List.replicate n 0 = (r.ws ++ List.replicate n t).map fun x => t - x := by
    rw [List.map_append, R.row, List.map_replicate, Nat.sub_self]
  have hle : ∀ x ∈ r.ws ++ List.replicate n t, x ≤ t := fun x hx => by
    rcases List.mem_append.mp hx with z | z
    · exact R.le x z
    · exact Nat.le_of_eq (List.eq_of_mem_replicate z)
  generalize hw : r.ws ++ List.replicate n t = w at e hle
  have em : r.minute t n (plc d t) = ⟨w.drop (plc d t), r.gs ++ (w.take (plc d t)).map fun x => t - x⟩ := by unfold Rw.minute; rw [hw]
  have es : d.minute t n s = ⟨((w.map fun x => t - x).drop (plc d t)).map fun x => x + 1, max s.longest (((w.map fun x => t - x).take (plc d t)).foldl max 0), s.sum + total ((w.map fun x => t - x).take (plc d t)), s.taken + min w.length (plc d t)⟩ := by
    unfold Day.minute
    rw [e]
    dsimp only
    rw [by_eq v, drop_min, take_min, List.length_map]
  rw [em, es]
  refine ⟨?_, ?_, ?_, ?_, ?_⟩
  · show ((w.map fun x => t - x).drop (plc d t)).map (fun x => x + 1) = (w.drop (plc d t)).map fun x => t + 1 - x
    rw [← List.map_drop, List.map_map]
    refine List.map_congr_left fun x hx => ?_
    have := hle x (List.mem_of_mem_drop hx)
    show t - x + 1 = t + 1 - x
    omega
  · intro x hx
    exact Nat.le_succ_of_le (hle x (List.mem_of_mem_drop hx))
  · show max s.longest _ = (r.gs ++ _).foldl max 0
    rw [List.foldl_append, ← List.map_take, R.lg]
    exact (foldl_max_at _ (longest r)).symm
  · show s.sum + total _ = total (r.gs ++ _)
    rw [total_app, R.sm, List.map_take]
  · show s.taken + _ = (r.gs ++ _).length
    rw [List.length_append, List.length_map, List.length_take, R.tk, Nat.min_comm]
theorem from_app (d : Day) : ∀ (l : List Nat) (n t : Nat) (s : Stand), d.from_ t (l ++ [n]) s = d.minute (t + l.length) n (d.from_ t l s)
  | [], n, t, s => rfl
  | m :: l, n, t, s => by
    show d.from_ (t + 1) (l ++ [n]) (d.minute t m s) = _
    rw [from_app d l]
    show d.minute (t + 1 + l.length) n _ = d.minute (t + (l.length + 1)) n _
    rw [Nat.add_assoc, Nat.add_comm 1]
    rfl
theorem rel_behind {d : Day} (v : Valid d) : ∀ t, t ≤ d.comes.length → Rel t (behind d t) (d.from_ 0 (d.comes.take t) ⟨[], 0, 0, 0⟩)
  | 0, _ => ⟨rfl, fun x h => (nomatch h), rfl, rfl, rfl⟩
  | t + 1, h => by
    have ih := rel_behind v t (by omega)
    have hlt : t < d.comes.length := h
    have e : d.comes.take (t + 1) = d.comes.take t ++ [cam d t] := by
      unfold cam
      rw [List.take_add_one, List.getD_eq_getElem?_getD, List.getElem?_eq_getElem hlt]
      rfl
    rw [e, from_app, List.length_take, Nat.min_eq_left (by omega), Nat.zero_add]
    exact rel_minute v ih
theorem rel_late {d : Day} (v : Valid d) : ∀ (f t : Nat) (r : Rw) (s : Stand), Rel t r s →
    (late d f t r = none ∧ d.empties f t s = none) ∨ ∃ r' s' t', late d f t r = some r' ∧ d.empties f t s = some s' ∧ Rel t' r' s'
  | 0, t, r, s, R => by
    show ((if r.ws = [] then some r else none) = none ∧ (if s.row = [] then some s else none) = none) ∨ ∃ r' s' t', (if r.ws = [] then some r else none) = some r' ∧ (if s.row = [] then some s else none) = some s' ∧ Rel t' r' s'
    by_cases h : r.ws = []
    · have h' : s.row = [] := by rw [R.row, h]; rfl
      rw [if_pos h, if_pos h']
      exact .inr ⟨r, s, t, rfl, rfl, R⟩
    · have h' : ¬ s.row = [] := by rw [R.row]; exact fun z => h (List.map_eq_nil_iff.mp z)
      rw [if_neg h, if_neg h']
      exact .inl ⟨rfl, rfl⟩
  | f + 1, t, r, s, R => by
    show ((if r.ws = [] then some r else late d f (t + 1) (r.minute t 0 (plc d t))) = none ∧ (if s.row = [] then some s else d.empties f (t + 1) (d.minute t 0 s)) = none) ∨
      ∃ r' s' t', (if r.ws = [] then some r else late d f (t + 1) (r.minute t 0 (plc d t))) = some r' ∧ (if s.row = [] then some s else d.empties f (t + 1) (d.minute t 0 s)) = some s' ∧ Rel t' r' s'
    by_cases h : r.ws = []
    · have h' : s.row = [] := by rw [R.row, h]; rfl
      rw [if_pos h, if_pos h']
      exact .inr ⟨r, s, t, rfl, rfl, R⟩
    · have h' : ¬ s.row = [] := by rw [R.row]; exact fun z => h (List.map_eq_nil_iff.mp z)
      rw [if_neg h, if_neg h']
      exact rel_late v f (t + 1) _ _ (rel_minute v R)
/-- how the day ends -/
theorem rel_end {d : Day} (v : Valid d) : (atEnd d = none ∧ d.end_ = none) ∨ ∃ r s t, atEnd d = some r ∧ d.end_ = some s ∧ Rel t r s := by
  have R := rel_behind v d.comes.length (Nat.le_refl _)
  rw [List.take_length] at R
  exact rel_late v 200 d.comes.length _ _ R
theorem let_eq {d : Day} (v : Valid d) (w : Nat) : isLet d w = match d.longest with
    | none => false
    | some m => decide (m ≤ w) := by
  unfold isLet Day.longest
  rcases rel_end v with ⟨e1, e2⟩ | ⟨r, s, t, e1, e2, R⟩
  · rw [e1, e2]
    rfl
  · rw [e1, e2]
    show decide (longest r ≤ w) = decide (s.longest ≤ w)
    rw [R.lg]
theorem find_congr {α : Type} {p q : α → Bool} : ∀ {l : List α}, (∀ x ∈ l, p x = q x) → l.find? p = l.find? q
  | [], _ => rfl
  | x :: l, h => by
    rw [List.find?_cons, List.find?_cons, h x (List.mem_cons_self ..), find_congr fun y hy => h y (List.mem_cons_of_mem _ hy)]
theorem find_range {p q : Nat → Bool} {m : Nat} (hm : m ≤ 20) (h0 : p 0 = false) (h1 : ∀ x, 1 ≤ x → x ≤ m → p x = q x) (h2 : ∀ x, m < x → x ≤ 20 → p x = false) : (List.range (20 + 1)).find? p = (List.range' 1 m).find? q := by
  have e : List.range (20 + 1) = 0 :: (List.range' 1 m ++ List.range' (1 + m) (20 - m)) := by
    have e1 : List.range' 1 m ++ List.range' (1 + m) (20 - m) = List.range' 1 20 := by
      have := List.range'_append (s := 1) (m := m) (n := 20 - m) (step := 1)
      rw [Nat.one_mul] at this
      rw [this]
      congr 1
      omega
    rw [e1]
    rfl
  rw [e, List.find?_cons, h0, List.find?_append]
  have n2 : (List.range' (1 + m) (20 - m)).find? p = none := by
    rw [List.find?_eq_none]
    intro x hx
    rw [List.mem_range'_1] at hx
    rw [h2 x (by omega) (by omega)]
    exact Bool.false_ne_true
  rw [n2, Option.or_none]
  refine find_congr fun x hx => ?_
  rw [List.mem_range'_1] at hx
  exact h1 x (by omega) (by omega)
theorem fewest_eq {d : Day} (v : Valid d) (w : Nat) : d.fewest w = fewest d w := by
  unfold Day.fewest fewest CABINS
  refine find_range (Nat.min_le_left ..) rfl (fun x a b => ?_) fun x a b => ?_
  · rw [decide_eq_true (show 1 ≤ x from a), decide_eq_true (show x ≤ d.round by omega), Bool.true_and, Bool.true_and]
    exact (let_eq (v.cab (c := x) a b) w).symm
  · rw [decide_eq_false (show ¬ x ≤ d.round by omega), Bool.false_and, Bool.and_false]

/-! ### sizes -/
def Rw.size (r : Rw) : Nat := r.ws.length + r.gs.length
theorem size_minute (r : Rw) (t n p : Nat) : (r.minute t n p).size = r.size + n := by
  unfold Rw.size Rw.minute
  dsimp only
  rw [List.length_drop, List.length_append, List.length_append, List.length_map, List.length_take, List.length_append, List.length_replicate]
  omega
theorem cam_le {d : Day} (v : Valid d) (t : Nat) : cam d t ≤ 20 := by
  unfold cam
  rw [List.getD_eq_getElem?_getD]
  cases e : d.comes[t]? with
  | none => exact Nat.zero_le _
  | some n => exact v.p n (List.mem_of_getElem? e)
theorem size_behind {d : Day} (v : Valid d) : ∀ t, (behind d t).size ≤ 20 * t
  | 0 => Nat.le_refl _
  | t + 1 => by
    have ih := size_behind v t
    have h := cam_le v t
    show ((behind d t).minute t (cam d t) (plc d t)).size ≤ _
    rw [size_minute]
    omega
theorem le_behind (d : Day) : ∀ t, ∀ x ∈ (behind d t).ws, x ≤ t
  | 0 => fun x h => (nomatch h)
  | t + 1 => fun _ h => Nat.le_succ_of_le (minute_le (le_behind d t) _ h)
theorem size_after (d : Day) (r : Rw) (t : Nat) : ∀ i, (after d r t i).size = r.size
  | 0 => rfl
  | i + 1 => by
    show ((after d r t i).minute (t + i) 0 (plc d (t + i))).size = _
    rw [size_minute, size_after d r t i]
    rfl
theorem le_after {d : Day} {r : Rw} {t : Nat} (h : ∀ x ∈ r.ws, x ≤ t) : ∀ i, ∀ x ∈ (after d r t i).ws, x ≤ t + i
  | 0 => h
  | i + 1 => fun x hx => Nat.le_succ_of_le (minute_le (le_after h i) x hx)

/-! ### how a day ends, turn by turn -/
theorem after_left (d : Day) (r : Rw) (t : Nat) : ∀ i, after d (r.minute t 0 (plc d t)) (t + 1) i = after d r t (i + 1)
  | 0 => rfl
  | i + 1 => by
    show (after d (r.minute t 0 (plc d t)) (t + 1) i).minute (t + 1 + i) 0 (plc d (t + 1 + i)) = (after d r t (i + 1)).minute (t + (i + 1)) 0 (plc d (t + (i + 1)))
    rw [after_left d r t i, show t + 1 + i = t + (i + 1) by omega]
theorem late_some {d : Day} : ∀ (f : Nat) {t : Nat} {r : Rw} {i : Nat}, i ≤ f → (∀ j, j < i → (after d r t j).ws ≠ []) → (after d r t i).ws = [] → late d f t r = some (after d r t i)
  | 0, t, r, i, hi, _, h => by
    have e : i = 0 := by omega
    subst e
    show (if r.ws = [] then some r else none) = some r
    rw [if_pos (show r.ws = [] from h)]
  | f + 1, t, r, 0, _, _, h => by
    show (if r.ws = [] then some r else _) = some r
    rw [if_pos (show r.ws = [] from h)]
  | f + 1, t, r, i + 1, hi, hn, h => by
    show (if r.ws = [] then some r else late d f (t + 1) (r.minute t 0 (plc d t))) = _
    rw [if_neg (show ¬ r.ws = [] from hn 0 (Nat.succ_pos _)), ← after_left]
    refine late_some f (by omega) (fun j hj => ?_) ?_
    · rw [after_left]
      exact hn (j + 1) (by omega)
    · rw [after_left]
      exact h
theorem late_none {d : Day} : ∀ (f : Nat) {t : Nat} {r : Rw}, (∀ j, j ≤ f → (after d r t j).ws ≠ []) → late d f t r = none
  | 0, t, r, h => if_neg (h 0 (Nat.le_refl _))
  | f + 1, t, r, h => by
    show (if r.ws = [] then some r else late d f (t + 1) (r.minute t 0 (plc d t))) = _
    rw [if_neg (show ¬ r.ws = [] from h 0 (Nat.zero_le _))]
    refine late_none f fun j hj => ?_
    rw [after_left]
    exact h (j + 1) (by omega)
theorem fewest_some {d : Day} {w i : Nat} (hi : i < min 20 d.round) (hn : ∀ j, j < i → isLet (withCabins d (1 + j)) w = false) (h : isLet (withCabins d (1 + i)) w = true) : fewest d w = some (1 + i) := by
  unfold fewest
  generalize min 20 d.round = m at hi
  have e : List.range' 1 m = List.range' 1 i ++ (1 + i) :: List.range' (1 + i + 1) (m - i - 1) := by
    have h1 := List.range'_append (s := 1) (m := i) (n := m - i) (step := 1)
    rw [Nat.one_mul, show i + (m - i) = m by omega] at h1
    rw [← h1]
    have h2 : m - i = (m - i - 1) + 1 := by omega
    rw [h2, List.range'_succ]
    rfl
  have n1 : (List.range' 1 i).find? (fun c => isLet (withCabins d c) w) = none := by
    rw [List.find?_eq_none]
    intro x hx
    rw [List.mem_range'_1] at hx
    have := hn (x - 1) (by omega)
    rw [show 1 + (x - 1) = x by omega] at this
    rw [this]
    exact Bool.false_ne_true
  rw [e, List.find?_append, n1, List.find?_cons, h]
  rfl
theorem fewest_none {d : Day} {w : Nat} (hn : ∀ j, j < min 20 d.round → isLet (withCabins d (1 + j)) w = false) : fewest d w = none := by
  unfold fewest
  rw [List.find?_eq_none]
  intro x hx
  rw [List.mem_range'_1] at hx
  have := hn (x - 1) (by omega)
  rw [show 1 + (x - 1) = x by omega] at this
  rw [this]
  exact Bool.false_ne_true

/-! ### the calls -/
abbrev ans (d : Day) (x : Call) : List Int := Uw40Neutral.out (step d x).2
theorem out_ok (z : Int) : Uw40Neutral.out (ok z) = [z] := rfl
theorem step_begins_no {d : Day} {r s c : Nat} (h : ¬ (((1 ≤ r ∧ r ≤ 30) ∧ (1 ≤ s ∧ s ≤ 8)) ∧ ((1 ≤ c ∧ c ≤ 20) ∧ c ≤ r))) : step d (.begins r s c) = (d, ok (-1)) :=
  if_pos (show r < 1 ∨ 30 < r ∨ s < 1 ∨ 8 < s ∨ c < 1 ∨ 20 < c ∨ r < c by omega)
theorem step_begins {d : Day} {r s c : Nat} (h : ((1 ≤ r ∧ r ≤ 30) ∧ (1 ≤ s ∧ s ≤ 8)) ∧ ((1 ≤ c ∧ c ≤ 20) ∧ c ≤ r)) : step d (.begins r s c) = (⟨r, s, c, []⟩, ok 0) :=
  if_neg (show ¬ (r < 1 ∨ 30 < r ∨ s < 1 ∨ 8 < s ∨ c < 1 ∨ 20 < c ∨ r < c) by omega)
theorem step_come_many {d : Day} {n : Nat} (h : ¬ n ≤ 20) : step d (.come n) = (d, ok (-1)) := if_pos (show 20 < n by omega)
theorem step_come_full {d : Day} {n : Nat} (h : n ≤ 20) (h2 : ¬ d.comes.length < 30) : step d (.come n) = (d, ok (-5)) := by
  show (if 20 < n then (d, ok (-1)) else if 30 ≤ d.comes.length then (d, ok (-5)) else _) = _
  rw [if_neg (by omega), if_pos (by omega)]
theorem step_come {d : Day} {n : Nat} (h : n ≤ 20) (h2 : d.comes.length < 30) : step d (.come n) = ({ d with comes := d.comes ++ [n] }, ok (d.comes.length : Nat)) := by
  show (if 20 < n then (d, ok (-1)) else if 30 ≤ d.comes.length then (d, ok (-5)) else _) = _
  rw [if_neg (by omega), if_neg (by omega)]
theorem step_row_no {d : Day} {t : Nat} (h : ¬ t ≤ d.comes.length) : step d (.row t) = (d, ok (-1)) := if_pos (show d.comes.length < t by omega)
theorem step_row {d : Day} (v : Valid d) {t : Nat} (h : t ≤ d.comes.length) : (step d (.row t)).1 = d ∧ ans d (.row t) = ((behind d t).ws.length : Int) :: ((behind d t).gs.length : Int) :: (behind d t).ws.map fun x => ((t - x : Nat) : Int) := by
  have R := rel_behind v t h
  have e : step d (.row t) = (d, let s := d.from_ 0 (d.comes.take t) ⟨[], 0, 0, 0⟩
    ⟨(s.row.length : Nat), s.taken :: s.row⟩) := if_neg (show ¬ d.comes.length < t by omega)
  unfold ans
  rw [e]
  refine ⟨rfl, ?_⟩
  show ((d.from_ 0 (d.comes.take t) ⟨[], 0, 0, 0⟩).row.length : Int) :: (((d.from_ 0 (d.comes.take t) ⟨[], 0, 0, 0⟩).taken :: (d.from_ 0 (d.comes.take t) ⟨[], 0, 0, 0⟩).row).map fun n : Nat => (n : Int)) = _
  rw [R.tk, R.row, List.map_cons, List.map_map, List.length_map]
  rfl
theorem step_times (d : Day) : (step d .times).1 = d ∧ ans d .times = (d.cabins : Int) :: (firsts d.round d.cabins).map fun n : Nat => (n : Int) := ⟨rfl, rfl⟩
theorem step_ends_no {d : Day} (v : Valid d) (h : atEnd d = none) : step d .ends = (d, ok (-6)) := by
  show (d, _) = (d, _)
  rcases rel_end v with ⟨_, e2⟩ | ⟨r, s, t, e1, _, _⟩
  · rw [e2]
  · rw [h] at e1
    cases e1
theorem step_ends {d : Day} (v : Valid d) {r : Rw} (h : atEnd d = some r) : (step d .ends).1 = d ∧ ans d .ends = [(longest r : Int), (total r.gs : Int), (r.gs.length : Int)] := by
  refine ⟨rfl, ?_⟩
  rcases rel_end v with ⟨e1, _⟩ | ⟨r', s, t, e1, e2, R⟩
  · rw [h] at e1
    cases e1
  · rw [h] at e1
    cases e1
    unfold ans
    show Uw40Neutral.out (match d.end_ with | none => ok (-6) | some s => ⟨(s.longest : Nat), [s.sum, s.taken]⟩) = _
    rw [e2]
    show [(s.longest : Int), (s.sum : Int), (s.taken : Int)] = _
    rw [R.lg, R.sm, R.tk]
theorem step_fewest_far {d : Day} {w : Nat} (h : ¬ w ≤ 200) : step d (.fewest w) = (d, ok (-1)) := if_pos (show 200 < w by omega)
theorem step_fewest_no {d : Day} (v : Valid d) {w : Nat} (h : w ≤ 200) (e : fewest d w = none) : step d (.fewest w) = (d, ok (-6)) := by
  show (if 200 < w then (d, ok (-1)) else (d, match d.fewest w with | none => ok (-6) | some n => ok (n : Nat))) = _
  rw [if_neg (by omega), fewest_eq v, e]
theorem step_fewest {d : Day} (v : Valid d) {w n : Nat} (h : w ≤ 200) (e : fewest d w = some n) : step d (.fewest w) = (d, ok (n : Nat)) := by
  show (if 200 < w then (d, ok (-1)) else (d, match d.fewest w with | none => ok (-6) | some n => ok (n : Nat))) = _
  rw [if_neg (by omega), fewest_eq v, e]
theorem valid_step {d : Day} (v : Valid d) : ∀ x : Call, Valid (step d x).1
  | .begins r s c => by
    by_cases h : ((1 ≤ r ∧ r ≤ 30) ∧ (1 ≤ s ∧ s ≤ 8)) ∧ ((1 ≤ c ∧ c ≤ 20) ∧ c ≤ r)
    · rw [step_begins h]
      exact ⟨h.1.1.1, h.1.1.2, h.1.2.1, h.1.2.2, h.2.1.1, h.2.1.2, h.2.2, Nat.zero_le _, fun n z => (nomatch z)⟩
    · rw [step_begins_no h]
      exact v
  | .come n => by
    by_cases h : n ≤ 20
    · by_cases h2 : d.comes.length < 30
      · rw [step_come h h2]
        refine ⟨v.r1, v.r2, v.s1, v.s2, v.c1, v.c2, v.cr, ?_, fun m hm => ?_⟩
        · show (d.comes ++ [n]).length ≤ 30
          rw [List.length_append]
          show d.comes.length + 1 ≤ 30
          omega
        · rcases List.mem_append.mp hm with z | z
          · exact v.p m z
          · rw [List.mem_singleton.mp z]
            exact h
      · rw [step_come_full h h2]
        exact v
    · rw [step_come_many h]
      exact v
  | .row t => by
    by_cases h : t ≤ d.comes.length
    · rw [(step_row v h).1]
      exact v
    · rw [step_row_no h]
      exact v
  | .times => v
  | .ends => v
  | .fewest w => by
    by_cases h : w ≤ 200
    · have e : step d (.fewest w) = (d, match d.fewest w with | none => ok (-6) | some n => ok (n : Nat)) := if_neg (show ¬ 200 < w by omega)
      rw [e]
      exact v
    · rw [step_fewest_far h]
      exact v

/-! ### the line -/
/-- a call, as it stands in the list -/
inductive CallIs : Int → List Int → Call → Prop
  | begins (r s c : Nat) : CallIs 0 [(r : Int), (s : Int), (c : Int)] (.begins r s c)
  | come (n : Nat) : CallIs 1 [(n : Int)] (.come n)
  | row (t : Nat) : CallIs 2 [(t : Int)] (.row t)
  | times : CallIs 3 [] .times
  | ends : CallIs 4 [] .ends
  | fewest (w : Nat) : CallIs 5 [(w : Int)] (.fewest w)
/-- from a day, what is still to be read, what is still to be answered -/
inductive Play : Day → List Int → List Int → Prop
  | done (d : Day) : Play d [] []
  | more {d : Day} {p : Int} {xs rest out : List Int} {x : Call} (c : CallIs p xs x) (next : Play (step d x).1 rest out) : Play d (p :: (xs ++ rest)) (((ans d x).length : Int) :: (ans d x ++ out))
theorem nat_cast {z : Int} (h : Uw40Neutral.nat z = true) : ((z.toNat : Nat) : Int) = z := by
  unfold Uw40Neutral.nat at h
  rw [Bool.and_eq_true, decide_eq_true_eq] at h
  exact Int.toNat_of_nonneg h.1
theorem toNat_is {z : Int} {k : Nat} (h : Uw40Neutral.nat z = true) (e : z.toNat = k) : z = (k : Int) := by rw [← nat_cast h, e]
theorem call_is {p : Int} {xs : List Int} {x : Call} (h : Uw40Neutral.callOf (p :: xs) = some x) : CallIs p xs x := by
  unfold Uw40Neutral.callOf at h
  by_cases ha : (p :: xs).all Uw40Neutral.nat = false
  · rw [if_pos ha] at h
    cases h
  rw [if_neg ha] at h
  rw [Bool.not_eq_false] at ha
  rw [List.all_cons, Bool.and_eq_true] at ha
  obtain ⟨hp, hx⟩ := ha
  rw [List.all_eq_true] at hx
  rw [List.map_cons] at h
  unfold Uw40Neutral.callIn at h
  split at h
  · rename_i r s c e
    obtain ⟨e0, e⟩ := List.cons.inj e
    match xs, e, hx with
    | [a, b, g], e, hx =>
      have e1 : a.toNat = r := (List.cons.inj e).1
      have e2 : b.toNat = s := (List.cons.inj (List.cons.inj e).2).1
      have e3 : g.toNat = c := (List.cons.inj (List.cons.inj (List.cons.inj e).2).2).1
      rw [toNat_is hp e0, toNat_is (hx a (by simp)) e1, toNat_is (hx b (by simp)) e2, toNat_is (hx g (by simp)) e3]
      cases h
      exact .begins r s c
  · rename_i n e
    obtain ⟨e0, e⟩ := List.cons.inj e
    match xs, e, hx with
    | [a], e, hx =>
      rw [toNat_is hp e0, toNat_is (hx a (by simp)) (List.cons.inj e).1]
      cases h
      exact .come n
  · rename_i n e
    obtain ⟨e0, e⟩ := List.cons.inj e
    match xs, e, hx with
    | [a], e, hx =>
      rw [toNat_is hp e0, toNat_is (hx a (by simp)) (List.cons.inj e).1]
      cases h
      exact .row n
  · rename_i e
    obtain ⟨e0, e⟩ := List.cons.inj e
    match xs, e with
    | [], e =>
      rw [toNat_is hp e0]
      cases h
      exact .times
  · rename_i e
    obtain ⟨e0, e⟩ := List.cons.inj e
    match xs, e with
    | [], e =>
      rw [toNat_is hp e0]
      cases h
      exact .ends
  · rename_i n e
    obtain ⟨e0, e⟩ := List.cons.inj e
    match xs, e, hx with
    | [a], e, hx =>
      rw [toNat_is hp e0, toNat_is (hx a (by simp)) (List.cons.inj e).1]
      cases h
      exact .fewest n
  · cases h
theorem whole_id (c : List (List Int)) : PyUw40.whole c = c := by
  unfold PyUw40.whole
  split <;> rfl
theorem shape_flat {p : Int} {n k : Nat} (h : PyUw40.shape p = some (n, k)) : k = 0 := by
  unfold PyUw40.shape at h
  repeat (split at h; · cases h; rfl)
  cases h
abbrev stepC : Uw40Neutral.S → List (List Int) → Uw40Neutral.S × List Int := fun s c => Uw40Neutral.step s (c.headD [])
theorem play_calls : ∀ (f : Nat) (l : List Int) (raw : List (List (List Int))) (d : Day), PyFlat.calls PyUw40.shape f l = some raw → (raw.map fun c => c.headD []).all Uw40Neutral.asked1 = true →
    Play d l (PyFlat.told (PyFlat.played stepC d raw))
  | f, [], raw, d, h, _ => by
    have e : raw = [] := by
      cases f <;> (unfold PyFlat.calls at h; cases h; rfl)
    subst e
    exact .done d
  | 0, _ :: _, raw, d, h, _ => by
    unfold PyFlat.calls at h
    cases h
  | f + 1, p :: r, raw, d, h, ha => by
    unfold PyFlat.calls at h
    unfold PyFlat.call at h
    dsimp only at h
    cases hs : PyUw40.shape p with
    | none =>
      rw [hs] at h
      cases h
    | some nk =>
      obtain ⟨n, k⟩ := nk
      have ek := shape_flat hs
      subst ek
      rw [hs] at h
      dsimp only at h
      by_cases hl : r.length < n
      · rw [if_pos hl] at h
        cases h
      rw [if_neg hl] at h
      unfold PyFlat.rows at h
      dsimp only at h
      cases hc : PyFlat.calls PyUw40.shape f (r.drop n) with
      | none =>
        rw [hc] at h
        cases h
      | some cs =>
        rw [hc] at h
        cases h
        rw [List.map_cons, List.all_cons, Bool.and_eq_true] at ha
        obtain ⟨ha1, ha2⟩ := ha
        have ha1' : (Uw40Neutral.callOf (p :: r.take n)).isSome = true := ha1
        cases hx : Uw40Neutral.callOf (p :: r.take n) with
        | none =>
          rw [hx] at ha1'
          cases ha1'
        | some x =>
          have es : stepC d [p :: r.take n] = ((step d x).1, ans d x) := by
            show Uw40Neutral.step d (p :: r.take n) = _
            unfold Uw40Neutral.step
            rw [hx]
          have ih := play_calls f (r.drop n) cs (step d x).1 hc ha2
          have pl := Play.more (d := d) (call_is hx) ih
          rw [List.take_append_drop] at pl
          have eo : PyFlat.told (PyFlat.played stepC d ([p :: r.take n] :: cs)) = ((ans d x).length : Int) :: (ans d x ++ PyFlat.told (PyFlat.played stepC (step d x).1 cs)) := by
            show PyFlat.told ((stepC d [p :: r.take n]).2 :: PyFlat.played stepC (stepC d [p :: r.take n]).1 cs) = _
            rw [es]
            unfold PyFlat.told
            rw [List.flatMap_cons]
            rfl
          rw [eo]
          exact pl
/-- what is asked, as the walk needs it -/
theorem asked_play {l : List Int} (h : PyUw40.answers_asked l = true) : Play init l (PyUw40.answers l) ∧ (PyUw40.answers l).length ≤ 10000000 := by
  unfold PyUw40.answers_asked at h
  cases hc : PyFlat.calls PyUw40.shape l.length l with
  | none =>
    rw [hc] at h
    cases h
  | some raw =>
    rw [hc] at h
    dsimp only at h
    rw [Bool.and_eq_true, Bool.and_eq_true] at h
    obtain ⟨⟨_, hk⟩, hs⟩ := h
    have hw : raw.map PyUw40.whole = raw := by
      rw [show PyUw40.whole = id from funext whole_id, List.map_id]
    rw [hw] at hk
    unfold Uw40Neutral.asked at hk
    rw [Bool.and_eq_true] at hk
    refine ⟨?_, of_decide_eq_true hs⟩
    have e : PyUw40.answers l = PyFlat.told (PyFlat.played stepC init raw) := by
      unfold PyUw40.answers PyUw40.calls
      rw [hc]
      dsimp only
      rw [hw]
      rfl
    rw [e]
    exact play_calls _ _ _ _ hc hk.1
end Cw

namespace Cw
open PySem PySem.Spec PyProof.Rows L2
/-! ### the text, by places -/
def top (i : Nat) : Stmt := PySem.Challenge.pw_cabinwait_s01_answers.main.body.getD i (.Pass ⟨0, 0, 0, 0⟩)
abbrev sFirst : Stmt := top 1
abbrev sGoes : Stmt := top 2
abbrev sRowInit : Stmt := inClass (top 4) 0
abbrev sOver : Stmt := inClass (top 4) 1
abbrev sTake : Stmt := inClass (top 4) 2
abbrev sTill : Stmt := inClass (top 4) 3
abbrev sLongest : Stmt := inClass (top 4) 4
abbrev sDayInit : Stmt := inClass (top 8) 0
abbrev sMore : Stmt := inClass (top 8) 1
abbrev sCab : Stmt := inClass (top 8) 2
abbrev sToldN : Stmt := inClass (top 8) 3
abbrev sCame : Stmt := inClass (top 8) 4
abbrev sPlaces : Stmt := inClass (top 8) 5
abbrev sBehind : Stmt := top 9
abbrev sAtEnd : Stmt := top 10
abbrev sIsLet : Stmt := top 11
abbrev sFew : Stmt := top 12
abbrev sRefInit : Stmt := inClass (top 14) 0
abbrev sWant : Stmt := top 15
abbrev sWithin : Stmt := top 25
abbrev sDeskInit : Stmt := inClass (top 26) 0
abbrev sBegins : Stmt := inClass (top 26) 1
abbrev sCome : Stmt := inClass (top 26) 2
abbrev sRow : Stmt := inClass (top 26) 3
abbrev sTimes : Stmt := inClass (top 26) 4
abbrev sEnds : Stmt := inClass (top 26) 5
abbrev sFewest : Stmt := inClass (top 26) 6
abbrev sTold : Stmt := top 29
abbrev sAnswer : Stmt := top 30
abbrev sAnswers : Stmt := top 31

/-! ### values and heaps -/
abbrev nV (n : Nat) : V := .int (n : Int)
/-- all that was tracked but p's object is as it was -/
def But (p : Addr) (H H' : Hp) : Prop := ∀ b o, b ≠ p → H b = some o → H' b = some o
theorem But.refl (p : Addr) (H : Hp) : But p H H := fun _ _ _ h => h
theorem But.trans {p : Addr} {H H1 H2 : Hp} (a : But p H H1) (b : But p H1 H2) : But p H H2 := fun c o n h => b c o n (a c o n h)
theorem But.of {p : Addr} {H H' : Hp} (s : Same H H') : But p H H' := fun b o _ h => s b o h
theorem but_upd (p : Addr) (H : Hp) (o : HO) : But p H (upd H p o) := fun b o' n h => by
  rw [upd_ne n]
  exact h
/-- a new object -/
theorem Same.new {H : Hp} {p : Addr} {o : HO} (h : H p = none) : Same H (L2.upd H p o) := fun b o' e => by
  rw [upd_ne (ne_of_none e h)]
  exact e
theorem Same.but {H H1 H2 : Hp} {p : Addr} (s : Same H H1) (h : H p = none) (b : But p H1 H2) : Same H H2 := fun c o e => b c o (ne_of_none e h) (s c o e)
theorem But.free {p a : Addr} {H H' : Hp} (b : But p H H') (n : a ≠ p) (h : H' a = none) : H a = none := by
  cases q : H a with
  | none => rfl
  | some o =>
    rw [b a o n q] at h
    cases h
theorem But.seq {K : PySem.W.Frag} {p C dx : Addr} {fs : List (Str × V)} {H H' : Hp} {a : Addr} {xs : List V} (e : But p H H') (hp : H p = some (.ins C dx fs)) (h : SqL K H a xs) : SqL K H' a xs := by
  rcases h with (h | ⟨o, h⟩) | h
  · exact .inl (.inl (e _ _ (ne_of h hp (fun z => by cases z)) h))
  · exact .inl (.inr ⟨o, e _ _ (ne_of h hp (fun z => by cases z)) h⟩)
  · exact .inr h
theorem lk_here {k : Str} {v : V} {r : List (Str × V)} : List.lookup k ((k, v) :: r) = some v := by
  have e : (k == k) = true := beq_self_eq_true k
  simp only [List.lookup, e]
theorem lk_past {k g : Str} {v : V} {r : List (Str × V)} (h : (k == g) = false) : List.lookup k ((g, v) :: r) = List.lookup k r := by
  simp only [List.lookup, h]
theorem put_here {f : Str} {v x : V} {r : List (Str × V)} : putF f v ((f, x) :: r) = (f, v) :: r := if_pos rfl
theorem put_past {f g : Str} {v x : V} {r : List (Str × V)} (h : ¬ g = f) : putF f v ((g, x) :: r) = (g, x) :: putF f v r := if_neg h
theorem if_true_of {c : Bool} {A B : Prop} (hc : c = true) (h : A) : if c = true then A else B := by
  rw [if_pos hc]
  exact h
theorem if_false_of {c : Bool} {A B : Prop} (hc : c = false) (h : B) : if c = true then A else B := by
  rw [hc, if_neg Bool.false_ne_true]
  exact h
theorem yes_then {σ : L2.St} {H : Hp} {A B : Hp → Prop} (h : A H) : tYes σ H (fun b H3 => if b = true then A H3 else B H3) := by
  show (if true = true then A H else B H)
  rw [if_pos rfl]
  exact h
theorem line_of {n : Nat} (h : n ≤ 10000000) : n ≤ sizeLine := by
  rw [sizeLine_eq]
  omega
theorem line_lt {n : Nat} (h : n ≤ 10000000) : n < sizeLine := by
  rw [sizeLine_eq]
  omega

/-! ### a row, a day, a desk in the heap -/
def rowF (a b : Addr) : List (Str × V) := [("waiting", .ref a), ("waits", .ref b)]
def dayF (r s c : Nat) (l : Addr) : List (Str × V) := [("around", nV r), ("seats", nV s), ("cabins", nV c), ("people", .ref l)]
def deskF (q : Addr) : List (Str × V) := [("day", .ref q)]
theorem rowF_ws (a b : Addr) : (rowF a b).lookup ("waiting" : Str) = some (.ref a) := lk_here
theorem rowF_gs (a b : Addr) : (rowF a b).lookup ("waits" : Str) = some (.ref b) := (lk_past (by decide +kernel)).trans lk_here
theorem rowF_no {m : Str} (h1 : (m == ("waiting" : Str)) = false) (h2 : (m == ("waits" : Str)) = false) (a b : Addr) : (rowF a b).lookup m = none := (lk_past h1).trans ((lk_past h2).trans rfl)
theorem rowF_put1 (a b x : Addr) : putF "waiting" (.ref x) (rowF a b) = rowF x b := put_here
theorem rowF_put2 (a b x : Addr) : putF "waits" (.ref x) (rowF a b) = rowF a x := (put_past (by decide +kernel)).trans (congrArg _ put_here)
theorem rowF_new (a b : Addr) : putF "waits" (.ref b) (putF "waiting" (.ref a) []) = rowF a b := (put_past (by decide +kernel)).trans rfl
theorem dayF_r (r s c : Nat) (l : Addr) : (dayF r s c l).lookup ("around" : Str) = some (nV r) := lk_here
theorem dayF_s (r s c : Nat) (l : Addr) : (dayF r s c l).lookup ("seats" : Str) = some (nV s) := (lk_past (by decide +kernel)).trans lk_here
theorem dayF_c (r s c : Nat) (l : Addr) : (dayF r s c l).lookup ("cabins" : Str) = some (nV c) := (lk_past (by decide +kernel)).trans ((lk_past (by decide +kernel)).trans lk_here)
theorem dayF_p (r s c : Nat) (l : Addr) : (dayF r s c l).lookup ("people" : Str) = some (.ref l) := (lk_past (by decide +kernel)).trans ((lk_past (by decide +kernel)).trans ((lk_past (by decide +kernel)).trans lk_here))
theorem dayF_no {m : Str} (h1 : (m == ("around" : Str)) = false) (h2 : (m == ("seats" : Str)) = false) (h3 : (m == ("cabins" : Str)) = false) (h4 : (m == ("people" : Str)) = false) (r s c : Nat) (l : Addr) : (dayF r s c l).lookup m = none :=
  (lk_past h1).trans ((lk_past h2).trans ((lk_past h3).trans ((lk_past h4).trans rfl)))
theorem dayF_new (r s c : Nat) (l : Addr) : putF "people" (.ref l) (putF "cabins" (nV c) (putF "seats" (nV s) (putF "around" (nV r) []))) = dayF r s c l := by
  have e1 : putF "seats" (nV s) (putF "around" (nV r) []) = [(("around" : Str), nV r), (("seats" : Str), nV s)] := (put_past (by decide +kernel)).trans rfl
  have e2 : putF "cabins" (nV c) [(("around" : Str), nV r), ("seats", nV s)] = [(("around" : Str), nV r), (("seats" : Str), nV s), (("cabins" : Str), nV c)] := (put_past (by decide +kernel)).trans (congrArg _ ((put_past (by decide +kernel)).trans rfl))
  rw [e1, e2]
  exact (put_past (by decide +kernel)).trans (congrArg _ ((put_past (by decide +kernel)).trans (congrArg _ ((put_past (by decide +kernel)).trans rfl))))
theorem deskF_d (q : Addr) : (deskF q).lookup ("day" : Str) = some (.ref q) := lk_here
theorem deskF_no {m : Str} (h1 : (m == ("day" : Str)) = false) (q : Addr) : (deskF q).lookup m = none := (lk_past h1).trans rfl
theorem deskF_put (q x : Addr) : putF "day" (.ref x) (deskF q) = deskF x := put_here

def RowAt (CR : Addr) (H : Hp) (p : Addr) (r : Rw) : Prop := ∃ dx a b, H p = some (.ins CR dx (rowF a b)) ∧ H a = some (.lst (r.ws.map nV)) ∧ H b = some (.lst (r.gs.map nV))
def DayAt (CD : Addr) (H : Hp) (q : Addr) (d : Uw40.Day) : Prop := ∃ dx l, H q = some (.ins CD dx (dayF d.round d.seats d.cabins l)) ∧ H l = some (.lst (d.comes.map nV))
/-- the same, its list of people at m -/
def DayAtM (CD : Addr) (H : Hp) (q : Addr) (d : Uw40.Day) (m : Addr) : Prop := ∃ dx, H q = some (.ins CD dx (dayF d.round d.seats d.cabins m)) ∧ H m = some (.lst (d.comes.map nV))
theorem DayAtM.day {CD q m : Addr} {H : Hp} {d : Uw40.Day} (h : DayAtM CD H q d m) : DayAt CD H q d := by
  obtain ⟨dx, h1, h2⟩ := h
  exact ⟨dx, m, h1, h2⟩
theorem DayAtM.same {CD q m : Addr} {H H' : Hp} {d : Uw40.Day} (h : DayAtM CD H q d m) (s : Same H H') : DayAtM CD H' q d m := by
  obtain ⟨dx, h1, h2⟩ := h
  exact ⟨dx, s _ _ h1, s _ _ h2⟩
def DeskAt (CK CD : Addr) (H : Hp) (a : Addr) (d : Uw40.Day) (m : Addr) : Prop := ∃ dx q, H a = some (.ins CK dx (deskF q)) ∧ DayAtM CD H q d m
theorem RowAt.same {CR p : Addr} {H H' : Hp} {r : Rw} (h : RowAt CR H p r) (s : Same H H') : RowAt CR H' p r := by
  obtain ⟨dx, a, b, h1, h2, h3⟩ := h
  exact ⟨dx, a, b, s _ _ h1, s _ _ h2, s _ _ h3⟩
theorem DayAt.same {CD q : Addr} {H H' : Hp} {d : Uw40.Day} (h : DayAt CD H q d) (s : Same H H') : DayAt CD H' q d := by
  obtain ⟨dx, l, h1, h2⟩ := h
  exact ⟨dx, l, s _ _ h1, s _ _ h2⟩
theorem DeskAt.same {CK CD a m : Addr} {H H' : Hp} {d : Uw40.Day} (h : DeskAt CK CD H a d m) (s : Same H H') : DeskAt CK CD H' a d m := by
  obtain ⟨dx, q, h1, h2⟩ := h
  exact ⟨dx, q, s _ _ h1, h2.same s⟩
theorem ins_len {C C' dx dx' : Addr} {fs fs' : List (Str × V)} (h : fs.length ≠ fs'.length) : HO.ins C dx fs ≠ HO.ins C' dx' fs' := fun z => by
  injection z with _ _ z
  exact h (congrArg List.length z)
/-- a row changes: a day stands -/
theorem DayAt.row {CD CR q p : Addr} {H H' : Hp} {d : Uw40.Day} {r : Rw} (h : DayAt CD H q d) (hp : RowAt CR H p r) (b : But p H H') : DayAt CD H' q d := by
  obtain ⟨dx, l, h1, h2⟩ := h
  obtain ⟨dp, x, y, hp, _⟩ := hp
  exact ⟨dx, l, b _ _ (ne_of h1 hp (ins_len (by show 4 ≠ 2; decide))) h1, b _ _ (ne_of h2 hp (fun z => by cases z)) h2⟩

/-! ### promises -/
def spFirst : Sp := fun vs H Q _ => ∃ r c : Nat, vs = [nV r, nV c] ∧ 1 ≤ c ∧ c ≤ 20 ∧ r ≤ 30 ∧ ∀ H' p, Same H H' → H p = none → H' p = some (.lst ((firsts r c).map nV)) → Q (.ref p) H'
def spGoes : Sp := fun vs H Q _ => ∃ r c t : Nat, vs = [nV r, nV c, nV t] ∧ 1 ≤ c ∧ c ≤ 20 ∧ 1 ≤ r ∧ r ≤ 30 ∧ ∀ H', Same H H' → Q (.bl (goes r c t)) H'
def spRowInit (CR : Addr) : Sp := fun vs H Q _ => ∃ p dx : Addr, vs = [.ref p] ∧ H p = some (.ins CR dx []) ∧ ∀ H', RowAt CR H' p ⟨[], []⟩ → But p H H' → Q .non H'
def spOver (CR : Addr) : Sp := fun vs H Q _ => ∃ (p : Addr) (r : Rw), vs = [.ref p] ∧ RowAt CR H p r ∧ ∀ H', Same H H' → Q (.bl (decide (r.ws = []))) H'
def spTake (CR : Addr) : Sp := fun vs H Q _ => ∃ (p : Addr) (r : Rw) (t n k : Nat), vs = [.ref p, nV t, nV n, nV k] ∧ RowAt CR H p r ∧ (∀ x ∈ r.ws, x ≤ t) ∧ r.size + n ≤ 10000 ∧ ∀ H', RowAt CR H' p (r.minute t n k) → But p H H' → Q .non H'
def spTill (CR : Addr) : Sp := fun vs H Q _ => ∃ (p : Addr) (r : Rw) (t : Nat), vs = [.ref p, nV t] ∧ RowAt CR H p r ∧ (∀ x ∈ r.ws, x ≤ t) ∧ r.size ≤ 10000 ∧ ∀ H' l, Same H H' → H l = none → H' l = some (.lst (r.ws.map fun x => nV (t - x))) → Q (.ref l) H'
def spLongest (CR : Addr) : Sp := fun vs H Q _ => ∃ (p : Addr) (r : Rw), vs = [.ref p] ∧ RowAt CR H p r ∧ Q (nV (longest r)) H
def spDayInit (CD : Addr) : Sp := fun vs H Q _ => ∃ (p dx l : Addr) (r s c : Nat), vs = [.ref p, nV r, nV s, nV c, .ref l] ∧ H p = some (.ins CD dx []) ∧ ∀ H', H' p = some (.ins CD dx (dayF r s c l)) → But p H H' → Q .non H'
def spMore (CD : Addr) : Sp := fun vs H Q _ => ∃ (q : Addr) (d : Uw40.Day) (n : Nat), vs = [.ref q, nV n] ∧ DayAt CD H q d ∧ d.comes.length ≤ 1000 ∧ ∀ H' q' m, Same H H' → H m = none → DayAtM CD H' q' { d with comes := d.comes ++ [n] } m → Q (.ref q') H'
def spCab (CD : Addr) : Sp := fun vs H Q _ => ∃ (q : Addr) (d : Uw40.Day) (c : Nat), vs = [.ref q, nV c] ∧ DayAt CD H q d ∧ ∀ H' q', Same H H' → DayAt CD H' q' (withCabins d c) → Q (.ref q') H'
def spToldN (CD : Addr) : Sp := fun vs H Q _ => ∃ (q : Addr) (d : Uw40.Day), vs = [.ref q] ∧ DayAt CD H q d ∧ Q (nV d.comes.length) H
def spCame (CD : Addr) : Sp := fun vs H Q _ => ∃ (q : Addr) (d : Uw40.Day) (t : Nat), vs = [.ref q, nV t] ∧ DayAt CD H q d ∧ Q (nV (cam d t)) H
def spPlaces (CD : Addr) : Sp := fun vs H Q _ => ∃ (q : Addr) (d : Uw40.Day) (t : Nat), vs = [.ref q, nV t] ∧ DayAt CD H q d ∧ Valid d ∧ ∀ H', Same H H' → Q (nV (plc d t)) H'
def spBehind (CR CD : Addr) : Sp := fun vs H Q _ => ∃ (q : Addr) (d : Uw40.Day) (n : Nat), vs = [.ref q, nV n] ∧ DayAt CD H q d ∧ Valid d ∧ n ≤ 30 ∧ ∀ H' p, Same H H' → H p = none → RowAt CR H' p (behind d n) → Q (.ref p) H'
def spAtEnd (CR CD : Addr) : Sp := fun vs H Q _ => ∃ (q : Addr) (d : Uw40.Day), vs = [.ref q] ∧ DayAt CD H q d ∧ Valid d ∧
  (∀ H', Same H H' → atEnd d = none → Q .non H') ∧ (∀ H' p r, Same H H' → atEnd d = some r → RowAt CR H' p r → Q (.ref p) H')
def spIsLet (CD : Addr) : Sp := fun vs H Q _ => ∃ (q : Addr) (d : Uw40.Day) (w : Nat), vs = [.ref q, nV w] ∧ DayAt CD H q d ∧ Valid d ∧ ∀ H', Same H H' → Q (.bl (isLet d w)) H'
def spFew (CD : Addr) : Sp := fun vs H Q _ => ∃ (q : Addr) (d : Uw40.Day) (w : Nat), vs = [.ref q, nV w] ∧ DayAt CD H q d ∧ Valid d ∧
  (∀ H', Same H H' → fewest d w = none → Q .non H') ∧ (∀ H' n, Same H H' → fewest d w = some n → Q (nV n) H')
def spRefInit (CF : Addr) : Sp := fun vs H Q _ => ∃ (e : Addr) (z : Int), vs = [.ref e, .int z] ∧ H e = some (exo e CF none) ∧
  ∀ H' d, H d = none → H' e = some (exo e CF (some d)) → H' d = some (exd d [(("refusal" : Str), .int z)]) → (∀ b, b ≠ e → b ≠ d → H' b = H b) → Q .non H'
def spWant (CF : Addr) : Sp := fun vs H Q E => ∃ (b : Bool) (z : Int), vs = [.bl b, .int z] ∧ (b = true → Q .non H) ∧
  (b = false → ∀ H' d, Same H H' → H' d = some (.xd [(("refusal" : Str), .int z)]) → E (.ref CF) (some d) H')
def spWithin : Sp := fun vs H Q _ => ∃ n lo hi : Int, vs = [.int n, .int lo, .int hi] ∧ Q (.bl (decide (lo ≤ n) && decide (n ≤ hi))) H
def spDeskInit (CK CD : Addr) : Sp := fun vs H Q _ => ∃ (p dx : Addr), vs = [.ref p] ∧ H p = some (.ins CK dx []) ∧ ∀ H' m, DeskAt CK CD H' p Uw40.init m → H m = none → But p H H' → Q .non H'
/-- a call of the desk (its day's list of people at m): its answer, or what is raised -/
def Tell (CK CD CF : Addr) (H : Hp) (a : Addr) (d : Uw40.Day) (m : Addr) (x : Uw40.Call) (Q : VK) (E : XK) : Prop :=
  (∀ z H' dd, Uw40.step d x = (d, Uw40.ok z) → Same H H' → H' dd = some (.xd [(("refusal" : Str), .int z)]) → E (.ref CF) (some dd) H') ∧
  (∀ H' l m', DeskAt CK CD H' a (Uw40.step d x).1 m' → m' = m ∨ H m' = none → But a H H' → H l = none → H' l = some (.lst ((ans d x).map V.int)) → Q (.ref l) H')
def spCallOf (CK CD CF : Addr) (args : List V) (a : Addr) (x : Uw40.Call) : Sp := fun vs H Q E => ∃ d m, vs = .ref a :: args ∧ DeskAt CK CD H a d m ∧ Valid d ∧ Tell CK CD CF H a d m x Q E
def spBegins (CK CD CF : Addr) : Sp := fun vs H Q E => ∃ (a : Addr) (r s c : Nat), spCallOf CK CD CF [nV r, nV s, nV c] a (.begins r s c) vs H Q E
def spCome (CK CD CF : Addr) : Sp := fun vs H Q E => ∃ (a : Addr) (n : Nat), spCallOf CK CD CF [nV n] a (.come n) vs H Q E
def spRow (CK CD CF : Addr) : Sp := fun vs H Q E => ∃ (a : Addr) (t : Nat), spCallOf CK CD CF [nV t] a (.row t) vs H Q E
def spTimes (CK CD CF : Addr) : Sp := fun vs H Q E => ∃ (a : Addr), spCallOf CK CD CF [] a .times vs H Q E
def spEnds (CK CD CF : Addr) : Sp := fun vs H Q E => ∃ (a : Addr), spCallOf CK CD CF [] a .ends vs H Q E
def spFewest (CK CD CF : Addr) : Sp := fun vs H Q E => ∃ (a : Addr) (w : Nat), spCallOf CK CD CF [nV w] a (.fewest w) vs H Q E
def spTold (CK CD CF : Addr) : Sp := fun vs H Q E => ∃ (a ln : Addr) (d : Uw40.Day) (m : Addr) (p : Int) (xs : List Int) (x : Uw40.Call), vs = [.ref a, .int p, .ref ln] ∧ DeskAt CK CD H a d m ∧ Valid d ∧ CallIs p xs x ∧ H ln = some (.lst (xs.map V.int)) ∧ Tell CK CD CF H a d m x Q E
def spAnswer (CK CD : Addr) : Sp := fun vs H Q _ => ∃ (a ln : Addr) (d : Uw40.Day) (m : Addr) (p : Int) (xs : List Int) (x : Uw40.Call), vs = [.ref a, .int p, .ref ln] ∧ DeskAt CK CD H a d m ∧ Valid d ∧ CallIs p xs x ∧ H ln = some (.lst (xs.map V.int)) ∧
  ∀ H' l m', DeskAt CK CD H' a (Uw40.step d x).1 m' → m' = m ∨ H m' = none → But a H H' → H l = none → H' l = some (.lst ((ans d x).map V.int)) → Q (.ref l) H'
def spAnswers (K : PySem.W.Frag) : Sp := fun vs H Q _ => ∃ (a : Addr) (ns : List Int), vs = [.ref a] ∧ SqL K H a (ns.map V.int) ∧ ns.length ≤ 400 ∧ Play Uw40.init ns (PyUw40.answers ns) ∧ (PyUw40.answers ns).length ≤ 10000000 ∧
  ∀ H' p, H' p = some (.lst ((PyUw40.answers ns).map V.int)) → Q (.ref p) H'

/-! ### what the top has written -/
structure Txt (K : PySem.W.Frag) (mg : Str → Option Value) (CR CD CF CK : Addr) : Prop where
  clR : Cls K CR
  nW : NoAttr K CR "waiting"
  nG : NoAttr K CR "waits"
  clD : Cls K CD
  nA : NoAttr K CD "around"
  nS : NoAttr K CD "seats"
  nC : NoAttr K CD "cabins"
  nP : NoAttr K CD "people"
  clK : Cls K CK
  nY : NoAttr K CK "day"
  gR : mg "Row" = some (.ref CR)
  gD : mg "Day" = some (.ref CD)
  gF : mg "Refused" = some (.ref CF)
  gK : mg "Desk" = some (.ref CK)
  oF : OexC K CF
  xF : XfC K CF
  nF : PySem.W.findIn K (.ref CF) "refusal" = some none
  eF : PySem.W.exmOne K (.ref CF) (.ref CF) = some true
  vV : PySem.W.findCls K (.type "ValueError") (.type "type") "__init__" = some (.val (.builtin "ValueError.__init__"))
  cMore : ∃ t, mg "MINUTES_MORE" = some (.int 200 t)
  cCab : ∃ t, mg "MOST_CABINS" = some (.int 20 t)
  cOut : ∃ t, mg "OUT_OF_RANGE" = some (.int (-1) t)
  cFull : ∃ t, mg "FULL" = some (.int (-5) t)
  cNo : ∃ t, mg "NO_END" = some (.int (-6) t)
  cAr : ∃ t, mg "MOST_AROUND" = some (.int 30 t)
  cSe : ∃ t, mg "MOST_SEATS" = some (.int 8 t)
  cPe : ∃ t, mg "MOST_PEOPLE" = some (.int 20 t)
  cMi : ∃ t, mg "MOST_MINUTES" = some (.int 30 t)
  cWa : ∃ t, mg "MOST_WAIT" = some (.int 200 t)
  cNum : ∃ a, mg "NUMBERS" = some (.ref a) ∧ ∀ H, SqT K H a [.int 3, .int 1, .int 1, .int 0, .int 0, .int 1]
  bRange : mg "range" = none
  bMax : mg "max" = none
  bMin : mg "min" = none
  bLen : mg "len" = none
  bSum : mg "sum" = none
  bVal : mg "ValueError" = none

/-! ### a def, a method, a maker as callers need them -/
section
variable (P : Program) (w : World) (K : PySem.W.Frag) (mg : Str → Option Value) (base : Heap)
def Df (CX : CXT) (k : Nat) (x : Str) (ps : List Str) (sp : Sp) : Prop := ∃ f fd, mg x = some (.ref f) ∧ PySem.W.keepIn K (.ref f) = true ∧ Binds K fd ps [] ∧ FnOk P w K mg base CX k f fd ps sp
def Dm (CX : CXT) (k : Nat) (C : Addr) (m : Str) (ps : List Str) (sp : Sp) : Prop := ∃ f fd, Meth K C m f ∧ Binds K fd ps [] ∧ FnOk P w K mg base CX k f fd ps sp
def Di (CX : CXT) (k : Nat) (C : Addr) (ps : List Str) (sp : Sp) : Prop := ∃ f fd, Mk K C f ∧ Binds K fd ps [] ∧ FnOk P w K mg base CX k f fd ps sp
end

/-! ### max(xs, default=0) of a list of numbers -/
theorem vals_hold {h : Heap} : ∀ {ns : List Nat} {us : List Value}, Vals (ns.map nV) us → PySem.W.HoldAll h us (ns.map fun n : Nat => (n : Int))
  | [], _, r => by
    rw [List.map_nil] at r
    cases r
    exact PySem.W.HoldAll.nil
  | n :: ns, _, r => by
    rw [List.map_cons] at r
    cases r with
    | cons r1 r2 =>
      obtain ⟨t, rfl⟩ := r1
      exact PySem.W.HoldAll.cons (PySem.W.holds_int _ t) (vals_hold r2)
theorem max_fold : ∀ (l : List Nat) (a : Nat), (l.map fun n : Nat => (n : Int)).foldl (fun a y => if PySem.W.DatumOrd.lt a y = true then y else a) (a : Int) = ((l.foldl max a : Nat) : Int)
  | [], a => rfl
  | n :: l, a => by
    rw [List.map_cons, List.foldl_cons, List.foldl_cons, ← max_fold l (max a n)]
    congr 1
    show (if decide ((a : Int) < (n : Int)) = true then (n : Int) else (a : Int)) = ((max a n : Nat) : Int)
    by_cases c : (a : Int) < (n : Int)
    · rw [decide_eq_true c, if_pos rfl]
      omega
    · rw [decide_eq_false c, if_neg Bool.false_ne_true]
      omega
def rMaxD0 (K : PySem.W.Frag) : List V → List V → Hp → VK → Prop := fun vs zs H Q => ∃ (a : Addr) (ns : List Nat), vs = [V.ref a] ∧ zs = [.int 0] ∧ SqL K H a (ns.map nV) ∧ Q (nV (ns.foldl max 0)) H
theorem cr_maxD0 {X : Cx} (hc : X.calm = true) (hu : X.A.units + 64 < cLine) : CallRK X (.builtin "max") [Str.ofString "default"] (rMaxD0 X.K) := by
  intro pins s σ H xs zs us ws Q I r rz h
  obtain ⟨a, ns, rfl, rfl, hs, q⟩ := h
  obtain ⟨its, rv, hl, _⟩ := I.list hs
  obtain ⟨u, rfl, ru⟩ := vals1 r
  obtain ⟨z, rfl, rz1⟩ := vals1 rz
  obtain rfl : u = Value.ref a := ru
  obtain ⟨tk0, ez⟩ := rz1
  subst ez
  show wpAny _ _ (call (.builtin "max") [.ref a] [(Str.ofString "default", .int 0 tk0)]) _ _ _
  refine PySem.W.max_list_datum_default (α := Int) (xs := ns.map fun n : Nat => (n : Int)) (I.ok.hd hc) hl.isList (vals_hold rv) ?_ (fun e h' tk k => ?_) fun y ys i v h' tk e hi hv k => ?_
  · have : PySem.W.Datum.depth Int ≤ 1 := by decide
    omega
  · have e' : ns = [] := List.map_eq_nil_iff.mp e
    subst e'
    exact ⟨.int 0, H, I.kept (t' := tk) k, ⟨tk0, rfl⟩, q⟩
  · cases ns with
    | nil => cases e
    | cons n ns =>
      rw [List.map_cons] at e
      injection e with e1 e2
      subst e1 e2
      obtain ⟨t', ev⟩ := PySem.W.int_of_holds hv
      refine ⟨nV ((n :: ns).foldl max 0), H, I.kept (t' := tk) k, ⟨t', ?_⟩, q⟩
      rw [ev]
      congr 1
      rw [List.foldl_cons, Nat.max_eq_right (Nat.zero_le n)]
      exact max_fold ns n
end Cw

namespace Cw
open PySem PySem.Spec PyProof.Rows L2
section
variable {P : Program} {w : World} {K : PySem.W.Frag} {mg : Str → Option Value} {base : Heap} {CR CD CF CK : Addr}
/-! ### first_minutes, goes_by -/
theorem nats_of {l : List Nat} : ∀ {x : Nat}, inV (nV x) (l.map nV) = decide (x ∈ l) := fun {x} => by
  unfold inV
  rw [List.any_map]
  by_cases h : x ∈ l
  · rw [decide_eq_true h, List.any_eq_true]
    exact ⟨x, h, beq_self_eq_true (x : Int)⟩
  · rw [decide_eq_false h, List.any_eq_false]
    intro y hy e
    have e' : ((y : Int) == (x : Int)) = true := e
    rw [beq_iff_eq] at e'
    exact h (by rw [← Int.ofNat.inj e']; exact hy)
theorem flat_nats : ∀ l : List Nat, (l.map nV).all flatV = true := fun l => by
  rw [List.all_map, List.all_eq_true]
  exact fun _ _ => rfl
theorem scFirst : FnScope ["around", "cabins", "i"] ["around", "cabins"] (defScope sFirst) := ⟨rfl, rfl, rfl, by decide +kernel, rfl, by decide +kernel, by decide +kernel⟩
theorem ok_first {f : Addr} {fd : FuncData} (F : Fun K "first_minutes" "first_minutes" sFirst f fd) (T : Txt K mg CR CD CF CK) : FnOk P w K mg base CX0 1 f fd ["around", "cabins"] spFirst := by
  refine F.ok scFirst (fun vs H Q E h => ?_) (fun cdv A outer s H vs Q E hr h => ?_)
  · obtain ⟨r, c, rfl, _⟩ := h
    rfl
  · obtain ⟨r, c, rfl, h1, h2, h3, k⟩ := h
    refine ⟨_, pss_one (ps_ret (pe_lc (own := [("i", 2)]) (g := gName 2) (tt := tYes) rfl scFirst.nd (pi_range1 (by rfl) T.bRange (pa_cons (pv 1) pa_nil))
      (blkOk_by (N := ["around", "cabins", "i"]) (sc := defScope sFirst) (by decide +kernel)) (fun _ _ _ _ _ => pg_name (i := 2) scFirst.nd rfl (Or.inl rfl)) (fun _ _ _ _ _ => pts_nil)
      (fun _ _ _ _ _ => pe_op op_fdiv (pe_op op_mul (pv 2) (pv 0)) (pv 1)))), ?_⟩
    refine ⟨_, rfl, (c : Int), rfl, by omega, by omega, fun D hD => lc_range (lo := 0) (n := (c : Int).toNat) (fun i H' => Same H H' ∧ H' D = some (.lst (((List.range i).map fun j => j * r / c).map nV))) ⟨Same.new hD, upd_same⟩ ?_ ?_⟩
    · rintro i H' hi ⟨s1, hl⟩
      have hi' : i < c := hi
      refine ⟨rfl, yes_then ⟨_, rfl, _, rfl, _, _, rfl, rfl, .inl ⟨by omega, by omega⟩, _, rfl, _, _, rfl, rfl, ⟨by omega, by omega⟩, _, hl, line_lt (by rw [List.length_map, List.length_map, List.length_range]; omega), ?_, ?_⟩⟩
      · exact fun b o e => by
          rw [upd_ne (ne_of_none e hD)]
          exact s1 b o e
      · rw [upd_same, List.range_succ, List.map_append, List.map_append]
        have e : ((0 + (i : Int)) * (r : Int) / (c : Int)) = ((i * r / c : Nat) : Int) := by
          rw [Int.zero_add, Int.natCast_ediv, Int.natCast_mul]
        show some (HO.lst (_ ++ [V.int ((0 + (i : Int)) * (r : Int) / (c : Int))])) = _
        rw [e]
        rfl
    · rintro H' ⟨s1, hl⟩
      exact k H' D s1 hD hl
theorem scGoes : FnScope ["around", "cabins", "minute"] ["around", "cabins", "minute"] (defScope sGoes) := ⟨rfl, rfl, rfl, by decide +kernel, rfl, by decide +kernel, by decide +kernel⟩
theorem ok_goes {f : Addr} {fd : FuncData} (F : Fun K "goes_by" "goes_by" sGoes f fd) (G : Df P w K mg base CX0 1 "first_minutes" ["around", "cabins"] spFirst) : FnOk P w K mg base CX0 2 f fd ["around", "cabins", "minute"] spGoes := by
  obtain ⟨g, gd, mgG, kG, bG, oG⟩ := G
  refine F.ok scGoes (fun vs H Q E h => ?_) (fun cdv A outer s H vs Q E hr h => ?_)
  · obtain ⟨r, c, t, rfl, _⟩ := h
    rfl
  · obtain ⟨r, c, t, rfl, h1, h2, h3, h4, k⟩ := h
    refine ⟨_, pss_one (ps_ret (pe_cmpR op_in_seq (pe_op op_mod (pv 2) (pv 0)) (pe_call oG hr (by rfl) mgG kG bG .nil pass0 (pa_cons (pv 0) (pa_cons (pv 1) pa_nil))) (by rfl))), ?_⟩
    refine ⟨_, rfl, _, rfl, _, _, rfl, rfl, (by show (0 : Int) < (r : Int); omega), _, rfl, _, rfl, r, c, rfl, h1, h2, h4, fun H' p s1 hp hl => ⟨p, _, rfl, .inl (SqL.of hl), rfl, flat_nats _, ?_⟩⟩
    have e : V.int ((t : Int) % (r : Int)) = nV (t % r) := by rw [← Int.natCast_emod]
    show Q (.bl (inV (.int ((t : Int) % (r : Int))) ((firsts r c).map nV))) H'
    rw [e, nats_of]
    exact k H' s1
/-! ### Row -/
theorem scRowInit : FnScope ["self"] ["self"] (defScope sRowInit) := ⟨rfl, rfl, rfl, by decide +kernel, rfl, by decide +kernel, by decide +kernel⟩
theorem ok_rowInit {f : Addr} {fd : FuncData} (F : Fun K "__init__" "Row.__init__" sRowInit f fd) (T : Txt K mg CR CD CF CK) : FnOk P w K mg base CX0 1 f fd ["self"] (spRowInit CR) := by
  refine F.ok scRowInit (fun vs H Q E h => ?_) (fun cdv A outer s H vs Q E hr h => ?_)
  · obtain ⟨p, dx, rfl, _⟩ := h
    rfl
  · obtain ⟨p, dx, rfl, hp, k⟩ := h
    refine ⟨_, pss_cons (ps_fld (pv 0) (pe_lst pa_nil) rfl) (pss_one (ps_fld (pv 0) (pe_lst pa_nil) rfl)), ?_⟩
    refine ⟨Nat.zero_le _, fun l hl => ⟨_, rfl, p, CR, dx, [], rfl, ?_, T.clR, T.nW, (by show 0 < 1000; decide), ?_⟩⟩
    · rw [upd_ne (ne_of_none hp hl)]
      exact hp
    · refine ⟨Nat.zero_le _, fun m hm => ⟨_, rfl, p, CR, dx, putF "waiting" (.ref l) [], rfl, ?_, T.clR, T.nG, (by show 1 < 1000; decide), ?_⟩⟩
      · have n : p ≠ m := fun z => by
          rw [← z, upd_same] at hm
          cases hm
        rw [upd_ne n, upd_same]
      · have n1 : l ≠ p := fun z => by
          rw [z, hp] at hl
          cases hl
        have n2 : m ≠ p := fun z => by
          rw [z, upd_same] at hm
          cases hm
        have n3 : l ≠ m := fun z => by
          rw [← z, upd_ne n1, upd_same] at hm
          cases hm
        refine k _ ⟨dx, l, m, ?_, ?_, ?_⟩ fun b o hb e => ?_
        · rw [upd_same, rowF_new]
        · rw [upd_ne n1, upd_ne n3, upd_ne n1, upd_same]
          rfl
        · rw [upd_ne n2, upd_same]
          rfl
        · have n4 : b ≠ m := fun z => by
            rw [← z, upd_ne hb, upd_ne (ne_of_none e hl), e] at hm
            cases hm
          rw [upd_ne hb, upd_ne n4, upd_ne hb, upd_ne (ne_of_none e hl)]
          exact e
theorem dp_nats {K : PySem.W.Frag} {H : Hp} : ∀ l : List Nat, DpAll K H (l.map nV) (l.map fun n : Nat => PyData.int (n : Int))
  | [] => .nil
  | n :: l => .cons (.int n) (dp_nats l)
theorem can_nats : ∀ l : List Nat, PyData.canLayAll0 (l.map fun n : Nat => PyData.int (n : Int)) = true
  | [] => rfl
  | n :: l => can_nats l
theorem depth_nats : ∀ l : List Nat, PyData.depthAll (l.map fun n : Nat => PyData.int (n : Int)) ≤ 1
  | [] => by decide
  | n :: l => by
    have ih := depth_nats l
    show max (PyData.depth (.int n)) (PyData.depthAll (l.map fun n : Nat => PyData.int (n : Int))) ≤ 1
    have : PyData.depth (.int n) ≤ 1 := by
      unfold PyData.depth
      omega
    omega
theorem scOver : FnScope ["self"] ["self"] (defScope sOver) := ⟨rfl, rfl, rfl, by decide +kernel, rfl, by decide +kernel, by decide +kernel⟩
theorem ok_over {f : Addr} {fd : FuncData} (F : Fun K "is_over" "Row.is_over" sOver f fd) (T : Txt K mg CR CD CF CK) : FnOk P w K mg base CX0 1 f fd ["self"] (spOver CR) := by
  refine F.ok scOver (fun vs H Q E h => ?_) (fun cdv A outer s H vs Q E hr h => ?_)
  · obtain ⟨p, r, rfl, _⟩ := h
    rfl
  · obtain ⟨p, r, rfl, ⟨dx, a, b, h1, h2, h3⟩, k⟩ := h
    refine ⟨_, pss_one (ps_ret (pe_cmpR (op_eqD hr.units) (pe_fld (pv 0) rfl) (pe_lst pa_nil) (nomark _))), ?_⟩
    refine ⟨_, rfl, p, CR, dx, _, _, rfl, h1, T.clR, T.nW, rowF_ws a b, Nat.zero_le _, fun l hl => ?_⟩
    have s1 : Same H (upd H l (.lst [])) := Same.new hl
    refine ⟨_, _, .lst (SqL.of (s1 _ _ h2)) (dp_nats r.ws), .lst (SqL.of upd_same) .nil, ?_, by decide +kernel, ?_⟩
    · unfold SeqAt.shaped
      have d1 := depth_nats r.ws
      have : PyData.depth (.list (r.ws.map fun n : Nat => PyData.int (n : Int))) ≤ 64 := by
        unfold PyData.depth
        omega
      rw [Bool.and_eq_true]
      exact ⟨can_nats r.ws, decide_eq_true this⟩
    · have e : PyData.eqv (.list (r.ws.map fun n : Nat => PyData.int (n : Int))) (.list []) = decide (r.ws = []) := by
        cases r.ws with
        | nil => decide +kernel
        | cons n l => rfl
      rw [e]
      exact k _ s1
end
end Cw

namespace Cw
open PySem PySem.Spec PyProof.Rows L2
section
variable {P : Program} {w : World} {K : PySem.W.Frag} {mg : Str → Option Value} {base : Heap} {CR CD CF CK : Addr}
/-! ### Row.take_minute, statement by statement -/
/-- p's field is stored anew: the list at x stands in it -/
theorem row_put1 {H H1 : Hp} {p dx a b x : Addr} {ws' gs : List Nat} (s : Same H H1) (hp : H p = some (.ins CR dx (rowF a b))) (hb : H b = some (.lst (gs.map nV))) (hx : H1 x = some (.lst (ws'.map nV))) :
    RowAt CR (upd H1 p (.ins CR dx (putF "waiting" (.ref x) (rowF a b)))) p ⟨ws', gs⟩ ∧ But p H (upd H1 p (.ins CR dx (putF "waiting" (.ref x) (rowF a b)))) := by
  have nx : x ≠ p := ne_of hx (s _ _ hp) (fun z => by cases z)
  have nb : b ≠ p := ne_of hb hp (fun z => by cases z)
  refine ⟨⟨dx, x, b, ?_, ?_, ?_⟩, fun c o n e => ?_⟩
  · rw [upd_same, rowF_put1]
  · rw [upd_ne nx]
    exact hx
  · rw [upd_ne nb]
    exact s _ _ hb
  · rw [upd_ne n]
    exact s _ _ e
theorem row_put2 {H H1 : Hp} {p dx a b x : Addr} {ws gs' : List Nat} (s : Same H H1) (hp : H p = some (.ins CR dx (rowF a b))) (ha : H a = some (.lst (ws.map nV))) (hx : H1 x = some (.lst (gs'.map nV))) :
    RowAt CR (upd H1 p (.ins CR dx (putF "waits" (.ref x) (rowF a b)))) p ⟨ws, gs'⟩ ∧ But p H (upd H1 p (.ins CR dx (putF "waits" (.ref x) (rowF a b)))) := by
  have nx : x ≠ p := ne_of hx (s _ _ hp) (fun z => by cases z)
  have na : a ≠ p := ne_of ha hp (fun z => by cases z)
  refine ⟨⟨dx, a, x, ?_, ?_, ?_⟩, fun c o n e => ?_⟩
  · rw [upd_same, rowF_put2]
  · rw [upd_ne na]
    exact s _ _ ha
  · rw [upd_ne nx]
    exact hx
  · rw [upd_ne n]
    exact s _ _ e
theorem rep_flat (n t : Nat) : (List.replicate n [nV t]).flatten = (List.replicate n t).map nV := by
  induction n with
  | zero => rfl
  | succ n ih =>
    rw [List.replicate_succ, List.flatten_cons, ih, List.replicate_succ, List.map_cons]
    rfl
theorem cut_take (l : List Nat) (k : Nat) : cutV (l.map nV) none (some (k : Int)) = (l.take k).map nV := by
  unfold cutV
  rw [HT.sIx_none, HT.sIx_nat, List.drop_zero, Nat.sub_zero, List.map_take, List.length_map]
  have := take_min (l.map nV) k
  rw [List.length_map] at this
  rw [Nat.min_comm, this]
theorem cut_drop (l : List Nat) (k : Nat) : cutV (l.map nV) (some (k : Int)) none = (l.drop k).map nV := by
  unfold cutV
  rw [HT.sIx_none, HT.sIx_nat, List.map_drop, List.length_map]
  have := drop_min (l.map nV) k
  rw [List.length_map] at this
  rw [Nat.min_comm, this, List.take_of_length_le]
  rw [List.length_drop, List.length_map]
  omega
/-- [t - one for one in a list of numbers at a] -/
theorem lc_waits {σ : L2.St} {vs : List Nat} {H : Hp} {a D : Addr} {l : List Nat} {t i1 io : Nat} {Qd : Hp → Prop} (ha : H a = some (.lst (l.map nV))) (hD : H D = none) (hl : ∀ x ∈ l, x ≤ t) (hz : l.length ≤ 100000)
    (h1 : ∀ y, ((wipe σ vs).set io (some y))[i1]? = some (some (nV t))) (h2 : ∀ y, ((wipe σ vs).set io (some y))[io]? = some (some y)) (h3 : ∀ y, wipe ((wipe σ vs).set io (some y)) vs = wipe σ vs)
    (k : ∀ H', Same H H' → H' D = some (.lst ((l.map fun x => t - x).map nV)) → Qd H') :
    ∃ W : Nat → Nat → Hp → Prop, (∃ m, W 0 m (upd H D (.lst []))) ∧ ∀ i m H, W i m H →
      ((Itl K a).stop i H ∧ Qd H) ∨ ((Itl K a).go i H ∧ ∃ Nx : Hp → Prop, (∀ H', Nx H' → ∃ m', m' < m ∧ W (i + 1) m' H') ∧ ∀ x H', (Itl K a).yld i H x H' → gName io x (wipe σ vs) H' fun σ2 H2 => wipe σ2 vs = wipe σ vs ∧ tYes σ2 H2 fun b H3 =>
        if b = true then tOp (rI0 fun i j => .int (i - j)) (tVar i1) (tVar io) σ2 H3 fun y H4 => ∃ acc, H4 D = some (.lst acc) ∧ acc.length < sizeLine ∧ Nx (upd H4 D (.lst (acc ++ [y]))) else Nx H3) := by
  refine lc_list (xs := l.map nV) (fun i H' => Same H H' ∧ H' D = some (.lst (((l.take i).map fun x => t - x).map nV))) ⟨Same.new hD, upd_same⟩ (fun i H' _ h => SqL.of (h.1 _ _ ha)) ?_ ?_
  · rintro i y H' hi ⟨s1, hl'⟩
    rw [List.getElem?_map] at hi
    cases ex : l[i]? with
    | none =>
      rw [ex] at hi
      cases hi
    | some x =>
      rw [ex] at hi
      cases hi
      have hx := hl x (List.mem_of_getElem? ex)
      refine ⟨h3 _, yes_then ⟨_, h1 _, _, h2 _, _, _, rfl, rfl, _, hl', line_lt (by rw [List.length_map, List.length_map, List.length_take]; omega), ?_, ?_⟩⟩
      · exact fun b o e => by
          rw [upd_ne (ne_of_none e hD)]
          exact s1 b o e
      · rw [upd_same, List.take_add_one, ex, List.map_append, List.map_append]
        have e : V.int ((t : Int) - (x : Int)) = nV (t - x) := by
          show V.int _ = V.int _
          congr 1
          omega
        show some (HO.lst (_ ++ [V.int ((t : Int) - (x : Int))])) = _
        rw [e]
        rfl
  · rintro H' ⟨s1, hl'⟩
    rw [List.length_map, List.take_length] at hl'
    exact k H' s1 hl'
theorem scTake : FnScope ["self", "minute", "came", "places", "one"] ["self", "minute", "came", "places"] (defScope sTake) := ⟨rfl, rfl, rfl, by decide +kernel, rfl, by decide +kernel, by decide +kernel⟩
/-- self.waiting = self.waiting + [minute] * came -/
theorem rd_take1 (T : Txt K mg CR CD CF CK) {D : Ends} {σ : L2.St} {H : Hp} {p : Addr} {r : Rw} {t n : Nat} (e0 : σ[0]? = some (some (.ref p))) (e1 : σ[1]? = some (some (nV t))) (e2 : σ[2]? = some (some (nV n)))
    (hR : RowAt CR H p r) (hz : r.size + n ≤ 10000) (k : ∀ H', RowAt CR H' p ⟨r.ws ++ List.replicate n t, r.gs⟩ → But p H H' → D.nx σ H') :
    sFld K (tVar 0) (tOp rCat (tFld K (tVar 0) "waiting") (tOp rRep (tLst (tCons (tVar 1) tNil)) (tVar 2))) "waiting" D σ H := by
  obtain ⟨dx, a, b, hp, ha, hb⟩ := hR
  have hz' : r.ws.length + n ≤ 10000 := by
    unfold Rw.size at hz
    omega
  refine ⟨_, e0, p, CR, dx, _, _, rfl, hp, T.clR, T.nW, rowF_ws a b, _, e1, line_of (by show 1 ≤ 10000000; decide), fun l1 hl1 => ⟨_, e2, l1, (n : Int), _, rfl, rfl, upd_same, by omega, by omega, line_of (by show 1 * n ≤ _; omega), fun l2 hl2 => ?_⟩⟩
  have s1 : Same H (upd H l1 (.lst [nV t])) := Same.new hl1
  have s2 := s1.trans (Same.new (o := .lst (List.replicate (Int.toNat (n : Int)) [nV t]).flatten) hl2)
  refine ⟨a, l2, _, _, rfl, rfl, s2 _ _ ha, upd_same, line_of ?_, fun l3 hl3 => ?_⟩
  · rw [Int.toNat_natCast, rep_flat, List.length_map, List.length_map, List.length_replicate]
    omega
  have s3 := s2.trans (Same.new (o := .lst (r.ws.map nV ++ (List.replicate (Int.toNat (n : Int)) [nV t]).flatten)) hl3)
  have q := row_put1 (CR := CR) (ws' := r.ws ++ List.replicate n t) (gs := r.gs) s3 hp hb (x := l3) (by rw [upd_same, Int.toNat_natCast, rep_flat, List.map_append])
  exact ⟨_, e0, p, CR, dx, _, rfl, s3 _ _ hp, T.clR, T.nW, (by show 2 < 1000; decide), k _ q.1 q.2⟩
/-- self.waits = self.waits + [minute - one for one in self.waiting[:places]] -/
theorem rd_take2 (T : Txt K mg CR CD CF CK) {D : Ends} {σ : L2.St} {H : Hp} {p : Addr} {r : Rw} {t k0 : Nat} (e0 : σ[0]? = some (some (.ref p))) (e3 : σ[3]? = some (some (nV k0)))
    (h1 : ∀ y, ((wipe σ [4]).set 4 (some y))[1]? = some (some (nV t))) (h2 : ∀ y, ((wipe σ [4]).set 4 (some y))[4]? = some (some y)) (h3 : ∀ y, wipe ((wipe σ [4]).set 4 (some y)) [4] = wipe σ [4])
    (hR : RowAt CR H p r) (hle : ∀ x ∈ r.ws, x ≤ t) (hz : r.size ≤ 10000) (k : ∀ H', RowAt CR H' p ⟨r.ws, r.gs ++ (r.ws.take k0).map fun x => t - x⟩ → But p H H' → D.nx σ H') :
    sFld K (tVar 0) (tOp rCat (tFld K (tVar 0) "waits") (tLc (iList K (tSl (rSlL K) (tFld K (tVar 0) "waiting") tNoPart (tPart (tVar 3)))) (gName 4) tYes (tOp (rI0 fun i j => .int (i - j)) (tVar 1) (tVar 4)) [4])) "waits" D σ H := by
  obtain ⟨dx, a, b, hp, ha, hb⟩ := hR
  have hz' : r.ws.length + r.gs.length ≤ 10000 := hz
  refine ⟨_, e0, p, CR, dx, _, _, rfl, hp, T.clR, T.nG, rowF_gs a b, _, e0, p, CR, dx, _, _, rfl, hp, T.clR, T.nW, rowF_ws a b, _, e3, (k0 : Int), rfl, a, _, rfl, SqL.of ha, fun l1 hl1 => ?_⟩
  have s1 : Same H (upd H l1 (.lst (cutV (r.ws.map nV) none (some (k0 : Int))))) := Same.new hl1
  refine ⟨l1, rfl, ⟨_, SqL.of upd_same⟩, fun D2 hD2 => lc_waits (l := r.ws.take k0) (t := t) ?_ hD2 (fun x hx => hle x (List.mem_of_mem_take hx)) (by rw [List.length_take]; omega) h1 h2 h3 fun H2 s2 hl2 => ?_⟩
  · rw [upd_same, cut_take]
  have s12 := s1.trans s2
  refine ⟨b, D2, _, _, rfl, rfl, s12 _ _ hb, hl2, line_of ?_, fun l3 hl3 => ?_⟩
  · rw [List.length_map, List.length_map, List.length_map, List.length_take]
    omega
  have s3 := s12.trans (Same.new (o := .lst (r.gs.map nV ++ ((r.ws.take k0).map fun x => t - x).map nV)) hl3)
  have q := row_put2 (CR := CR) (ws := r.ws) (gs' := r.gs ++ (r.ws.take k0).map fun x => t - x) s3 hp ha (x := l3) (by rw [upd_same, List.map_append])
  exact ⟨_, e0, p, CR, dx, _, rfl, s3 _ _ hp, T.clR, T.nG, (by show 2 < 1000; decide), k _ q.1 q.2⟩
/-- self.waiting = self.waiting[places:] -/
theorem rd_take3 (T : Txt K mg CR CD CF CK) {D : Ends} {σ : L2.St} {H : Hp} {p : Addr} {r : Rw} {k0 : Nat} (e0 : σ[0]? = some (some (.ref p))) (e3 : σ[3]? = some (some (nV k0)))
    (hR : RowAt CR H p r) (k : ∀ H', RowAt CR H' p ⟨r.ws.drop k0, r.gs⟩ → But p H H' → D.nx σ H') :
    sFld K (tVar 0) (tSl (rSlL K) (tFld K (tVar 0) "waiting") (tPart (tVar 3)) tNoPart) "waiting" D σ H := by
  obtain ⟨dx, a, b, hp, ha, hb⟩ := hR
  refine ⟨_, e0, p, CR, dx, _, _, rfl, hp, T.clR, T.nW, rowF_ws a b, _, e3, (k0 : Int), rfl, a, _, rfl, SqL.of ha, fun l1 hl1 => ?_⟩
  have s1 : Same H (upd H l1 (.lst (cutV (r.ws.map nV) (some (k0 : Int)) none))) := Same.new hl1
  have q := row_put1 (CR := CR) (ws' := r.ws.drop k0) (gs := r.gs) s1 hp hb (x := l1) (by rw [upd_same, cut_drop])
  exact ⟨_, e0, p, CR, dx, _, rfl, s1 _ _ hp, T.clR, T.nW, (by show 2 < 1000; decide), k _ q.1 q.2⟩
theorem ok_take {f : Addr} {fd : FuncData} (F : Fun K "take_minute" "Row.take_minute" sTake f fd) (T : Txt K mg CR CD CF CK) : FnOk P w K mg base CX0 1 f fd ["self", "minute", "came", "places"] (spTake CR) := by
  refine F.ok scTake (fun vs H Q E h => ?_) (fun cdv A outer s H vs Q E hr h => ?_)
  · obtain ⟨p, r, t, n, k, rfl, _⟩ := h
    rfl
  · obtain ⟨p, r, t, n, k0, rfl, hR, hle, hz, k⟩ := h
    have S1 : Rw.size ⟨r.ws ++ List.replicate n t, r.gs⟩ ≤ 10000 := by
      unfold Rw.size at hz ⊢
      dsimp only
      rw [List.length_append, List.length_replicate]
      omega
    have L1 : ∀ x ∈ r.ws ++ List.replicate n t, x ≤ t := fun x hx => by
      rcases List.mem_append.mp hx with z | z
      · exact hle x z
      · exact Nat.le_of_eq (List.eq_of_mem_replicate z)
    exact ⟨_, pss_cons (ps_fld (pv 0) (pe_op op_cat (pe_fld (pv 0) rfl) (pe_op op_rep (pe_lst (pa_cons (pv 1) pa_nil)) (pv 2))) rfl)
      (pss_cons (ps_fld (pv 0) (pe_op op_cat (pe_fld (pv 0) rfl) (pe_lc (own := [("one", 4)]) (g := gName 4) (tt := tYes) rfl scTake.nd (pi_list (pe_slice sl_list (pe_fld (pv 0) rfl) po_none (po_some (pv 3))))
        (blkOk_by (N := ["self", "minute", "came", "places", "one"]) (sc := defScope sTake) (by decide +kernel)) (fun _ _ _ _ _ => pg_name (i := 4) scTake.nd rfl (Or.inl rfl)) (fun _ _ _ _ _ => pts_nil)
        (fun _ _ _ _ _ => pe_op op_sub (pv 1) (pv 4)))) rfl)
      (pss_one (ps_fld (pv 0) (pe_slice sl_list (pe_fld (pv 0) rfl) (po_some (pv 3)) po_none) rfl))),
      rd_take1 T rfl rfl rfl hR hz fun H1 R1 b1 => rd_take2 T rfl rfl (fun _ => rfl) (fun _ => rfl) (fun _ => rfl) R1 L1 S1 fun H2 R2 b2 => rd_take3 T rfl rfl R2 fun H3 R3 b3 => k H3 R3 ((b1.trans b2).trans b3)⟩
theorem scTill : FnScope ["self", "minutes", "one"] ["self", "minutes"] (defScope sTill) := ⟨rfl, rfl, rfl, by decide +kernel, rfl, by decide +kernel, by decide +kernel⟩
theorem ok_till {f : Addr} {fd : FuncData} (F : Fun K "waited_till" "Row.waited_till" sTill f fd) (T : Txt K mg CR CD CF CK) : FnOk P w K mg base CX0 1 f fd ["self", "minutes"] (spTill CR) := by
  refine F.ok scTill (fun vs H Q E h => ?_) (fun cdv A outer s H vs Q E hr h => ?_)
  · obtain ⟨p, r, t, rfl, _⟩ := h
    rfl
  · obtain ⟨p, r, t, rfl, ⟨dx, a, b, hp, ha, hb⟩, hle, hz, k⟩ := h
    have hz' : r.ws.length + r.gs.length ≤ 10000 := hz
    refine ⟨_, pss_one (ps_ret (pe_lc (own := [("one", 2)]) (g := gName 2) (tt := tYes) rfl scTill.nd (pi_list (pe_fld (pv 0) rfl))
      (blkOk_by (N := ["self", "minutes", "one"]) (sc := defScope sTill) (by decide +kernel)) (fun _ _ _ _ _ => pg_name (i := 2) scTill.nd rfl (Or.inl rfl)) (fun _ _ _ _ _ => pts_nil)
      (fun _ _ _ _ _ => pe_op op_sub (pv 1) (pv 2)))), ?_⟩
    refine ⟨_, rfl, p, CR, dx, _, _, rfl, hp, T.clR, T.nW, rowF_ws a b, a, rfl, ⟨_, SqL.of ha⟩, fun D hD => lc_waits (l := r.ws) (t := t) ha hD hle (by omega) (fun _ => rfl) (fun _ => rfl) (fun _ => rfl) fun H' s1 hl => k H' D s1 hD ?_⟩
    rw [hl, List.map_map]
    rfl
theorem scLongest : FnScope ["self"] ["self"] (defScope sLongest) := ⟨rfl, rfl, rfl, by decide +kernel, rfl, by decide +kernel, by decide +kernel⟩
theorem ok_longest {f : Addr} {fd : FuncData} (F : Fun K "longest" "Row.longest" sLongest f fd) (T : Txt K mg CR CD CF CK) : FnOk P w K mg base CX0 1 f fd ["self"] (spLongest CR) := by
  refine F.ok scLongest (fun vs H Q E h => ?_) (fun cdv A outer s H vs Q E hr h => ?_)
  · obtain ⟨p, r, rfl, _⟩ := h
    rfl
  · obtain ⟨p, r, rfl, ⟨dx, a, b, hp, ha, hb⟩, k⟩ := h
    exact ⟨_, pss_one (ps_ret (pe_callBK (cr_maxD0 rfl hr.units) (by rfl) T.bMax (by decide +kernel) (pa_cons (pe_fld (pv 0) rfl) pa_nil) (pk_cons pe_int pk_nil))),
      _, rfl, p, CR, dx, _, _, rfl, hp, T.clR, T.nG, rowF_gs a b, b, r.gs, rfl, rfl, SqL.of hb, k⟩
end
end Cw

namespace Cw
open PySem PySem.Spec PyProof.Rows L2
section
variable {P : Program} {w : World} {K : PySem.W.Frag} {mg : Str → Option Value} {base : Heap} {CR CD CF CK : Addr}
/-! ### Day -/
theorem scDayInit : FnScope ["self", "around", "seats", "cabins", "people"] ["self", "around", "seats", "cabins", "people"] (defScope sDayInit) := ⟨rfl, rfl, rfl, by decide +kernel, rfl, by decide +kernel, by decide +kernel⟩
theorem ok_dayInit {f : Addr} {fd : FuncData} (F : Fun K "__init__" "Day.__init__" sDayInit f fd) (T : Txt K mg CR CD CF CK) : FnOk P w K mg base CX0 1 f fd ["self", "around", "seats", "cabins", "people"] (spDayInit CD) := by
  refine F.ok scDayInit (fun vs H Q E h => ?_) (fun cdv A outer s H vs Q E hr h => ?_)
  · obtain ⟨p, dx, l, r, s, c, rfl, _⟩ := h
    rfl
  · obtain ⟨p, dx, l, r, s, c, rfl, hp, k⟩ := h
    refine ⟨_, pss_cons (ps_fld (pv 0) (pv 1) rfl) (pss_cons (ps_fld (pv 0) (pv 2) rfl) (pss_cons (ps_fld (pv 0) (pv 3) rfl) (pss_one (ps_fld (pv 0) (pv 4) rfl)))), ?_⟩
    refine ⟨_, rfl, _, rfl, p, CD, dx, [], rfl, hp, T.clD, T.nA, (by show 0 < 1000; decide), ?_⟩
    refine ⟨_, rfl, _, rfl, p, CD, dx, _, rfl, upd_same, T.clD, T.nS, (by show 1 < 1000; decide), ?_⟩
    refine ⟨_, rfl, _, rfl, p, CD, dx, _, rfl, upd_same, T.clD, T.nC, (by show 2 < 1000; decide), ?_⟩
    refine ⟨_, rfl, _, rfl, p, CD, dx, _, rfl, upd_same, T.clD, T.nP, (by show 3 < 1000; decide), ?_⟩
    exact k _ (Eq.trans upd_same (congrArg (fun q => some (HO.ins CD dx q)) (dayF_new r s c l))) fun b o hb e => by
      rw [upd_ne hb, upd_ne hb, upd_ne hb, upd_ne hb]
      exact e
/-- Day(around, seats, cabins, people), the list of people at l -/
theorem made_day {H : Hp} {Q : VK} {l : Addr} {d : Uw40.Day} (hl : H l = some (.lst (d.comes.map nV))) (k : ∀ H' q, Same H H' → DayAtM CD H' q d l → Q (.ref q) H') :
    ∀ x dx, H x = none → H dx = none → dx ≠ x → spDayInit CD (.ref x :: ([nV d.round, nV d.seats, nV d.cabins, .ref l] ++ [])) (upd (upd H dx (.own x)) x (.ins CD dx [])) (fun v H2 => v = .non ∧ Q (.ref x) H2) E0 := by
  intro x dx nx nd ne
  refine ⟨x, dx, l, d.round, d.seats, d.cabins, rfl, upd_same, fun H' hp b => ⟨rfl, ?_⟩⟩
  have s1 : Same H H' := Same.made (C := CD) nx nd fun b' o e hb => b b' o hb e
  exact k H' x s1 ⟨dx, hp, s1 _ _ hl⟩
theorem scMore : FnScope ["self", "many"] ["self", "many"] (defScope sMore) := ⟨rfl, rfl, rfl, by decide +kernel, rfl, by decide +kernel, by decide +kernel⟩
theorem ok_more {f : Addr} {fd : FuncData} (F : Fun K "with_one_more" "Day.with_one_more" sMore f fd) (T : Txt K mg CR CD CF CK) (I : Di P w K mg base CX0 1 CD ["self", "around", "seats", "cabins", "people"] (spDayInit CD)) :
    FnOk P w K mg base CX0 3 f fd ["self", "many"] (spMore CD) := by
  obtain ⟨g, gd, M, bG, oG⟩ := I
  refine F.ok scMore (fun vs H Q E h => ?_) (fun cdv A outer s H vs Q E hr h => ?_)
  · obtain ⟨q, d, n, rfl, _⟩ := h
    rfl
  · obtain ⟨q, d, n, rfl, ⟨dx, l, h1, h2⟩, hz, k⟩ := h
    refine ⟨_, pss_one (ps_ret (pe_make M oG hr (by rfl) T.gD bG .nil pass0 (by exact (pa_cons (pe_fld (pv 0) rfl) (pa_cons (pe_fld (pv 0) rfl) (pa_cons (pe_fld (pv 0) rfl) (pa_cons (pe_op op_cat (pe_fld (pv 0) rfl) (pe_lst (pa_cons (pv 1) pa_nil))) pa_nil))))))), ?_⟩
    refine ⟨_, rfl, q, CD, dx, _, _, rfl, h1, T.clD, T.nA, dayF_r .., _, rfl, q, CD, dx, _, _, rfl, h1, T.clD, T.nS, dayF_s .., _, rfl, q, CD, dx, _, _, rfl, h1, T.clD, T.nC, dayF_c ..,
      _, rfl, q, CD, dx, _, _, rfl, h1, T.clD, T.nP, dayF_p .., _, rfl, line_of (by show 1 ≤ 10000000; decide), fun l1 hl1 => ?_⟩
    have s1 : Same H (upd H l1 (.lst [nV n])) := Same.new hl1
    refine ⟨l, l1, _, _, rfl, rfl, s1 _ _ h2, upd_same, line_of (by rw [List.length_map]; show d.comes.length + 1 ≤ 10000000; omega), fun l2 hl2 => ?_⟩
    have s2 := s1.trans (Same.new (o := .lst (d.comes.map nV ++ [nV n])) hl2)
    exact made_day (d := { d with comes := d.comes ++ [n] }) (by rw [upd_same, List.map_append]; rfl) fun H' q' s3 D => k H' q' l2 (s2.trans s3) (s1.free hl2) D
theorem scCab : FnScope ["self", "cabins"] ["self", "cabins"] (defScope sCab) := ⟨rfl, rfl, rfl, by decide +kernel, rfl, by decide +kernel, by decide +kernel⟩
theorem ok_cab {f : Addr} {fd : FuncData} (F : Fun K "with_cabins" "Day.with_cabins" sCab f fd) (T : Txt K mg CR CD CF CK) (I : Di P w K mg base CX0 1 CD ["self", "around", "seats", "cabins", "people"] (spDayInit CD)) :
    FnOk P w K mg base CX0 3 f fd ["self", "cabins"] (spCab CD) := by
  obtain ⟨g, gd, M, bG, oG⟩ := I
  refine F.ok scCab (fun vs H Q E h => ?_) (fun cdv A outer s H vs Q E hr h => ?_)
  · obtain ⟨q, d, c, rfl, _⟩ := h
    rfl
  · obtain ⟨q, d, c, rfl, ⟨dx, l, h1, h2⟩, k⟩ := h
    refine ⟨_, pss_one (ps_ret (pe_make M oG hr (by rfl) T.gD bG .nil pass0 (by exact (pa_cons (pe_fld (pv 0) rfl) (pa_cons (pe_fld (pv 0) rfl) (pa_cons (pv 1) (pa_cons (pe_fld (pv 0) rfl) pa_nil))))))), ?_⟩
    refine ⟨_, rfl, q, CD, dx, _, _, rfl, h1, T.clD, T.nA, dayF_r .., _, rfl, q, CD, dx, _, _, rfl, h1, T.clD, T.nS, dayF_s .., _, rfl,
      _, rfl, q, CD, dx, _, _, rfl, h1, T.clD, T.nP, dayF_p .., ?_⟩
    exact made_day (d := withCabins d c) h2 fun H' q' s3 D => k H' q' s3 D.day
theorem scToldN : FnScope ["self"] ["self"] (defScope sToldN) := ⟨rfl, rfl, rfl, by decide +kernel, rfl, by decide +kernel, by decide +kernel⟩
theorem ok_toldN {f : Addr} {fd : FuncData} (F : Fun K "told" "Day.told" sToldN f fd) (T : Txt K mg CR CD CF CK) : FnOk P w K mg base CX0 1 f fd ["self"] (spToldN CD) := by
  refine F.ok scToldN (fun vs H Q E h => ?_) (fun cdv A outer s H vs Q E hr h => ?_)
  · obtain ⟨q, d, rfl, _⟩ := h
    rfl
  · obtain ⟨q, d, rfl, ⟨dx, l, h1, h2⟩, k⟩ := h
    refine ⟨_, pss_one (ps_ret (pe_callB call_len_seq (by rfl) T.bLen PySem.boot_len (pa_cons (pe_fld (pv 0) rfl) pa_nil))), ?_⟩
    refine ⟨_, rfl, q, CD, dx, _, _, rfl, h1, T.clD, T.nP, dayF_p .., l, _, rfl, .inl (SqL.of h2), ?_⟩
    rw [List.length_map]
    exact k
theorem scCame : FnScope ["self", "minute"] ["self", "minute"] (defScope sCame) := ⟨rfl, rfl, rfl, by decide +kernel, rfl, by decide +kernel, by decide +kernel⟩
theorem ok_came {f : Addr} {fd : FuncData} (F : Fun K "came" "Day.came" sCame f fd) (T : Txt K mg CR CD CF CK) : FnOk P w K mg base CX0 1 f fd ["self", "minute"] (spCame CD) := by
  refine F.ok scCame (fun vs H Q E h => ?_) (fun cdv A outer s H vs Q E hr h => ?_)
  · obtain ⟨q, d, t, rfl, _⟩ := h
    rfl
  · obtain ⟨q, d, t, rfl, ⟨dx, l, h1, h2⟩, k⟩ := h
    refine ⟨_, pss_cons (ps_if (pt_cmpR op_lt (pv 1) (pe_callB call_len_seq (by rfl) T.bLen PySem.boot_len (pa_cons (pe_fld (pv 0) rfl) pa_nil)) (nomark _)) (pss_one (ps_ret (pe_ix ix_list (pe_fld (pv 0) rfl) (pv 1) (fun _ _ => rfl)))) pss_nil)
      (pss_one (ps_ret pe_int)), ?_⟩
    refine ⟨_, rfl, _, rfl, q, CD, dx, _, _, rfl, h1, T.clD, T.nP, dayF_p .., l, _, rfl, .inl (SqL.of h2), _, _, rfl, rfl, _, rfl, ?_⟩
    rw [List.length_map]
    by_cases c : (t : Int) < (d.comes.length : Int)
    · refine if_true_of (decide_eq_true c) ?_
      have c' : t < d.comes.length := by omega
      refine ⟨_, rfl, q, CD, dx, _, _, rfl, h1, T.clD, T.nP, dayF_p .., _, rfl, l, _, (t : Int), nV (cam d t), rfl, rfl, SqL.of h2, atI_nat ?_, k⟩
      unfold cam
      rw [List.getElem?_map, List.getD_eq_getElem?_getD, List.getElem?_eq_getElem c']
      rfl
    · refine if_false_of (decide_eq_false c) ?_
      have e : cam d t = 0 := by
        unfold cam
        rw [List.getD_eq_getElem?_getD, List.getElem?_eq_none (by omega)]
        rfl
      rw [e] at k
      exact k
theorem scPlaces : FnScope ["self", "minute"] ["self", "minute"] (defScope sPlaces) := ⟨rfl, rfl, rfl, by decide +kernel, rfl, by decide +kernel, by decide +kernel⟩
theorem ok_places {f : Addr} {fd : FuncData} (F : Fun K "places" "Day.places" sPlaces f fd) (T : Txt K mg CR CD CF CK) (G : Df P w K mg base CX0 2 "goes_by" ["around", "cabins", "minute"] spGoes) : FnOk P w K mg base CX0 3 f fd ["self", "minute"] (spPlaces CD) := by
  obtain ⟨g, gd, mgG, kG, bG, oG⟩ := G
  refine F.ok scPlaces (fun vs H Q E h => ?_) (fun cdv A outer s H vs Q E hr h => ?_)
  · obtain ⟨q, d, t, rfl, _⟩ := h
    rfl
  · obtain ⟨q, d, t, rfl, ⟨dx, l, h1, h2⟩, v, k⟩ := h
    refine ⟨_, pss_cons (ps_if (pt_val (pe_call oG hr (by rfl) mgG kG bG .nil pass0 (by exact (pa_cons (pe_fld (pv 0) rfl) (pa_cons (pe_fld (pv 0) rfl) (pa_cons (pv 1) pa_nil)))))) (pss_one (ps_ret (pe_fld (pv 0) rfl))) pss_nil)
      (pss_one (ps_ret pe_int)), ?_⟩
    refine ⟨_, rfl, q, CD, dx, _, _, rfl, h1, T.clD, T.nA, dayF_r .., _, rfl, q, CD, dx, _, _, rfl, h1, T.clD, T.nC, dayF_c .., _, rfl, d.round, d.cabins, t, rfl, v.c1, v.c2, v.r1, v.r2, fun H' s1 => ⟨_, rfl, ?_⟩⟩
    have kk := k H' s1
    unfold plc at kk
    by_cases c : goes d.round d.cabins t = true
    · rw [if_pos c] at kk
      exact if_true_of c ⟨_, rfl, q, CD, dx, _, _, rfl, s1 _ _ h1, T.clD, T.nS, dayF_s .., kk⟩
    · rw [if_neg c] at kk
      exact if_false_of (Bool.not_eq_true _ ▸ c) kk
/-! ### row_behind, row_at_end -/
theorem rowF_take (a b : Addr) : (rowF a b).lookup ("take_minute" : Str) = none := rowF_no (by decide +kernel) (by decide +kernel) a b
theorem rowF_over (a b : Addr) : (rowF a b).lookup ("is_over" : Str) = none := rowF_no (by decide +kernel) (by decide +kernel) a b
theorem rowF_till (a b : Addr) : (rowF a b).lookup ("waited_till" : Str) = none := rowF_no (by decide +kernel) (by decide +kernel) a b
theorem rowF_longest (a b : Addr) : (rowF a b).lookup ("longest" : Str) = none := rowF_no (by decide +kernel) (by decide +kernel) a b
theorem dayF_told (r s c : Nat) (l : Addr) : (dayF r s c l).lookup ("told" : Str) = none := dayF_no (by decide +kernel) (by decide +kernel) (by decide +kernel) (by decide +kernel) r s c l
theorem dayF_came (r s c : Nat) (l : Addr) : (dayF r s c l).lookup ("came" : Str) = none := dayF_no (by decide +kernel) (by decide +kernel) (by decide +kernel) (by decide +kernel) r s c l
theorem dayF_places (r s c : Nat) (l : Addr) : (dayF r s c l).lookup ("places" : Str) = none := dayF_no (by decide +kernel) (by decide +kernel) (by decide +kernel) (by decide +kernel) r s c l
theorem dayF_more (r s c : Nat) (l : Addr) : (dayF r s c l).lookup ("with_one_more" : Str) = none := dayF_no (by decide +kernel) (by decide +kernel) (by decide +kernel) (by decide +kernel) r s c l
theorem dayF_cab (r s c : Nat) (l : Addr) : (dayF r s c l).lookup ("with_cabins" : Str) = none := dayF_no (by decide +kernel) (by decide +kernel) (by decide +kernel) (by decide +kernel) r s c l
theorem scBehind : FnScope ["day", "minutes", "row", "minute"] ["day", "minutes"] (defScope sBehind) := ⟨rfl, rfl, rfl, by decide +kernel, rfl, by decide +kernel, by decide +kernel⟩
theorem ok_behind {f : Addr} {fd : FuncData} (F : Fun K "row_behind" "row_behind" sBehind f fd) (T : Txt K mg CR CD CF CK) (I : Di P w K mg base CX0 1 CR ["self"] (spRowInit CR))
    (GT : Dm P w K mg base CX0 1 CR "take_minute" ["self", "minute", "came", "places"] (spTake CR)) (GC : Dm P w K mg base CX0 1 CD "came" ["self", "minute"] (spCame CD)) (GP : Dm P w K mg base CX0 3 CD "places" ["self", "minute"] (spPlaces CD)) :
    FnOk P w K mg base CX0 4 f fd ["day", "minutes"] (spBehind CR CD) := by
  obtain ⟨g1, gd1, M, b1, o1⟩ := I
  obtain ⟨g2, gd2, m2, b2, o2⟩ := GT
  obtain ⟨g3, gd3, m3, b3, o3⟩ := GC
  obtain ⟨g4, gd4, m4, b4, o4⟩ := GP
  refine F.ok scBehind (fun vs H Q E h => ?_) (fun cdv A outer s H vs Q E hr h => ?_)
  · obtain ⟨q, d, n, rfl, _⟩ := h
    rfl
  · obtain ⟨q, d, n, rfl, hD, v, hn, k⟩ := h
    refine ⟨_, pss_cons (ps_set (i := 2) scBehind.nd rfl (Or.inl rfl) (pe_make0 M o1 (hr.mono (by decide)) (by rfl) T.gR b1 .nil pass0))
      (pss_cons (ps_for PassesOwn.never rfl (pi_range1 (by rfl) T.bRange (pa_cons (pv 1) pa_nil)) (pg_name (i := 3) scBehind.nd rfl (Or.inl rfl))
        (pss_one (ps_expr (pe_meth (pv 2) T.clR m2 o2 (hr.mono (by decide)) b2 .nil pass0 (by exact (pa_cons (pv 3)
          (pa_cons (pe_meth (pv 0) T.clD m3 o3 (hr.mono (by decide)) b3 .nil pass0 (pa_cons (pv 3) pa_nil))
          (pa_cons (pe_meth (pv 0) T.clD m4 o4 hr b4 .nil pass0 (pa_cons (pv 3) pa_nil)) pa_nil))))))))
      (pss_one (ps_ret (pv 2)))), ?_⟩
    intro x dx nx nd ne
    refine ⟨x, dx, rfl, upd_same, fun H1 R1 kp => ⟨rfl, ?_⟩⟩
    have s1 : Same H H1 := Same.made (C := CR) nx nd fun b' o e hb => kp b' o hb e
    refine ⟨_, rfl, (n : Int), rfl, by omega, by omega, for_range (lo := 0) (n := (n : Int).toNat) (fun i σ H' => ∃ v : Option V, σ = [some (.ref q), some (nV n), some (.ref x), v] ∧ Same H H' ∧ RowAt CR H' x (behind d i)) ⟨none, rfl, s1, R1⟩ ?_ ?_⟩
    · rintro i σ H' hi ⟨v0, rfl, s5, R5⟩
      have hi' : i < n := hi
      have ei : V.int (0 + (i : Int)) = nV i := by rw [Int.zero_add]
      rw [ei]
      have hD5 := hD.same s5
      have hD5' := hD5
      obtain ⟨dd, l, hd1, hd2⟩ := hD5'
      have R5' := R5
      obtain ⟨dr, ra, rb, hr1, hr2, hr3⟩ := R5'
      have sz := size_behind v i
      have cl := cam_le v i
      refine ⟨_, rfl, x, dr, _, rfl, hr1, rowF_take .., _, rfl, _, rfl, q, dd, _, rfl, hd1, dayF_came .., _, rfl, q, d, i, rfl, hD5, _, rfl, q, dd, _, rfl, hd1, dayF_places .., _, rfl, q, d, i, rfl, hD5, v, fun H6 s6 => ?_⟩
      refine ⟨x, behind d i, i, cam d i, plc d i, rfl, R5.same s6, le_behind d i, by omega, fun H7 R7 b7 => ?_⟩
      exact ⟨some (nV i), rfl, Cw.Same.but (s5.trans s6) nx b7, R7⟩
    · rintro σ H' ⟨v0, rfl, s5, R5⟩
      exact ⟨_, rfl, k H' x s5 nx R5⟩
end
end Cw

namespace Cw
open PySem PySem.Spec PyProof.Rows L2
section
variable {P : Program} {w : World} {K : PySem.W.Frag} {mg : Str → Option Value} {base : Heap} {CR CD CF CK : Addr}
/-! ### row_at_end, is_let, fewest_cabins -/
theorem scAtEnd : FnScope ["day", "row", "minute"] ["day"] (defScope sAtEnd) := ⟨rfl, rfl, rfl, by decide +kernel, rfl, by decide +kernel, by decide +kernel⟩
theorem ok_atEnd {f : Addr} {fd : FuncData} (F : Fun K "row_at_end" "row_at_end" sAtEnd f fd) (T : Txt K mg CR CD CF CK) (GB : Df P w K mg base CX0 4 "row_behind" ["day", "minutes"] (spBehind CR CD))
    (GN : Dm P w K mg base CX0 1 CD "told" ["self"] (spToldN CD)) (GO : Dm P w K mg base CX0 1 CR "is_over" ["self"] (spOver CR))
    (GT : Dm P w K mg base CX0 1 CR "take_minute" ["self", "minute", "came", "places"] (spTake CR)) (GP : Dm P w K mg base CX0 3 CD "places" ["self", "minute"] (spPlaces CD)) :
    FnOk P w K mg base CX0 5 f fd ["day"] (spAtEnd CR CD) := by
  obtain ⟨g1, gd1, q1, k1, b1, o1⟩ := GB
  obtain ⟨g2, gd2, m2, b2, o2⟩ := GN
  obtain ⟨g3, gd3, m3, b3, o3⟩ := GO
  obtain ⟨g4, gd4, m4, b4, o4⟩ := GT
  obtain ⟨g5, gd5, m5, b5, o5⟩ := GP
  obtain ⟨tkM, cM⟩ := T.cMore
  refine F.ok scAtEnd (fun vs H Q E h => ?_) (fun cdv A outer s H vs Q E hr h => ?_)
  · obtain ⟨q, d, rfl, _⟩ := h
    rfl
  · obtain ⟨q, d, rfl, hD, v, kN, kS⟩ := h
    refine ⟨_, pss_cons (ps_set (i := 1) scAtEnd.nd rfl (Or.inl rfl) (pe_call o1 hr (by rfl) q1 k1 b1 .nil pass0 (by exact (pa_cons (pv 0) (pa_cons (pe_meth0 (pv 0) T.clD m2 o2 (hr.mono (by decide)) b2 .nil pass0) pa_nil)))))
      (pss_cons (ps_for PassesOwn.never rfl (pi_range2 (by rfl) T.bRange (by exact (pa_cons (pe_meth0 (pv 0) T.clD m2 o2 (hr.mono (by decide)) b2 .nil pass0)
          (pa_cons (pe_op op_add (pe_meth0 (pv 0) T.clD m2 o2 (hr.mono (by decide)) b2 .nil pass0) (pe_glob (v := .int 200) (by rfl) cM ⟨_, rfl⟩)) pa_nil)))) (pg_name (i := 2) scAtEnd.nd rfl (Or.inl rfl))
        (pss_cons (ps_if (pt_val (pe_meth0 (pv 1) T.clR m3 o3 (hr.mono (by decide)) b3 .nil pass0)) (pss_one (ps_ret (pv 1))) pss_nil)
        (pss_one (ps_expr (pe_meth (pv 1) T.clR m4 o4 (hr.mono (by decide)) b4 .nil pass0 (by exact (pa_cons (pv 2) (pa_cons pe_int (pa_cons (pe_meth (pv 0) T.clD m5 o5 (hr.mono (by decide)) b5 .nil pass0 (pa_cons (pv 2) pa_nil)) pa_nil)))))))))
      (pss_cons (ps_if (pt_val (pe_meth0 (pv 1) T.clR m3 o3 (hr.mono (by decide)) b3 .nil pass0)) (pss_one (ps_ret (pv 1))) pss_nil)
      (pss_one (ps_ret pe_non)))), ?_⟩
    have hD0 := hD
    obtain ⟨dd, l, hd1, hd2⟩ := hD0
    refine ⟨_, rfl, _, rfl, q, dd, _, rfl, hd1, dayF_told .., q, d, rfl, hD, q, d, d.comes.length, rfl, hD, v, v.m, fun H1 x s1 nx R1 => ?_⟩
    have hd1' := s1 _ _ hd1
    have hm := v.m
    refine ⟨_, rfl, q, dd, _, rfl, hd1', dayF_told .., q, d, rfl, hD.same s1, _, rfl, q, dd, _, rfl, hd1', dayF_told .., q, d, rfl, hD.same s1, _, _, rfl, rfl, _, _, rfl, ⟨by omega, by omega, by omega, by omega⟩, ?_⟩
    generalize et : d.comes.length = t0 at *
    have en : ((t0 : Int) + 200 - (t0 : Int)).toNat = 200 := by omega
    have le0 : ∀ x ∈ (behind d t0).ws, x ≤ t0 := le_behind d t0
    have sz0 := size_behind v t0
    have eE : atEnd d = late d 200 t0 (behind d t0) := by rw [← et]; rfl
    refine for_range (lo := (t0 : Int)) (fun i σ H' => ∃ v : Option V, σ = [some (.ref q), some (.ref x), v] ∧ Same H H' ∧ RowAt CR H' x (after d (behind d t0) t0 i) ∧ ∀ j, j < i → (after d (behind d t0) t0 j).ws ≠ [])
      ⟨none, rfl, s1, R1, fun j hj => absurd hj (Nat.not_lt_zero _)⟩ ?_ ?_
    · rintro i σ H' hi ⟨v0, rfl, s5, R5, hno⟩
      have hi' : i < 200 := by omega
      have ei : V.int ((t0 : Int) + (i : Int)) = nV (t0 + i) := by rw [← Int.natCast_add]
      rw [ei]
      have R5' := R5
      obtain ⟨dr, ra, rb, hr1, hr2, hr3⟩ := R5'
      refine ⟨_, rfl, x, dr, _, rfl, hr1, rowF_over .., x, _, rfl, R5, fun H6 s6 => ⟨_, rfl, ?_⟩⟩
      by_cases c : (after d (behind d t0) t0 i).ws = []
      · refine if_true_of (decide_eq_true c) ?_
        exact ⟨_, rfl, kS H6 x _ (s5.trans s6) (eE.trans (late_some 200 (Nat.le_of_lt hi') hno c)) (R5.same s6)⟩
      · refine if_false_of (decide_eq_false c) ?_
        have s56 := s5.trans s6
        refine ⟨_, rfl, x, dr, _, rfl, s6 _ _ hr1, rowF_take .., _, rfl, _, rfl, q, dd, _, rfl, s56 _ _ hd1, dayF_places .., _, rfl, q, d, t0 + i, rfl, hD.same s56, v, fun H7 s7 => ?_⟩
        refine ⟨x, _, t0 + i, 0, plc d (t0 + i), rfl, (R5.same s6).same s7, le_after le0 i, ?_, fun H8 R8 b8 => ?_⟩
        · rw [size_after]
          omega
        · refine ⟨some (nV (t0 + i)), rfl, Cw.Same.but (s56.trans s7) nx b8, R8, fun j hj => ?_⟩
          rcases Nat.lt_succ_iff_lt_or_eq.mp hj with z | z
          · exact hno j z
          · rw [z]
            exact c
    · rintro σ H' ⟨v0, rfl, s5, R5, hno⟩
      have R5' := R5
      obtain ⟨dr, ra, rb, hr1, hr2, hr3⟩ := R5'
      rw [en] at R5 hno
      refine ⟨_, rfl, x, dr, _, rfl, hr1, rowF_over .., x, _, rfl, R5, fun H6 s6 => ⟨_, rfl, ?_⟩⟩
      by_cases c : (after d (behind d t0) t0 200).ws = []
      · refine if_true_of (decide_eq_true c) ?_
        exact ⟨_, rfl, kS H6 x _ (s5.trans s6) (eE.trans (late_some 200 (Nat.le_refl _) hno c)) (R5.same s6)⟩
      · refine if_false_of (decide_eq_false c) ?_
        refine kN H6 (s5.trans s6) (eE.trans (late_none 200 fun j hj => ?_))
        rcases Nat.lt_or_eq_of_le hj with z | z
        · exact hno j z
        · rw [z]
          exact c
theorem scIsLet : FnScope ["day", "longest", "row"] ["day", "longest"] (defScope sIsLet) := ⟨rfl, rfl, rfl, by decide +kernel, rfl, by decide +kernel, by decide +kernel⟩
theorem ok_isLet {f : Addr} {fd : FuncData} (F : Fun K "is_let" "is_let" sIsLet f fd) (T : Txt K mg CR CD CF CK) (GE : Df P w K mg base CX0 5 "row_at_end" ["day"] (spAtEnd CR CD)) (GL : Dm P w K mg base CX0 1 CR "longest" ["self"] (spLongest CR)) :
    FnOk P w K mg base CX0 6 f fd ["day", "longest"] (spIsLet CD) := by
  obtain ⟨g1, gd1, q1, k1, b1, o1⟩ := GE
  obtain ⟨g2, gd2, m2, b2, o2⟩ := GL
  refine F.ok scIsLet (fun vs H Q E h => ?_) (fun cdv A outer s H vs Q E hr h => ?_)
  · obtain ⟨q, d, w', rfl, _⟩ := h
    rfl
  · obtain ⟨q, d, w', rfl, hD, v, k⟩ := h
    refine ⟨_, pss_cons (ps_set (i := 2) scIsLet.nd rfl (Or.inl rfl) (pe_call o1 hr (by rfl) q1 k1 b1 .nil pass0 (pa_cons (pv 0) pa_nil)))
      (pss_one (ps_ret (pe_and (pe_cmpR op_notN (pv 2) pe_non (nomark _)) (pe_one (pe_cmpR op_le (pe_meth0 (pv 2) T.clR m2 o2 (hr.mono (by decide)) b2 .nil pass0) (pv 1) (nomark _)))))), ?_⟩
    refine ⟨_, rfl, q, d, rfl, hD, v, fun H' s1 e => ?_, fun H' p r s1 e R => ?_⟩
    · refine ⟨_, rfl, rfl, _, rfl, if_false_of rfl ?_⟩
      have kk := k H' s1
      unfold isLet at kk
      rw [e] at kk
      exact kk
    · have R' := R
      obtain ⟨dr, ra, rb, hr1, hr2, hr3⟩ := R'
      refine ⟨_, rfl, rfl, _, rfl, if_true_of rfl ⟨_, rfl, p, dr, _, rfl, hr1, rowF_longest .., p, r, rfl, R, _, rfl, _, _, rfl, rfl, ?_⟩⟩
      have kk := k H' s1
      unfold isLet at kk
      rw [e] at kk
      have ed : decide ((longest r : Int) ≤ (w' : Int)) = decide (longest r ≤ w') := decide_eq_decide.mpr Int.ofNat_le
      show Q (.bl (decide ((longest r : Int) ≤ (w' : Int)))) H'
      rw [ed]
      exact kk
theorem scFew : FnScope ["day", "longest", "cabins"] ["day", "longest"] (defScope sFew) := ⟨rfl, rfl, rfl, by decide +kernel, rfl, by decide +kernel, by decide +kernel⟩
theorem ok_few {f : Addr} {fd : FuncData} (F : Fun K "fewest_cabins" "fewest_cabins" sFew f fd) (T : Txt K mg CR CD CF CK) (GL : Df P w K mg base CX0 6 "is_let" ["day", "longest"] (spIsLet CD)) (GC : Dm P w K mg base CX0 3 CD "with_cabins" ["self", "cabins"] (spCab CD)) :
    FnOk P w K mg base CX0 7 f fd ["day", "longest"] (spFew CD) := by
  obtain ⟨g1, gd1, q1, k1, b1, o1⟩ := GL
  obtain ⟨g2, gd2, m2, b2, o2⟩ := GC
  obtain ⟨tkM, cM⟩ := T.cCab
  refine F.ok scFew (fun vs H Q E h => ?_) (fun cdv A outer s H vs Q E hr h => ?_)
  · obtain ⟨q, d, w', rfl, _⟩ := h
    rfl
  · obtain ⟨q, d, w', rfl, hD, v, kN, kS⟩ := h
    refine ⟨_, pss_cons (ps_for PassesOwn.never rfl (pi_range2 (by rfl) T.bRange (by exact (pa_cons pe_int
          (pa_cons (pe_op op_add (pe_callB (call_min2 rfl) (by rfl) T.bMin (by decide +kernel) (by exact (pa_cons (pe_glob (v := .int 20) (by rfl) cM ⟨_, rfl⟩) (pa_cons (pe_fld (pv 0) rfl) pa_nil)))) pe_int) pa_nil)))) (pg_name (i := 2) scFew.nd rfl (Or.inl rfl))
        (pss_one (ps_if (pt_val (pe_call o1 hr (by rfl) q1 k1 b1 .nil pass0 (by exact (pa_cons (pe_meth (pv 0) T.clD m2 o2 (hr.mono (by decide)) b2 .nil pass0 (pa_cons (pv 2) pa_nil)) (pa_cons (pv 1) pa_nil))))) (pss_one (ps_ret (pv 2))) pss_nil)))
      (pss_one (ps_ret pe_non)), ?_⟩
    have hD0 := hD
    obtain ⟨dd, l, hd1, hd2⟩ := hD0
    have hm : (if (d.round : Int) < 20 then (d.round : Int) else 20) = ((min 20 d.round : Nat) : Int) := by
      by_cases c : (d.round : Int) < 20
      · rw [if_pos c]
        omega
      · rw [if_neg c]
        omega
    refine ⟨_, rfl, q, CD, dd, _, _, rfl, hd1, T.clD, T.nA, dayF_r .., _, _, rfl, _, _, rfl, rfl, _, _, rfl, ⟨by omega, by omega, by rw [hm]; omega, by rw [hm]; omega⟩, ?_⟩
    have en : ((if (d.round : Int) < 20 then (d.round : Int) else 20) + 1 - 1).toNat = min 20 d.round := by
      rw [hm]
      omega
    refine for_range (lo := 1) (fun i σ H' => ∃ v : Option V, σ = [some (.ref q), some (nV w'), v] ∧ Same H H' ∧ ∀ j, j < i → isLet (withCabins d (1 + j)) w' = false)
      ⟨none, rfl, L2.Same.refl H, fun j hj => absurd hj (Nat.not_lt_zero _)⟩ ?_ ?_
    · rintro i σ H' hi ⟨v0, rfl, s5, hno⟩
      have hi' : i < min 20 d.round := by rw [← en]; exact hi
      have ei : V.int (1 + (i : Int)) = nV (1 + i) := by
        show V.int _ = V.int _
        congr 1
      rw [ei]
      refine ⟨_, rfl, q, dd, _, rfl, s5 _ _ hd1, dayF_cab .., _, rfl, q, d, 1 + i, rfl, hD.same s5, fun H6 q' s6 D6 => ⟨_, rfl, q', withCabins d (1 + i), w', rfl, D6, v.cab (by omega) (by omega), fun H7 s7 => ⟨_, rfl, ?_⟩⟩⟩
      have s57 := (s5.trans s6).trans s7
      by_cases c : isLet (withCabins d (1 + i)) w' = true
      · exact if_true_of c ⟨_, rfl, kS H7 (1 + i) s57 (fewest_some hi' hno c)⟩
      · refine if_false_of (Bool.not_eq_true _ ▸ c) ⟨some (nV (1 + i)), rfl, s57, fun j hj => ?_⟩
        rcases Nat.lt_succ_iff_lt_or_eq.mp hj with z | z
        · exact hno j z
        · rw [z]
          exact Bool.not_eq_true _ ▸ c
    · rintro σ H' ⟨v0, rfl, s5, hno⟩
      refine kN H' s5 (fewest_none fun j hj => hno j ?_)
      rw [← en] at hj
      exact hj
/-! ### Refused, want, is_within -/
theorem scRefInit : FnScope ["self", "refusal"] ["self", "refusal"] (defScope sRefInit) := ⟨rfl, rfl, rfl, by decide +kernel, rfl, by decide +kernel, by decide +kernel⟩
theorem ok_refInit {f : Addr} {fd : FuncData} (F : Fun K "__init__" "Refused.__init__" sRefInit f fd) (T : Txt K mg CR CD CF CK) : FnOk P w K mg base CX0 1 f fd ["self", "refusal"] (spRefInit CF) := by
  refine F.ok scRefInit (fun vs H Q E h => ?_) (fun cdv A outer s H vs Q E hr h => ?_)
  · obtain ⟨e, z, rfl, _⟩ := h
    rfl
  · obtain ⟨e, z, rfl, he, k⟩ := h
    refine ⟨_, pss_cons (ps_expr (pe_veinit (by rfl) T.bVal T.vV (pa_cons (pv 0) (pa_cons pe_str pa_nil)))) (pss_one (ps_ost (pv 0) (pv 1))), ?_⟩
    refine ⟨_, rfl, e, CF, _, rfl, (by show 1 ≤ 1000; decide), T.oF, he, ?_⟩
    refine ⟨_, rfl, _, rfl, e, CF, rfl, T.oF, T.nF, .inl ⟨he, fun dx nd ne => k _ dx nd upd_same ?_ fun b h1 h2 => ?_⟩⟩
    · rw [upd_ne ne, upd_same]
    · rw [upd_ne h1, upd_ne h2]
theorem scWant : FnScope ["is_so", "refusal"] ["is_so", "refusal"] (defScope sWant) := ⟨rfl, rfl, rfl, by decide +kernel, rfl, by decide +kernel, by decide +kernel⟩
theorem ok_want {f fI : Addr} {fd fdI : FuncData} (F : Fun K "want" "want" sWant f fd) (T : Txt K mg CR CD CF CK) (iC : PySem.W.findIn K (.ref CF) "__init__" = some (some (.ref fI))) (tI : PySem.W.typeIn K (.ref fI) = some (.type "function"))
    (bI : Binds K fdI ["self", "refusal"] []) (oI : FnOk P w K mg base CX0 1 fI fdI ["self", "refusal"] (spRefInit CF)) : FnOk P w K mg base (L2.CX P w) 3 f fd ["is_so", "refusal"] (spWant CF) := by
  refine F.okX scWant (fun vs H Q E h => ?_) (fun cdv A outer s H vs Q E hr h => ?_)
  · obtain ⟨b, z, rfl, _⟩ := h
    rfl
  · obtain ⟨b, z, rfl, kT, kF⟩ := h
    refine ⟨_, pss_one (ps_if (pt_not (pt_val (pv 0))) (pss_one (ps_raise rfl (takes_of rfl rfl rfl rfl) (pmk_oex T.oF iC tI oI hr bI .nil pass0 (by rfl) T.gF (pa_cons (pv 1) pa_nil)))) pss_nil), ?_⟩
    refine ⟨_, rfl, b, rfl, ?_⟩
    cases b with
    | true => exact if_false_of rfl (kT rfl)
    | false =>
      refine if_true_of rfl ⟨_, rfl, (by show 1 ≤ 1000; decide), fun a na => ⟨a, z, rfl, upd_same, fun H' d nd he hd hrest => ⟨rfl, d, _, he, hd, ?_, ?_⟩⟩⟩
      · have n : d ≠ a := fun q => by
          rw [q, upd_same] at nd
          cases nd
        rw [upd_ne n] at nd
        exact nd
      · have n : d ≠ a := fun q => by
          rw [q, upd_same] at nd
          cases nd
        rw [upd_ne n] at nd
        refine kF rfl _ d (fun b o e => ?_) upd_same
        rw [upd_ne (ne_of_none e nd), del_ne (ne_of_none e na), hrest b (ne_of_none e na) (ne_of_none e nd), upd_ne (ne_of_none e na)]
        exact e
theorem scWithin : FnScope ["number", "low", "high"] ["number", "low", "high"] (defScope sWithin) := ⟨rfl, rfl, rfl, by decide +kernel, rfl, by decide +kernel, by decide +kernel⟩
theorem ok_within {f : Addr} {fd : FuncData} (F : Fun K "is_within" "is_within" sWithin f fd) : FnOk P w K mg base CX0 1 f fd ["number", "low", "high"] spWithin := by
  refine F.ok scWithin (fun vs H Q E h => ?_) (fun cdv A outer s H vs Q E hr h => ?_)
  · obtain ⟨n, lo, hi, rfl, _⟩ := h
    rfl
  · obtain ⟨n, lo, hi, rfl, k⟩ := h
    refine ⟨_, pss_one (ps_ret (pe_and (pe_cmpR op_le (pv 1) (pv 0) (nomark _)) (pe_one (pe_cmpR op_le (pv 0) (pv 2) (nomark _))))), ?_⟩
    refine ⟨_, rfl, _, rfl, _, _, rfl, rfl, _, rfl, ?_⟩
    by_cases c : lo ≤ n
    · rw [decide_eq_true c, Bool.true_and] at k
      exact if_true_of (decide_eq_true c) ⟨_, rfl, _, rfl, _, _, rfl, rfl, k⟩
    · rw [decide_eq_false c, Bool.false_and] at k
      exact if_false_of (decide_eq_false c) k
end
end Cw

namespace Cw
open PySem PySem.Spec PyProof.Rows L2
section
variable {P : Program} {w : World} {K : PySem.W.Frag} {mg : Str → Option Value} {base : Heap} {CR CD CF CK : Addr}
/-! ### Desk -/
theorem win (n lo hi : Int) : (decide (lo ≤ n) && decide (n ≤ hi)) = decide (lo ≤ n ∧ n ≤ hi) := (Bool.decide_and _ _).symm
/-- the desk's day is stored anew -/
theorem desk_put {H H1 : Hp} {a dx q0 q l : Addr} {d' : Uw40.Day} (s : Same H H1) (ha : H a = some (.ins CK dx (deskF q0))) (hD : DayAtM CD H1 q d' l) :
    DeskAt CK CD (upd H1 a (.ins CK dx (putF "day" (.ref q) (deskF q0)))) a d' l ∧ But a H (upd H1 a (.ins CK dx (putF "day" (.ref q) (deskF q0)))) := by
  obtain ⟨dd, h1, h2⟩ := hD
  have nq : q ≠ a := ne_of h1 (s _ _ ha) (ins_len (by show 4 ≠ 1; decide))
  have nl : l ≠ a := ne_of h2 (s _ _ ha) (fun z => by cases z)
  refine ⟨⟨dx, q, ?_, dd, ?_, ?_⟩, fun b o n e => ?_⟩
  · rw [upd_same, deskF_put]
  · rw [upd_ne nq]
    exact h1
  · rw [upd_ne nl]
    exact h2
  · rw [upd_ne n]
    exact s _ _ e
theorem scDeskInit : FnScope ["self"] ["self"] (defScope sDeskInit) := ⟨rfl, rfl, rfl, by decide +kernel, rfl, by decide +kernel, by decide +kernel⟩
theorem ok_deskInit {f : Addr} {fd : FuncData} (F : Fun K "__init__" "Desk.__init__" sDeskInit f fd) (T : Txt K mg CR CD CF CK) (I : Di P w K mg base CX0 1 CD ["self", "around", "seats", "cabins", "people"] (spDayInit CD)) :
    FnOk P w K mg base CX0 3 f fd ["self"] (spDeskInit CK CD) := by
  obtain ⟨g, gd, M, bG, oG⟩ := I
  refine F.ok scDeskInit (fun vs H Q E h => ?_) (fun cdv A outer s H vs Q E hr h => ?_)
  · obtain ⟨p, dx, rfl, _⟩ := h
    rfl
  · obtain ⟨p, dx, rfl, hp, k⟩ := h
    refine ⟨_, pss_one (ps_fld (pv 0) (pe_make M oG hr (by rfl) T.gD bG .nil pass0 (by exact (pa_cons pe_int (pa_cons pe_int (pa_cons pe_int (pa_cons (pe_lst pa_nil) pa_nil)))))) rfl), ?_⟩
    refine ⟨Nat.zero_le _, fun l hl => ?_⟩
    have s1 : Same H (upd H l (.lst [])) := Same.new hl
    intro q dq nq nd ne
    refine ⟨q, dq, l, 1, 1, 1, rfl, upd_same, fun H' hq bq => ⟨rfl, ?_⟩⟩
    have s12 : Same H H' := s1.trans (Same.made (C := CD) nq nd fun b' o e hb => bq b' o hb e)
    have D : DayAtM CD H' q Uw40.init l := ⟨dq, hq, (Same.made (C := CD) nq nd fun b' o e hb => bq b' o hb e) _ _ upd_same⟩
    refine ⟨_, rfl, p, CK, dx, [], rfl, s12 _ _ hp, T.clK, T.nY, (by show 0 < 1000; decide), ?_⟩
    obtain ⟨dd, h1, h2⟩ := D
    have nq : q ≠ p := ne_of h1 (s12 _ _ hp) (ins_len (by show 4 ≠ 0; decide))
    have nm : l ≠ p := ne_of h2 (s12 _ _ hp) (fun z => by cases z)
    refine k _ l ⟨dx, q, ?_, dd, ?_, ?_⟩ hl fun b o n e => ?_
    · rw [upd_same]
      rfl
    · rw [upd_ne nq]
      exact h1
    · rw [upd_ne nm]
      exact h2
    · rw [upd_ne n]
      exact s12 _ _ e
/-- the desk stands, a new list is handed back -/
theorem tell_list {H H1 : Hp} {a : Addr} {d : Uw40.Day} {x : Uw40.Call} {Q : VK} {E : XK} {zs : List V} {m m' : Addr} (t : Tell CK CD CF H a d m x Q E) (D : DeskAt CK CD H1 a (Uw40.step d x).1 m') (hm : m' = m ∨ H m' = none) (b : But a H H1) (e : zs = (ans d x).map V.int) :
    ∀ l, H1 l = none → Q (.ref l) (upd H1 l (.lst zs)) := fun l hl => by
  have na : l ≠ a := fun z => by
    obtain ⟨dx, q, h, _⟩ := D
    rw [z, h] at hl
    cases hl
  have s := Same.new (o := .lst zs) hl
  exact t.2 _ l m' (D.same s) hm (b.trans (But.of s)) (b.free na hl) (by rw [upd_same, e])
theorem scBegins : FnScope ["self", "around", "seats", "cabins"] ["self", "around", "seats", "cabins"] (defScope sBegins) := ⟨rfl, rfl, rfl, by decide +kernel, rfl, by decide +kernel, by decide +kernel⟩
theorem ok_begins {f : Addr} {fd : FuncData} (F : Fun K "begins" "Desk.begins" sBegins f fd) (T : Txt K mg CR CD CF CK) (GW : Df P w K mg base (L2.CX P w) 3 "want" ["is_so", "refusal"] (spWant CF))
    (GI : Df P w K mg base CX0 1 "is_within" ["number", "low", "high"] spWithin) (I : Di P w K mg base CX0 1 CD ["self", "around", "seats", "cabins", "people"] (spDayInit CD)) :
    FnOk P w K mg base (L2.CX P w) 4 f fd ["self", "around", "seats", "cabins"] (spBegins CK CD CF) := by
  obtain ⟨g1, gd1, q1, k1, b1, o1⟩ := GW
  obtain ⟨g2, gd2, q2, k2, b2, o2⟩ := GI
  obtain ⟨g3, gd3, M, b3, o3⟩ := I
  obtain ⟨t1, cO⟩ := T.cOut
  obtain ⟨t2, cA⟩ := T.cAr
  obtain ⟨t3, cS⟩ := T.cSe
  obtain ⟨t4, cC⟩ := T.cCab
  refine F.okX scBegins (fun vs H Q E h => ?_) (fun cdv A outer s H vs Q E hr h => ?_)
  · obtain ⟨a, r, s, c, d, m, rfl, _⟩ := h
    rfl
  · obtain ⟨a, r, s, c, d, m, rfl, hD, v, t⟩ := h
    refine ⟨_, pss_cons (ps_expr (pe_call o1 hr (by rfl) q1 k1 b1 .nil (passes_call (takes_of rfl rfl rfl rfl) (fun _ _ _ _ h => h)) (by exact (pa_cons
          (pe_and (pe_call o2 (hr.mono (by decide)) (by rfl) q2 k2 b2 .nil pass0 (by exact (pa_cons (pv 1) (pa_cons pe_int (pa_cons (pe_glob (v := .int 30) (by rfl) cA ⟨_, rfl⟩) pa_nil)))))
            (pe_one (pe_call o2 (hr.mono (by decide)) (by rfl) q2 k2 b2 .nil pass0 (by exact (pa_cons (pv 2) (pa_cons pe_int (pa_cons (pe_glob (v := .int 8) (by rfl) cS ⟨_, rfl⟩) pa_nil)))))))
          (pa_cons (pe_glob (v := .int (-1)) (by rfl) cO ⟨_, rfl⟩) pa_nil)))))
      (pss_cons (ps_expr (pe_call o1 hr (by rfl) q1 k1 b1 .nil (passes_call (takes_of rfl rfl rfl rfl) (fun _ _ _ _ h => h)) (by exact (pa_cons
          (pe_and (pe_call o2 (hr.mono (by decide)) (by rfl) q2 k2 b2 .nil pass0 (by exact (pa_cons (pv 3) (pa_cons pe_int (pa_cons (pe_glob (v := .int 20) (by rfl) cC ⟨_, rfl⟩) pa_nil)))))
            (pe_one (pe_cmpR op_le (pv 3) (pv 1) (nomark _))))
          (pa_cons (pe_glob (v := .int (-1)) (by rfl) cO ⟨_, rfl⟩) pa_nil)))))
      (pss_cons (ps_fld (pv 0) (pe_make M o3 (hr.mono (by decide)) (by rfl) T.gD b3 .nil pass0 (by exact (pa_cons (pv 1) (pa_cons (pv 2) (pa_cons (pv 3) (pa_cons (pe_lst pa_nil) pa_nil)))))) rfl)
      (pss_one (ps_ret (pe_lst (pa_cons pe_int pa_nil)))))), ?_⟩
    have no : ¬ (((1 ≤ r ∧ r ≤ 30) ∧ (1 ≤ s ∧ s ≤ 8)) ∧ ((1 ≤ c ∧ c ≤ 20) ∧ c ≤ r)) → ∀ H' dd, Same H H' → H' dd = some (.xd [(("refusal" : Str), .int (-1))]) → E (.ref CF) (some dd) H' := fun hn H' dd s1 hd => t.1 (-1) H' dd (step_begins_no hn) s1 hd
    have hD0 := hD
    obtain ⟨dx, q0, h1, h2⟩ := hD0
    refine ⟨_, rfl, r, 1, 30, rfl, _, rfl, ?_⟩
    by_cases c1 : (1 : Int) ≤ (r : Int) ∧ (r : Int) ≤ 30
    rotate_left
    · exact if_false_of ((win ..).trans (decide_eq_false c1)) ⟨false, -1, rfl, fun hb => Bool.noConfusion hb, fun _ => no (by omega)⟩
    refine if_true_of ((win ..).trans (decide_eq_true c1)) ⟨_, rfl, s, 1, 8, rfl, _, -1, rfl, fun hb => ?_, fun hb => no ?_⟩
    rotate_left
    · have := of_decide_eq_false ((win ..).symm.trans hb)
      omega
    have c2 := of_decide_eq_true ((win ..).symm.trans hb)
    refine ⟨_, rfl, c, 1, 20, rfl, _, rfl, ?_⟩
    by_cases c3 : (1 : Int) ≤ (c : Int) ∧ (c : Int) ≤ 20
    rotate_left
    · exact if_false_of ((win ..).trans (decide_eq_false c3)) ⟨false, -1, rfl, fun hb => Bool.noConfusion hb, fun _ => no (by omega)⟩
    refine if_true_of ((win ..).trans (decide_eq_true c3)) ⟨_, rfl, _, rfl, _, _, rfl, rfl, _, -1, rfl, fun hb => ?_, fun hb => no ?_⟩
    rotate_left
    · have := of_decide_eq_false hb
      omega
    have c4 := of_decide_eq_true hb
    have yes : ((1 ≤ r ∧ r ≤ 30) ∧ (1 ≤ s ∧ s ≤ 8)) ∧ ((1 ≤ c ∧ c ≤ 20) ∧ c ≤ r) := by omega
    have es := step_begins (d := d) yes
    refine ⟨_, rfl, _, rfl, _, rfl, Nat.zero_le _, fun l hl => ?_⟩
    have s1 : Same H (upd H l (.lst [])) := Same.new hl
    intro q dq nq nd ne
    refine ⟨q, dq, l, r, s, c, rfl, upd_same, fun H' hq bq => ⟨rfl, ?_⟩⟩
    have s12 : Same H H' := s1.trans (Same.made (C := CD) nq nd fun b' o e hb => bq b' o hb e)
    have D : DayAtM CD H' q ⟨r, s, c, []⟩ l := ⟨dq, hq, (Same.made (C := CD) nq nd fun b' o e hb => bq b' o hb e) _ _ upd_same⟩
    refine ⟨_, rfl, a, CK, dx, deskF q0, rfl, s12 _ _ h1, T.clK, T.nY, (by show 1 < 1000; decide), ?_⟩
    have p := desk_put s12 h1 D
    exact ⟨line_of (by show 1 ≤ 10000000; decide), tell_list t (by rw [es]; exact p.1) (.inr hl) p.2 (by show _ = (Uw40Neutral.out (Uw40.step d _).2).map V.int; rw [es]; rfl)⟩
end
end Cw

namespace Cw
open PySem PySem.Spec PyProof.Rows L2
section
variable {P : Program} {w : World} {K : PySem.W.Frag} {mg : Str → Option Value} {base : Heap} {CR CD CF CK : Addr}
theorem le_nat {m n : Nat} : decide ((m : Int) ≤ (n : Int)) = decide (m ≤ n) := decide_eq_decide.mpr Int.ofNat_le
theorem scCome : FnScope ["self", "many"] ["self", "many"] (defScope sCome) := ⟨rfl, rfl, rfl, by decide +kernel, rfl, by decide +kernel, by decide +kernel⟩
theorem ok_come {f : Addr} {fd : FuncData} (F : Fun K "come" "Desk.come" sCome f fd) (T : Txt K mg CR CD CF CK) (GW : Df P w K mg base (L2.CX P w) 3 "want" ["is_so", "refusal"] (spWant CF))
    (GN : Dm P w K mg base CX0 1 CD "told" ["self"] (spToldN CD)) (GM : Dm P w K mg base CX0 3 CD "with_one_more" ["self", "many"] (spMore CD)) :
    FnOk P w K mg base (L2.CX P w) 4 f fd ["self", "many"] (spCome CK CD CF) := by
  obtain ⟨g1, gd1, q1, k1, b1, o1⟩ := GW
  obtain ⟨g2, gd2, m2, b2, o2⟩ := GN
  obtain ⟨g3, gd3, m3, b3, o3⟩ := GM
  obtain ⟨t1, cO⟩ := T.cOut
  obtain ⟨t2, cF⟩ := T.cFull
  obtain ⟨t3, cP⟩ := T.cPe
  obtain ⟨t4, cM⟩ := T.cMi
  refine F.okX scCome (fun vs H Q E h => ?_) (fun cdv A outer s H vs Q E hr h => ?_)
  · obtain ⟨a, n, d, m, rfl, _⟩ := h
    rfl
  · obtain ⟨a, n, d, m, rfl, hD, v, t⟩ := h
    refine ⟨_, pss_cons (ps_expr (pe_call o1 hr (by rfl) q1 k1 b1 .nil (passes_call (takes_of rfl rfl rfl rfl) (fun _ _ _ _ h => h)) (by exact (pa_cons
          (pe_cmpR op_le (pv 1) (pe_glob (v := .int 20) (by rfl) cP ⟨_, rfl⟩) (nomark _))
          (pa_cons (pe_glob (v := .int (-1)) (by rfl) cO ⟨_, rfl⟩) pa_nil)))))
      (pss_cons (ps_expr (pe_call o1 hr (by rfl) q1 k1 b1 .nil (passes_call (takes_of rfl rfl rfl rfl) (fun _ _ _ _ h => h)) (by exact (pa_cons
          (pe_cmpR op_lt (pe_meth0 (pe_fld (pv 0) rfl) T.clD m2 o2 (hr.mono (by decide)) b2 .nil pass0) (pe_glob (v := .int 30) (by rfl) cM ⟨_, rfl⟩) (nomark _))
          (pa_cons (pe_glob (v := .int (-5)) (by rfl) cF ⟨_, rfl⟩) pa_nil)))))
      (pss_cons (ps_fld (pv 0) (pe_meth (pe_fld (pv 0) rfl) T.clD m3 o3 (hr.mono (by decide)) b3 .nil pass0 (by exact (pa_cons (pv 1) pa_nil))) rfl)
      (pss_one (ps_ret (pe_lst (pa_cons (pe_op op_sub (pe_meth0 (pe_fld (pv 0) rfl) T.clD m2 o2 (hr.mono (by decide)) b2 .nil pass0) pe_int) pa_nil)))))), ?_⟩
    have hD0 := hD
    obtain ⟨dx, q0, h1, h2⟩ := hD0
    have h2m := h2
    obtain ⟨dd, h3, h4⟩ := h2m
    have h2 := h2.day
    refine ⟨_, rfl, _, _, rfl, rfl, _, -1, rfl, fun hb => ?_, fun hb H' z s1 hd => t.1 (-1) H' z (step_come_many (fun c => ?_)) s1 hd⟩
    rotate_left
    · have := of_decide_eq_false hb
      omega
    have c1 := of_decide_eq_true hb
    refine ⟨_, rfl, a, CK, dx, _, _, rfl, h1, T.clK, T.nY, deskF_d q0, q0, dd, _, rfl, h3, dayF_told .., q0, d, rfl, h2, _, _, rfl, rfl, _, -5, rfl, fun hb2 => ?_, fun hb2 H' z s1 hd => t.1 (-5) H' z (step_come_full (by omega) (fun c => ?_)) s1 hd⟩
    rotate_left
    · have := of_decide_eq_false hb2
      omega
    have c2 := of_decide_eq_true hb2
    have es := step_come (d := d) (n := n) (by omega) (by omega)
    refine ⟨_, rfl, a, CK, dx, _, _, rfl, h1, T.clK, T.nY, deskF_d q0, q0, dd, _, rfl, h3, dayF_more .., _, rfl, q0, d, n, rfl, h2, by omega, fun H1 q' m' s1 nm D1 => ?_⟩
    refine ⟨_, rfl, a, CK, dx, deskF q0, rfl, s1 _ _ h1, T.clK, T.nY, (by show 1 < 1000; decide), ?_⟩
    have p := desk_put s1 h1 D1
    generalize upd H1 a (.ins CK dx (putF "day" (.ref q') (deskF q0))) = H2 at p ⊢
    obtain ⟨pD, pB⟩ := p
    have pD0 := pD
    obtain ⟨dx2, q2, e1, e2⟩ := pD0
    have e2m := e2
    obtain ⟨dd2, e3, e4⟩ := e2m
    have e2 := e2.day
    refine ⟨_, rfl, a, CK, dx2, _, _, rfl, e1, T.clK, T.nY, deskF_d q2, q2, dd2, _, rfl, e3, dayF_told .., q2, _, rfl, e2, _, _, rfl, rfl, line_of (by show 1 ≤ 10000000; decide), tell_list t (by rw [es]; exact pD) (.inr nm) pB ?_⟩
    show _ = (Uw40Neutral.out (Uw40.step d _).2).map V.int
    rw [es]
    show [V.int (((d.comes ++ [n]).length : Nat) - (1 : Int))] = [V.int ((d.comes.length : Nat) : Int)]
    rw [List.length_append]
    show [V.int (((d.comes.length + 1 : Nat) : Int) - 1)] = _
    congr 2
    omega
theorem scRow : FnScope ["self", "minutes", "found"] ["self", "minutes"] (defScope sRow) := ⟨rfl, rfl, rfl, by decide +kernel, rfl, by decide +kernel, by decide +kernel⟩
theorem ok_row {f : Addr} {fd : FuncData} (F : Fun K "row" "Desk.row" sRow f fd) (T : Txt K mg CR CD CF CK) (GW : Df P w K mg base (L2.CX P w) 3 "want" ["is_so", "refusal"] (spWant CF))
    (GN : Dm P w K mg base CX0 1 CD "told" ["self"] (spToldN CD)) (GB : Df P w K mg base CX0 4 "row_behind" ["day", "minutes"] (spBehind CR CD)) (GT : Dm P w K mg base CX0 1 CR "waited_till" ["self", "minutes"] (spTill CR)) :
    FnOk P w K mg base (L2.CX P w) 5 f fd ["self", "minutes"] (spRow CK CD CF) := by
  obtain ⟨g1, gd1, q1, k1, b1, o1⟩ := GW
  obtain ⟨g2, gd2, m2, b2, o2⟩ := GN
  obtain ⟨g3, gd3, q3, k3, b3, o3⟩ := GB
  obtain ⟨g4, gd4, m4, b4, o4⟩ := GT
  obtain ⟨t1, cO⟩ := T.cOut
  refine F.okX scRow (fun vs H Q E h => ?_) (fun cdv A outer s H vs Q E hr h => ?_)
  · obtain ⟨a, n, d, m, rfl, _⟩ := h
    rfl
  · obtain ⟨a, n, d, m, rfl, hD, v, t⟩ := h
    refine ⟨_, pss_cons (ps_expr (pe_call o1 (hr.mono (by decide)) (by rfl) q1 k1 b1 .nil (passes_call (takes_of rfl rfl rfl rfl) (fun _ _ _ _ h => h)) (by exact (pa_cons
          (pe_cmpR op_le (pv 1) (pe_meth0 (pe_fld (pv 0) rfl) T.clD m2 o2 (hr.mono (by decide)) b2 .nil pass0) (nomark _))
          (pa_cons (pe_glob (v := .int (-1)) (by rfl) cO ⟨_, rfl⟩) pa_nil)))))
      (pss_cons (ps_set (i := 2) scRow.nd rfl (Or.inl rfl) (pe_call o3 hr (by rfl) q3 k3 b3 .nil pass0 (by exact (pa_cons (pe_fld (pv 0) rfl) (pa_cons (pv 1) pa_nil)))))
      (pss_one (ps_ret (pe_op op_cat (pe_lst (by exact (pa_cons (pe_callB call_len_seq (by rfl) T.bLen PySem.boot_len (pa_cons (pe_fld (pv 2) rfl) pa_nil)) (pa_cons (pe_callB call_len_seq (by rfl) T.bLen PySem.boot_len (pa_cons (pe_fld (pv 2) rfl) pa_nil)) pa_nil))))
        (pe_meth (pv 2) T.clR m4 o4 (hr.mono (by decide)) b4 .nil pass0 (by exact (pa_cons (pv 1) pa_nil))))))), ?_⟩
    have hD0 := hD
    obtain ⟨dx, q0, h1, h2⟩ := hD0
    have h2m := h2
    obtain ⟨dd, h3, h4⟩ := h2m
    have h2 := h2.day
    refine ⟨_, rfl, _, rfl, a, CK, dx, _, _, rfl, h1, T.clK, T.nY, deskF_d q0, q0, dd, _, rfl, h3, dayF_told .., q0, d, rfl, h2, _, _, rfl, rfl, _, -1, rfl, fun hb => ?_, fun hb H' z s1 hd => t.1 (-1) H' z (step_row_no (fun c => ?_)) s1 hd⟩
    rotate_left
    · have := of_decide_eq_false hb
      omega
    have c1 := of_decide_eq_true hb
    have c1' : n ≤ d.comes.length := by omega
    have es := step_row v c1'
    have hm := v.m
    have sz := size_behind v n
    refine ⟨_, rfl, a, CK, dx, _, _, rfl, h1, T.clK, T.nY, deskF_d q0, _, rfl, q0, d, n, rfl, h2, v, by omega, fun H1 p s1 np R1 => ?_⟩
    have R1' := R1
    obtain ⟨dr, ra, rb, r1, r2, r3⟩ := R1'
    have szz : (behind d n).ws.length + (behind d n).gs.length ≤ 20 * n := sz
    refine ⟨_, rfl, p, CR, dr, _, _, rfl, r1, T.clR, T.nW, rowF_ws ra rb, ra, _, rfl, .inl (SqL.of r2), _, rfl, p, CR, dr, _, _, rfl, r1, T.clR, T.nG, rowF_gs ra rb, rb, _, rfl, .inl (SqL.of r3), line_of (by show 2 ≤ 10000000; decide), fun l1 hl1 => ?_⟩
    have s2 := Same.new (o := .lst [V.int (((behind d n).ws.map nV).length : Nat), V.int (((behind d n).gs.map nV).length : Nat)]) hl1
    refine ⟨_, rfl, p, dr, _, rfl, s2 _ _ r1, rowF_till .., _, rfl, p, behind d n, n, rfl, R1.same s2, le_behind d n, by omega, fun H3 l3 s3 nl3 hl3 => ?_⟩
    refine ⟨l1, l3, _, _, rfl, rfl, s3 _ _ upd_same, hl3, line_of ?_, ?_⟩
    · show 2 + ((behind d n).ws.map fun x => nV (n - x)).length ≤ 10000000
      rw [List.length_map]
      omega
    · refine tell_list t (by rw [es.1]; exact hD.same ((s1.trans s2).trans s3)) (.inl rfl) (But.of ((s1.trans s2).trans s3)) ?_
      rw [es.2, List.map_cons, List.map_cons, List.map_map, List.length_map, List.length_map]
      rfl
theorem scTimes : FnScope ["self", "some"] ["self"] (defScope sTimes) := ⟨rfl, rfl, rfl, by decide +kernel, rfl, by decide +kernel, by decide +kernel⟩
theorem ok_times {f : Addr} {fd : FuncData} (F : Fun K "times" "Desk.times" sTimes f fd) (T : Txt K mg CR CD CF CK) (G : Df P w K mg base CX0 1 "first_minutes" ["around", "cabins"] spFirst) :
    FnOk P w K mg base (L2.CX P w) 2 f fd ["self"] (spTimes CK CD CF) := by
  obtain ⟨g1, gd1, q1, k1, b1, o1⟩ := G
  refine F.okX scTimes (fun vs H Q E h => ?_) (fun cdv A outer s H vs Q E hr h => ?_)
  · obtain ⟨a, d, m, rfl, _⟩ := h
    rfl
  · obtain ⟨a, d, m, rfl, hD, v, t⟩ := h
    refine ⟨_, pss_cons (ps_set (i := 1) scTimes.nd rfl (Or.inl rfl) (pe_call o1 hr (by rfl) q1 k1 b1 .nil pass0 (by exact (pa_cons (pe_fld (pe_fld (pv 0) rfl) rfl) (pa_cons (pe_fld (pe_fld (pv 0) rfl) rfl) pa_nil)))))
      (pss_one (ps_ret (pe_op op_cat (pe_lst (pa_cons (pe_callB call_len_seq (by rfl) T.bLen PySem.boot_len (pa_cons (pv 1) pa_nil)) pa_nil)) (pv 1)))), ?_⟩
    have hD0 := hD
    obtain ⟨dx, q0, h1, h2⟩ := hD0
    have h2m := h2
    obtain ⟨dd, h3, h4⟩ := h2m
    have h2 := h2.day
    have hc := v.c2
    refine ⟨_, rfl, a, CK, dx, _, _, rfl, h1, T.clK, T.nY, deskF_d q0, q0, CD, dd, _, _, rfl, h3, T.clD, T.nA, dayF_r .., _, rfl, a, CK, dx, _, _, rfl, h1, T.clK, T.nY, deskF_d q0, q0, CD, dd, _, _, rfl, h3, T.clD, T.nC, dayF_c ..,
      d.round, d.cabins, rfl, v.c1, v.c2, v.r2, fun H1 p s1 np hp => ?_⟩
    refine ⟨_, rfl, p, _, rfl, .inl (SqL.of hp), line_of (by show 1 ≤ 10000000; decide), fun l1 hl1 => ?_⟩
    have s2 := Same.new (o := .lst [V.int (((firsts d.round d.cabins).map nV).length : Nat)]) hl1
    have ln : (firsts d.round d.cabins).length = d.cabins := by
      unfold firsts
      rw [List.length_map, List.length_range]
    refine ⟨_, rfl, l1, p, _, _, rfl, rfl, upd_same, s2 _ _ hp, line_of ?_, ?_⟩
    · rw [List.length_map, ln]
      show 1 + _ ≤ 10000000
      omega
    · refine tell_list t (hD.same (s1.trans s2)) (.inl rfl) (But.of (s1.trans s2)) ?_
      rw [(step_times d).2, List.map_cons, List.map_map, List.length_map, ln]
      rfl
theorem total_sum : ∀ l : List Nat, (l.map fun n : Nat => (n : Int)).sum = ((Uw40.total l : Nat) : Int)
  | [] => rfl
  | n :: l => by
    rw [List.map_cons, List.sum_cons, total_sum l]
    have e : Uw40.total (n :: l) = n + Uw40.total l := by
      show (n :: l).foldl (fun a b => a + b) 0 = _
      rw [List.foldl_cons, foldl_add_at, Nat.zero_add]
    rw [e]
    omega
theorem scEnds : FnScope ["self", "found"] ["self"] (defScope sEnds) := ⟨rfl, rfl, rfl, by decide +kernel, rfl, by decide +kernel, by decide +kernel⟩
theorem ok_ends {f : Addr} {fd : FuncData} (F : Fun K "ends" "Desk.ends" sEnds f fd) (T : Txt K mg CR CD CF CK) (GW : Df P w K mg base (L2.CX P w) 3 "want" ["is_so", "refusal"] (spWant CF))
    (GE : Df P w K mg base CX0 5 "row_at_end" ["day"] (spAtEnd CR CD)) (GL : Dm P w K mg base CX0 1 CR "longest" ["self"] (spLongest CR)) :
    FnOk P w K mg base (L2.CX P w) 6 f fd ["self"] (spEnds CK CD CF) := by
  obtain ⟨g1, gd1, q1, k1, b1, o1⟩ := GW
  obtain ⟨g2, gd2, q2, k2, b2, o2⟩ := GE
  obtain ⟨g3, gd3, m3, b3, o3⟩ := GL
  obtain ⟨t1, cN⟩ := T.cNo
  refine F.okX scEnds (fun vs H Q E h => ?_) (fun cdv A outer s H vs Q E hr h => ?_)
  · obtain ⟨a, d, m, rfl, _⟩ := h
    rfl
  · obtain ⟨a, d, m, rfl, hD, v, t⟩ := h
    refine ⟨_, pss_cons (ps_set (i := 1) scEnds.nd rfl (Or.inl rfl) (pe_call o2 hr (by rfl) q2 k2 b2 .nil pass0 (by exact (pa_cons (pe_fld (pv 0) rfl) pa_nil))))
      (pss_cons (ps_expr (pe_call o1 (hr.mono (by decide)) (by rfl) q1 k1 b1 .nil (passes_call (takes_of rfl rfl rfl rfl) (fun _ _ _ _ h => h)) (by exact (pa_cons
          (pe_cmpR op_notN (pv 1) pe_non (nomark _)) (pa_cons (pe_glob (v := .int (-6)) (by rfl) cN ⟨_, rfl⟩) pa_nil)))))
      (pss_one (ps_ret (pe_lst (by exact (pa_cons (pe_meth0 (pv 1) T.clR m3 o3 (hr.mono (by decide)) b3 .nil pass0) (pa_cons (pe_callB (cr_sum rfl) (by rfl) T.bSum (by decide +kernel) (pa_cons (pe_fld (pv 1) rfl) pa_nil))
        (pa_cons (pe_callB call_len_seq (by rfl) T.bLen PySem.boot_len (pa_cons (pe_fld (pv 1) rfl) pa_nil)) pa_nil)))))))), ?_⟩
    have hD0 := hD
    obtain ⟨dx, q0, h1, h2⟩ := hD0
    have h2 := h2.day
    refine ⟨_, rfl, a, CK, dx, _, _, rfl, h1, T.clK, T.nY, deskF_d q0, q0, d, rfl, h2, v, fun H1 s1 e1 => ?_, fun H1 p r s1 e1 R1 => ?_⟩
    · exact ⟨_, rfl, rfl, false, -6, rfl, fun hb => Bool.noConfusion hb, fun _ H' z s2 hd => t.1 (-6) H' z (step_ends_no v e1) (s1.trans s2) hd⟩
    · have es := step_ends v e1
      obtain ⟨dr, ra, rb, r1, r2, r3⟩ := id R1
      refine ⟨_, rfl, rfl, true, -6, rfl, fun _ => ?_, fun hb => Bool.noConfusion hb⟩
      have e3 : r.gs.map nV = (r.gs.map fun n : Nat => (n : Int)).map V.int := by
        rw [List.map_map]
        rfl
      refine ⟨_, rfl, p, dr, _, rfl, r1, rowF_longest .., p, r, rfl, R1, _, rfl, p, CR, dr, _, _, rfl, r1, T.clR, T.nG, rowF_gs ra rb, rb, r.gs.map fun n : Nat => (n : Int), rfl, SqL.of (by rw [← e3]; exact r3),
        _, rfl, p, CR, dr, _, _, rfl, r1, T.clR, T.nG, rowF_gs ra rb, rb, _, rfl, .inl (SqL.of r3), line_of (by show 3 ≤ 10000000; decide), tell_list t (by rw [es.1]; exact hD.same s1) (.inl rfl) (But.of s1) ?_⟩
      rw [es.2, total_sum, List.length_map]
      rfl
theorem scFewest : FnScope ["self", "longest", "found"] ["self", "longest"] (defScope sFewest) := ⟨rfl, rfl, rfl, by decide +kernel, rfl, by decide +kernel, by decide +kernel⟩
theorem ok_fewest {f : Addr} {fd : FuncData} (F : Fun K "fewest" "Desk.fewest" sFewest f fd) (T : Txt K mg CR CD CF CK) (GW : Df P w K mg base (L2.CX P w) 3 "want" ["is_so", "refusal"] (spWant CF))
    (GF : Df P w K mg base CX0 7 "fewest_cabins" ["day", "longest"] (spFew CD)) :
    FnOk P w K mg base (L2.CX P w) 8 f fd ["self", "longest"] (spFewest CK CD CF) := by
  obtain ⟨g1, gd1, q1, k1, b1, o1⟩ := GW
  obtain ⟨g2, gd2, q2, k2, b2, o2⟩ := GF
  obtain ⟨t1, cN⟩ := T.cNo
  obtain ⟨t2, cO⟩ := T.cOut
  obtain ⟨t3, cW⟩ := T.cWa
  refine F.okX scFewest (fun vs H Q E h => ?_) (fun cdv A outer s H vs Q E hr h => ?_)
  · obtain ⟨a, n, d, m, rfl, _⟩ := h
    rfl
  · obtain ⟨a, n, d, m, rfl, hD, v, t⟩ := h
    refine ⟨_, pss_cons (ps_expr (pe_call o1 (hr.mono (by decide)) (by rfl) q1 k1 b1 .nil (passes_call (takes_of rfl rfl rfl rfl) (fun _ _ _ _ h => h)) (by exact (pa_cons
          (pe_cmpR op_le (pv 1) (pe_glob (v := .int 200) (by rfl) cW ⟨_, rfl⟩) (nomark _)) (pa_cons (pe_glob (v := .int (-1)) (by rfl) cO ⟨_, rfl⟩) pa_nil)))))
      (pss_cons (ps_set (i := 2) scFewest.nd rfl (Or.inl rfl) (pe_call o2 hr (by rfl) q2 k2 b2 .nil pass0 (by exact (pa_cons (pe_fld (pv 0) rfl) (pa_cons (pv 1) pa_nil)))))
      (pss_cons (ps_expr (pe_call o1 (hr.mono (by decide)) (by rfl) q1 k1 b1 .nil (passes_call (takes_of rfl rfl rfl rfl) (fun _ _ _ _ h => h)) (by exact (pa_cons
          (pe_cmpR op_notN (pv 2) pe_non (nomark _)) (pa_cons (pe_glob (v := .int (-6)) (by rfl) cN ⟨_, rfl⟩) pa_nil)))))
      (pss_one (ps_ret (pe_lst (pa_cons (pv 2) pa_nil)))))), ?_⟩
    have hD0 := hD
    obtain ⟨dx, q0, h1, h2⟩ := hD0
    have h2 := h2.day
    refine ⟨_, rfl, _, _, rfl, rfl, _, -1, rfl, fun hb => ?_, fun hb H' z s1 hd => t.1 (-1) H' z (step_fewest_far (fun c => ?_)) s1 hd⟩
    rotate_left
    · have := of_decide_eq_false hb
      omega
    have c1 := of_decide_eq_true hb
    have c1' : n ≤ 200 := by omega
    refine ⟨_, rfl, a, CK, dx, _, _, rfl, h1, T.clK, T.nY, deskF_d q0, _, rfl, q0, d, n, rfl, h2, v, fun H1 s1 e1 => ?_, fun H1 m1 s1 e1 => ?_⟩
    · exact ⟨_, rfl, rfl, false, -6, rfl, fun hb => Bool.noConfusion hb, fun _ H' z s2 hd => t.1 (-6) H' z (step_fewest_no v c1' e1) (s1.trans s2) hd⟩
    · have es := step_fewest v c1' e1
      refine ⟨_, rfl, rfl, true, -6, rfl, fun _ => ?_, fun hb => Bool.noConfusion hb⟩
      refine ⟨_, rfl, line_of (by show 1 ≤ 10000000; decide), tell_list t (by rw [es]; exact hD.same s1) (.inl rfl) (But.of s1) ?_⟩
      show _ = (Uw40Neutral.out (Uw40.step d _).2).map V.int
      rw [es]
      rfl
end
end Cw

namespace Cw
open PySem PySem.Spec PyProof.Rows L2
section
variable {P : Program} {w : World} {K : PySem.W.Frag} {mg : Str → Option Value} {base : Heap} {CR CD CF CK : Addr}
/-! ### told_by, answer, answers -/
theorem deskF_begins (q : Addr) : (deskF q).lookup ("begins" : Str) = none := deskF_no (by decide +kernel) q
theorem deskF_come (q : Addr) : (deskF q).lookup ("come" : Str) = none := deskF_no (by decide +kernel) q
theorem deskF_row (q : Addr) : (deskF q).lookup ("row" : Str) = none := deskF_no (by decide +kernel) q
theorem deskF_times (q : Addr) : (deskF q).lookup ("times" : Str) = none := deskF_no (by decide +kernel) q
theorem deskF_ends (q : Addr) : (deskF q).lookup ("ends" : Str) = none := deskF_no (by decide +kernel) q
theorem deskF_fewest (q : Addr) : (deskF q).lookup ("fewest" : Str) = none := deskF_no (by decide +kernel) q
theorem scTold : FnScope ["desk", "call", "n"] ["desk", "call", "n"] (defScope sTold) := ⟨rfl, rfl, rfl, by decide +kernel, rfl, by decide +kernel, by decide +kernel⟩
theorem ok_told {f : Addr} {fd : FuncData} (F : Fun K "told_by" "told_by" sTold f fd) (T : Txt K mg CR CD CF CK) (G0 : Dm P w K mg base (L2.CX P w) 4 CK "begins" ["self", "around", "seats", "cabins"] (spBegins CK CD CF))
    (G1 : Dm P w K mg base (L2.CX P w) 4 CK "come" ["self", "many"] (spCome CK CD CF)) (G2 : Dm P w K mg base (L2.CX P w) 5 CK "row" ["self", "minutes"] (spRow CK CD CF)) (G3 : Dm P w K mg base (L2.CX P w) 2 CK "times" ["self"] (spTimes CK CD CF))
    (G4 : Dm P w K mg base (L2.CX P w) 6 CK "ends" ["self"] (spEnds CK CD CF)) (G5 : Dm P w K mg base (L2.CX P w) 8 CK "fewest" ["self", "longest"] (spFewest CK CD CF)) :
    FnOk P w K mg base (L2.CX P w) 9 f fd ["desk", "call", "n"] (spTold CK CD CF) := by
  obtain ⟨g0, gd0, m0, b0, o0⟩ := G0
  obtain ⟨g1, gd1, m1, b1, o1⟩ := G1
  obtain ⟨g2, gd2, m2, b2, o2⟩ := G2
  obtain ⟨g3, gd3, m3, b3, o3⟩ := G3
  obtain ⟨g4, gd4, m4, b4, o4⟩ := G4
  obtain ⟨g5, gd5, m5, b5, o5⟩ := G5
  refine F.okX scTold (fun vs H Q E h => ?_) (fun cdv A outer s H vs Q E hr h => ?_)
  · obtain ⟨a, ln, d, m, p, xs, x, rfl, _⟩ := h
    rfl
  · obtain ⟨a, ln, d, m, p, xs, x, rfl, hD, v, hc, hl, t⟩ := h
    refine ⟨_, pss_cons (ps_if (pt_cmpR op_eq (pv 1) pe_int (nomark _)) (pss_one (ps_ret (pe_meth (pv 0) T.clK m0 o0 (hr.mono (by decide)) b0 .nil (passes_call (takes_of rfl rfl rfl rfl) (fun _ _ _ _ h => h))
          (by exact (pa_cons (pe_ix ix_list (pv 2) pe_int (fun _ _ => rfl)) (pa_cons (pe_ix ix_list (pv 2) pe_int (fun _ _ => rfl)) (pa_cons (pe_ix ix_list (pv 2) pe_int (fun _ _ => rfl)) pa_nil))))))) pss_nil)
      (pss_cons (ps_if (pt_cmpR op_eq (pv 1) pe_int (nomark _)) (pss_one (ps_ret (pe_meth (pv 0) T.clK m1 o1 (hr.mono (by decide)) b1 .nil (passes_call (takes_of rfl rfl rfl rfl) (fun _ _ _ _ h => h))
          (by exact (pa_cons (pe_ix ix_list (pv 2) pe_int (fun _ _ => rfl)) pa_nil))))) pss_nil)
      (pss_cons (ps_if (pt_cmpR op_eq (pv 1) pe_int (nomark _)) (pss_one (ps_ret (pe_meth (pv 0) T.clK m2 o2 (hr.mono (by decide)) b2 .nil (passes_call (takes_of rfl rfl rfl rfl) (fun _ _ _ _ h => h))
          (by exact (pa_cons (pe_ix ix_list (pv 2) pe_int (fun _ _ => rfl)) pa_nil))))) pss_nil)
      (pss_cons (ps_if (pt_cmpR op_eq (pv 1) pe_int (nomark _)) (pss_one (ps_ret (pe_meth0 (pv 0) T.clK m3 o3 (hr.mono (by decide)) b3 .nil (passes_call (takes_of rfl rfl rfl rfl) (fun _ _ _ _ h => h))))) pss_nil)
      (pss_cons (ps_if (pt_cmpR op_eq (pv 1) pe_int (nomark _)) (pss_one (ps_ret (pe_meth0 (pv 0) T.clK m4 o4 (hr.mono (by decide)) b4 .nil (passes_call (takes_of rfl rfl rfl rfl) (fun _ _ _ _ h => h))))) pss_nil)
      (pss_one (ps_ret (pe_meth (pv 0) T.clK m5 o5 hr b5 .nil (passes_call (takes_of rfl rfl rfl rfl) (fun _ _ _ _ h => h))
          (by exact (pa_cons (pe_ix ix_list (pv 2) pe_int (fun _ _ => rfl)) pa_nil))))))))), ?_⟩
    obtain ⟨dx, q0, h1, h2⟩ := id hD
    refine ⟨_, rfl, rfl, _, rfl, ?_⟩
    cases hc with
    | begins r s' c =>
      refine if_true_of (by decide +kernel) ⟨_, rfl, a, dx, _, rfl, h1, deskF_begins q0, ?_⟩
      refine ⟨_, rfl, ln, _, 0, nV r, rfl, rfl, SqL.of hl, at_of (j := 0) rfl rfl, _, rfl, ln, _, 1, nV s', rfl, rfl, SqL.of hl, at_of (j := 1) rfl rfl, _, rfl, ln, _, 2, nV c, rfl, rfl, SqL.of hl, at_of (j := 2) rfl rfl, ?_⟩
      exact ⟨a, r, s', c, d, m, rfl, hD, v, t⟩
    | come n =>
      refine if_false_of (by decide +kernel) ⟨_, rfl, rfl, _, rfl, if_true_of (by decide +kernel) ⟨_, rfl, a, dx, _, rfl, h1, deskF_come q0, ?_⟩⟩
      exact ⟨_, rfl, ln, _, 0, nV n, rfl, rfl, SqL.of hl, at_of (j := 0) rfl rfl, a, n, d, m, rfl, hD, v, t⟩
    | row n =>
      refine if_false_of (by decide +kernel) ⟨_, rfl, rfl, _, rfl, if_false_of (by decide +kernel) ⟨_, rfl, rfl, _, rfl, if_true_of (by decide +kernel) ⟨_, rfl, a, dx, _, rfl, h1, deskF_row q0, ?_⟩⟩⟩
      exact ⟨_, rfl, ln, _, 0, nV n, rfl, rfl, SqL.of hl, at_of (j := 0) rfl rfl, a, n, d, m, rfl, hD, v, t⟩
    | times =>
      refine if_false_of (by decide +kernel) ⟨_, rfl, rfl, _, rfl, if_false_of (by decide +kernel) ⟨_, rfl, rfl, _, rfl, if_false_of (by decide +kernel) ⟨_, rfl, rfl, _, rfl, if_true_of (by decide +kernel) ⟨_, rfl, a, dx, _, rfl, h1, deskF_times q0, ?_⟩⟩⟩⟩
      exact ⟨a, d, m, rfl, hD, v, t⟩
    | ends =>
      refine if_false_of (by decide +kernel) ⟨_, rfl, rfl, _, rfl, if_false_of (by decide +kernel) ⟨_, rfl, rfl, _, rfl, if_false_of (by decide +kernel) ⟨_, rfl, rfl, _, rfl, if_false_of (by decide +kernel) ⟨_, rfl, rfl, _, rfl, if_true_of (by decide +kernel) ⟨_, rfl, a, dx, _, rfl, h1, deskF_ends q0, ?_⟩⟩⟩⟩⟩
      exact ⟨a, d, m, rfl, hD, v, t⟩
    | fewest n =>
      refine if_false_of (by decide +kernel) ⟨_, rfl, rfl, _, rfl, if_false_of (by decide +kernel) ⟨_, rfl, rfl, _, rfl, if_false_of (by decide +kernel) ⟨_, rfl, rfl, _, rfl, if_false_of (by decide +kernel) ⟨_, rfl, rfl, _, rfl, if_false_of (by decide +kernel) ⟨_, rfl, a, dx, _, rfl, h1, deskF_fewest q0, ?_⟩⟩⟩⟩⟩
      exact ⟨_, rfl, ln, _, 0, nV n, rfl, rfl, SqL.of hl, at_of (j := 0) rfl rfl, a, n, d, m, rfl, hD, v, t⟩
theorem scAnswer : FnScope ["desk", "call", "n", "e"] ["desk", "call", "n"] (defScope sAnswer) := ⟨rfl, rfl, rfl, by decide +kernel, rfl, by decide +kernel, by decide +kernel⟩
theorem ok_answer {f : Addr} {fd : FuncData} (F : Fun K "answer" "answer" sAnswer f fd) (T : Txt K mg CR CD CF CK) (G : Df P w K mg base (L2.CX P w) 9 "told_by" ["desk", "call", "n"] (spTold CK CD CF)) :
    FnOk P w K mg base CX0 10 f fd ["desk", "call", "n"] (spAnswer CK CD) := by
  obtain ⟨g1, gd1, q1, k1, b1, o1⟩ := G
  refine F.ok scAnswer (fun vs H Q E h => ?_) (fun cdv A outer s H vs Q E hr h => ?_)
  · obtain ⟨a, ln, d, m, p, xs, x, rfl, _⟩ := h
    rfl
  · obtain ⟨a, ln, d, m, p, xs, x, rfl, hD, v, hc, hl, k⟩ := h
    refine ⟨_, pss_one (ps_try_as (i := 3) (tb := fun W => tRet (tCallS (spTold CK CD CF) (WE W) (tCons (tVar 0) (tCons (tVar 1) (tCons (tVar 2) tNil))))) (ts := fun a cls d => tRet (tLst (tCons (tXf a cls d CF "refusal" (tVar 3)) tNil)))
        (Wout := fun _ _ _ _ => False) rfl rfl scAnswer.nd rfl rfl ⟨rfl, by decide, Or.inl T.gF⟩ takes0
        (fun W pn xe tk _ => pss_one (ps_ret (by exact (pe_callS o1 hr rfl q1 k1 b1 (fun σ => passAt tk σ) (by exact (pa_cons (pv 0) (pa_cons (pv 1) (pa_cons (pv 2) pa_nil))))))))
        (fun a oe cls d pn hz hf => pss_one (ps_ret (pe_lst (pa_cons (pe_xf T.xF T.nF hz hf (pv 3)) pa_nil))))), ?_⟩
    refine ⟨_, rfl, _, rfl, _, rfl, a, ln, d, m, p, xs, x, rfl, hD, v, hc, hl, fun z H' dd es s1 hdd => ?_, fun H' l m' D hm b hn hl' => k H' l m' D hm b hn hl'⟩
    refine ⟨true, T.eF, fun _ a0 _ => ?_, fun q => Bool.noConfusion q⟩
    refine ⟨_, rfl, rfl, rfl, dd, _, _, rfl, hdd, lk_here, line_of (by show 1 ≤ 10000000; decide), fun l hl2 => ?_⟩
    have s2 := s1.trans (Same.new (o := .lst [V.int z]) hl2)
    exact k _ l m (by rw [es]; exact hD.same s2) (.inl rfl) (But.of s2) (s1.free hl2) (by
      show _ = some (HO.lst ((Uw40Neutral.out (Uw40.step d x).2).map V.int))
      rw [es, upd_same]
      rfl)
theorem num_is {p : Int} {xs : List Int} {x : Uw40.Call} (c : CallIs p xs x) : atI [V.int 3, V.int 1, V.int 1, V.int 0, V.int 0, V.int 1] p = some (V.int (xs.length : Int)) := by
  cases c with
  | begins r s c => exact at_of (j := 0) rfl rfl
  | come n => exact at_of (j := 1) rfl rfl
  | row n => exact at_of (j := 2) rfl rfl
  | times => exact at_of (j := 3) rfl rfl
  | ends => exact at_of (j := 4) rfl rfl
  | fewest n => exact at_of (j := 5) rfl rfl
theorem cut_mid {l : List Int} {i : Nat} {p : Int} {xs rest : List Int} (h : l.drop i = p :: (xs ++ rest)) : cutV (l.map V.int) (some ((i : Int) + 1)) (some ((i : Int) + 1 + (xs.length : Int))) = xs.map V.int := by
  have hl : l.length - i = 1 + (xs.length + rest.length) := by
    rw [← List.length_drop, h, List.length_cons, List.length_append]
    omega
  have hd : l.drop (i + 1) = xs ++ rest := by
    rw [← List.drop_drop, h]
    rfl
  unfold cutV
  rw [List.length_map, show (i : Int) + 1 = ((i + 1 : Nat) : Int) by omega, show ((i + 1 : Nat) : Int) + (xs.length : Int) = ((i + 1 + xs.length : Nat) : Int) by omega, HT.sIx_nat, HT.sIx_nat, Nat.min_eq_left (by omega), Nat.min_eq_left (by omega),
    ← List.map_drop, hd, ← List.map_take, show i + 1 + xs.length - (i + 1) = xs.length by omega, List.take_left']
  rfl
theorem scAnswers : FnScope ["calls", "desk", "found", "at", "end", "told"] ["calls"] (defScope sAnswers) := ⟨rfl, rfl, rfl, by decide +kernel, rfl, by decide +kernel, by decide +kernel⟩
/-- the list of calls: it stands apart from the list at l, or it is the text's own -/
def CallsAt (K : PySem.W.Frag) (l a : Addr) (xs : List V) (H : Hp) : Prop := (a ≠ l ∧ Rd H a (.lst xs)) ∨ ∀ H, SqL K H a xs
theorem CallsAt.sq {K : PySem.W.Frag} {l a : Addr} {xs : List V} {H : Hp} (h : CallsAt K l a xs H) : SqL K H a xs := by
  rcases h with h | h
  · exact .inl h.2
  · exact h H
theorem CallsAt.first {K : PySem.W.Frag} {l a : Addr} {xs : List V} {H H' : Hp} (h : SqL K H a xs) (s : Same H H') (n : H l = none) : CallsAt K l a xs H' := by
  rcases h with (h | ⟨o, h⟩) | h
  · exact .inl ⟨ne_of_none h n, .inl (s _ _ h)⟩
  · exact .inl ⟨ne_of_none h n, .inr ⟨o, s _ _ h⟩⟩
  · exact .inr fun _ => .inr h
theorem CallsAt.step {K : PySem.W.Frag} {l a p C dx : Addr} {fs : List (Str × V)} {xs : List V} {H H' : Hp} {o : HO} (h : CallsAt K l a xs H) (hp : H p = some (.ins C dx fs)) (b : But p H H') : CallsAt K l a xs (upd H' l o) := by
  rcases h with ⟨n, h⟩ | h
  · rcases h with h | ⟨o', h⟩
    · exact .inl ⟨n, .inl (by rw [upd_ne n]; exact b _ _ (ne_of h hp (fun z => by cases z)) h)⟩
    · exact .inl ⟨n, .inr ⟨o', by rw [upd_ne n]; exact b _ _ (ne_of h hp (fun z => by cases z)) h⟩⟩
  · exact .inr h
def atOf (σ : L2.St) : Nat := match σ[3]? with
  | some (some (V.int i)) => i.toNat
  | _ => 0
theorem ok_answers {f : Addr} {fd : FuncData} (F : Fun K "answers" "answers" sAnswers f fd) (T : Txt K mg CR CD CF CK) (I : Di P w K mg base CX0 3 CK ["self"] (spDeskInit CK CD)) (G : Df P w K mg base CX0 10 "answer" ["desk", "call", "n"] (spAnswer CK CD)) :
    FnOk P w K mg base CX0 11 f fd ["calls"] (spAnswers K) := by
  obtain ⟨g1, gd1, q1, k1, b1, o1⟩ := G
  obtain ⟨g2, gd2, M, b2, o2⟩ := I
  obtain ⟨aN, qN, sN⟩ := T.cNum
  refine F.ok scAnswers (fun vs H Q E h => ?_) (fun cdv A outer s H vs Q E hr h => ?_)
  · obtain ⟨a, ns, rfl, _⟩ := h
    rfl
  · obtain ⟨a, ns, rfl, hS, hlen, hP, hz, k⟩ := h
    refine ⟨_, pss_cons (ps_set (i := 1) scAnswers.nd rfl (Or.inl rfl) (pe_make0 M o2 (hr.mono (by decide)) (by rfl) T.gK b2 .nil pass0))
      (pss_cons (ps_set (i := 2) scAnswers.nd rfl (Or.inl rfl) (pe_lst pa_nil))
      (pss_cons (ps_set (i := 3) scAnswers.nd rfl (Or.inl rfl) pe_int)
      (pss_cons (ps_while PassesOwn.never (pt_cmpR op_lt (pv 3) (pe_callB call_len_seq (by rfl) T.bLen PySem.boot_len (pa_cons (pv 0) pa_nil)) (nomark _))
        (pss_cons (ps_set (i := 4) scAnswers.nd rfl (Or.inl rfl) (pe_op op_add (pe_op op_add (pv 3) pe_int) (pe_ix ix_tup (pe_glob (v := .ref aN) (by rfl) qN rfl) (pe_ix ix_list (pv 0) (pv 3) (fun _ _ => rfl)) (fun _ _ => rfl))))
        (pss_cons (ps_set (i := 5) scAnswers.nd rfl (Or.inl rfl) (pe_call o1 hr (by rfl) q1 k1 b1 .nil pass0 (by exact (pa_cons (pv 1) (pa_cons (pe_ix ix_list (pv 0) (pv 3) (fun _ _ => rfl)) (pa_cons (pe_slice sl_list (pv 0) (po_some (pe_op op_add (pv 3) pe_int)) (po_some (pv 4))) pa_nil))))))
        (pss_cons (ps_expr (pe_bm PySem.F.plainAttrs_list PySem.F.slot_list_append PySem.F.type_list_append mt_append (pv 2) (pa_cons (pe_callB call_len_seq (by rfl) T.bLen PySem.boot_len (pa_cons (pv 5) pa_nil)) pa_nil)))
        (pss_cons (ps_expr (pe_bm PySem.F.plainAttrs_list PySem.F.slot_list_extend PySem.F.type_list_extend mt_extend (pv 2) (pa_cons (pv 5) pa_nil)))
        (pss_one (ps_set (i := 3) scAnswers.nd rfl (Or.inl rfl) (pv 4))))))))
      (pss_one (ps_ret (pv 2)))))), ?_⟩
    intro x dx nx nd ne
    refine ⟨x, dx, rfl, upd_same, fun H1 m0 D1 nm0 kp => ⟨rfl, Nat.zero_le _, fun l hl => ?_⟩⟩
    have s1 : Same H H1 := Same.made (C := CK) nx nd fun b' o e hb => kp b' o hb e
    have s2 := s1.trans (Same.new (o := .lst []) hl)
    have D2 := D1.same (Same.new (o := .lst []) hl)
    have nml : m0 ≠ l := fun z => by
      obtain ⟨dk, q, h1, dd, h2, h3⟩ := D1
      rw [z, hl] at h3
      cases h3
    refine while_by (fun σ H' => ∃ (i : Nat) (d : Uw40.Day) (m : Addr) (out fnd : List Int) (v1 v2 : Option V), σ = [some (.ref a), some (.ref x), some (.ref l), some (.int (i : Int)), v1, v2] ∧ DeskAt CK CD H' x d m ∧ m ≠ l ∧ Valid d ∧ H' l = some (.lst (fnd.map V.int)) ∧
        CallsAt K l a (ns.map V.int) H' ∧ i ≤ ns.length ∧ Play d (ns.drop i) out ∧ PyUw40.answers ns = fnd ++ out) (fun σ _ => ns.length - atOf σ)
      ⟨0, Uw40.init, m0, PyUw40.answers ns, [], none, none, rfl, D2, nml, valid_init, upd_same, CallsAt.first hS s2 (s1.free hl), Nat.zero_le _, hP, rfl⟩ ?_ ?_
    · rintro σ H' ⟨i, d, m, out, fnd, v1, v2, rfl, D, nml', v, hf, hC', hi, hp, ea⟩
      have hS' := hC'.sq
      refine ⟨_, rfl, _, rfl, a, _, rfl, .inl hS', _, _, rfl, rfl, _, rfl, ?_⟩
      rw [List.length_map]
      have hfl : fnd.length + out.length ≤ 10000000 := by
        rw [ea, List.length_append] at hz
        exact hz
      by_cases c : (i : Int) < (ns.length : Int)
      · have c' : i < ns.length := by omega
        refine if_true_of (decide_eq_true c) ?_
        generalize er : ns.drop i = rr at hp
        cases hp with
        | done d =>
          have := congrArg List.length er
          rw [List.length_drop] at this
          have z : ns.length - i = 0 := this
          omega
        | @more _ p xs rest out' y cl next =>
          have hge : ns[i]? = some p := by
            have e := congrArg (fun q : List Int => q[0]?) er
            rw [List.getElem?_drop] at e
            exact e
          have hat : atI (ns.map V.int) (i : Int) = some (.int p) := atI_nat (by rw [List.getElem?_map, hge]; rfl)
          have hl2 : ns.length - i = 1 + (xs.length + rest.length) := by
            rw [← List.length_drop, er, List.length_cons, List.length_append]
            omega
          have hd2 : ns.drop (i + 1 + xs.length) = rest := by
            rw [← List.drop_drop, ← List.drop_drop, er]
            exact List.drop_left' rfl
          have nxl : l ≠ x := fun z => by
            obtain ⟨dk, q, h1, _⟩ := D
            rw [z, h1] at hf
            cases hf
          have hle : (fnd.length + (1 + (ans d y).length)) + out'.length ≤ 10000000 := by
            have e := hfl
            rw [List.length_cons, List.length_append] at e
            omega
          refine ⟨_, rfl, _, _, rfl, rfl, _, rfl, _, rfl, a, _, (i : Int), _, rfl, rfl, hS', hat, aN, _, p, _, rfl, rfl, sN H', num_is cl, _, _, rfl, rfl, ?_⟩
          refine ⟨_, rfl, _, rfl, _, rfl, a, _, (i : Int), _, rfl, rfl, hS', hat, _, rfl, _, rfl, _, _, rfl, rfl, _, rfl, _, rfl, _, rfl, a, _, rfl, hS', fun ln hln => ?_⟩
          have s3 : Same H' (upd H' ln (.lst (cutV (ns.map V.int) (some ((i : Int) + 1)) (some ((i : Int) + 1 + (xs.length : Int)))))) := Same.new hln
          refine ⟨x, ln, d, m, p, xs, y, rfl, D.same s3, v, cl, by rw [upd_same, cut_mid er], fun H3 lt m' D3 hm' b3 nlt hlt => ?_⟩
          have hf3 : H3 l = some (.lst (fnd.map V.int)) := b3 _ _ nxl (s3 _ _ hf)
          have nl : lt ≠ l := fun z => by
            rw [z, s3 _ _ hf] at nlt
            cases nlt
          refine ⟨_, rfl, .inl ⟨rfl, _, SqL.of hf3⟩, _, rfl, lt, _, rfl, .inl (SqL.of hlt), l, _, _, rfl, rfl, hf3, line_lt (by rw [List.length_map]; omega), ?_⟩
          refine ⟨_, rfl, .inl ⟨rfl, _, SqL.of upd_same⟩, _, rfl, l, lt, _, _, rfl, rfl, upd_same, by rw [upd_ne nl]; exact hlt, line_of ?_, ?_⟩
          · rw [List.length_append, List.length_map, List.length_map]
            show fnd.length + 1 + (ans d y).length ≤ 10000000
            omega
          have nm' : m' ≠ l := by
            rcases hm' with z | z
            · rw [z]
              exact nml'
            · intro e
              rw [e, s3 _ _ hf] at z
              cases z
          rw [upd_upd]
          refine ⟨_, rfl, ⟨i + 1 + xs.length, (Uw40.step d y).1, m', out', fnd ++ (((ans d y).length : Int) :: ans d y), some (.int ((i : Int) + 1 + (xs.length : Int))), some (.ref lt), ?_, ?_, nm', valid_step v y, ?_, ?_, by omega, by rw [hd2]; exact next, ?_⟩, ?_⟩
          · rfl
          · obtain ⟨dk, q, h1, dd, h2, h3⟩ := D3
            refine ⟨dk, q, ?_, dd, ?_, ?_⟩
            · rw [upd_ne (Ne.symm nxl)]
              exact h1
            · rw [upd_ne (ne_of h2 hf3 (fun z => by cases z))]
              exact h2
            · rw [upd_ne nm']
              exact h3
          · rw [upd_same, List.length_map, List.map_append, List.map_cons, List.append_assoc]
            rfl
          · obtain ⟨dk, q, h1, _⟩ := D
            exact hC'.step h1 ((But.of s3).trans b3)
          · rw [ea, List.append_assoc]
            rfl
          · show ns.length - ((i : Int) + 1 + (xs.length : Int)).toNat < ns.length - (i : Int).toNat
            omega
      · refine if_false_of (decide_eq_false c) ?_
        have e : i = ns.length := by omega
        rw [e, List.drop_length] at hp
        cases hp with
        | done d =>
          rw [List.append_nil] at ea
          exact ⟨_, rfl, k H' l (by rw [ea]; exact hf)⟩
    · rintro σ H' Q1 Q2 m ⟨u1, e1, u2, e2, p, ys, ev, hq, i, j, ei, ej, kk, ek, hQ⟩
      exact ⟨u1, e1, u2, e2, p, ys, ev, hq, i, j, ei, ej, kk, ek, m _ _ hQ⟩
end
end Cw

namespace Cw
open PySem PySem.Spec PyProof.Rows L2
/-! ### what the top has written: every address a letter (printed by gen_end.py) -/
theorem find_vi (K : PySem.W.Frag) : PySem.W.findCls K (.type "ValueError") (.type "type") "__init__" = some (.val (.builtin "ValueError.__init__")) := by kernel_rfl
/-- an error of the class at S is what «except S» names -/
theorem exm_self {K : PySem.W.Frag} {S : Addr} (h1 : PySem.W.subIn K (.ref S) (.type "BaseException") = some true) (h2 : PySem.W.isClsIn K S = true) (h3 : PySem.W.typeIn K (.ref S) = some (.type "type")) (h4 : PySem.W.subIn K (.ref S) (.ref S) = some true) :
    PySem.W.exmOne K (.ref S) (.ref S) = some true := by
  have e1 : (PySem.W.subIn K (.ref S) (.type "BaseException") == some true) = true := by rw [h1] <;> rfl
  have e2 : ((PySem.W.clsIn K S).isSome && PySem.W.typeIn K (.ref S) == some (.type "type")) = true := by
    have h2' : (PySem.W.clsIn K S).isSome = true := h2
    rw [h2', h3] <;> rfl
  show (if (PySem.W.subIn K (.ref S) (.type "BaseException") == some true) = true then (if ((PySem.W.clsIn K S).isSome && PySem.W.typeIn K (.ref S) == some (.type "type")) = true then PySem.W.subIn K (.ref S) (.ref S) else none) else none) = some true
  rw [if_pos e1, if_pos e2]
  exact h4
theorem all_mk {P : Program} {w : World} {K : PySem.W.Frag} {h : Heap} {mg : Str → Option Value} {fa CR CD CF CK pN f1 f2 f3 f4 f5 f6 f7 f8 f9 f10 f11 f12 f13 f14 f15 f16 f17 f18 f19 f20 f21 f22 f23 f24 f25 f26 f27 f28 f29 f30 : Addr} (X : K.In h) (G : h.Ns mainGlobals mg) (hfa : mg "answers" = some (.ref fa))
    {nm q : Str} {N : Addr} {bs : List Value} {sn : List Str} {sub : List Value} {ab : Bool} {col : Option Bool} {dd : Option Addr} {m0 m1 m2 m3 m5 : Option Value}
    {tk0 tk1 tk2 tk3 tk4 tk5 tk6 tk7 tk8 tk9 tn0 tn1 tn2 tn3 tn4 tn5 : Tok} {odN : Option Addr} {enN : Nat} {slN : Array (Option Value)}
    {od1 an1 od2 an2 od3 an3 od4 an4 od5 an5 od6 an6 od7 an7 od8 an8 od9 an9 od10 an10 od11 an11 od12 an12 od13 an13 od14 an14 od15 an15 od16 an16 od17 an17 od18 an18 od19 an19 od20 an20 od21 an21 od22 an22 od23 an23 od24 an24 od25 an25 od26 an26 od27 an27 od28 an28 od29 an29 od30 an30 : Option Addr} {sl1 sl2 sl3 sl4 sl5 sl6 sl7 sl8 sl9 sl10 sl11 sl12 sl13 sl14 sl15 sl16 sl17 sl18 sl19 sl20 sl21 sl22 sl23 sl24 sl25 sl26 sl27 sl28 sl29 sl30 : Array (Option Value)} {oc1 kV1 dc1 pm1 cd1 ct1 oc2 kV2 dc2 pm2 cd2 ct2 oc3 kV3 dc3 pm3 cd3 ct3 oc4 kV4 dc4 pm4 cd4 ct4 oc5 kV5 dc5 pm5 cd5 ct5 oc6 kV6 dc6 pm6 cd6 ct6 oc7 kV7 dc7 pm7 cd7 ct7 oc8 kV8 dc8 pm8 cd8 ct8 oc9 kV9 dc9 pm9 cd9 ct9 oc10 kV10 dc10 pm10 cd10 ct10 oc11 kV11 dc11 pm11 cd11 ct11 oc12 kV12 dc12 pm12 cd12 ct12 oc13 kV13 dc13 pm13 cd13 ct13 oc14 kV14 dc14 pm14 cd14 ct14 oc15 kV15 dc15 pm15 cd15 ct15 oc16 kV16 dc16 pm16 cd16 ct16 oc17 kV17 dc17 pm17 cd17 ct17 oc18 kV18 dc18 pm18 cd18 ct18 oc19 kV19 dc19 pm19 cd19 ct19 oc20 kV20 dc20 pm20 cd20 ct20 oc21 kV21 dc21 pm21 cd21 ct21 oc22 kV22 dc22 pm22 cd22 ct22 oc23 kV23 dc23 pm23 cd23 ct23 oc24 kV24 dc24 pm24 cd24 ct24 oc25 kV25 dc25 pm25 cd25 ct25 oc26 kV26 dc26 pm26 cd26 ct26 oc27 kV27 dc27 pm27 cd27 ct27 oc28 kV28 dc28 pm28 cd28 ct28 oc29 kV29 dc29 pm29 cd29 ct29 oc30 kV30 dc30 pm30 cd30 ct30 : Value}
    (aCR : PySem.W.nsIn K mainGlobals "Row" = some (some (.ref CR)))
    (aCD : PySem.W.nsIn K mainGlobals "Day" = some (some (.ref CD)))
    (aCF : PySem.W.nsIn K mainGlobals "Refused" = some (some (.ref CF)))
    (aCK : PySem.W.nsIn K mainGlobals "Desk" = some (some (.ref CK)))
    (pgCR : PySem.W.plainGet K CR Str.empty = true)
    (hdCR : PySem.W.hasDictIn K CR = true)
    (poCR : PySem.W.plainOver K CR = true)
    (saCR : PySem.W.findIn K (.ref CR) "__setattr__" = some (some (.builtin "object.__setattr__")))
    (mkCR : PySem.W.makesIn K CR = true)
    (kcCR : PySem.W.keepIn K (.ref CR) = true)
    (nCR0 : PySem.W.findIn K (.ref CR) "waiting" = some none)
    (nCR1 : PySem.W.findIn K (.ref CR) "waits" = some none)
    (pgCD : PySem.W.plainGet K CD Str.empty = true)
    (hdCD : PySem.W.hasDictIn K CD = true)
    (poCD : PySem.W.plainOver K CD = true)
    (saCD : PySem.W.findIn K (.ref CD) "__setattr__" = some (some (.builtin "object.__setattr__")))
    (mkCD : PySem.W.makesIn K CD = true)
    (kcCD : PySem.W.keepIn K (.ref CD) = true)
    (nCD0 : PySem.W.findIn K (.ref CD) "around" = some none)
    (nCD1 : PySem.W.findIn K (.ref CD) "seats" = some none)
    (nCD2 : PySem.W.findIn K (.ref CD) "cabins" = some none)
    (nCD3 : PySem.W.findIn K (.ref CD) "people" = some none)
    (pgCK : PySem.W.plainGet K CK Str.empty = true)
    (hdCK : PySem.W.hasDictIn K CK = true)
    (poCK : PySem.W.plainOver K CK = true)
    (saCK : PySem.W.findIn K (.ref CK) "__setattr__" = some (some (.builtin "object.__setattr__")))
    (mkCK : PySem.W.makesIn K CK = true)
    (kcCK : PySem.W.keepIn K (.ref CK) = true)
    (nCK0 : PySem.W.findIn K (.ref CK) "day" = some none)
    (xL : K.lookup CF = some (excClassObj nm q CF N bs [.type "ValueError", .type "Exception", .type "BaseException", .type "object"] true sn sub ab col dd m0 m1 m2 m3 m5 "ValueError.__new__"))
    (xsa : PySem.W.findIn K (.ref CF) "__setattr__" = some (some (.builtin "object.__setattr__")))
    (xga : PySem.W.findIn K (.ref CF) "__getattribute__" = some (some (.builtin "BaseException.__getattribute__")))
    (xgg : PySem.W.findIn K (.ref CF) "__getattr__" = some none)
    (xnr : PySem.W.findIn K (.ref CF) "refusal" = some none)
    (xk : PySem.W.keepIn K (.ref CF) = true)
    (xe : PySem.W.subIn K (.ref CF) (.type "BaseException") = some true)
    (xt : PySem.W.typeIn K (.ref CF) = some (.type "type"))
    (xh : PySem.W.hasDictIn K CF = true)
    (xi : PySem.W.isClsIn K CF = true)
    (xs : PySem.W.subIn K (.ref CF) (.ref CF) = some true)
    (k_0 : PySem.W.nsIn K mainGlobals "MINUTES_MORE" = some (some (.int 200 tk0)))
    (k_1 : PySem.W.nsIn K mainGlobals "MOST_CABINS" = some (some (.int 20 tk1)))
    (k_2 : PySem.W.nsIn K mainGlobals "OUT_OF_RANGE" = some (some (.int (-1) tk2)))
    (k_3 : PySem.W.nsIn K mainGlobals "FULL" = some (some (.int (-5) tk3)))
    (k_4 : PySem.W.nsIn K mainGlobals "NO_END" = some (some (.int (-6) tk4)))
    (k_5 : PySem.W.nsIn K mainGlobals "MOST_AROUND" = some (some (.int 30 tk5)))
    (k_6 : PySem.W.nsIn K mainGlobals "MOST_SEATS" = some (some (.int 8 tk6)))
    (k_7 : PySem.W.nsIn K mainGlobals "MOST_PEOPLE" = some (some (.int 20 tk7)))
    (k_8 : PySem.W.nsIn K mainGlobals "MOST_MINUTES" = some (some (.int 30 tk8)))
    (k_9 : PySem.W.nsIn K mainGlobals "MOST_WAIT" = some (some (.int 200 tk9)))
    (b_0 : PySem.W.nsIn K mainGlobals "range" = some none)
    (b_1 : PySem.W.nsIn K mainGlobals "max" = some none)
    (b_2 : PySem.W.nsIn K mainGlobals "min" = some none)
    (b_3 : PySem.W.nsIn K mainGlobals "len" = some none)
    (b_4 : PySem.W.nsIn K mainGlobals "sum" = some none)
    (b_5 : PySem.W.nsIn K mainGlobals "ValueError" = some none)
    (aN : PySem.W.nsIn K mainGlobals "NUMBERS" = some (some (.ref pN)))
    (lN : K.lookup pN = some ⟨.type "tuple", odN, .seq #[.int 3 tn0, .int 1 tn1, .int 1 tn2, .int 0 tn3, .int 0 tn4, .int 1 tn5] enN, slN⟩)
    (a1 : PySem.W.nsIn K mainGlobals "first_minutes" = some (some (.ref f1)))
    (l1 : K.lookup f1 = some ⟨oc1, od1, .func (PySem.W.fnOf "first_minutes" "first_minutes" (defArgs sFirst) (defBody sFirst) (defScope sFirst) .none kV1 dc1 pm1 an1 cd1 ct1), sl1⟩)
    (c1 : PySem.W.codeIn K cd1 "first_minutes" = true)
    (k1 : PySem.W.keepIn K (.ref f1) = true)
    (a2 : PySem.W.nsIn K mainGlobals "goes_by" = some (some (.ref f2)))
    (l2 : K.lookup f2 = some ⟨oc2, od2, .func (PySem.W.fnOf "goes_by" "goes_by" (defArgs sGoes) (defBody sGoes) (defScope sGoes) .none kV2 dc2 pm2 an2 cd2 ct2), sl2⟩)
    (c2 : PySem.W.codeIn K cd2 "goes_by" = true)
    (k2 : PySem.W.keepIn K (.ref f2) = true)
    (a3 : PySem.W.findIn K (.ref CR) "__init__" = some (some (.ref f3)))
    (i3 : PySem.W.isFn K (.ref f3) = true)
    (l3 : K.lookup f3 = some ⟨oc3, od3, .func (PySem.W.fnOf "__init__" "Row.__init__" (defArgs sRowInit) (defBody sRowInit) (defScope sRowInit) .none kV3 dc3 pm3 an3 cd3 ct3), sl3⟩)
    (c3 : PySem.W.codeIn K cd3 "Row.__init__" = true)
    (k3 : PySem.W.keepIn K (.ref f3) = true)
    (a4 : PySem.W.findIn K (.ref CR) "is_over" = some (some (.ref f4)))
    (i4 : PySem.W.isFn K (.ref f4) = true)
    (l4 : K.lookup f4 = some ⟨oc4, od4, .func (PySem.W.fnOf "is_over" "Row.is_over" (defArgs sOver) (defBody sOver) (defScope sOver) .none kV4 dc4 pm4 an4 cd4 ct4), sl4⟩)
    (c4 : PySem.W.codeIn K cd4 "Row.is_over" = true)
    (k4 : PySem.W.keepIn K (.ref f4) = true)
    (a5 : PySem.W.findIn K (.ref CR) "take_minute" = some (some (.ref f5)))
    (i5 : PySem.W.isFn K (.ref f5) = true)
    (l5 : K.lookup f5 = some ⟨oc5, od5, .func (PySem.W.fnOf "take_minute" "Row.take_minute" (defArgs sTake) (defBody sTake) (defScope sTake) .none kV5 dc5 pm5 an5 cd5 ct5), sl5⟩)
    (c5 : PySem.W.codeIn K cd5 "Row.take_minute" = true)
    (k5 : PySem.W.keepIn K (.ref f5) = true)
    (a6 : PySem.W.findIn K (.ref CR) "waited_till" = some (some (.ref f6)))
    (i6 : PySem.W.isFn K (.ref f6) = true)
    (l6 : K.lookup f6 = some ⟨oc6, od6, .func (PySem.W.fnOf "waited_till" "Row.waited_till" (defArgs sTill) (defBody sTill) (defScope sTill) .none kV6 dc6 pm6 an6 cd6 ct6), sl6⟩)
    (c6 : PySem.W.codeIn K cd6 "Row.waited_till" = true)
    (k6 : PySem.W.keepIn K (.ref f6) = true)
    (a7 : PySem.W.findIn K (.ref CR) "longest" = some (some (.ref f7)))
    (i7 : PySem.W.isFn K (.ref f7) = true)
    (l7 : K.lookup f7 = some ⟨oc7, od7, .func (PySem.W.fnOf "longest" "Row.longest" (defArgs sLongest) (defBody sLongest) (defScope sLongest) .none kV7 dc7 pm7 an7 cd7 ct7), sl7⟩)
    (c7 : PySem.W.codeIn K cd7 "Row.longest" = true)
    (k7 : PySem.W.keepIn K (.ref f7) = true)
    (a8 : PySem.W.findIn K (.ref CD) "__init__" = some (some (.ref f8)))
    (i8 : PySem.W.isFn K (.ref f8) = true)
    (l8 : K.lookup f8 = some ⟨oc8, od8, .func (PySem.W.fnOf "__init__" "Day.__init__" (defArgs sDayInit) (defBody sDayInit) (defScope sDayInit) .none kV8 dc8 pm8 an8 cd8 ct8), sl8⟩)
    (c8 : PySem.W.codeIn K cd8 "Day.__init__" = true)
    (k8 : PySem.W.keepIn K (.ref f8) = true)
    (a9 : PySem.W.findIn K (.ref CD) "with_one_more" = some (some (.ref f9)))
    (i9 : PySem.W.isFn K (.ref f9) = true)
    (l9 : K.lookup f9 = some ⟨oc9, od9, .func (PySem.W.fnOf "with_one_more" "Day.with_one_more" (defArgs sMore) (defBody sMore) (defScope sMore) .none kV9 dc9 pm9 an9 cd9 ct9), sl9⟩)
    (c9 : PySem.W.codeIn K cd9 "Day.with_one_more" = true)
    (k9 : PySem.W.keepIn K (.ref f9) = true)
    (a10 : PySem.W.findIn K (.ref CD) "with_cabins" = some (some (.ref f10)))
    (i10 : PySem.W.isFn K (.ref f10) = true)
    (l10 : K.lookup f10 = some ⟨oc10, od10, .func (PySem.W.fnOf "with_cabins" "Day.with_cabins" (defArgs sCab) (defBody sCab) (defScope sCab) .none kV10 dc10 pm10 an10 cd10 ct10), sl10⟩)
    (c10 : PySem.W.codeIn K cd10 "Day.with_cabins" = true)
    (k10 : PySem.W.keepIn K (.ref f10) = true)
    (a11 : PySem.W.findIn K (.ref CD) "told" = some (some (.ref f11)))
    (i11 : PySem.W.isFn K (.ref f11) = true)
    (l11 : K.lookup f11 = some ⟨oc11, od11, .func (PySem.W.fnOf "told" "Day.told" (defArgs sToldN) (defBody sToldN) (defScope sToldN) .none kV11 dc11 pm11 an11 cd11 ct11), sl11⟩)
    (c11 : PySem.W.codeIn K cd11 "Day.told" = true)
    (k11 : PySem.W.keepIn K (.ref f11) = true)
    (a12 : PySem.W.findIn K (.ref CD) "came" = some (some (.ref f12)))
    (i12 : PySem.W.isFn K (.ref f12) = true)
    (l12 : K.lookup f12 = some ⟨oc12, od12, .func (PySem.W.fnOf "came" "Day.came" (defArgs sCame) (defBody sCame) (defScope sCame) .none kV12 dc12 pm12 an12 cd12 ct12), sl12⟩)
    (c12 : PySem.W.codeIn K cd12 "Day.came" = true)
    (k12 : PySem.W.keepIn K (.ref f12) = true)
    (a13 : PySem.W.findIn K (.ref CD) "places" = some (some (.ref f13)))
    (i13 : PySem.W.isFn K (.ref f13) = true)
    (l13 : K.lookup f13 = some ⟨oc13, od13, .func (PySem.W.fnOf "places" "Day.places" (defArgs sPlaces) (defBody sPlaces) (defScope sPlaces) .none kV13 dc13 pm13 an13 cd13 ct13), sl13⟩)
    (c13 : PySem.W.codeIn K cd13 "Day.places" = true)
    (k13 : PySem.W.keepIn K (.ref f13) = true)
    (a14 : PySem.W.nsIn K mainGlobals "row_behind" = some (some (.ref f14)))
    (l14 : K.lookup f14 = some ⟨oc14, od14, .func (PySem.W.fnOf "row_behind" "row_behind" (defArgs sBehind) (defBody sBehind) (defScope sBehind) .none kV14 dc14 pm14 an14 cd14 ct14), sl14⟩)
    (c14 : PySem.W.codeIn K cd14 "row_behind" = true)
    (k14 : PySem.W.keepIn K (.ref f14) = true)
    (a15 : PySem.W.nsIn K mainGlobals "row_at_end" = some (some (.ref f15)))
    (l15 : K.lookup f15 = some ⟨oc15, od15, .func (PySem.W.fnOf "row_at_end" "row_at_end" (defArgs sAtEnd) (defBody sAtEnd) (defScope sAtEnd) .none kV15 dc15 pm15 an15 cd15 ct15), sl15⟩)
    (c15 : PySem.W.codeIn K cd15 "row_at_end" = true)
    (k15 : PySem.W.keepIn K (.ref f15) = true)
    (a16 : PySem.W.nsIn K mainGlobals "is_let" = some (some (.ref f16)))
    (l16 : K.lookup f16 = some ⟨oc16, od16, .func (PySem.W.fnOf "is_let" "is_let" (defArgs sIsLet) (defBody sIsLet) (defScope sIsLet) .none kV16 dc16 pm16 an16 cd16 ct16), sl16⟩)
    (c16 : PySem.W.codeIn K cd16 "is_let" = true)
    (k16 : PySem.W.keepIn K (.ref f16) = true)
    (a17 : PySem.W.nsIn K mainGlobals "fewest_cabins" = some (some (.ref f17)))
    (l17 : K.lookup f17 = some ⟨oc17, od17, .func (PySem.W.fnOf "fewest_cabins" "fewest_cabins" (defArgs sFew) (defBody sFew) (defScope sFew) .none kV17 dc17 pm17 an17 cd17 ct17), sl17⟩)
    (c17 : PySem.W.codeIn K cd17 "fewest_cabins" = true)
    (k17 : PySem.W.keepIn K (.ref f17) = true)
    (a18 : PySem.W.findIn K (.ref CF) "__init__" = some (some (.ref f18)))
    (i18 : PySem.W.typeIn K (.ref f18) = some (.type "function"))
    (l18 : K.lookup f18 = some ⟨oc18, od18, .func (PySem.W.fnOf "__init__" "Refused.__init__" (defArgs sRefInit) (defBody sRefInit) (defScope sRefInit) .none kV18 dc18 pm18 an18 cd18 ct18), sl18⟩)
    (c18 : PySem.W.codeIn K cd18 "Refused.__init__" = true)
    (k18 : PySem.W.keepIn K (.ref f18) = true)
    (a19 : PySem.W.nsIn K mainGlobals "want" = some (some (.ref f19)))
    (l19 : K.lookup f19 = some ⟨oc19, od19, .func (PySem.W.fnOf "want" "want" (defArgs sWant) (defBody sWant) (defScope sWant) .none kV19 dc19 pm19 an19 cd19 ct19), sl19⟩)
    (c19 : PySem.W.codeIn K cd19 "want" = true)
    (k19 : PySem.W.keepIn K (.ref f19) = true)
    (a20 : PySem.W.nsIn K mainGlobals "is_within" = some (some (.ref f20)))
    (l20 : K.lookup f20 = some ⟨oc20, od20, .func (PySem.W.fnOf "is_within" "is_within" (defArgs sWithin) (defBody sWithin) (defScope sWithin) .none kV20 dc20 pm20 an20 cd20 ct20), sl20⟩)
    (c20 : PySem.W.codeIn K cd20 "is_within" = true)
    (k20 : PySem.W.keepIn K (.ref f20) = true)
    (a21 : PySem.W.findIn K (.ref CK) "__init__" = some (some (.ref f21)))
    (i21 : PySem.W.isFn K (.ref f21) = true)
    (l21 : K.lookup f21 = some ⟨oc21, od21, .func (PySem.W.fnOf "__init__" "Desk.__init__" (defArgs sDeskInit) (defBody sDeskInit) (defScope sDeskInit) .none kV21 dc21 pm21 an21 cd21 ct21), sl21⟩)
    (c21 : PySem.W.codeIn K cd21 "Desk.__init__" = true)
    (k21 : PySem.W.keepIn K (.ref f21) = true)
    (a22 : PySem.W.findIn K (.ref CK) "begins" = some (some (.ref f22)))
    (i22 : PySem.W.isFn K (.ref f22) = true)
    (l22 : K.lookup f22 = some ⟨oc22, od22, .func (PySem.W.fnOf "begins" "Desk.begins" (defArgs sBegins) (defBody sBegins) (defScope sBegins) .none kV22 dc22 pm22 an22 cd22 ct22), sl22⟩)
    (c22 : PySem.W.codeIn K cd22 "Desk.begins" = true)
    (k22 : PySem.W.keepIn K (.ref f22) = true)
    (a23 : PySem.W.findIn K (.ref CK) "come" = some (some (.ref f23)))
    (i23 : PySem.W.isFn K (.ref f23) = true)
    (l23 : K.lookup f23 = some ⟨oc23, od23, .func (PySem.W.fnOf "come" "Desk.come" (defArgs sCome) (defBody sCome) (defScope sCome) .none kV23 dc23 pm23 an23 cd23 ct23), sl23⟩)
    (c23 : PySem.W.codeIn K cd23 "Desk.come" = true)
    (k23 : PySem.W.keepIn K (.ref f23) = true)
    (a24 : PySem.W.findIn K (.ref CK) "row" = some (some (.ref f24)))
    (i24 : PySem.W.isFn K (.ref f24) = true)
    (l24 : K.lookup f24 = some ⟨oc24, od24, .func (PySem.W.fnOf "row" "Desk.row" (defArgs sRow) (defBody sRow) (defScope sRow) .none kV24 dc24 pm24 an24 cd24 ct24), sl24⟩)
    (c24 : PySem.W.codeIn K cd24 "Desk.row" = true)
    (k24 : PySem.W.keepIn K (.ref f24) = true)
    (a25 : PySem.W.findIn K (.ref CK) "times" = some (some (.ref f25)))
    (i25 : PySem.W.isFn K (.ref f25) = true)
    (l25 : K.lookup f25 = some ⟨oc25, od25, .func (PySem.W.fnOf "times" "Desk.times" (defArgs sTimes) (defBody sTimes) (defScope sTimes) .none kV25 dc25 pm25 an25 cd25 ct25), sl25⟩)
    (c25 : PySem.W.codeIn K cd25 "Desk.times" = true)
    (k25 : PySem.W.keepIn K (.ref f25) = true)
    (a26 : PySem.W.findIn K (.ref CK) "ends" = some (some (.ref f26)))
    (i26 : PySem.W.isFn K (.ref f26) = true)
    (l26 : K.lookup f26 = some ⟨oc26, od26, .func (PySem.W.fnOf "ends" "Desk.ends" (defArgs sEnds) (defBody sEnds) (defScope sEnds) .none kV26 dc26 pm26 an26 cd26 ct26), sl26⟩)
    (c26 : PySem.W.codeIn K cd26 "Desk.ends" = true)
    (k26 : PySem.W.keepIn K (.ref f26) = true)
    (a27 : PySem.W.findIn K (.ref CK) "fewest" = some (some (.ref f27)))
    (i27 : PySem.W.isFn K (.ref f27) = true)
    (l27 : K.lookup f27 = some ⟨oc27, od27, .func (PySem.W.fnOf "fewest" "Desk.fewest" (defArgs sFewest) (defBody sFewest) (defScope sFewest) .none kV27 dc27 pm27 an27 cd27 ct27), sl27⟩)
    (c27 : PySem.W.codeIn K cd27 "Desk.fewest" = true)
    (k27 : PySem.W.keepIn K (.ref f27) = true)
    (a28 : PySem.W.nsIn K mainGlobals "told_by" = some (some (.ref f28)))
    (l28 : K.lookup f28 = some ⟨oc28, od28, .func (PySem.W.fnOf "told_by" "told_by" (defArgs sTold) (defBody sTold) (defScope sTold) .none kV28 dc28 pm28 an28 cd28 ct28), sl28⟩)
    (c28 : PySem.W.codeIn K cd28 "told_by" = true)
    (k28 : PySem.W.keepIn K (.ref f28) = true)
    (a29 : PySem.W.nsIn K mainGlobals "answer" = some (some (.ref f29)))
    (l29 : K.lookup f29 = some ⟨oc29, od29, .func (PySem.W.fnOf "answer" "answer" (defArgs sAnswer) (defBody sAnswer) (defScope sAnswer) .none kV29 dc29 pm29 an29 cd29 ct29), sl29⟩)
    (c29 : PySem.W.codeIn K cd29 "answer" = true)
    (k29 : PySem.W.keepIn K (.ref f29) = true)
    (a30 : PySem.W.nsIn K mainGlobals "answers" = some (some (.ref f30)))
    (l30 : K.lookup f30 = some ⟨oc30, od30, .func (PySem.W.fnOf "answers" "answers" (defArgs sAnswers) (defBody sAnswers) (defScope sAnswers) .none kV30 dc30 pm30 an30 cd30 ct30), sl30⟩)
    (c30 : PySem.W.codeIn K cd30 "answers" = true)
    (k30 : PySem.W.keepIn K (.ref f30) = true)
    : ∃ fd : FuncData, (∀ (s : Shared) (us : List Value), us.length = (["calls"] : List Str).length → BindsTo s fd ⟨us, []⟩ ((["calls"] : List Str).zip us)) ∧ ∀ base : Heap, K.In base → base.Ns mainGlobals mg → FnOk P w K mg base CX0 11 fa fd ["calls"] (spAnswers K) := by
  have e := hfa.symm.trans (PySem.W.mg_of X G a30)
  cases e
  have oF : OexC K CF := ⟨⟨nm, q, N, bs, _, sn, sub, ab, col, dd, m0, m1, m2, m3, m5, xL, by decide +kernel⟩, xsa, xe, xt, xk⟩
  have T : Txt K mg CR CD CF CK :=
    { clR := ⟨pgCR, hdCR, poCR, saCR⟩, nW := nCR0, nG := nCR1, clD := ⟨pgCD, hdCD, poCD, saCD⟩, nA := nCD0, nS := nCD1, nC := nCD2, nP := nCD3, clK := ⟨pgCK, hdCK, poCK, saCK⟩, nY := nCK0,
      gR := PySem.W.mg_of X G aCR, gD := PySem.W.mg_of X G aCD, gF := PySem.W.mg_of X G aCF, gK := PySem.W.mg_of X G aCK, oF := oF, xF := ⟨xga, xgg, xe, xh⟩, nF := xnr, eF := exm_self xe xi xt xs, vV := find_vi K,
      cMore := ⟨_, PySem.W.mg_of X G k_0⟩, cCab := ⟨_, PySem.W.mg_of X G k_1⟩, cOut := ⟨_, PySem.W.mg_of X G k_2⟩, cFull := ⟨_, PySem.W.mg_of X G k_3⟩, cNo := ⟨_, PySem.W.mg_of X G k_4⟩,
      cAr := ⟨_, PySem.W.mg_of X G k_5⟩, cSe := ⟨_, PySem.W.mg_of X G k_6⟩, cPe := ⟨_, PySem.W.mg_of X G k_7⟩, cMi := ⟨_, PySem.W.mg_of X G k_8⟩, cWa := ⟨_, PySem.W.mg_of X G k_9⟩,
      cNum := ⟨pN, PySem.W.mg_of X G aN, fun H => .inr ⟨_, _, _, lN, rfl, rfl, line_of (by show 6 ≤ 10000000; decide), .cons ⟨_, rfl⟩ (.cons ⟨_, rfl⟩ (.cons ⟨_, rfl⟩ (.cons ⟨_, rfl⟩ (.cons ⟨_, rfl⟩ (.cons ⟨_, rfl⟩ .nil)))))⟩⟩,
      bRange := PySem.W.mg_none_of X G b_0, bMax := PySem.W.mg_none_of X G b_1, bMin := PySem.W.mg_none_of X G b_2, bLen := PySem.W.mg_none_of X G b_3, bSum := PySem.W.mg_none_of X G b_4, bVal := PySem.W.mg_none_of X G b_5 }
  have F1 := fun_mk (st := sFirst) l1 c1 k1
  have B1 := F1.binds (ps := ["around", "cabins"]) fun _ _ _ _ _ _ us hl => match us, hl with | [_, _], _ => rfl
  have F2 := fun_mk (st := sGoes) l2 c2 k2
  have B2 := F2.binds (ps := ["around", "cabins", "minute"]) fun _ _ _ _ _ _ us hl => match us, hl with | [_, _, _], _ => rfl
  have F3 := fun_mk (st := sRowInit) l3 c3 k3
  have B3 := F3.binds (ps := ["self"]) fun _ _ _ _ _ _ us hl => match us, hl with | [_], _ => rfl
  have F4 := fun_mk (st := sOver) l4 c4 k4
  have B4 := F4.binds (ps := ["self"]) fun _ _ _ _ _ _ us hl => match us, hl with | [_], _ => rfl
  have F5 := fun_mk (st := sTake) l5 c5 k5
  have B5 := F5.binds (ps := ["self", "minute", "came", "places"]) fun _ _ _ _ _ _ us hl => match us, hl with | [_, _, _, _], _ => rfl
  have F6 := fun_mk (st := sTill) l6 c6 k6
  have B6 := F6.binds (ps := ["self", "minutes"]) fun _ _ _ _ _ _ us hl => match us, hl with | [_, _], _ => rfl
  have F7 := fun_mk (st := sLongest) l7 c7 k7
  have B7 := F7.binds (ps := ["self"]) fun _ _ _ _ _ _ us hl => match us, hl with | [_], _ => rfl
  have F8 := fun_mk (st := sDayInit) l8 c8 k8
  have B8 := F8.binds (ps := ["self", "around", "seats", "cabins", "people"]) fun _ _ _ _ _ _ us hl => match us, hl with | [_, _, _, _, _], _ => rfl
  have F9 := fun_mk (st := sMore) l9 c9 k9
  have B9 := F9.binds (ps := ["self", "many"]) fun _ _ _ _ _ _ us hl => match us, hl with | [_, _], _ => rfl
  have F10 := fun_mk (st := sCab) l10 c10 k10
  have B10 := F10.binds (ps := ["self", "cabins"]) fun _ _ _ _ _ _ us hl => match us, hl with | [_, _], _ => rfl
  have F11 := fun_mk (st := sToldN) l11 c11 k11
  have B11 := F11.binds (ps := ["self"]) fun _ _ _ _ _ _ us hl => match us, hl with | [_], _ => rfl
  have F12 := fun_mk (st := sCame) l12 c12 k12
  have B12 := F12.binds (ps := ["self", "minute"]) fun _ _ _ _ _ _ us hl => match us, hl with | [_, _], _ => rfl
  have F13 := fun_mk (st := sPlaces) l13 c13 k13
  have B13 := F13.binds (ps := ["self", "minute"]) fun _ _ _ _ _ _ us hl => match us, hl with | [_, _], _ => rfl
  have F14 := fun_mk (st := sBehind) l14 c14 k14
  have B14 := F14.binds (ps := ["day", "minutes"]) fun _ _ _ _ _ _ us hl => match us, hl with | [_, _], _ => rfl
  have F15 := fun_mk (st := sAtEnd) l15 c15 k15
  have B15 := F15.binds (ps := ["day"]) fun _ _ _ _ _ _ us hl => match us, hl with | [_], _ => rfl
  have F16 := fun_mk (st := sIsLet) l16 c16 k16
  have B16 := F16.binds (ps := ["day", "longest"]) fun _ _ _ _ _ _ us hl => match us, hl with | [_, _], _ => rfl
  have F17 := fun_mk (st := sFew) l17 c17 k17
  have B17 := F17.binds (ps := ["day", "longest"]) fun _ _ _ _ _ _ us hl => match us, hl with | [_, _], _ => rfl
  have F18 := fun_mk (st := sRefInit) l18 c18 k18
  have B18 := F18.binds (ps := ["self", "refusal"]) fun _ _ _ _ _ _ us hl => match us, hl with | [_, _], _ => rfl
  have F19 := fun_mk (st := sWant) l19 c19 k19
  have B19 := F19.binds (ps := ["is_so", "refusal"]) fun _ _ _ _ _ _ us hl => match us, hl with | [_, _], _ => rfl
  have F20 := fun_mk (st := sWithin) l20 c20 k20
  have B20 := F20.binds (ps := ["number", "low", "high"]) fun _ _ _ _ _ _ us hl => match us, hl with | [_, _, _], _ => rfl
  have F21 := fun_mk (st := sDeskInit) l21 c21 k21
  have B21 := F21.binds (ps := ["self"]) fun _ _ _ _ _ _ us hl => match us, hl with | [_], _ => rfl
  have F22 := fun_mk (st := sBegins) l22 c22 k22
  have B22 := F22.binds (ps := ["self", "around", "seats", "cabins"]) fun _ _ _ _ _ _ us hl => match us, hl with | [_, _, _, _], _ => rfl
  have F23 := fun_mk (st := sCome) l23 c23 k23
  have B23 := F23.binds (ps := ["self", "many"]) fun _ _ _ _ _ _ us hl => match us, hl with | [_, _], _ => rfl
  have F24 := fun_mk (st := sRow) l24 c24 k24
  have B24 := F24.binds (ps := ["self", "minutes"]) fun _ _ _ _ _ _ us hl => match us, hl with | [_, _], _ => rfl
  have F25 := fun_mk (st := sTimes) l25 c25 k25
  have B25 := F25.binds (ps := ["self"]) fun _ _ _ _ _ _ us hl => match us, hl with | [_], _ => rfl
  have F26 := fun_mk (st := sEnds) l26 c26 k26
  have B26 := F26.binds (ps := ["self"]) fun _ _ _ _ _ _ us hl => match us, hl with | [_], _ => rfl
  have F27 := fun_mk (st := sFewest) l27 c27 k27
  have B27 := F27.binds (ps := ["self", "longest"]) fun _ _ _ _ _ _ us hl => match us, hl with | [_, _], _ => rfl
  have F28 := fun_mk (st := sTold) l28 c28 k28
  have B28 := F28.binds (ps := ["desk", "call", "n"]) fun _ _ _ _ _ _ us hl => match us, hl with | [_, _, _], _ => rfl
  have F29 := fun_mk (st := sAnswer) l29 c29 k29
  have B29 := F29.binds (ps := ["desk", "call", "n"]) fun _ _ _ _ _ _ us hl => match us, hl with | [_, _, _], _ => rfl
  have F30 := fun_mk (st := sAnswers) l30 c30 k30
  refine ⟨PySem.W.fnOf "answers" "answers" (defArgs sAnswers) (defBody sAnswers) (defScope sAnswers) .none kV30 dc30 pm30 an30 cd30 ct30, fun s us hu => match us, hu with | [_], _ => .of_eq rfl, fun base _ _ => ?_⟩
  have E1 : Df P w K mg base CX0 1 "first_minutes" ["around", "cabins"] spFirst := ⟨_, _, PySem.W.mg_of X G a1, k1, B1, ok_first F1 T⟩
  have E2 : Df P w K mg base CX0 2 "goes_by" ["around", "cabins", "minute"] spGoes := ⟨_, _, PySem.W.mg_of X G a2, k2, B2, ok_goes F2 E1⟩
  have E3 : Di P w K mg base CX0 1 CR ["self"] (spRowInit CR) := ⟨_, _, ⟨mkCR, a3, i3, kcCR⟩, B3, ok_rowInit F3 T⟩
  have E4 : Dm P w K mg base CX0 1 CR "is_over" ["self"] (spOver CR) := ⟨_, _, ⟨a4, i4, k4⟩, B4, ok_over F4 T⟩
  have E5 : Dm P w K mg base CX0 1 CR "take_minute" ["self", "minute", "came", "places"] (spTake CR) := ⟨_, _, ⟨a5, i5, k5⟩, B5, ok_take F5 T⟩
  have E6 : Dm P w K mg base CX0 1 CR "waited_till" ["self", "minutes"] (spTill CR) := ⟨_, _, ⟨a6, i6, k6⟩, B6, ok_till F6 T⟩
  have E7 : Dm P w K mg base CX0 1 CR "longest" ["self"] (spLongest CR) := ⟨_, _, ⟨a7, i7, k7⟩, B7, ok_longest F7 T⟩
  have E8 : Di P w K mg base CX0 1 CD ["self", "around", "seats", "cabins", "people"] (spDayInit CD) := ⟨_, _, ⟨mkCD, a8, i8, kcCD⟩, B8, ok_dayInit F8 T⟩
  have E9 : Dm P w K mg base CX0 3 CD "with_one_more" ["self", "many"] (spMore CD) := ⟨_, _, ⟨a9, i9, k9⟩, B9, ok_more F9 T E8⟩
  have E10 : Dm P w K mg base CX0 3 CD "with_cabins" ["self", "cabins"] (spCab CD) := ⟨_, _, ⟨a10, i10, k10⟩, B10, ok_cab F10 T E8⟩
  have E11 : Dm P w K mg base CX0 1 CD "told" ["self"] (spToldN CD) := ⟨_, _, ⟨a11, i11, k11⟩, B11, ok_toldN F11 T⟩
  have E12 : Dm P w K mg base CX0 1 CD "came" ["self", "minute"] (spCame CD) := ⟨_, _, ⟨a12, i12, k12⟩, B12, ok_came F12 T⟩
  have E13 : Dm P w K mg base CX0 3 CD "places" ["self", "minute"] (spPlaces CD) := ⟨_, _, ⟨a13, i13, k13⟩, B13, ok_places F13 T E2⟩
  have E14 : Df P w K mg base CX0 4 "row_behind" ["day", "minutes"] (spBehind CR CD) := ⟨_, _, PySem.W.mg_of X G a14, k14, B14, ok_behind F14 T E3 E5 E12 E13⟩
  have E15 : Df P w K mg base CX0 5 "row_at_end" ["day"] (spAtEnd CR CD) := ⟨_, _, PySem.W.mg_of X G a15, k15, B15, ok_atEnd F15 T E14 E11 E4 E5 E13⟩
  have E16 : Df P w K mg base CX0 6 "is_let" ["day", "longest"] (spIsLet CD) := ⟨_, _, PySem.W.mg_of X G a16, k16, B16, ok_isLet F16 T E15 E7⟩
  have E17 : Df P w K mg base CX0 7 "fewest_cabins" ["day", "longest"] (spFew CD) := ⟨_, _, PySem.W.mg_of X G a17, k17, B17, ok_few F17 T E16 E10⟩
  have O18 : FnOk P w K mg base CX0 1 f18 _ ["self", "refusal"] (spRefInit CF) := ok_refInit F18 T
  have E19 : Df P w K mg base (L2.CX P w) 3 "want" ["is_so", "refusal"] (spWant CF) := ⟨_, _, PySem.W.mg_of X G a19, k19, B19, ok_want F19 T a18 i18 B18 O18⟩
  have E20 : Df P w K mg base CX0 1 "is_within" ["number", "low", "high"] spWithin := ⟨_, _, PySem.W.mg_of X G a20, k20, B20, ok_within F20⟩
  have E21 : Di P w K mg base CX0 3 CK ["self"] (spDeskInit CK CD) := ⟨_, _, ⟨mkCK, a21, i21, kcCK⟩, B21, ok_deskInit F21 T E8⟩
  have E22 : Dm P w K mg base (L2.CX P w) 4 CK "begins" ["self", "around", "seats", "cabins"] (spBegins CK CD CF) := ⟨_, _, ⟨a22, i22, k22⟩, B22, ok_begins F22 T E19 E20 E8⟩
  have E23 : Dm P w K mg base (L2.CX P w) 4 CK "come" ["self", "many"] (spCome CK CD CF) := ⟨_, _, ⟨a23, i23, k23⟩, B23, ok_come F23 T E19 E11 E9⟩
  have E24 : Dm P w K mg base (L2.CX P w) 5 CK "row" ["self", "minutes"] (spRow CK CD CF) := ⟨_, _, ⟨a24, i24, k24⟩, B24, ok_row F24 T E19 E11 E14 E6⟩
  have E25 : Dm P w K mg base (L2.CX P w) 2 CK "times" ["self"] (spTimes CK CD CF) := ⟨_, _, ⟨a25, i25, k25⟩, B25, ok_times F25 T E1⟩
  have E26 : Dm P w K mg base (L2.CX P w) 6 CK "ends" ["self"] (spEnds CK CD CF) := ⟨_, _, ⟨a26, i26, k26⟩, B26, ok_ends F26 T E19 E15 E7⟩
  have E27 : Dm P w K mg base (L2.CX P w) 8 CK "fewest" ["self", "longest"] (spFewest CK CD CF) := ⟨_, _, ⟨a27, i27, k27⟩, B27, ok_fewest F27 T E19 E17⟩
  have E28 : Df P w K mg base (L2.CX P w) 9 "told_by" ["desk", "call", "n"] (spTold CK CD CF) := ⟨_, _, PySem.W.mg_of X G a28, k28, B28, ok_told F28 T E22 E23 E24 E25 E26 E27⟩
  have E29 : Df P w K mg base CX0 10 "answer" ["desk", "call", "n"] (spAnswer CK CD) := ⟨_, _, PySem.W.mg_of X G a29, k29, B29, ok_answer F29 T E28⟩
  exact ok_answers F30 T E21 E29
end Cw

open PySem PySem.W PyProof.Rows
set_option maxRecDepth 100000 in
set_option maxHeartbeats 8000000 in
theorem PySem.Challenge.cw_cabinwait_s01_answers_holds : PySem.Challenge.rw_cabinwait_s01_answers.Holds := by
  w_on; k_headS; (case hw => exact ⟨[.list [.int 3]], by decide +kernel, by decide +kernel⟩)
  k_fillS
  refine L2.walk_specK (r := PySem.Challenge.rw_cabinwait_s01_answers) (k := 11) (CX := L2.CX0) (ps := ["calls"]) (sp := Cw.spAnswers) (by decide +kernel) rfl rfl ⟨rfl, by decide, by decide⟩ (fun w h Y => PySem.W.kIn_of Y) ?F ?S (fun _ _ _ _ z => z)
  case F =>
    intro w mg fa h Y KX G hmg
    refine' Cw.all_mk KX G hmg ?aCR ?aCD ?aCF ?aCK ?pgCR ?hdCR ?poCR ?saCR ?mkCR ?kcCR ?nCR0 ?nCR1 ?pgCD ?hdCD ?poCD ?saCD ?mkCD ?kcCD ?nCD0 ?nCD1 ?nCD2 ?nCD3 ?pgCK ?hdCK ?poCK ?saCK ?mkCK ?kcCK ?nCK0 ?xL ?xsa ?xga ?xgg ?xnr ?xk ?xe ?xt ?xh ?xi ?xs ?k_0 ?k_1 ?k_2 ?k_3 ?k_4 ?k_5 ?k_6 ?k_7 ?k_8 ?k_9 ?b_0 ?b_1 ?b_2 ?b_3 ?b_4 ?b_5 ?aN ?lN ?a1 ?l1 ?c1 ?k1 ?a2 ?l2 ?c2 ?k2 ?a3 ?i3 ?l3 ?c3 ?k3 ?a4 ?i4 ?l4 ?c4 ?k4 ?a5 ?i5 ?l5 ?c5 ?k5 ?a6 ?i6 ?l6 ?c6 ?k6 ?a7 ?i7 ?l7 ?c7 ?k7 ?a8 ?i8 ?l8 ?c8 ?k8 ?a9 ?i9 ?l9 ?c9 ?k9 ?a10 ?i10 ?l10 ?c10 ?k10 ?a11 ?i11 ?l11 ?c11 ?k11 ?a12 ?i12 ?l12 ?c12 ?k12 ?a13 ?i13 ?l13 ?c13 ?k13 ?a14 ?l14 ?c14 ?k14 ?a15 ?l15 ?c15 ?k15 ?a16 ?l16 ?c16 ?k16 ?a17 ?l17 ?c17 ?k17 ?a18 ?i18 ?l18 ?c18 ?k18 ?a19 ?l19 ?c19 ?k19 ?a20 ?l20 ?c20 ?k20 ?a21 ?i21 ?l21 ?c21 ?k21 ?a22 ?i22 ?l22 ?c22 ?k22 ?a23 ?i23 ?l23 ?c23 ?k23 ?a24 ?i24 ?l24 ?c24 ?k24 ?a25 ?i25 ?l25 ?c25 ?k25 ?a26 ?i26 ?l26 ?c26 ?k26 ?a27 ?i27 ?l27 ?c27 ?k27 ?a28 ?l28 ?c28 ?k28 ?a29 ?l29 ?c29 ?k29 ?a30 ?l30 ?c30 ?k30
    (case aCR => k_is); (case aCD => k_is); (case aCF => k_is); (case aCK => k_is); (case pgCR => k_is); (case hdCR => k_is)
    (case poCR => k_is); (case saCR => k_is); (case mkCR => k_is); (case kcCR => k_is); (case nCR0 => k_is); (case nCR1 => k_is)
    (case pgCD => k_is); (case hdCD => k_is); (case poCD => k_is); (case saCD => k_is); (case mkCD => k_is); (case kcCD => k_is)
    (case nCD0 => k_is); (case nCD1 => k_is); (case nCD2 => k_is); (case nCD3 => k_is); (case pgCK => k_is); (case hdCK => k_is)
    (case poCK => k_is); (case saCK => k_is); (case mkCK => k_is); (case kcCK => k_is); (case nCK0 => k_is); (case xL => k_is)
    (case xsa => k_is); (case xga => k_is); (case xgg => k_is); (case xnr => k_is); (case xk => k_is); (case xe => k_is)
    (case xt => k_is); (case xh => k_is); (case xi => k_is); (case xs => first | rfl | k_is); (case k_0 => k_is); (case k_1 => k_is)
    (case k_2 => k_is); (case k_3 => k_is); (case k_4 => k_is); (case k_5 => k_is); (case k_6 => k_is); (case k_7 => k_is)
    (case k_8 => k_is); (case k_9 => k_is); (case b_0 => k_is); (case b_1 => k_is); (case b_2 => k_is); (case b_3 => k_is)
    (case b_4 => k_is); (case b_5 => k_is); (case aN => k_is); (case lN => k_is); (case a1 => k_is); (case l1 => k_is)
    (case c1 => k_is); (case k1 => k_is); (case a2 => k_is); (case l2 => k_is); (case c2 => k_is); (case k2 => k_is)
    (case a3 => k_is); (case i3 => k_is); (case l3 => k_is); (case c3 => k_is); (case k3 => k_is); (case a4 => k_is)
    (case i4 => k_is); (case l4 => k_is); (case c4 => k_is); (case k4 => k_is); (case a5 => k_is); (case i5 => k_is)
    (case l5 => k_is); (case c5 => k_is); (case k5 => k_is); (case a6 => k_is); (case i6 => k_is); (case l6 => k_is)
    (case c6 => k_is); (case k6 => k_is); (case a7 => k_is); (case i7 => k_is); (case l7 => k_is); (case c7 => k_is)
    (case k7 => k_is); (case a8 => k_is); (case i8 => k_is); (case l8 => k_is); (case c8 => k_is); (case k8 => k_is)
    (case a9 => k_is); (case i9 => k_is); (case l9 => k_is); (case c9 => k_is); (case k9 => k_is); (case a10 => k_is)
    (case i10 => k_is); (case l10 => k_is); (case c10 => k_is); (case k10 => k_is); (case a11 => k_is); (case i11 => k_is)
    (case l11 => k_is); (case c11 => k_is); (case k11 => k_is); (case a12 => k_is); (case i12 => k_is); (case l12 => k_is)
    (case c12 => k_is); (case k12 => k_is); (case a13 => k_is); (case i13 => k_is); (case l13 => k_is); (case c13 => k_is)
    (case k13 => k_is); (case a14 => k_is); (case l14 => k_is); (case c14 => k_is); (case k14 => k_is); (case a15 => k_is)
    (case l15 => k_is); (case c15 => k_is); (case k15 => k_is); (case a16 => k_is); (case l16 => k_is); (case c16 => k_is)
    (case k16 => k_is); (case a17 => k_is); (case l17 => k_is); (case c17 => k_is); (case k17 => k_is); (case a18 => k_is)
    (case i18 => k_is); (case l18 => k_is); (case c18 => k_is); (case k18 => k_is); (case a19 => k_is); (case l19 => k_is)
    (case c19 => k_is); (case k19 => k_is); (case a20 => k_is); (case l20 => k_is); (case c20 => k_is); (case k20 => k_is)
    (case a21 => k_is); (case i21 => k_is); (case l21 => k_is); (case c21 => k_is); (case k21 => k_is); (case a22 => k_is)
    (case i22 => k_is); (case l22 => k_is); (case c22 => k_is); (case k22 => k_is); (case a23 => k_is); (case i23 => k_is)
    (case l23 => k_is); (case c23 => k_is); (case k23 => k_is); (case a24 => k_is); (case i24 => k_is); (case l24 => k_is)
    (case c24 => k_is); (case k24 => k_is); (case a25 => k_is); (case i25 => k_is); (case l25 => k_is); (case c25 => k_is)
    (case k25 => k_is); (case a26 => k_is); (case i26 => k_is); (case l26 => k_is); (case c26 => k_is); (case k26 => k_is)
    (case a27 => k_is); (case i27 => k_is); (case l27 => k_is); (case c27 => k_is); (case k27 => k_is); (case a28 => k_is)
    (case l28 => k_is); (case c28 => k_is); (case k28 => k_is); (case a29 => k_is); (case l29 => k_is); (case c29 => k_is)
    (case k29 => k_is); (case a30 => k_is); (case l30 => k_is); (case c30 => k_is); (case k30 => k_is)
  case S =>
    intro K H xs a hO hwi hask hx
    cases hx with
    | cons h1 h2 =>
      cases h2
      cases h1 with
      | lst hs ha =>
        have e := L2.ints_dw a.1 _ ha
        subst e
        have q : ((Codec.inLen 0 400 a.1 && a.1.all (Codec.inInt 0 4294967295)) && true) = true := hwi
        rw [Bool.and_eq_true, Bool.and_eq_true] at q
        have g := Cw.asked_play (l := a.1) hask
        exact ⟨_, a.1, rfl, hs, (Codec.inNat_iff.mp q.1.1).2, g.1, g.2, fun H' p hp => .lst (L2.SqL.of hp) (L2.dw_ints _)⟩
#print axioms PySem.Challenge.cw_cabinwait_s01_answers_holds
