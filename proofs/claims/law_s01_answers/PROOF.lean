import PyProof.Rows.All
import Zr13R7291gSpec
import Wide.All
import OpenK.AllK
import Wide.FinOn
import PyProof.EqAt
import PyProof.EqKinds
import PyProof.TupleCall
import Open.SpecLaws
import KE.OsGo
import HandS.ForSpec
import HandS.ForMost
import HandS.TupAny
import HandS.Conv
import HandS.Style
import HandS.Zip
import HandS.SetKeys
import HandS.ExcInit
import HandS.ExcField
import HandS.HotCalls
import HandS.ExcCtx
import HandS.ExcInitHot
import PySem.Challenge.RW_separatedwords_s01_answers
import PyZr13
import HandS.SetFor
import PyProof.DictMoreH
/-! Separating words: tables. Plain lists and numbers alone: the search that the program makes, against the tables that the specification goes through. -/
namespace Sw
open R7291g.Spec

/-! ### entries so far, two for each state -/
/-- the state in which a word ends by the entries so far, none if it is not known -/
def kend (es : List Nat) : Nat → List Nat → Option Nat
  | st, [] => some st
  | st, l :: r => match es[2 * st + l]? with
    | none => none
    | some s => kend es s r
def kInt : Option Nat → Int
  | none => -1
  | some s => (s : Int)
/-- every other element, from the first one on -/
def evens {α : Type} : List α → List α
  | [] => []
  | [a] => [a]
  | a :: _ :: r => a :: evens r
def odds {α : Type} (l : List α) : List α := evens l.tail
/-- the entries of the letter whose entry comes next -/
def used (es : List Nat) : List Nat := if es.length % 2 = 0 then evens es else odds es
/-- what the next entry can be -/
def chs (n : Nat) (both : Bool) (es : List Nat) : List Nat := if both = true then (List.range n).filter (fun s => !(used es).contains s) else List.range n
/-- all completions by k more entries, in order -/
def comp (ch : List Nat → List Nat) : Nat → List Nat → List (List Nat)
  | 0, e => [e]
  | k + 1, e => (ch e).flatMap fun s => comp ch k (e ++ [s])
/-- the first completion -/
def fill (ch : List Nat → List Nat) : Nat → List Nat → List Nat
  | 0, e => e
  | k + 1, e => fill ch k (e ++ [(ch e).headD 0])
def sepE (u v : List Nat) (e : List Nat) : Bool := kend e 0 u != kend e 0 v

theorem kend_append {es : List Nat} (xs : List Nat) : ∀ {w : List Nat} {st s : Nat}, kend es st w = some s → kend (es ++ xs) st w = some s
  | [], _, _, h => h
  | l :: r, st, s, h => by
    unfold kend at h ⊢
    cases e : es[2 * st + l]? with
    | none => rw [e] at h; cases h
    | some t =>
      rw [e] at h
      have hl : 2 * st + l < es.length := (List.getElem?_eq_some_iff.mp e).1
      rw [List.getElem?_append_left hl, e]
      exact kend_append xs h
theorem comp_prefix {ch : List Nat → List Nat} : ∀ (k : Nat) {e x : List Nat}, x ∈ comp ch k e → ∃ y, x = e ++ y ∧ y.length = k
  | 0, e, x, h => ⟨[], by simpa [comp] using h, rfl⟩
  | k + 1, e, x, h => by
    obtain ⟨s, _, hx⟩ := List.mem_flatMap.mp (show x ∈ (ch e).flatMap fun s => comp ch k (e ++ [s]) from h)
    obtain ⟨y, ey, ly⟩ := comp_prefix k hx
    exact ⟨s :: y, by rw [ey, List.append_assoc]; rfl, by rw [List.length_cons, ly]⟩
theorem find_none_of {ch : List Nat → List Nat} {k : Nat} {e u v : List Nat} {a : Nat} (hu : kend e 0 u = some a) (hv : kend e 0 v = some a) : (comp ch k e).find? (sepE u v) = none := by
  refine List.find?_eq_none.mpr fun x hx => ?_
  obtain ⟨y, rfl, _⟩ := comp_prefix k hx
  unfold sepE
  rw [kend_append y hu, kend_append y hv]
  simp
theorem comp_head {ch : List Nat → List Nat} {P : List Nat → Nat → Prop} (h : ∀ e k, P e (k + 1) → ch e ≠ [] ∧ ∀ s ∈ ch e, P (e ++ [s]) k) :
    ∀ (k : Nat) (e : List Nat), P e k → ∃ r, comp ch k e = fill ch k e :: r
  | 0, e, _ => ⟨[], rfl⟩
  | k + 1, e, p => by
    obtain ⟨ne, hs⟩ := h e k p
    cases hc : ch e with
    | nil => exact absurd hc ne
    | cons s rest =>
      obtain ⟨r, hr⟩ := comp_head h k (e ++ [s]) (hs s (by rw [hc]; exact List.mem_cons_self))
      refine ⟨r ++ rest.flatMap fun s => comp ch k (e ++ [s]), ?_⟩
      show (ch e).flatMap (fun s => comp ch k (e ++ [s])) = fill ch k (e ++ [(ch e).headD 0]) :: _
      rw [hc, List.flatMap_cons, hr]
      rfl
theorem find_some_of {ch : List Nat → List Nat} {k : Nat} {e u v r : List Nat} {R : List (List Nat)} {a b : Nat} (hc : comp ch k e = r :: R) (hu : kend e 0 u = some a) (hv : kend e 0 v = some b) (hab : a ≠ b) : (comp ch k e).find? (sepE u v) = some r := by
  obtain ⟨y, ey, _⟩ := comp_prefix (ch := ch) (e := e) (x := r) k (by rw [hc]; exact List.mem_cons_self)
  rw [hc]
  have : sepE u v r = true := by
    unfold sepE
    rw [ey, kend_append y hu, kend_append y hv]
    simpa using hab
  rw [List.find?_cons, this]

/-! ### every other element -/
theorem evens_append_even {α : Type} : ∀ (l m : List α), l.length % 2 = 0 → evens (l ++ m) = evens l ++ evens m
  | [], _, _ => rfl
  | [a], m, h => by simp at h
  | a :: b :: r, m, h => by
    have h' : r.length % 2 = 0 := by simp only [List.length_cons] at h; omega
    show a :: evens (r ++ m) = a :: evens r ++ evens m
    rw [evens_append_even r m h']
    rfl
theorem evens_append_odd {α : Type} : ∀ (l m : List α), l.length % 2 = 1 → evens (l ++ m) = evens l ++ odds m
  | [], _, h => by simp at h
  | [a], m, h => by
    cases m with
    | nil => rfl
    | cons b m => cases m <;> rfl
  | a :: b :: r, m, h => by
    have h' : r.length % 2 = 1 := by simp only [List.length_cons] at h; omega
    show a :: evens (r ++ m) = a :: evens r ++ odds m
    rw [evens_append_odd r m h']
    rfl
theorem odds_append_odd {α : Type} (l m : List α) (h : l.length % 2 = 1) : odds (l ++ m) = odds l ++ evens m := by
  cases l with
  | nil => simp at h
  | cons a l =>
    show evens (l ++ m) = evens l ++ evens m
    exact evens_append_even l m (by simp only [List.length_cons] at h; omega)
theorem odds_append_even {α : Type} (l m : List α) (h : l.length % 2 = 0) : odds (l ++ m) = odds l ++ odds m := by
  cases l with
  | nil => rfl
  | cons a l =>
    show evens (l ++ m) = evens l ++ odds m
    exact evens_append_odd l m (by simp only [List.length_cons] at h; omega)
theorem evens_length {α : Type} : ∀ l : List α, (evens l).length = (l.length + 1) / 2
  | [] => by simp [evens]
  | [_] => by simp [evens]
  | a :: b :: r => by
    show (evens r).length + 1 = (r.length + 1 + 1 + 1) / 2
    rw [evens_length r]
    omega
theorem odds_length {α : Type} (l : List α) : (odds l).length = l.length / 2 := by
  cases l with
  | nil => simp [odds, evens]
  | cons a l =>
    show (evens l).length = _
    rw [evens_length, List.length_cons]
theorem evens_mem {α : Type} {x : α} : ∀ {l : List α}, x ∈ evens l → x ∈ l
  | [], h => h
  | [_], h => h
  | a :: b :: r, h => by
    rcases List.mem_cons.mp (show x ∈ a :: evens r from h) with rfl | h
    · exact List.mem_cons_self
    · exact List.mem_cons_of_mem _ (List.mem_cons_of_mem _ (evens_mem h))
theorem odds_mem {α : Type} {x : α} {l : List α} (h : x ∈ odds l) : x ∈ l := List.mem_of_mem_tail (evens_mem h)

/-! ### entries that can be completed -/
/-- entries that the search meets: states below n; where both ways are asked, different ones by each letter -/
structure Good (n : Nat) (both : Bool) (e : List Nat) : Prop where
  len : e.length ≤ 2 * n
  lt : ∀ s ∈ e, s < n
  ev : both = true → (evens e).Nodup
  od : both = true → (odds e).Nodup
theorem Good.nil (n : Nat) (both : Bool) : Good n both [] where
  len := Nat.zero_le _
  lt := fun _ h => nomatch h
  ev := fun _ => List.nodup_nil
  od := fun _ => List.nodup_nil
theorem used_length (e : List Nat) : (used e).length = e.length / 2 := by
  unfold used
  split
  · rw [evens_length]; omega
  · rw [odds_length]
theorem used_mem {e : List Nat} {x : Nat} (h : x ∈ used e) : x ∈ e := by
  unfold used at h
  split at h
  · exact evens_mem h
  · exact odds_mem h
theorem mem_chs {n : Nat} {both : Bool} {e : List Nat} {s : Nat} : s ∈ chs n both e ↔ s < n ∧ (both = true → s ∉ used e) := by
  unfold chs
  by_cases hb : both = true
  · rw [if_pos hb, List.mem_filter, List.mem_range]
    simp [hb]
  · rw [if_neg hb, List.mem_range]
    simp [hb]
theorem nodup_snoc {α : Type} {l : List α} {a : α} (h : l.Nodup) (ha : a ∉ l) : (l ++ [a]).Nodup := by
  rw [List.nodup_append]
  refine ⟨h, by simp, fun x hx y hy => ?_⟩
  have : y = a := by simpa using hy
  subst this
  exact fun e => ha (e ▸ hx)
theorem Good.snoc {n : Nat} {both : Bool} {e : List Nat} {s : Nat} (g : Good n both e) (hl : e.length < 2 * n) (hs : s ∈ chs n both e) : Good n both (e ++ [s]) := by
  obtain ⟨h1, h2⟩ := mem_chs.mp hs
  refine ⟨by rw [List.length_append]; exact hl, fun x hx => ?_, fun hb => ?_, fun hb => ?_⟩
  · rcases List.mem_append.mp hx with hx | hx
    · exact g.lt x hx
    · have : x = s := by simpa using hx
      rw [this]; exact h1
  · have h3 := h2 hb
    by_cases hp : e.length % 2 = 0
    · rw [evens_append_even e [s] hp]
      unfold used at h3
      rw [if_pos hp] at h3
      exact nodup_snoc (g.ev hb) h3
    · rw [evens_append_odd e [s] (by omega)]
      show (evens e ++ []).Nodup
      rw [List.append_nil]
      exact g.ev hb
  · have h3 := h2 hb
    by_cases hp : e.length % 2 = 0
    · rw [odds_append_even e [s] hp]
      show (odds e ++ []).Nodup
      rw [List.append_nil]
      exact g.od hb
    · rw [odds_append_odd e [s] (by omega)]
      unfold used at h3
      rw [if_neg hp] at h3
      exact nodup_snoc (g.od hb) h3
theorem Good.used_nodup {n : Nat} {both : Bool} {e : List Nat} (g : Good n both e) (hb : both = true) : (used e).Nodup := by
  unfold used
  split
  · exact g.ev hb
  · exact g.od hb
theorem Good.some_choice {n : Nat} {both : Bool} {e : List Nat} (g : Good n both e) (hl : e.length < 2 * n) : chs n both e ≠ [] := by
  intro h
  have all : ∀ s, s < n → s ∈ used e := fun s hs => by
    by_cases hm : s ∈ used e
    · exact hm
    · have : s ∈ chs n both e := mem_chs.mpr ⟨hs, fun _ => hm⟩
      rw [h] at this
      cases this
  have sub : List.range n ⊆ used e := fun s hs => all s (List.mem_range.mp hs)
  have le := List.Nodup.length_le_of_subset List.nodup_range sub
  rw [List.length_range, used_length] at le
  omega
theorem good_step {n : Nat} {both : Bool} (e : List Nat) (k : Nat) (p : Good n both e ∧ e.length + (k + 1) = 2 * n) : chs n both e ≠ [] ∧ ∀ s ∈ chs n both e, Good n both (e ++ [s]) ∧ (e ++ [s]).length + k = 2 * n := by
  obtain ⟨g, hl⟩ := p
  refine ⟨g.some_choice (by omega), fun s hs => ⟨g.snoc (by omega) hs, ?_⟩⟩
  rw [List.length_append, List.length_singleton]
  omega
theorem good_head {n : Nat} {both : Bool} {e : List Nat} (g : Good n both e) : ∃ r, comp (chs n both) (2 * n - e.length) e = fill (chs n both) (2 * n - e.length) e :: r :=
  comp_head (P := fun e k => Good n both e ∧ e.length + k = 2 * n) good_step _ e ⟨g, by have := g.len; omega⟩
theorem comp_good {n : Nat} {both : Bool} : ∀ (k : Nat) (e : List Nat), Good n both e → e.length + k = 2 * n → ∀ x ∈ comp (chs n both) k e, Good n both x ∧ x.length = 2 * n
  | 0, e, g, hl, x, hx => by
    have : x = e := by simpa [comp] using hx
    subst this
    exact ⟨g, by omega⟩
  | k + 1, e, g, hl, x, hx => by
    obtain ⟨s, hs, hx⟩ := List.mem_flatMap.mp (show x ∈ (chs n both e).flatMap fun s => comp (chs n both) k (e ++ [s]) from hx)
    obtain ⟨g', hl'⟩ := (good_step e k ⟨g, hl⟩).2 s hs
    exact comp_good k _ g' hl' x hx
/-- a word's end is known by entries that are whole -/
theorem kend_full {n : Nat} {e : List Nat} (hl : e.length = 2 * n) (lt : ∀ s ∈ e, s < n) : ∀ (w : List Nat) (st : Nat), st < n → (∀ l ∈ w, l < 2) → ∃ s, kend e st w = some s ∧ s < n
  | [], st, h, _ => ⟨st, rfl, h⟩
  | l :: r, st, h, hw => by
    have h2 : l < 2 := hw l List.mem_cons_self
    have hi : 2 * st + l < e.length := by omega
    unfold kend
    rw [List.getElem?_eq_getElem hi]
    exact kend_full hl lt r _ (lt _ (List.getElem_mem hi)) fun l hl => hw l (List.mem_cons_of_mem _ hl)
/-- where it isn't known, something is left to be filled in -/
theorem not_full {n : Nat} {both : Bool} {e w : List Nat} (hn : 1 ≤ n) (g : Good n both e) (hw : ∀ l ∈ w, l < 2) (h : kend e 0 w = none) : e.length < 2 * n := by
  rcases Nat.lt_or_ge e.length (2 * n) with h1 | h1
  · exact h1
  · obtain ⟨s, hs, _⟩ := kend_full (n := n) (by have := g.len; omega) g.lt w 0 hn hw
    rw [h] at hs
    cases hs

/-! ### the stack -/
/-- what a stack (its top at the end) still holds, in order -/
def held (n : Nat) (both : Bool) (st : List (List Nat)) : List (List Nat) := st.reverse.flatMap fun e => comp (chs n both) (2 * n - e.length) e
/-- a number that falls -/
def weight (n : Nat) (st : List (List Nat)) : Nat := (st.map fun e => (n + 1) ^ (2 * n - e.length)).sum
theorem held_snoc {n : Nat} {both : Bool} (st : List (List Nat)) (e : List Nat) : held n both (st ++ [e]) = comp (chs n both) (2 * n - e.length) e ++ held n both st := by
  unfold held
  rw [List.reverse_append, List.reverse_singleton, List.singleton_append, List.flatMap_cons]
theorem weight_snoc {n : Nat} (st : List (List Nat)) (e : List Nat) : weight n (st ++ [e]) = weight n st + (n + 1) ^ (2 * n - e.length) := by
  unfold weight
  rw [List.map_append, List.sum_append]
  simp
theorem held_append {n : Nat} {both : Bool} (st : List (List Nat)) : ∀ l : List (List Nat), held n both (st ++ l.reverse) = (l.flatMap fun e => comp (chs n both) (2 * n - e.length) e) ++ held n both st := fun l => by
  unfold held
  rw [List.reverse_append, List.reverse_reverse, List.flatMap_append]
theorem length_le_weight {n : Nat} : ∀ st : List (List Nat), st.length ≤ weight n st
  | [] => Nat.le_refl _
  | e :: st => by
    have h := length_le_weight (n := n) st
    have h1 : 1 ≤ (n + 1) ^ (2 * n - e.length) := Nat.one_le_pow _ _ (Nat.succ_pos n)
    show st.length + 1 ≤ (((n + 1) ^ (2 * n - e.length)) :: st.map fun e => (n + 1) ^ (2 * n - e.length)).sum
    rw [List.sum_cons]
    show st.length + 1 ≤ _ + weight n st
    omega
theorem comp_unfold {n : Nat} {both : Bool} {e : List Nat} (hl : e.length < 2 * n) : comp (chs n both) (2 * n - e.length) e = (chs n both e).flatMap fun s => comp (chs n both) (2 * n - (e ++ [s]).length) (e ++ [s]) := by
  have h : 2 * n - e.length = (2 * n - (e.length + 1)) + 1 := by omega
  rw [h]
  show (chs n both e).flatMap (fun s => comp (chs n both) (2 * n - (e.length + 1)) (e ++ [s])) = _
  congr 1
  funext s
  rw [List.length_append, List.length_singleton]
/-- an element is popped, and its extensions are pushed, the first one last -/
theorem held_expand {n : Nat} {both : Bool} {st : List (List Nat)} {e : List Nat} (hl : e.length < 2 * n) : held n both (st ++ ((chs n both e).map fun s => e ++ [s]).reverse) = held n both (st ++ [e]) := by
  rw [held_append, held_snoc, comp_unfold hl, List.flatMap_map]
theorem weight_expand_le {n : Nat} {both : Bool} {st : List (List Nat)} {e : List Nat} (hl : e.length < 2 * n) (l : List Nat) (hle : l.length ≤ n) : weight n (st ++ l.map fun s => e ++ [s]) < weight n (st ++ [e]) := by
  rw [weight_snoc]
  have key : ∀ l : List Nat, weight n (st ++ l.map fun s => e ++ [s]) = weight n st + l.length * (n + 1) ^ (2 * n - (e.length + 1)) := fun l => by
    unfold weight
    rw [List.map_append, List.sum_append, List.map_map]
    congr 1
    induction l with
    | nil => simp
    | cons s r ih =>
      rw [List.map_cons, List.sum_cons, ih]
      show (n + 1) ^ (2 * n - (e ++ [s]).length) + _ = _
      rw [List.length_append, List.length_singleton, List.length_cons]
      generalize (n + 1) ^ (2 * n - (e.length + 1)) = p
      rw [Nat.add_one_mul, Nat.add_comm]
  rw [key]
  have h : 2 * n - e.length = (2 * n - (e.length + 1)) + 1 := by omega
  have e2 : (n + 1) ^ (2 * n - e.length) = (n + 1) ^ (2 * n - (e.length + 1)) * (n + 1) := by
    conv => lhs; rw [h]
    rw [Nat.pow_succ]
  rw [e2]
  have hp : 1 ≤ (n + 1) ^ (2 * n - (e.length + 1)) := Nat.one_le_pow _ _ (Nat.succ_pos n)
  generalize (n + 1) ^ (2 * n - (e.length + 1)) = p at hp
  have h3 : l.length * p ≤ n * p := Nat.mul_le_mul_right p hle
  have h4 : p * (n + 1) = n * p + p := by rw [Nat.mul_succ, Nat.mul_comm]
  omega
theorem chs_length {n : Nat} {both : Bool} {e : List Nat} : (chs n both e).length ≤ n := by
  unfold chs
  split
  · exact Nat.le_trans (List.length_filter_le _ _) (by rw [List.length_range]; exact Nat.le_refl _)
  · rw [List.length_range]; exact Nat.le_refl _
theorem chs_nodup {n : Nat} {both : Bool} {e : List Nat} : (chs n both e).Pairwise (· < ·) := by
  unfold chs
  split
  · exact List.Pairwise.filter _ List.pairwise_lt_range
  · exact List.pairwise_lt_range
end Sw
/-! Separating words: what the search finds is what the specification finds. -/
namespace Sw
open R7291g.Spec

/-! ### all tables, in order -/
theorem flatten_nil : flatten [] = [] := rfl
theorem flatten_cons (a b : Nat) (t : Table) : flatten ((a, b) :: t) = a :: b :: flatten t := rfl
theorem flatten_length : ∀ t : Table, (flatten t).length = 2 * t.length
  | [] => rfl
  | (a, b) :: t => by
    rw [flatten_cons, List.length_cons, List.length_cons, flatten_length t, List.length_cons]
    omega
theorem flatten_inj : ∀ {s t : Table}, flatten s = flatten t → s = t
  | [], [], _ => rfl
  | [], (a, b) :: t, h => by rw [flatten_cons] at h; cases h
  | (a, b) :: s, [], h => by rw [flatten_cons] at h; cases h
  | (a, b) :: s, (c, d) :: t, h => by
    rw [flatten_cons, flatten_cons] at h
    injection h with h1 h
    injection h with h2 h
    rw [h1, h2, flatten_inj h]
theorem chs_all (n : Nat) (e : List Nat) : chs n false e = List.range n := rfl
theorem flatten_rows (n : Nat) : ∀ (k : Nat) (e : List Nat), (tableRows (allPairs n) k).map (fun t => e ++ flatten t) = comp (chs n false) (2 * k) e
  | 0, e => by
    show [e ++ []] = [e]
    rw [List.append_nil]
  | k + 1, e => by
    have h2 : 2 * (k + 1) = (2 * k + 1) + 1 := by omega
    rw [h2]
    show ((allPairs n).flatMap fun p => (tableRows (allPairs n) k).map fun t => p :: t).map _ = (List.range n).flatMap fun s => (List.range n).flatMap fun q => comp (chs n false) (2 * k) ((e ++ [s]) ++ [q])
    unfold allPairs
    rw [List.map_flatMap, List.flatMap_assoc]
    congr 1
    funext p
    rw [List.flatMap_map]
    congr 1
    funext q
    rw [List.map_map]
    rw [← flatten_rows n k ((e ++ [p]) ++ [q])]
    congr 1
    funext t
    show e ++ flatten ((p, q) :: t) = _
    rw [flatten_cons]
    simp
theorem flatten_all (n : Nat) : (allTables n).map flatten = comp (chs n false) (2 * n) [] := by
  have h := flatten_rows n n []
  rw [← h]
  unfold allTables
  congr 1
/-- a table of n states below n -/
structure Tab (n : Nat) (t : Table) : Prop where
  len : t.length = n
  lt : ∀ p ∈ t, p.1 < n ∧ p.2 < n
theorem Tab.flat {n : Nat} {t : Table} (h : Tab n t) : (flatten t).length = 2 * n ∧ ∀ s ∈ flatten t, s < n := by
  refine ⟨by rw [flatten_length, h.len], fun s hs => ?_⟩
  obtain ⟨p, hp, hs⟩ := List.mem_flatMap.mp hs
  obtain ⟨h1, h2⟩ := h.lt p hp
  rcases List.mem_cons.mp hs with rfl | hs
  · exact h1
  · have : s = p.2 := by simpa using hs
    rw [this]; exact h2
theorem flat_get : ∀ (t : Table) (p u : Nat), u < 2 → p < t.length → (flatten t)[2 * p + u]? = some (transition t p u)
  | [], p, u, _, h => by simp at h
  | (a, b) :: t, 0, u, hu, _ => by
    rw [flatten_cons]
    have : u = 0 ∨ u = 1 := by omega
    rcases this with rfl | rfl <;> simp [transition]
  | (a, b) :: t, p + 1, u, hu, h => by
    have ih := flat_get t p u hu (by simpa using h)
    rw [flatten_cons]
    have e : 2 * (p + 1) + u = (2 * p + u) + 1 + 1 := by omega
    rw [e, List.getElem?_cons_succ, List.getElem?_cons_succ, ih]
    simp [transition]
theorem transition_lt {n : Nat} {t : Table} (h : Tab n t) {p u : Nat} (hp : p < n) : transition t p u < n := by
  have hl : p < t.length := by rw [h.len]; exact hp
  have e : t.getD p (0, 0) = t[p] := by rw [List.getD_eq_getElem?_getD, List.getElem?_eq_getElem hl]; rfl
  have hm := h.lt _ (List.getElem_mem hl)
  unfold transition
  rw [e]
  split
  · exact hm.1
  · exact hm.2
theorem kend_table {n : Nat} {t : Table} (h : Tab n t) : ∀ (w : List Nat) (p : Nat), p < n → (∀ l ∈ w, l < 2) → kend (flatten t) p w = some (run t p w)
  | [], _, _, _ => rfl
  | l :: r, p, hp, hw => by
    unfold kend run
    rw [flat_get t p l (hw l List.mem_cons_self) (by rw [h.len]; exact hp)]
    exact kend_table h r _ (transition_lt h hp) fun l hl => hw l (List.mem_cons_of_mem _ hl)
theorem mem_rows {n : Nat} : ∀ {k : Nat} {t : Table}, t ∈ tableRows (allPairs n) k → t.length = k ∧ ∀ p ∈ t, p.1 < n ∧ p.2 < n
  | 0, t, h => by
    have : t = [] := by simpa [tableRows] using h
    subst this
    exact ⟨rfl, fun _ h => nomatch h⟩
  | k + 1, t, h => by
    obtain ⟨p, hp, h⟩ := List.mem_flatMap.mp (show t ∈ (allPairs n).flatMap fun e => (tableRows (allPairs n) k).map fun t => e :: t from h)
    obtain ⟨s, hs, rfl⟩ := List.mem_map.mp h
    obtain ⟨h1, h2⟩ := mem_rows hs
    refine ⟨by rw [List.length_cons, h1], fun q hq => ?_⟩
    rcases List.mem_cons.mp hq with rfl | hq
    · obtain ⟨a, ha, hb⟩ := List.mem_flatMap.mp (show q ∈ (List.range n).flatMap fun p => (List.range n).map fun q => (p, q) from hp)
      obtain ⟨b, hb', rfl⟩ := List.mem_map.mp hb
      exact ⟨List.mem_range.mp ha, List.mem_range.mp hb'⟩
    · exact h2 q hq
theorem mem_all {n : Nat} {t : Table} (h : t ∈ allTables n) : Tab n t := let ⟨a, b⟩ := mem_rows h; ⟨a, b⟩
theorem sepE_table {n : Nat} {t : Table} (hn : 1 ≤ n) (h : Tab n t) {u v : List Nat} (hu : ∀ l ∈ u, l < 2) (hv : ∀ l ∈ v, l < 2) : sepE u v (flatten t) = separates u v t := by
  unfold sepE separates finalStateOf
  rw [kend_table h u 0 hn hu, kend_table h v 0 hn hv]
  by_cases e : run t 0 u = run t 0 v
  · rw [e]; simp
  · simp [bne, e]
theorem find_congr {α : Type} {p q : α → Bool} : ∀ {l : List α}, (∀ x ∈ l, p x = q x) → l.find? p = l.find? q
  | [], _ => rfl
  | a :: l, h => by
    rw [List.find?_cons, List.find?_cons, h a List.mem_cons_self, find_congr fun x hx => h x (List.mem_cons_of_mem _ hx)]
/-- the first table of all -/
theorem found_all {n : Nat} (hn : 1 ≤ n) {u v : List Nat} (hu : ∀ l ∈ u, l < 2) (hv : ∀ l ∈ v, l < 2) : (comp (chs n false) (2 * n) []).find? (sepE u v) = (separatingTable n u v).map flatten := by
  rw [← flatten_all, List.find?_map]
  unfold separatingTable
  rw [find_congr (p := sepE u v ∘ flatten) (q := separates u v) fun t ht => sepE_table hn (mem_all ht) hu hv]

/-! ### the reversible ones -/
theorem mem_insert {x : Nat} : ∀ {l m : List Nat}, m ∈ insertEverywhere x l ↔ ∃ a b, l = a ++ b ∧ m = a ++ x :: b
  | [], m => by
    constructor
    · intro h
      have : m = [x] := by simpa [insertEverywhere] using h
      exact ⟨[], [], rfl, this⟩
    · rintro ⟨a, b, h, rfl⟩
      have h1 : a = [] ∧ b = [] := by simpa using h.symm
      rw [h1.1, h1.2]
      simp [insertEverywhere]
  | y :: l, m => by
    constructor
    · intro h
      rcases List.mem_cons.mp (show m ∈ (x :: y :: l) :: (insertEverywhere x l).map fun r => y :: r from h) with rfl | h
      · exact ⟨[], y :: l, rfl, rfl⟩
      · obtain ⟨r, hr, rfl⟩ := List.mem_map.mp h
        obtain ⟨a, b, rfl, rfl⟩ := mem_insert.mp hr
        exact ⟨y :: a, b, rfl, rfl⟩
    · rintro ⟨a, b, h, rfl⟩
      show _ ∈ (x :: y :: l) :: (insertEverywhere x l).map fun r => y :: r
      cases a with
      | nil =>
        have h : y :: l = b := h
        rw [← h]
        exact List.mem_cons_self
      | cons z a =>
        have h : y :: l = z :: (a ++ b) := h
        injection h with h1 h2
        refine List.mem_cons_of_mem _ (List.mem_map.mpr ⟨a ++ x :: b, mem_insert.mpr ⟨a, b, h2, rfl⟩, ?_⟩)
        rw [h1]
        rfl
/-- different states below n, n of them -/
structure Prm (n : Nat) (l : List Nat) : Prop where
  len : l.length = n
  lt : ∀ s ∈ l, s < n
  nd : l.Nodup
theorem mem_perms : ∀ {n : Nat} {l : List Nat}, l ∈ permutations n ↔ Prm n l
  | 0, l => by
    constructor
    · intro h
      have : l = [] := by simpa [permutations] using h
      subst this
      exact ⟨rfl, (fun _ h => nomatch h), List.nodup_nil⟩
    · intro h
      have : l = [] := List.eq_nil_of_length_eq_zero h.len
      subst this
      simp [permutations]
  | k + 1, l => by
    constructor
    · intro h
      obtain ⟨m, hm, h⟩ := List.mem_flatMap.mp (show l ∈ (permutations k).flatMap (insertEverywhere k) from h)
      obtain ⟨a, b, rfl, rfl⟩ := mem_insert.mp h
      have p := mem_perms.mp hm
      have pm : (a ++ k :: b).Perm (k :: (a ++ b)) := List.perm_middle
      have hk : k ∉ a ++ b := fun h => Nat.lt_irrefl _ (p.lt k h)
      refine ⟨?_, fun s hs => ?_, ?_⟩
      · rw [pm.length_eq, List.length_cons, p.len]
      · rcases List.mem_cons.mp (pm.mem_iff.mp hs) with rfl | hs
        · exact Nat.lt_succ_self _
        · exact Nat.lt_succ_of_lt (p.lt s hs)
      · exact pm.symm.nodup (List.nodup_cons.mpr ⟨hk, p.nd⟩)
    · intro p
      have hk : k ∈ l := by
        apply Classical.byContradiction
        intro hk
        have sub : l ⊆ List.range k := fun s hs => by
          have h1 := p.lt s hs
          have h2 : s ≠ k := fun e => hk (e ▸ hs)
          exact List.mem_range.mpr (by omega)
        have le := List.Nodup.length_le_of_subset p.nd sub
        rw [List.length_range, p.len] at le
        omega
      obtain ⟨a, b, rfl⟩ := List.append_of_mem hk
      have pm : (a ++ k :: b).Perm (k :: (a ++ b)) := List.perm_middle
      have nd := pm.nodup p.nd
      obtain ⟨hk', nd'⟩ := List.nodup_cons.mp nd
      refine List.mem_flatMap.mpr ⟨a ++ b, mem_perms.mpr ⟨?_, fun s hs => ?_, nd'⟩, mem_insert.mpr ⟨a, b, rfl, rfl⟩⟩
      · have := p.len
        rw [pm.length_eq, List.length_cons] at this
        omega
      · have h1 := p.lt s (pm.mem_iff.mpr (List.mem_cons_of_mem _ hs))
        have h2 : s ≠ k := fun e => hk' (e ▸ hs)
        omega
theorem evens_flat : ∀ t : Table, evens (flatten t) = t.map (·.1)
  | [] => rfl
  | (a, b) :: t => by
    rw [flatten_cons]
    show a :: evens (flatten t) = a :: t.map (·.1)
    rw [evens_flat t]
theorem odds_flat : ∀ t : Table, odds (flatten t) = t.map (·.2)
  | [] => rfl
  | [(a, b)] => rfl
  | (a, b) :: (c, d) :: t => by
    have h := odds_flat ((c, d) :: t)
    rw [flatten_cons] at h ⊢
    rw [flatten_cons]
    show b :: evens (d :: flatten t) = b :: ((c, d) :: t).map (·.2)
    rw [← h]
    rfl
theorem unflat : ∀ (n : Nat) {e : List Nat}, e.length = 2 * n → ∃ t : Table, t.length = n ∧ flatten t = e
  | 0, e, h => ⟨[], rfl, by rw [List.eq_nil_of_length_eq_zero h]; rfl⟩
  | n + 1, e, h => by
    match e, h with
    | a :: b :: r, h =>
      obtain ⟨t, h1, h2⟩ := unflat n (e := r) (by simp only [List.length_cons] at h; omega)
      exact ⟨(a, b) :: t, by rw [List.length_cons, h1], by rw [flatten_cons, h2]⟩
    | [a], h => simp at h; omega
    | [], h => simp at h
theorem mem_reversible {n : Nat} {t : Table} : t ∈ reversibleTables n ↔ Prm n (t.map (·.1)) ∧ Prm n (t.map (·.2)) := by
  unfold reversibleTables
  rw [List.mem_flatMap]
  constructor
  · rintro ⟨a, ha, h⟩
    obtain ⟨b, hb, rfl⟩ := List.mem_map.mp h
    have pa := mem_perms.mp ha
    have pb := mem_perms.mp hb
    have e1 : (a.zip b).map (·.1) = a := List.map_fst_zip (by rw [pa.len, pb.len]; exact Nat.le_refl _)
    have e2 : (a.zip b).map (·.2) = b := List.map_snd_zip (by rw [pa.len, pb.len]; exact Nat.le_refl _)
    rw [e1, e2]
    exact ⟨pa, pb⟩
  · rintro ⟨pa, pb⟩
    refine ⟨_, mem_perms.mpr pa, List.mem_map.mpr ⟨_, mem_perms.mpr pb, ?_⟩⟩
    exact (List.zip_of_prod rfl rfl : t = _).symm
/-- by entries -/
theorem rev_iff {n : Nat} {t : Table} : t ∈ reversibleTables n ↔ Good n true (flatten t) ∧ (flatten t).length = 2 * n := by
  rw [mem_reversible]
  constructor
  · rintro ⟨pa, pb⟩
    have hl : t.length = n := by have := pa.len; rwa [List.length_map] at this
    refine ⟨⟨by rw [flatten_length, hl]; exact Nat.le_refl _, fun s hs => ?_, fun _ => by rw [evens_flat]; exact pa.nd, fun _ => by rw [odds_flat]; exact pb.nd⟩, by rw [flatten_length, hl]⟩
    obtain ⟨p, hp, hs⟩ := List.mem_flatMap.mp hs
    rcases List.mem_cons.mp hs with rfl | hs
    · exact pa.lt _ (List.mem_map.mpr ⟨p, hp, rfl⟩)
    · have : s = p.2 := by simpa using hs
      rw [this]
      exact pb.lt _ (List.mem_map.mpr ⟨p, hp, rfl⟩)
  · rintro ⟨g, hl⟩
    have hl' : t.length = n := by rw [flatten_length] at hl; omega
    refine ⟨⟨by rw [List.length_map, hl'], fun s hs => ?_, by rw [← evens_flat]; exact g.ev rfl⟩, ⟨by rw [List.length_map, hl'], fun s hs => ?_, by rw [← odds_flat]; exact g.od rfl⟩⟩
    · rw [← evens_flat] at hs
      exact g.lt s (evens_mem hs)
    · rw [← odds_flat] at hs
      exact g.lt s (odds_mem hs)
theorem Good.prefix {n : Nat} {both : Bool} {e x : List Nat} (g : Good n both (e ++ x)) : Good n both e := by
  refine ⟨by have := g.len; rw [List.length_append] at this; omega, fun s hs => g.lt s (List.mem_append_left _ hs), fun hb => ?_, fun hb => ?_⟩
  · have h := g.ev hb
    by_cases hp : e.length % 2 = 0
    · rw [evens_append_even e x hp] at h
      exact (List.nodup_append.mp h).1
    · rw [evens_append_odd e x (by omega)] at h
      exact (List.nodup_append.mp h).1
  · have h := g.od hb
    by_cases hp : e.length % 2 = 0
    · rw [odds_append_even e x hp] at h
      exact (List.nodup_append.mp h).1
    · rw [odds_append_odd e x (by omega)] at h
      exact (List.nodup_append.mp h).1
/-- what is good is met -/
theorem good_mem {n : Nat} {both : Bool} : ∀ (k : Nat) (e x : List Nat), x.length = k → Good n both (e ++ x) → (e ++ x) ∈ comp (chs n both) k e
  | 0, e, x, hx, _ => by
    have : x = [] := List.eq_nil_of_length_eq_zero hx
    subst this
    rw [List.append_nil]
    exact List.mem_cons_self
  | k + 1, e, x, hx, g => by
    match x, hx with
    | s :: x, hx =>
      have e1 : e ++ s :: x = (e ++ [s]) ++ x := by simp
      rw [e1] at g ⊢
      refine List.mem_flatMap.mpr ⟨s, mem_chs.mpr ⟨g.lt s (by simp), fun hb hs => ?_⟩, good_mem k (e ++ [s]) x (by simpa using hx) g⟩
      have g1 := g.prefix
      unfold used at hs
      by_cases hp : e.length % 2 = 0
      · rw [if_pos hp] at hs
        have h := g1.ev hb
        rw [evens_append_even e [s] hp] at h
        exact (List.nodup_append.mp h).2.2 s hs s (by simp [evens]) rfl
      · rw [if_neg hp] at hs
        have h := g1.od hb
        rw [odds_append_odd e [s] (by omega)] at h
        exact (List.nodup_append.mp h).2.2 s hs s (by simp [evens]) rfl

/-! ### order -/
theorem lex_irrefl : ∀ l : List Nat, lexLess l l = false
  | [] => rfl
  | a :: l => by simp [lexLess, lex_irrefl l]
theorem lex_trans : ∀ {a b c : List Nat}, lexLess a b = true → lexLess b c = true → lexLess a c = true
  | [], _, _, h, _ => by simp [lexLess] at h
  | _ :: _, [], _, h, _ => by simp [lexLess] at h
  | _ :: _, _ :: _, [], _, h => by simp [lexLess] at h
  | x :: a, y :: b, z :: c, h1, h2 => by
    simp only [lexLess, Bool.or_eq_true, decide_eq_true_eq, Bool.and_eq_true, beq_iff_eq] at h1 h2 ⊢
    rcases h1 with h1 | ⟨h1, h1'⟩
    · rcases h2 with h2 | ⟨h2, _⟩
      · exact .inl (Nat.lt_trans h1 h2)
      · exact .inl (by omega)
    · rcases h2 with h2 | ⟨h2, h2'⟩
      · exact .inl (by omega)
      · exact .inr ⟨by omega, lex_trans h1' h2'⟩
theorem lex_total : ∀ {a b : List Nat}, a.length = b.length → lexLess a b = true ∨ a = b ∨ lexLess b a = true
  | [], [], _ => .inr (.inl rfl)
  | [], _ :: _, h => by simp at h
  | _ :: _, [], h => by simp at h
  | x :: a, y :: b, h => by
    simp only [lexLess, Bool.or_eq_true, decide_eq_true_eq, Bool.and_eq_true, beq_iff_eq]
    rcases Nat.lt_trichotomy x y with h1 | h1 | h1
    · exact .inl (.inl h1)
    · rcases lex_total (a := a) (b := b) (by simpa using h) with h2 | h2 | h2
      · exact .inl (.inr ⟨h1, h2⟩)
      · exact .inr (.inl (by rw [h1, h2]))
      · exact .inr (.inr (.inr ⟨h1.symm, h2⟩))
    · exact .inr (.inr (.inl h1))
theorem lex_append (e : List Nat) {a b : List Nat} (h : lexLess a b = true) : lexLess (e ++ a) (e ++ b) = true := by
  induction e with
  | nil => exact h
  | cons x e ih => simp [lexLess, ih]
theorem comp_sorted {n : Nat} {both : Bool} : ∀ (k : Nat) (e : List Nat), (comp (chs n both) k e).Pairwise fun a b => lexLess a b = true
  | 0, e => List.pairwise_singleton _ _
  | k + 1, e => by
    show ((chs n both e).flatMap fun s => comp (chs n both) k (e ++ [s])).Pairwise _
    have key : ∀ l : List Nat, l.Pairwise (· < ·) → (l.flatMap fun s => comp (chs n both) k (e ++ [s])).Pairwise fun a b => lexLess a b = true := by
      intro l hl
      induction l with
      | nil => exact List.Pairwise.nil
      | cons s r ih =>
        obtain ⟨h1, h2⟩ := List.pairwise_cons.mp hl
        rw [List.flatMap_cons, List.pairwise_append]
        refine ⟨comp_sorted k _, ih h2, fun a ha b hb => ?_⟩
        obtain ⟨q, hq, hb⟩ := List.mem_flatMap.mp hb
        obtain ⟨y, rfl, _⟩ := comp_prefix k ha
        obtain ⟨z, rfl, _⟩ := comp_prefix k hb
        rw [List.append_assoc, List.append_assoc]
        refine lex_append e ?_
        have := h1 q hq
        simp [lexLess, this]
    exact key _ chs_nodup
/-- the least of some tables -/
def stepT (o : Option Table) (t : Table) : Option Table := match o with
  | some s => if lexLess (flatten t) (flatten s) then some t else some s
  | none => some t
theorem firstTable_eq (l : List Table) : firstTable l = l.foldl stepT none := rfl
theorem least_of (n : Nat) : ∀ (l : List Table) (s : Table), s.length = n → (∀ t ∈ l, t.length = n) → ∃ m, l.foldl stepT (some s) = some m ∧ m ∈ s :: l ∧ ∀ x ∈ s :: l, lexLess (flatten x) (flatten m) = false
  | [], s, _, _ => ⟨s, rfl, List.mem_cons_self, fun x hx => by
      have : x = s := by simpa using hx
      rw [this]; exact lex_irrefl _⟩
  | t :: l, s, hs, hl => by
    have ht := hl t List.mem_cons_self
    have hl' := fun x hx => hl x (List.mem_cons_of_mem _ hx)
    have fl : ∀ {a b : Table}, a.length = n → b.length = n → (flatten a).length = (flatten b).length := fun {a b} h1 h2 => by rw [flatten_length, flatten_length, h1, h2]
    show ∃ m, l.foldl stepT (if lexLess (flatten t) (flatten s) then some t else some s) = some m ∧ _
    by_cases c : lexLess (flatten t) (flatten s) = true
    · rw [if_pos c]
      obtain ⟨m, e, hm, least⟩ := least_of n l t ht hl'
      refine ⟨m, e, List.mem_cons_of_mem _ hm, fun x hx => ?_⟩
      rcases List.mem_cons.mp hx with rfl | hx
      · cases q : lexLess (flatten x) (flatten m) with
        | false => rfl
        | true =>
          have := lex_trans c q
          rw [least t List.mem_cons_self] at this
          cases this
      · exact least x hx
    · rw [if_neg c]
      obtain ⟨m, e, hm, least⟩ := least_of n l s hs hl'
      have hm' : m ∈ s :: t :: l := by
        rcases List.mem_cons.mp hm with rfl | h
        · exact List.mem_cons_self
        · exact List.mem_cons_of_mem _ (List.mem_cons_of_mem _ h)
      refine ⟨m, e, hm', fun x hx => ?_⟩
      rcases List.mem_cons.mp hx with rfl | hx
      · exact least _ List.mem_cons_self
      · rcases List.mem_cons.mp hx with rfl | hx
        · cases q : lexLess (flatten x) (flatten m) with
          | false => rfl
          | true =>
            rcases lex_total (fl hs ht) with h1 | h1 | h1
            · have := lex_trans h1 q
              rw [least s List.mem_cons_self] at this
              cases this
            · rw [← h1, least s List.mem_cons_self] at q
              cases q
            · exact absurd h1 c
        · exact least x (List.mem_cons_of_mem _ hx)
theorem find_least {p : List Nat → Bool} : ∀ {l : List (List Nat)} {x : List Nat}, l.Pairwise (fun a b => lexLess a b = true) → l.find? p = some x → ∀ y ∈ l, p y = true → y = x ∨ lexLess x y = true
  | [], _, _, h, _, _, _ => by cases h
  | a :: l, x, hl, h, y, hy, py => by
    obtain ⟨h1, h2⟩ := List.pairwise_cons.mp hl
    rw [List.find?_cons] at h
    cases pa : p a with
    | true =>
      rw [pa] at h
      have e : a = x := Option.some.inj h
      subst e
      rcases List.mem_cons.mp hy with rfl | hy
      · exact .inl rfl
      · exact .inr (h1 y hy)
    | false =>
      rw [pa] at h
      rcases List.mem_cons.mp hy with rfl | hy
      · rw [pa] at py; cases py
      · exact find_least h2 h y hy py
/-- the first reversible table -/
theorem found_rev {n : Nat} (hn : 1 ≤ n) {u v : List Nat} (hu : ∀ l ∈ u, l < 2) (hv : ∀ l ∈ v, l < 2) : (comp (chs n true) (2 * n) []).find? (sepE u v) = (separatingReversible n u v).map flatten := by
  unfold separatingReversible
  have tabs : ∀ t, t ∈ reversibleTables n → Tab n t := fun t ht => by
    obtain ⟨g, hl⟩ := rev_iff.mp ht
    have hl' : t.length = n := by rw [flatten_length] at hl; omega
    refine ⟨hl', fun p hp => ⟨g.lt _ (List.mem_flatMap.mpr ⟨p, hp, List.mem_cons_self⟩), g.lt _ (List.mem_flatMap.mpr ⟨p, hp, by simp⟩)⟩⟩
  have memC : ∀ {x : List Nat}, x ∈ comp (chs n true) (2 * n) [] → ∃ t ∈ reversibleTables n, flatten t = x := fun {x} hx => by
    obtain ⟨g, hl⟩ := comp_good (n := n) (both := true) (2 * n) [] (Good.nil n true) (by simp) x hx
    obtain ⟨t, _, rfl⟩ := unflat n hl
    exact ⟨t, rev_iff.mpr ⟨g, hl⟩, rfl⟩
  have memR : ∀ {t : Table}, t ∈ reversibleTables n → flatten t ∈ comp (chs n true) (2 * n) [] := fun {t} ht => by
    obtain ⟨g, hl⟩ := rev_iff.mp ht
    exact good_mem (n := n) (both := true) (2 * n) [] (flatten t) hl g
  have memF : ∀ t, t ∈ (reversibleTables n).filter (separates u v) ↔ t ∈ reversibleTables n ∧ sepE u v (flatten t) = true := fun t => by
    rw [List.mem_filter]
    constructor
    · rintro ⟨h1, h2⟩; exact ⟨h1, by rw [sepE_table hn (tabs t h1) hu hv]; exact h2⟩
    · rintro ⟨h1, h2⟩; exact ⟨h1, by rw [sepE_table hn (tabs t h1) hu hv] at h2; exact h2⟩
  rw [firstTable_eq]
  cases hf : (reversibleTables n).filter (separates u v) with
  | nil =>
    refine List.find?_eq_none.mpr fun x hx hs => ?_
    obtain ⟨t, ht, rfl⟩ := memC hx
    have := (memF t).mpr ⟨ht, hs⟩
    rw [hf] at this
    cases this
  | cons s l =>
    rw [hf] at memF
    have len : ∀ t ∈ s :: l, t.length = n := fun t ht => (tabs t ((memF t).mp ht).1).len
    obtain ⟨m, em, hm, least⟩ := least_of n l s (len s List.mem_cons_self) fun t ht => len t (List.mem_cons_of_mem _ ht)
    have e1 : (s :: l).foldl stepT none = some m := em
    rw [e1]
    obtain ⟨hmr, hms⟩ := (memF m).mp hm
    cases hq : (comp (chs n true) (2 * n) []).find? (sepE u v) with
    | none => exact absurd hms (by have := List.find?_eq_none.mp hq _ (memR hmr); simpa using this)
    | some x =>
      show some x = some (flatten m)
      congr 1
      have hx1 := List.mem_of_find?_eq_some hq
      have hx2 := List.find?_some hq
      obtain ⟨t, ht, rfl⟩ := memC hx1
      rcases find_least (comp_sorted _ _) hq _ (memR hmr) hms with h | h
      · exact h.symm
      · rw [least t ((memF t).mpr ⟨ht, hx2⟩)] at h
        cases h
/-- what the search finds -/
def sepT (n : Nat) (both : Bool) (u v : List Nat) : Option Table := if both = true then separatingReversible n u v else separatingTable n u v
theorem found {n : Nat} {both : Bool} (hn : 1 ≤ n) {u v : List Nat} (hu : ∀ l ∈ u, l < 2) (hv : ∀ l ∈ v, l < 2) : (held n both [[]]).find? (sepE u v) = (sepT n both u v).map flatten := by
  have e : held n both [[]] = comp (chs n both) (2 * n) [] := by simp [held]
  rw [e]
  unfold sepT
  cases both with
  | true => exact found_rev hn hu hv
  | false => exact found_all hn hu hv
theorem sepT_len {n : Nat} {both : Bool} {u v : List Nat} {t : Table} (hn : 1 ≤ n) (hu : ∀ l ∈ u, l < 2) (hv : ∀ l ∈ v, l < 2) (h : sepT n both u v = some t) : t.length = n ∧ ∀ p ∈ t, p.1 < n ∧ p.2 < n := by
  have hf := found (both := both) hn hu hv
  rw [h] at hf
  have hm := List.mem_of_find?_eq_some hf
  have e : held n both [[]] = comp (chs n both) (2 * n) [] := by simp [held]
  rw [e] at hm
  obtain ⟨g, hl⟩ := comp_good (n := n) (both := both) (2 * n) [] (Good.nil n both) (by simp) _ hm
  rw [flatten_length] at hl
  exact ⟨by omega, fun p hp => ⟨g.lt _ (List.mem_flatMap.mpr ⟨p, hp, List.mem_cons_self⟩), g.lt _ (List.mem_flatMap.mpr ⟨p, hp, by simp⟩)⟩⟩
end Sw
set_option Elab.async false
set_option linter.all false
set_option maxRecDepth 100000
set_option maxHeartbeats 2000000
/-! Separating words: the text by places, what the top has written, short rules, the heap. -/
namespace Sw
open PySem PySem.Spec PyProof.Rows L2

/-! ### the text by places -/
def top (i : Nat) : Stmt := PySem.Challenge.pw_separatedwords_s01_answers.main.body.getD i (.Pass ⟨0, 0, 0, 0⟩)
abbrev s_end_of : Stmt := top 3
abbrev s_is_reversible : Stmt := top 4
abbrev s_known_end : Stmt := top 5
abbrev s_choices : Stmt := top 6
abbrev s_filled : Stmt := top 7
abbrev s_first_separating : Stmt := top 8
abbrev s_fewest : Stmt := top 9
abbrev s_difference : Stmt := top 10
abbrev s_find_counter : Stmt := top 11
abbrev s_counter : Stmt := top 12
abbrev s_all_tables : Stmt := top 13
abbrev s_all_words : Stmt := top 14
abbrev s_representatives : Stmt := top 15
abbrev s_Run_init : Stmt := inClass (top 16) 0
abbrev s_Run_told : Stmt := inClass (top 16) 1
abbrev s_Run_undo : Stmt := inClass (top 16) 2
abbrev s_Enumerator_init : Stmt := inClass (top 17) 0
abbrev s_Enumerator_take : Stmt := inClass (top 17) 1
abbrev s_Enumerator_skip : Stmt := inClass (top 17) 2
abbrev s_codes_of : Stmt := top 30
abbrev s_integer : Stmt := top 31
abbrev s_text : Stmt := top 32
abbrev s_truth : Stmt := top 33
abbrev s_listed : Stmt := top 34
abbrev s_integers : Stmt := top 35
abbrev s_record : Stmt := top 36
abbrev s_low_first : Stmt := top 37
abbrev s_octets_of : Stmt := top 38
abbrev s_Request_init : Stmt := inClass (top 39) 0
abbrev s_Request_number : Stmt := inClass (top 39) 1
abbrev s_Request_plain : Stmt := inClass (top 39) 2
abbrev s_Request_value : Stmt := inClass (top 39) 3
abbrev s_Request_whole : Stmt := inClass (top 39) 4
abbrev s_Refused_init : Stmt := inClass (top 40) 0
abbrev s_wrong_kind : Stmt := top 41
abbrev s_out_of_range : Stmt := top 42
abbrev s_is_integer : Stmt := top 50
abbrev s_number_of : Stmt := top 51
abbrev s_table_of : Stmt := top 52
abbrev s_letter_of : Stmt := top 53
abbrev s_word_of : Stmt := top 54
abbrev s_told_table : Stmt := top 55
abbrev s_told_letter : Stmt := top 56
abbrev s_told_row : Stmt := top 57
abbrev s_told_step : Stmt := top 58
abbrev s_told_thrown : Stmt := top 59
abbrev s_told_result : Stmt := top 60
abbrev s_on_words : Stmt := top 61
abbrev s_rows_of : Stmt := top 62
abbrev s_on_tables : Stmt := top 63
abbrev s_told_run : Stmt := top 64
abbrev s_on_run : Stmt := top 65
abbrev s_continued : Stmt := top 66
abbrev s_on_enumerator : Stmt := top 67
abbrev s_Library_init : Stmt := inClass (top 68) 0
abbrev s_Library_call : Stmt := inClass (top 68) 1
abbrev s_answered : Stmt := top 69
abbrev s_answers : Stmt := top 70
theorem sc_end_of : FnScope ["table", "word", "state", "letter"] ["table", "word"] (defScope s_end_of) := ⟨rfl, rfl, rfl, by decide +kernel, rfl, by decide +kernel, by decide +kernel⟩
theorem sc_is_reversible : FnScope ["table", "letter", "row"] ["table"] (defScope s_is_reversible) := ⟨rfl, rfl, rfl, by decide +kernel, rfl, by decide +kernel, by decide +kernel⟩
theorem sc_known_end : FnScope ["entries", "word", "state", "letter", "at"] ["entries", "word"] (defScope s_known_end) := ⟨rfl, rfl, rfl, by decide +kernel, rfl, by decide +kernel, by decide +kernel⟩
theorem sc_choices : FnScope ["states", "entries", "is_both_ways", "letter", "used", "state"] ["states", "entries", "is_both_ways"] (defScope s_choices) := ⟨rfl, rfl, rfl, by decide +kernel, rfl, by decide +kernel, by decide +kernel⟩
theorem sc_filled : FnScope ["states", "entries", "is_both_ways"] ["states", "entries", "is_both_ways"] (defScope s_filled) := ⟨rfl, rfl, rfl, by decide +kernel, rfl, by decide +kernel, by decide +kernel⟩
theorem sc_first_separating : FnScope ["states", "first", "second", "is_both_ways", "stack", "entries", "one", "other", "whole", "at", "state"] ["states", "first", "second", "is_both_ways"] (defScope s_first_separating) := ⟨rfl, rfl, rfl, by decide +kernel, rfl, by decide +kernel, by decide +kernel⟩
theorem sc_fewest : FnScope ["first", "second", "is_both_ways", "states"] ["first", "second", "is_both_ways"] (defScope s_fewest) := ⟨rfl, rfl, rfl, by decide +kernel, rfl, by decide +kernel, by decide +kernel⟩
theorem sc_difference : FnScope ["first", "second", "letter"] ["first", "second", "letter"] (defScope s_difference) := ⟨rfl, rfl, rfl, by decide +kernel, rfl, by decide +kernel, by decide +kernel⟩
theorem sc_find_counter : FnScope ["first", "second", "gaps", "letter", "number"] ["first", "second"] (defScope s_find_counter) := ⟨rfl, rfl, rfl, by decide +kernel, rfl, by decide +kernel, by decide +kernel⟩
theorem sc_counter : FnScope ["letter", "states", "found", "state", "later"] ["letter", "states"] (defScope s_counter) := ⟨rfl, rfl, rfl, by decide +kernel, rfl, by decide +kernel, by decide +kernel⟩
theorem sc_all_tables : FnScope ["states", "rows", "turn", "longer", "row", "state"] ["states"] (defScope s_all_tables) := ⟨rfl, rfl, rfl, by decide +kernel, rfl, by decide +kernel, by decide +kernel⟩
theorem sc_all_words : FnScope ["longest", "rows", "found", "turn", "longer", "row", "letter"] ["longest"] (defScope s_all_words) := ⟨rfl, rfl, rfl, by decide +kernel, rfl, by decide +kernel, by decide +kernel⟩
theorem sc_representatives : FnScope ["states", "longest", "tables", "counts", "firsts", "word", "key", "entries"] ["states", "longest"] (defScope s_representatives) := ⟨rfl, rfl, rfl, by decide +kernel, rfl, by decide +kernel, by decide +kernel⟩
theorem sc_Run_init : FnScope ["self", "table"] ["self", "table"] (defScope s_Run_init) := ⟨rfl, rfl, rfl, by decide +kernel, rfl, by decide +kernel, by decide +kernel⟩
theorem sc_Run_told : FnScope ["self", "state", "seen", "letter"] ["self"] (defScope s_Run_told) := ⟨rfl, rfl, rfl, by decide +kernel, rfl, by decide +kernel, by decide +kernel⟩
theorem sc_Run_undo : FnScope ["self"] ["self"] (defScope s_Run_undo) := ⟨rfl, rfl, rfl, by decide +kernel, rfl, by decide +kernel, by decide +kernel⟩
theorem sc_Enumerator_init : FnScope ["self", "rows"] ["self", "rows"] (defScope s_Enumerator_init) := ⟨rfl, rfl, rfl, by decide +kernel, rfl, by decide +kernel, by decide +kernel⟩
theorem sc_Enumerator_take : FnScope ["self", "found"] ["self"] (defScope s_Enumerator_take) := ⟨rfl, rfl, rfl, by decide +kernel, rfl, by decide +kernel, by decide +kernel⟩
theorem sc_Enumerator_skip : FnScope ["self", "length", "row"] ["self", "length"] (defScope s_Enumerator_skip) := ⟨rfl, rfl, rfl, by decide +kernel, rfl, by decide +kernel, by decide +kernel⟩
theorem sc_codes_of : FnScope ["text", "sign"] ["text"] (defScope s_codes_of) := ⟨rfl, rfl, rfl, by decide +kernel, rfl, by decide +kernel, by decide +kernel⟩
theorem sc_integer : FnScope ["number"] ["number"] (defScope s_integer) := ⟨rfl, rfl, rfl, by decide +kernel, rfl, by decide +kernel, by decide +kernel⟩
theorem sc_text : FnScope ["string"] ["string"] (defScope s_text) := ⟨rfl, rfl, rfl, by decide +kernel, rfl, by decide +kernel, by decide +kernel⟩
theorem sc_truth : FnScope ["told"] ["told"] (defScope s_truth) := ⟨rfl, rfl, rfl, by decide +kernel, rfl, by decide +kernel, by decide +kernel⟩
theorem sc_listed : FnScope ["rows"] ["rows"] (defScope s_listed) := ⟨rfl, rfl, rfl, by decide +kernel, rfl, by decide +kernel, by decide +kernel⟩
theorem sc_integers : FnScope ["rows", "number"] ["rows"] (defScope s_integers) := ⟨rfl, rfl, rfl, by decide +kernel, rfl, by decide +kernel, by decide +kernel⟩
theorem sc_record : FnScope ["pairs", "name", "value"] ["pairs"] (defScope s_record) := ⟨rfl, rfl, rfl, by decide +kernel, rfl, by decide +kernel, by decide +kernel⟩
theorem sc_low_first : FnScope ["number", "many", "found", "turn"] ["number", "many"] (defScope s_low_first) := ⟨rfl, rfl, rfl, by decide +kernel, rfl, by decide +kernel, by decide +kernel⟩
theorem sc_octets_of : FnScope ["value", "kind", "found", "part"] ["value"] (defScope s_octets_of) := ⟨rfl, rfl, rfl, by decide +kernel, rfl, by decide +kernel, by decide +kernel⟩
theorem sc_Request_init : FnScope ["self", "octets"] ["self", "octets"] (defScope s_Request_init) := ⟨rfl, rfl, rfl, by decide +kernel, rfl, by decide +kernel, by decide +kernel⟩
theorem sc_Request_number : FnScope ["self", "many", "found", "back"] ["self", "many"] (defScope s_Request_number) := ⟨rfl, rfl, rfl, by decide +kernel, rfl, by decide +kernel, by decide +kernel⟩
theorem sc_Request_plain : FnScope ["self", "many"] ["self"] (defScope s_Request_plain) := ⟨rfl, rfl, rfl, by decide +kernel, rfl, by decide +kernel, by decide +kernel⟩
theorem sc_Request_value : FnScope ["self", "kind", "found", "rows", "turn", "name"] ["self"] (defScope s_Request_value) := ⟨rfl, rfl, rfl, by decide +kernel, rfl, by decide +kernel, by decide +kernel⟩
theorem sc_Request_whole : FnScope ["self", "door", "turn"] ["self"] (defScope s_Request_whole) := ⟨rfl, rfl, rfl, by decide +kernel, rfl, by decide +kernel, by decide +kernel⟩
theorem sc_Refused_init : FnScope ["self", "order", "message", "further"] ["self", "order", "message", "further"] (defScope s_Refused_init) := ⟨rfl, rfl, rfl, by decide +kernel, rfl, by decide +kernel, by decide +kernel⟩
theorem sc_wrong_kind : FnScope ["wrong", "message"] ["wrong", "message"] (defScope s_wrong_kind) := ⟨rfl, rfl, rfl, by decide +kernel, rfl, by decide +kernel, by decide +kernel⟩
theorem sc_out_of_range : FnScope ["wrong", "message"] ["wrong", "message"] (defScope s_out_of_range) := ⟨rfl, rfl, rfl, by decide +kernel, rfl, by decide +kernel, by decide +kernel⟩
theorem sc_is_integer : FnScope ["value", "least", "most"] ["value", "least", "most"] (defScope s_is_integer) := ⟨rfl, rfl, rfl, by decide +kernel, rfl, by decide +kernel, by decide +kernel⟩
theorem sc_number_of : FnScope ["value", "name", "least", "most", "wrong"] ["value", "name", "least", "most"] (defScope s_number_of) := ⟨rfl, rfl, rfl, by decide +kernel, rfl, by decide +kernel, by decide +kernel⟩
theorem sc_table_of : FnScope ["value", "wrong", "last", "found", "at", "row", "right", "one"] ["value"] (defScope s_table_of) := ⟨rfl, rfl, rfl, by decide +kernel, rfl, by decide +kernel, by decide +kernel⟩
theorem sc_letter_of : FnScope ["value"] ["value"] (defScope s_letter_of) := ⟨rfl, rfl, rfl, by decide +kernel, rfl, by decide +kernel, by decide +kernel⟩
theorem sc_word_of : FnScope ["value", "name", "right", "code"] ["value", "name"] (defScope s_word_of) := ⟨rfl, rfl, rfl, by decide +kernel, rfl, by decide +kernel, by decide +kernel⟩
theorem sc_told_table : FnScope ["table", "row"] ["table"] (defScope s_told_table) := ⟨rfl, rfl, rfl, by decide +kernel, rfl, by decide +kernel, by decide +kernel⟩
theorem sc_told_letter : FnScope ["letter"] ["letter"] (defScope s_told_letter) := ⟨rfl, rfl, rfl, by decide +kernel, rfl, by decide +kernel, by decide +kernel⟩
theorem sc_told_row : FnScope ["row", "word", "count", "letter"] ["row"] (defScope s_told_row) := ⟨rfl, rfl, rfl, by decide +kernel, rfl, by decide +kernel, by decide +kernel⟩
theorem sc_told_step : FnScope ["value", "is_done"] ["value", "is_done"] (defScope s_told_step) := ⟨rfl, rfl, rfl, by decide +kernel, rfl, by decide +kernel, by decide +kernel⟩
theorem sc_told_thrown : FnScope ["value"] ["value"] (defScope s_told_thrown) := ⟨rfl, rfl, rfl, by decide +kernel, rfl, by decide +kernel, by decide +kernel⟩
theorem sc_told_result : FnScope ["value", "is_done"] ["value", "is_done"] (defScope s_told_result) := ⟨rfl, rfl, rfl, by decide +kernel, rfl, by decide +kernel, by decide +kernel⟩
theorem sc_on_words : FnScope ["door", "given", "states", "first", "second", "found", "pair"] ["door", "given"] (defScope s_on_words) := ⟨rfl, rfl, rfl, by decide +kernel, rfl, by decide +kernel, by decide +kernel⟩
theorem sc_rows_of : FnScope ["first", "second", "states"] ["first", "second"] (defScope s_rows_of) := ⟨rfl, rfl, rfl, by decide +kernel, rfl, by decide +kernel, by decide +kernel⟩
theorem sc_on_tables : FnScope ["door", "given", "table", "letter", "row"] ["door", "given"] (defScope s_on_tables) := ⟨rfl, rfl, rfl, by decide +kernel, rfl, by decide +kernel, by decide +kernel⟩
theorem sc_told_run : FnScope ["run", "length", "state", "seen"] ["run"] (defScope s_told_run) := ⟨rfl, rfl, rfl, by decide +kernel, rfl, by decide +kernel, by decide +kernel⟩
theorem sc_on_run : FnScope ["run", "door", "value", "is_undo", "letter"] ["run", "door", "value"] (defScope s_on_run) := ⟨rfl, rfl, rfl, by decide +kernel, rfl, by decide +kernel, by decide +kernel⟩
theorem sc_continued : FnScope ["enumerator", "row"] ["enumerator"] (defScope s_continued) := ⟨rfl, rfl, rfl, by decide +kernel, rfl, by decide +kernel, by decide +kernel⟩
theorem sc_on_enumerator : FnScope ["own", "door", "value", "told", "is_done", "found"] ["own", "door", "value"] (defScope s_on_enumerator) := ⟨rfl, rfl, rfl, by decide +kernel, rfl, by decide +kernel, by decide +kernel⟩
theorem sc_Library_init : FnScope ["self"] ["self"] (defScope s_Library_init) := ⟨rfl, rfl, rfl, by decide +kernel, rfl, by decide +kernel, by decide +kernel⟩
theorem sc_Library_call : FnScope ["self", "door", "given", "slot"] ["self", "door", "given"] (defScope s_Library_call) := ⟨rfl, rfl, rfl, by decide +kernel, rfl, by decide +kernel, by decide +kernel⟩
theorem sc_answered : FnScope ["library", "octets", "door", "given", "e", "message"] ["library", "octets"] (defScope s_answered) := ⟨rfl, rfl, rfl, by decide +kernel, rfl, by decide +kernel, by decide +kernel⟩
theorem sc_answers : FnScope ["calls", "library", "found", "at", "many", "answer"] ["calls"] (defScope s_answers) := ⟨rfl, rfl, rfl, by decide +kernel, rfl, by decide +kernel, by decide +kernel⟩

/-! ### a def, a method, a class of the text, as the top has written them -/
section
variable (P : Program) (w : World) (K : PySem.W.Frag) (mg : Str → Option Value) (base : Heap)
structure DefT (x : Str) (st : Stmt) (ps : List Str) : Prop where
  ex : ∃ (f : Addr) (fd : FuncData), Fun K x x st f fd ∧ mg x = some (.ref f) ∧ Binds K fd ps []
structure MetT (C : Addr) (m qual : Str) (st : Stmt) (ps : List Str) : Prop where
  ex : ∃ (f : Addr) (fd : FuncData), Fun K m qual st f fd ∧ Meth K C m f ∧ Binds K fd ps []
structure MakT (x : Str) (C : Addr) (qual : Str) (st : Stmt) (ps : List Str) : Prop where
  ex : ∃ (f : Addr) (fd : FuncData), Fun K "__init__" qual st f fd ∧ Mk K C f ∧ Binds K fd ps []
  cl : Cls K C
  gm : mg x = some (.ref C)
structure Cal (CX : CXT) (k : Nat) (x : Str) (sp : Sp) : Prop where
  ex : ∃ (f : Addr) (fd : FuncData) (ps : List Str), FnOk P w K mg base CX k f fd ps sp ∧ mg x = some (.ref f) ∧ PySem.W.keepIn K (.ref f) = true ∧ Binds K fd ps []
structure CalH (CX : CXT) (k : Nat) (x : Str) (sp : Sp) : Prop where
  ex : ∃ (f : Addr) (fd : FuncData) (ps : List Str), L2H.FnH P w K mg base CX k f fd ps sp ∧ mg x = some (.ref f) ∧ PySem.W.keepIn K (.ref f) = true ∧ Binds K fd ps []
structure Met (CX : CXT) (k : Nat) (C : Addr) (m : Str) (sp : Sp) : Prop where
  ex : ∃ (f : Addr) (fd : FuncData) (ps : List Str), Cls K C ∧ Meth K C m f ∧ FnOk P w K mg base CX k f fd ps sp ∧ Binds K fd ps []
structure Mak (k : Nat) (x : Str) (C : Addr) (sp : Sp) : Prop where
  ex : ∃ (f : Addr) (fd : FuncData) (ps : List Str), Mk K C f ∧ FnOk P w K mg base CX0 k f fd ps sp ∧ mg x = some (.ref C) ∧ Binds K fd ps []
end
section
variable {P : Program} {w : World} {K : PySem.W.Frag} {mg : Str → Option Value} {base : Heap} {k : Nat} {x m qual : Str} {C : Addr} {st : Stmt} {N ps : List Str} {sp : Sp}
/-- a def by its body, where an exception that it lets out has no context -/
theorem ok_n {f : Addr} {fd : FuncData} (F : Fun K x qual st f fd) (S : FnScope N ps (defScope st)) (len : ∀ vs H Q E, sp vs H Q E → vs.length = ps.length)
    (hb : ∀ (cdv : Value) (A : Around) (outer : List Env) (s : Shared) (H : Hp) (vs : List V) (Q : VK) (E : XK), Room k (A.deeper (envOfC qual (defScope st) s.heap.objs.size f cdv)) → sp vs H Q E →
      ∃ t, PSs (cxOf (L2N.CX P w) P w K mg base N qual (defScope st) f cdv A outer s H E) (defBody st) t ∧ t { nx := fun _ H' => Q .non H', rt := Q } (start N vs) H) : FnOk P w K mg base (L2N.CX P w) (k + 1) f fd ps sp := by
  obtain ⟨oc, od, kV, doc, pm, an, cdv, ct, osl, rfl, lk, hcd⟩ := F.ex
  exact fn_of lk hcd S len fun A outer s H vs Q E hr hsp => hb cdv A outer s H vs Q E hr hsp
/-- a def that is called while an exception is handled -/
theorem calH_of (D : DefT K mg x st ps) (S : FnScope N ps (defScope st)) (len : ∀ vs H Q E, sp vs H Q E → vs.length = ps.length)
    (hb : ∀ (f : Addr) (cdv : Value) (A : Around) (outer : List Env) (s : Shared) (H : Hp) (vs : List V) (Q : VK) (E : XK) (p : Addr × Obj), L2H.HotC (L2H.cxH CX0 P w K mg base N x (defScope st) f cdv A outer s H E p) → L2H.RoomH k (A.deeper (envOfC x (defScope st) s.heap.objs.size f cdv)) → sp vs H Q E →
      ∃ t, PSs (L2H.cxH CX0 P w K mg base N x (defScope st) f cdv A outer s H E p) (defBody st) t ∧ t { nx := fun _ H' => Q .non H', rt := Q } (start N vs) H) : CalH P w K mg base CX0 (k + 1) x sp := by
  obtain ⟨f, fd, F, g, b⟩ := D.ex
  refine ⟨f, fd, ps, ?_, g, F.kp, b⟩
  obtain ⟨oc, od, kV, doc, pm, an, cdv, ct, osl, rfl, lk, hcd⟩ := F.ex
  exact L2H.fn_ofH lk hcd S len fun A outer s H vs Q E p hot hr hsp => hb f cdv A outer s H vs Q E p ⟨p, ⟨hot.1, hot.2⟩, List.mem_cons_self⟩ hr hsp
/-- a def that lets nothing out -/
theorem cal_of (D : DefT K mg x st ps) (S : FnScope N ps (defScope st)) (len : ∀ vs H Q E, sp vs H Q E → vs.length = ps.length)
    (hb : ∀ (f : Addr) (cdv : Value) (A : Around) (outer : List Env) (s : Shared) (H : Hp) (vs : List V) (Q : VK) (E : XK), Room k (A.deeper (envOfC x (defScope st) s.heap.objs.size f cdv)) → sp vs H Q E →
      ∃ t, PSs (cxOf CX0 P w K mg base N x (defScope st) f cdv A outer s H E).nox (defBody st) t ∧ t { nx := fun _ H' => Q .non H', rt := Q } (start N vs) H) : Cal P w K mg base CX0 (k + 1) x sp := by
  obtain ⟨f, fd, F, g, b⟩ := D.ex
  exact ⟨f, fd, ps, F.ok S len (hb f), g, F.kp, b⟩
/-- a def that may let an exception out -/
theorem calX_of (D : DefT K mg x st ps) (S : FnScope N ps (defScope st)) (len : ∀ vs H Q E, sp vs H Q E → vs.length = ps.length)
    (hb : ∀ (f : Addr) (cdv : Value) (A : Around) (outer : List Env) (s : Shared) (H : Hp) (vs : List V) (Q : VK) (E : XK), Room k (A.deeper (envOfC x (defScope st) s.heap.objs.size f cdv)) → sp vs H Q E →
      ∃ t, PSs (cxOf (L2N.CX P w) P w K mg base N x (defScope st) f cdv A outer s H E) (defBody st) t ∧ t { nx := fun _ H' => Q .non H', rt := Q } (start N vs) H) : Cal P w K mg base (L2N.CX P w) (k + 1) x sp := by
  obtain ⟨f, fd, F, g, b⟩ := D.ex
  exact ⟨f, fd, ps, ok_n F S len (hb f), g, F.kp, b⟩
theorem met_of (c : Cls K C) (D : MetT K C m qual st ps) (S : FnScope N ps (defScope st)) (len : ∀ vs H Q E, sp vs H Q E → vs.length = ps.length)
    (hb : ∀ (f : Addr) (cdv : Value) (A : Around) (outer : List Env) (s : Shared) (H : Hp) (vs : List V) (Q : VK) (E : XK), Room k (A.deeper (envOfC qual (defScope st) s.heap.objs.size f cdv)) → sp vs H Q E →
      ∃ t, PSs (cxOf CX0 P w K mg base N qual (defScope st) f cdv A outer s H E).nox (defBody st) t ∧ t { nx := fun _ H' => Q .non H', rt := Q } (start N vs) H) : Met P w K mg base CX0 (k + 1) C m sp := by
  obtain ⟨f, fd, F, g, b⟩ := D.ex
  exact ⟨f, fd, ps, c, g, F.ok S len (hb f), b⟩
theorem metX_of (c : Cls K C) (D : MetT K C m qual st ps) (S : FnScope N ps (defScope st)) (len : ∀ vs H Q E, sp vs H Q E → vs.length = ps.length)
    (hb : ∀ (f : Addr) (cdv : Value) (A : Around) (outer : List Env) (s : Shared) (H : Hp) (vs : List V) (Q : VK) (E : XK), Room k (A.deeper (envOfC qual (defScope st) s.heap.objs.size f cdv)) → sp vs H Q E →
      ∃ t, PSs (cxOf (L2N.CX P w) P w K mg base N qual (defScope st) f cdv A outer s H E) (defBody st) t ∧ t { nx := fun _ H' => Q .non H', rt := Q } (start N vs) H) : Met P w K mg base (L2N.CX P w) (k + 1) C m sp := by
  obtain ⟨f, fd, F, g, b⟩ := D.ex
  exact ⟨f, fd, ps, c, g, ok_n F S len (hb f), b⟩
theorem mak_of (D : MakT K mg x C qual st ps) (S : FnScope N ps (defScope st)) (len : ∀ vs H Q E, sp vs H Q E → vs.length = ps.length)
    (hb : ∀ (f : Addr) (cdv : Value) (A : Around) (outer : List Env) (s : Shared) (H : Hp) (vs : List V) (Q : VK) (E : XK), Room k (A.deeper (envOfC qual (defScope st) s.heap.objs.size f cdv)) → sp vs H Q E →
      ∃ t, PSs (cxOf CX0 P w K mg base N qual (defScope st) f cdv A outer s H E).nox (defBody st) t ∧ t { nx := fun _ H' => Q .non H', rt := Q } (start N vs) H) : Mak P w K mg base (k + 1) x C sp := by
  obtain ⟨f, fd, F, g, b⟩ := D.ex
  exact ⟨f, fd, ps, g, F.ok S len (hb f), D.gm, b⟩
end

/-! ### short rules -/
def tCl (sp : Sp) (t : TA) : TE := fun σ H Q => t σ H fun vs H1 => sp vs H1 Q E0
def tClX (sp : Sp) (W : WX) (t : TA) : TE := fun σ H Q => t σ H fun vs H1 => sp vs H1 Q fun cls d H' => W cls d σ H'
def tMt (C : Addr) (m : Str) (sp : Sp) (ta : TE) (t : TA) : TE := fun σ H Q => ta σ H fun x H1 => ∃ a dx fs, x = .ref a ∧ H1 a = some (.ins C dx fs) ∧ fs.lookup m = none ∧ t σ H1 fun vs H2 => sp (x :: vs) H2 Q E0
def tMtX (C : Addr) (m : Str) (sp : Sp) (W : WX) (ta : TE) (t : TA) : TE := fun σ H Q => ta σ H fun x H1 => ∃ a dx fs, x = .ref a ∧ H1 a = some (.ins C dx fs) ∧ fs.lookup m = none ∧ t σ H1 fun vs H2 => sp (x :: vs) H2 Q fun cls d H' => W cls d σ H'
def tMk (C : Addr) (sp : Sp) (t : TA) : TE := fun σ H Q => t σ H fun vs H1 => ∀ x dx, H1 x = none → H1 dx = none → dx ≠ x → sp (.ref x :: vs) (upd (upd H1 dx (.own x)) x (.ins C dx [])) (fun v H2 => v = .non ∧ Q (.ref x) H2) E0
section
variable {X : Cx} {k j : Nat} {x m : Str} {sp : Sp} {W : WX} {C : Addr} {p pos apos : Pos} {e o : Expr} {es : List Expr} {ta : TE} {t : TA} {n : Int}
theorem pe_gi {x : Str} (hg : Gl X x) (h : ∃ t, X.mg x = some (.int n t)) (hd : (x == ("__debug__" : Str)) = false := by decide) : PE X (.Name x pos) (tC (.int n)) := by
  obtain ⟨t, h⟩ := h
  exact pe_glob hg h ⟨t, rfl⟩ hd
/-- a tuple that the top has written -/
def tGr (K : PySem.W.Frag) (n : Int) : TE := fun _ H Q => ∀ a, (∀ H' : Hp, SqT K H' a [.int n]) → Q (.ref a) H
theorem pe_gr {x : Str} (hg : Gl X x) (h : ∃ a, X.mg x = some (.ref a) ∧ ∀ H' : Hp, SqT X.K H' a [.int n]) (hd : (x == ("__debug__" : Str)) = false := by decide) : PE X (.Name x pos) (tGr X.K n) := by
  obtain ⟨a, h, hs⟩ := h
  refine ⟨fun pins s σ H Q I hq => ?_⟩
  exact (pe_glob (v := .ref a) hg h rfl hd).run pins s σ H Q I (hq a hs)
theorem passA0 {X : Cx} {E : L2.St → XK} (σ : L2.St) : PassesAt CX0 X σ (E σ) := fun _ _ _ _ _ _ h => h.elim
theorem pe_d (c : Cal X.prog X.w X.K X.mg X.base CX0 k x sp) (hr : Room j X.A) (hg : Gl X x) (ha : PA X (e :: es) t) (hk : k ≤ j := by first | decide | omega)
    (hdb : (x == ("__debug__" : Str)) = false := by decide) (he : starEach (e :: es) X.env = (false, eval e X.env) :: starEach es X.env := by rfl) (hpl : (backTo pos (starEach es X.env)).any (·.1) = false := by rfl) :
    PE X (.Call (.Name x p) (e :: es) [] pos) (tCl sp t) := by
  obtain ⟨f, fd, ps, F, hm, kp, b⟩ := c.ex
  exact pe_callS (E := fun _ => E0) F (hr.mono hk) hg hm kp b passA0 ha hdb he hpl
theorem pe_dX (c : Cal X.prog X.w X.K X.mg X.base (L2N.CX X.prog X.w) k x sp) (hr : Room j X.A) (tk : L2N.Takes X W) (hg : Gl X x) (ha : PA X (e :: es) t) (hk : k ≤ j := by first | decide | omega)
    (hdb : (x == ("__debug__" : Str)) = false := by decide) (he : starEach (e :: es) X.env = (false, eval e X.env) :: starEach es X.env := by rfl) (hpl : (backTo pos (starEach es X.env)).any (·.1) = false := by rfl) :
    PE X (.Call (.Name x p) (e :: es) [] pos) (tClX sp W t) := by
  obtain ⟨f, fd, ps, F, hm, kp, b⟩ := c.ex
  exact pe_callS (E := fun σ cls d H' => W cls d σ H') F (hr.mono hk) hg hm kp b (fun σ => L2N.passAt tk σ) ha hdb he hpl
theorem pe_dH (c : CalH X.prog X.w X.K X.mg X.base CX0 k x sp) (hr : L2H.RoomH j X.A) (hot : L2H.HotC X) (hg : Gl X x) (ha : PA X (e :: es) t) (hk : k ≤ j := by first | decide | omega)
    (hdb : (x == ("__debug__" : Str)) = false := by decide) (he : starEach (e :: es) X.env = (false, eval e X.env) :: starEach es X.env := by rfl) (hpl : (backTo pos (starEach es X.env)).any (·.1) = false := by rfl) :
    PE X (.Call (.Name x p) (e :: es) [] pos) (tCl sp t) := by
  obtain ⟨f, fd, ps, F, hm, kp, b⟩ := c.ex
  exact L2H.pe_callH (E := fun _ => E0) F (hr.mono hk) hot hg hm kp b passA0 ha hdb he hpl
theorem pe_m {pl : Sem Bool} (c : Met X.prog X.w X.K X.mg X.base CX0 k C m sp) (hr : Room j X.A) (ho : PE X o ta) (ha : PA X (e :: es) t) (hk : k ≤ j := by first | decide | omega)
    (hst : starEach (e :: es) X.env = (false, eval e X.env) :: starEach es X.env := by rfl) (hpl : (backTo pos (starEach es X.env)).any (·.1) = false := by rfl)
    (ht : eval (.Call (.Attribute o m apos) (e :: es) [] pos) X.env = (do
      let ov ← eval o X.env
      standAt apos.atName
      let (f, first) ← holding [ov] (getMethod ov m pl)
      callWith pos f first (backTo pos (starEach (e :: es) X.env)) (backToKw pos (keywordEach [] X.env))) := by rfl) :
    PE X (.Call (.Attribute o m apos) (e :: es) [] pos) (tMt C m sp ta t) := by
  obtain ⟨f, fd, ps, hc, hm, F, b⟩ := c.ex
  have h := pe_meth (pl := pl) (apos := apos) (pos := pos) (E := E0) (dvs := []) (ds := []) ho hc hm F (hr.mono hk) b .nil (fun _ _ _ _ _ _ _ z => z.elim) ha hst hpl ht
  refine ⟨fun pins s σ H Q I q => h.run pins s σ H Q I ?_⟩
  simp only [tMeth, List.append_nil]
  exact q
theorem pe_m0 {pl : Sem Bool} (c : Met X.prog X.w X.K X.mg X.base CX0 k C m sp) (hr : Room j X.A) (ho : PE X o ta) (hk : k ≤ j := by first | decide | omega)
    (ht : eval (.Call (.Attribute o m apos) [] [] pos) X.env = (do
      let ov ← eval o X.env
      standAt apos.atName
      let (f, first) ← holding [ov] (getMethod ov m pl)
      callWith pos f first (backTo pos (starEach [] X.env)) (backToKw pos (keywordEach [] X.env))) := by rfl) :
    PE X (.Call (.Attribute o m apos) [] [] pos) (tMt C m sp ta tNil) := by
  obtain ⟨f, fd, ps, hc, hm, F, b⟩ := c.ex
  have h := pe_meth0 (pl := pl) (apos := apos) (pos := pos) (E := E0) (dvs := []) (ds := []) ho hc hm F (hr.mono hk) b .nil (fun _ _ _ _ _ _ _ z => z.elim) ht
  refine ⟨fun pins s σ H Q I q => h.run pins s σ H Q I ?_⟩
  simp only [tMeth, List.append_nil]
  exact q
theorem pe_mX {pl : Sem Bool} (c : Met X.prog X.w X.K X.mg X.base (L2N.CX X.prog X.w) k C m sp) (hr : Room j X.A) (tk : L2N.Takes X W) (ho : PE X o ta) (ha : PA X (e :: es) t) (hk : k ≤ j := by first | decide | omega)
    (hst : starEach (e :: es) X.env = (false, eval e X.env) :: starEach es X.env := by rfl) (hpl : (backTo pos (starEach es X.env)).any (·.1) = false := by rfl)
    (ht : eval (.Call (.Attribute o m apos) (e :: es) [] pos) X.env = (do
      let ov ← eval o X.env
      standAt apos.atName
      let (f, first) ← holding [ov] (getMethod ov m pl)
      callWith pos f first (backTo pos (starEach (e :: es) X.env)) (backToKw pos (keywordEach [] X.env))) := by rfl) :
    PE X (.Call (.Attribute o m apos) (e :: es) [] pos) (tMtX C m sp W ta t) := by
  obtain ⟨f, fd, ps, hc, hm, F, b⟩ := c.ex
  refine ⟨fun pins s σ H Q I h => ?_⟩
  refine PySem.W.methodCall_KW (pl := pl) (thn (ho.run pins s σ H _ I h) fun u s1 ⟨x, H1, I1, rx, a, dx, fs, ex, ea, l, q⟩ => ?_) ht
  subst ex
  obtain rfl : u = Value.ref a := rx
  refine getmeth_ok I1 ea hc hm l ?_
  refine PySem.W.callWith_K (first := [.ref a]) (h₀ := X.base) I.ok.mod.kin hm.kp (thn (ha.run pos pins s1 σ H1 _ I1 q) fun us s2 ⟨vs, H2, I2, r, q2⟩ => ⟨I2.kIn, ?_⟩) hst hpl
  exact run_fnS (us := .ref a :: us) (vs := .ref a :: vs) (E := fun σ cls d H' => W cls d σ H') F (hr.mono hk) b (L2N.passAt tk σ) I2 (.cons rfl r) q2
theorem pe_mk (c : Mak X.prog X.w X.K X.mg X.base k x C sp) (hr : Room j X.A) (hg : Gl X x) (ha : PA X (e :: es) t) (hk : k + 1 ≤ j := by first | decide | omega)
    (hdb : (x == ("__debug__" : Str)) = false := by decide) (he : starEach (e :: es) X.env = (false, eval e X.env) :: starEach es X.env := by rfl) (hpl : (backTo pos (starEach es X.env)).any (·.1) = false := by rfl) :
    PE X (.Call (.Name x p) (e :: es) [] pos) (tMk C sp t) := by
  obtain ⟨f, fd, ps, M, F, hm, b⟩ := c.ex
  have h := pe_make (p := p) (pos := pos) (E := E0) (dvs := []) (ds := []) M F (hr.mono hk) hg hm b .nil (fun _ _ _ _ _ _ _ z => z.elim) ha hdb he hpl
  refine ⟨fun pins s σ H Q I q => h.run pins s σ H Q I ?_⟩
  simp only [tMake, List.append_nil]
  exact q
theorem pe_mk0 (c : Mak X.prog X.w X.K X.mg X.base k x C sp) (hr : Room j X.A) (hg : Gl X x) (hk : k + 1 ≤ j := by first | decide | omega)
    (hdb : (x == ("__debug__" : Str)) = false := by decide) : PE X (.Call (.Name x p) [] [] pos) (tMk C sp tNil) := by
  obtain ⟨f, fd, ps, M, F, hm, b⟩ := c.ex
  have h := pe_make0 (p := p) (pos := pos) (E := E0) (dvs := []) (ds := []) M F (hr.mono hk) hg hm b .nil (fun _ _ _ _ _ _ _ z => z.elim) hdb
  refine ⟨fun pins s σ H Q I q => h.run pins s σ H Q I ?_⟩
  simp only [tMake, List.append_nil]
  exact q
end

/-! ### an except suite -/
theorem hot_of {X : Cx} {a : Addr} {oe : Obj} {cls : Value} {d : Option Addr} {pn : List (Addr × Obj)} (hz : L2N.Zn cls d oe) (hf : ∃ vs, oe.data = .fields vs) : L2H.HotC (X.suite a ((a, oe) :: pn)) :=
  let ⟨vs, h⟩ := hf
  ⟨(a, oe), ⟨rfl, vs, h, hz.2.2 vs h⟩, List.mem_cons_self⟩
theorem takesN0 {X : Cx} : L2N.Takes X (fun _ _ _ _ => False) := fun _ _ x => by
  obtain ⟨_, _, _, _, _, _, _, _, _, _, _, _, _, _, _, _, z⟩ := x
  exact z.elim

/-! ### the heap -/
theorem _root_.L2.Same.new {H H1 : Hp} {p : Addr} {o : HO} (s : Same H H1) (hp : H1 p = none) : Same H (upd H1 p o) := fun b u e => by
  rw [upd_ne (ne_of_none (s b u e) hp)]
  exact s b u e
theorem _root_.L2.Same.put {H H1 : Hp} {p : Addr} {o : HO} (s : Same H H1) (hp : H p = none) : Same H (upd H1 p o) := fun b u e => by
  rw [upd_ne (ne_of_none e hp)]
  exact s b u e
theorem _root_.L2.Same.tup {K : PySem.W.Frag} {H H' : Hp} {a : Addr} {xs : List V} (e : Same H H') (h : SqT K H a xs) : SqT K H' a xs := by
  rcases h with (h | ⟨o, h⟩) | h
  · exact .inl (.inl (e _ _ h))
  · exact .inl (.inr ⟨o, e _ _ h⟩)
  · exact .inr h
/-- all but what stands at a is as it was -/
def But (a : Addr) (H H' : Hp) : Prop := ∀ b o, H b = some o → b ≠ a → H' b = some o
theorem But.refl (a : Addr) (H : Hp) : But a H H := fun _ _ h _ => h
theorem But.of {a : Addr} {H H' : Hp} (s : Same H H') : But a H H' := fun b o h _ => s b o h
theorem But.trans {a : Addr} {H H1 H2 : Hp} (x : But a H H1) (y : But a H1 H2) : But a H H2 := fun b o h n => y b o (x b o h n) n
theorem But.new {a p : Addr} {H H1 : Hp} {o : HO} (x : But a H H1) (hp : H1 p = none) : But a H (upd H1 p o) := fun b u h n => by
  rw [upd_ne (ne_of_none (x b u h n) hp)]
  exact x b u h n
theorem But.put {a : Addr} {H H1 : Hp} {o : HO} (x : But a H H1) : But a H (upd H1 a o) := fun b u h n => by
  rw [upd_ne n]
  exact x b u h n
theorem at_nat {xs : List V} {j : Nat} {v : V} (h : xs[j]? = some v) : atI xs (j : Int) = some v := atI_nat h
/-- numbers as values -/
abbrev nv (n : Nat) : V := .int (n : Int)
abbrev nvs (l : List Nat) : List V := l.map nv
end Sw
set_option Elab.async false
set_option linter.all false
set_option maxRecDepth 100000
set_option maxHeartbeats 2000000
/-! Separating words: what the top has written; values as they lie in the heap. -/
namespace Sw
open PySem PySem.Spec PyProof.Rows L2

/-- where the classes stand -/
structure Ad where
  run : Addr
  enu : Addr
  req : Addr
  refu : Addr
  lib : Addr
/-- the class of a refusal -/
structure RefT (K : PySem.W.Frag) (mg : Str → Option Value) (C : Addr) : Prop where
  oex : OexC K C
  ini : ∃ (f : Addr) (fd : FuncData), Fun K "__init__" "Refused.__init__" s_Refused_init f fd ∧ PySem.W.findIn K (.ref C) "__init__" = some (some (.ref f)) ∧ PySem.W.typeIn K (.ref f) = some (.type "function") ∧ Binds K fd ["self", "order", "message", "further"] []
  gm : mg "Refused" = some (.ref C)
  xf : XfC K C
  n_order : PySem.W.findIn K (.ref C) "order" = some none
  n_message : PySem.W.findIn K (.ref C) "message" = some none
  n_further : PySem.W.findIn K (.ref C) "further" = some none
  te : PySem.W.exmOne K (.ref C) (.ref C) = some true
structure Txt (K : PySem.W.Frag) (mg : Str → Option Value) (A : Ad) : Prop where
  LETTERS : ∃ t, mg "LETTERS" = some (.int 2 t)
  MOST_STATES : ∃ t, mg "MOST_STATES" = some (.int 4 t)
  NOTHING : ∃ a, mg "NOTHING" = some (.ref a) ∧ ∀ H' : Hp, SqT K H' a [.int 0]
  NULL : ∃ a, mg "NULL" = some (.ref a) ∧ ∀ H' : Hp, SqT K H' a [.int 1]
  FALSE : ∃ a, mg "FALSE" = some (.ref a) ∧ ∀ H' : Hp, SqT K H' a [.int 2]
  TRUE : ∃ a, mg "TRUE" = some (.ref a) ∧ ∀ H' : Hp, SqT K H' a [.int 3]
  INTEGER : ∃ t, mg "INTEGER" = some (.int 4 t)
  TEXT : ∃ t, mg "TEXT" = some (.int 6 t)
  LIST : ∃ t, mg "LIST" = some (.int 7 t)
  RECORD : ∃ t, mg "RECORD" = some (.int 8 t)
  OCTETS : ∃ t, mg "OCTETS" = some (.int 10 t)
  WORD : ∃ t, mg "WORD" = some (.int 18446744073709551616 t)
  HALF : ∃ t, mg "HALF" = some (.int 9223372036854775808 t)
  MOST_ARGUMENTS : ∃ t, mg "MOST_ARGUMENTS" = some (.int 3 t)
  MOST_TABLE : ∃ t, mg "MOST_TABLE" = some (.int 13 t)
  MOST_WORD : ∃ t, mg "MOST_WORD" = some (.int 12 t)
  MOST_READ : ∃ t, mg "MOST_READ" = some (.int 30 t)
  MOST_LENGTH : ∃ t, mg "MOST_LENGTH" = some (.int 5 t)
  FIRST : ∃ t, mg "FIRST" = some (.int 97 t)
  len : mg "len" = none
  range : mg "range" = none
  list : mg "list" = none
  tuple : mg "tuple" = none
  str : mg "str" = none
  abs : mg "abs" = none
  ord : mg "ord" = none
  all : mg "all" = none
  set : mg "set" = none
  d_end_of : DefT K mg "end_of" s_end_of ["table", "word"]
  d_is_reversible : DefT K mg "is_reversible" s_is_reversible ["table"]
  d_known_end : DefT K mg "known_end" s_known_end ["entries", "word"]
  d_choices : DefT K mg "choices" s_choices ["states", "entries", "is_both_ways"]
  d_filled : DefT K mg "filled" s_filled ["states", "entries", "is_both_ways"]
  d_first_separating : DefT K mg "first_separating" s_first_separating ["states", "first", "second", "is_both_ways"]
  d_fewest : DefT K mg "fewest" s_fewest ["first", "second", "is_both_ways"]
  d_difference : DefT K mg "difference" s_difference ["first", "second", "letter"]
  d_find_counter : DefT K mg "find_counter" s_find_counter ["first", "second"]
  d_counter : DefT K mg "counter" s_counter ["letter", "states"]
  d_all_tables : DefT K mg "all_tables" s_all_tables ["states"]
  d_all_words : DefT K mg "all_words" s_all_words ["longest"]
  d_representatives : DefT K mg "representatives" s_representatives ["states", "longest"]
  d_Run : MakT K mg "Run" A.run "Run.__init__" s_Run_init ["self", "table"]
  n_Run_table : NoAttr K A.run "table"
  n_Run_letters : NoAttr K A.run "letters"
  n_Run_is_started : NoAttr K A.run "is_started"
  n_Run_is_over : NoAttr K A.run "is_over"
  d_Run_told : MetT K A.run "told" "Run.told" s_Run_told ["self"]
  d_Run_undo : MetT K A.run "undo" "Run.undo" s_Run_undo ["self"]
  d_Enumerator : MakT K mg "Enumerator" A.enu "Enumerator.__init__" s_Enumerator_init ["self", "rows"]
  n_Enumerator_rows : NoAttr K A.enu "rows"
  n_Enumerator_count : NoAttr K A.enu "count"
  n_Enumerator_last : NoAttr K A.enu "last"
  n_Enumerator_is_over : NoAttr K A.enu "is_over"
  d_Enumerator_take : MetT K A.enu "take" "Enumerator.take" s_Enumerator_take ["self"]
  d_Enumerator_skip : MetT K A.enu "skip" "Enumerator.skip" s_Enumerator_skip ["self", "length"]
  d_codes_of : DefT K mg "codes_of" s_codes_of ["text"]
  d_integer : DefT K mg "integer" s_integer ["number"]
  d_text : DefT K mg "text" s_text ["string"]
  d_truth : DefT K mg "truth" s_truth ["told"]
  d_listed : DefT K mg "listed" s_listed ["rows"]
  d_integers : DefT K mg "integers" s_integers ["rows"]
  d_record : DefT K mg "record" s_record ["pairs"]
  d_low_first : DefT K mg "low_first" s_low_first ["number", "many"]
  d_octets_of : DefT K mg "octets_of" s_octets_of ["value"]
  d_Request : MakT K mg "Request" A.req "Request.__init__" s_Request_init ["self", "octets"]
  n_Request_octets : NoAttr K A.req "octets"
  n_Request_at : NoAttr K A.req "at"
  d_Request_number : MetT K A.req "number" "Request.number" s_Request_number ["self", "many"]
  d_Request_plain : MetT K A.req "plain" "Request.plain" s_Request_plain ["self"]
  d_Request_value : MetT K A.req "value" "Request.value" s_Request_value ["self"]
  d_Request_whole : MetT K A.req "whole" "Request.whole" s_Request_whole ["self"]
  d_wrong_kind : DefT K mg "wrong_kind" s_wrong_kind ["wrong", "message"]
  d_out_of_range : DefT K mg "out_of_range" s_out_of_range ["wrong", "message"]
  d_is_integer : DefT K mg "is_integer" s_is_integer ["value", "least", "most"]
  d_number_of : DefT K mg "number_of" s_number_of ["value", "name", "least", "most"]
  d_table_of : DefT K mg "table_of" s_table_of ["value"]
  d_letter_of : DefT K mg "letter_of" s_letter_of ["value"]
  d_word_of : DefT K mg "word_of" s_word_of ["value", "name"]
  d_told_table : DefT K mg "told_table" s_told_table ["table"]
  d_told_letter : DefT K mg "told_letter" s_told_letter ["letter"]
  d_told_row : DefT K mg "told_row" s_told_row ["row"]
  d_told_step : DefT K mg "told_step" s_told_step ["value", "is_done"]
  d_told_thrown : DefT K mg "told_thrown" s_told_thrown ["value"]
  d_told_result : DefT K mg "told_result" s_told_result ["value", "is_done"]
  d_on_words : DefT K mg "on_words" s_on_words ["door", "given"]
  d_rows_of : DefT K mg "rows_of" s_rows_of ["first", "second"]
  d_on_tables : DefT K mg "on_tables" s_on_tables ["door", "given"]
  d_told_run : DefT K mg "told_run" s_told_run ["run"]
  d_on_run : DefT K mg "on_run" s_on_run ["run", "door", "value"]
  d_continued : DefT K mg "continued" s_continued ["enumerator"]
  d_on_enumerator : DefT K mg "on_enumerator" s_on_enumerator ["own", "door", "value"]
  d_Library : MakT K mg "Library" A.lib "Library.__init__" s_Library_init ["self"]
  n_Library_runs : NoAttr K A.lib "runs"
  n_Library_enumerators : NoAttr K A.lib "enumerators"
  d_Library_call : MetT K A.lib "call" "Library.call" s_Library_call ["self", "door", "given"]
  d_answered : DefT K mg "answered" s_answered ["library", "octets"]
  d_answers : DefT K mg "answers" s_answers ["calls"]
  Refused : RefT K mg A.refu

/-! ### values in the heap -/
/-- a row of numbers: a tuple, or (at addresses that N allows) a list -/
def SqX (b : Addr → Prop) (K : PySem.W.Frag) (H : Hp) (a : Addr) (xs : List V) : Prop := SqT K H a xs ∨ (b a ∧ H a = some (.lst xs))
/-- no lists -/
abbrev NF : Addr → Prop := fun _ => False
def ov (o : UInt8) : V := .int (o.toNat : Int)
mutual
/-- a value of the wire at v (b: where its texts may be lists) -/
def ValAt (b : Addr → Prop) (K : PySem.W.Frag) (H : Hp) : RWire.Value → V → Prop
  | .nothing, v => ∃ a, v = .ref a ∧ SqT K H a [.int 0]
  | .null, v => ∃ a, v = .ref a ∧ SqT K H a [.int 1]
  | .bool k, v => ∃ a, v = .ref a ∧ SqT K H a [.int (if k = true then 3 else 2)]
  | .int i, v => ∃ a, v = .ref a ∧ SqT K H a [.int 4, .int i]
  | .text u, v => ∃ a c, v = .ref a ∧ SqT K H a [.int 6, .ref c] ∧ SqX b K H c (u.map ov)
  | .list l, v => ∃ a c xs, v = .ref a ∧ SqT K H a [.int 7, .ref c] ∧ SqT K H c xs ∧ ValsAt b K H l xs
  | .record l, v => ∃ a c xs, v = .ref a ∧ SqT K H a [.int 8, .ref c] ∧ SqT K H c xs ∧ EntsAt b K H l xs
  | .big _, _ => False
  | .octets _, _ => False
  | .wide _, _ => False
def ValsAt (b : Addr → Prop) (K : PySem.W.Frag) (H : Hp) : List RWire.Value → List V → Prop
  | [], xs => xs = []
  | v :: r, xs => ∃ x ys, xs = x :: ys ∧ ValAt b K H v x ∧ ValsAt b K H r ys
def EntsAt (b : Addr → Prop) (K : PySem.W.Frag) (H : Hp) : List (RWire.Text × RWire.Value) → List V → Prop
  | [], xs => xs = []
  | (n, v) :: r, xs => ∃ p a x ys, xs = .ref p :: ys ∧ SqT K H p [.ref a, x] ∧ SqT K H a (n.map ov) ∧ ValAt b K H v x ∧ EntsAt b K H r ys
end
section
variable {b c : Addr → Prop} {K : PySem.W.Frag} {H H' : Hp}
structure Moves (b c : Addr → Prop) (K : PySem.W.Frag) (H H' : Hp) : Prop where
  tup : ∀ {a : Addr} {xs : List V}, SqT K H a xs → SqT K H' a xs
  seq : ∀ {a : Addr} {xs : List V}, b a → H a = some (.lst xs) → c a ∧ H' a = some (.lst xs)
theorem SqX.move {a : Addr} {xs : List V} (s : Moves b c K H H') (h : SqX b K H a xs) : SqX c K H' a xs := h.elim (fun h => .inl (s.tup h)) fun h => .inr (s.seq h.1 h.2)
mutual
theorem ValAt.move (s : Moves b c K H H') : ∀ (x : RWire.Value) (v : V), ValAt b K H x v → ValAt c K H' x v
  | .nothing, v, h => by
    rw [ValAt] at h ⊢
    obtain ⟨a, e, h⟩ := h
    exact ⟨a, e, s.tup h⟩
  | .null, v, h => by
    rw [ValAt] at h ⊢
    obtain ⟨a, e, h⟩ := h
    exact ⟨a, e, s.tup h⟩
  | .bool k, v, h => by
    rw [ValAt] at h ⊢
    obtain ⟨a, e, h⟩ := h
    exact ⟨a, e, s.tup h⟩
  | .int i, v, h => by
    rw [ValAt] at h ⊢
    obtain ⟨a, e, h⟩ := h
    exact ⟨a, e, s.tup h⟩
  | .text u, v, h => by
    rw [ValAt] at h ⊢
    obtain ⟨a, q, e, h, h2⟩ := h
    exact ⟨a, q, e, s.tup h, h2.move s⟩
  | .list l, v, h => by
    rw [ValAt] at h ⊢
    obtain ⟨a, q, xs, e, h, h2, h3⟩ := h
    exact ⟨a, q, xs, e, s.tup h, s.tup h2, ValsAt.move s l xs h3⟩
  | .record l, v, h => by
    rw [ValAt] at h ⊢
    obtain ⟨a, q, xs, e, h, h2, h3⟩ := h
    exact ⟨a, q, xs, e, s.tup h, s.tup h2, EntsAt.move s l xs h3⟩
  | .big _, _, h => by rw [ValAt] at h; exact h.elim
  | .octets _, _, h => by rw [ValAt] at h; exact h.elim
  | .wide _, _, h => by rw [ValAt] at h; exact h.elim
theorem ValsAt.move (s : Moves b c K H H') : ∀ (l : List RWire.Value) (xs : List V), ValsAt b K H l xs → ValsAt c K H' l xs
  | [], xs, h => by rw [ValsAt] at h ⊢; exact h
  | v :: r, xs, h => by
    rw [ValsAt] at h ⊢
    obtain ⟨x, ys, e, h, h2⟩ := h
    exact ⟨x, ys, e, ValAt.move s v x h, ValsAt.move s r ys h2⟩
theorem EntsAt.move (s : Moves b c K H H') : ∀ (l : List (RWire.Text × RWire.Value)) (xs : List V), EntsAt b K H l xs → EntsAt c K H' l xs
  | [], xs, h => by rw [EntsAt] at h ⊢; exact h
  | (n, v) :: r, xs, h => by
    rw [EntsAt] at h ⊢
    obtain ⟨p, a, x, ys, e, h, h2, h3, h4⟩ := h
    exact ⟨p, a, x, ys, e, s.tup h, s.tup h2, ValAt.move s v x h3, EntsAt.move s r ys h4⟩
end
theorem Moves.same (s : Same H H') : Moves b b K H H' := ⟨fun h => s.tup h, fun n h => ⟨n, s _ _ h⟩⟩
theorem Moves.mono (h : ∀ a, b a → c a) : Moves b c K H H := ⟨fun h => h, fun n q => ⟨h _ n, q⟩⟩
theorem Moves.sameNF (s : Same H H') : Moves NF c K H H' := ⟨fun h => s.tup h, fun n => n.elim⟩
theorem ValAt.same (s : Same H H') {x : RWire.Value} {v : V} (h : ValAt b K H x v) : ValAt b K H' x v := ValAt.move (.same s) x v h
theorem ValsAt.same (s : Same H H') {x : List RWire.Value} {v : List V} (h : ValsAt b K H x v) : ValsAt b K H' x v := ValsAt.move (.same s) x v h
theorem EntsAt.same (s : Same H H') {x : List (RWire.Text × RWire.Value)} {v : List V} (h : EntsAt b K H x v) : EntsAt b K H' x v := EntsAt.move (.same s) x v h
theorem ValAt.mono (m : ∀ a, b a → c a) {x : RWire.Value} {v : V} (h : ValAt b K H x v) : ValAt c K H x v := ValAt.move (.mono m) x v h
theorem ValsAt.mono (m : ∀ a, b a → c a) {x : List RWire.Value} {v : List V} (h : ValsAt b K H x v) : ValsAt c K H x v := ValsAt.move (.mono m) x v h
theorem ValAt.any {x : RWire.Value} {v : V} (h : ValAt NF K H x v) : ValAt b K H x v := h.mono fun _ z => z.elim
theorem ValsAt.any {x : List RWire.Value} {v : List V} (h : ValsAt NF K H x v) : ValsAt b K H x v := h.mono fun _ z => z.elim
theorem ValsAt.length : ∀ {l : List RWire.Value} {xs : List V}, ValsAt b K H l xs → xs.length = l.length
  | [], xs, h => by rw [ValsAt] at h; rw [h]; rfl
  | v :: r, xs, h => by
    rw [ValsAt] at h
    obtain ⟨x, ys, e, _, h⟩ := h
    rw [e, List.length_cons, List.length_cons, ValsAt.length h]
theorem EntsAt.length : ∀ {l : List (RWire.Text × RWire.Value)} {xs : List V}, EntsAt b K H l xs → xs.length = l.length
  | [], xs, h => by rw [EntsAt] at h; rw [h]; rfl
  | (n, v) :: r, xs, h => by
    rw [EntsAt] at h
    obtain ⟨p, a, x, ys, e, _, _, _, h⟩ := h
    rw [e, List.length_cons, List.length_cons, EntsAt.length h]
theorem ValsAt.get : ∀ {l : List RWire.Value} {xs : List V} {i : Nat} {v : RWire.Value}, ValsAt b K H l xs → l[i]? = some v → ∃ x, xs[i]? = some x ∧ ValAt b K H v x
  | [], _, _, _, _, e => by simp at e
  | w :: r, xs, 0, v, h, e => by
    rw [ValsAt] at h
    obtain ⟨x, ys, rfl, h, _⟩ := h
    have : w = v := Option.some.inj e
    subst this
    exact ⟨x, rfl, h⟩
  | w :: r, xs, i + 1, v, h, e => by
    rw [ValsAt] at h
    obtain ⟨x, ys, rfl, _, h⟩ := h
    exact ValsAt.get (i := i) h e
theorem ValsAt.snoc : ∀ {l : List RWire.Value} {xs : List V} {v : RWire.Value} {x : V}, ValsAt b K H l xs → ValAt b K H v x → ValsAt b K H (l ++ [v]) (xs ++ [x])
  | [], xs, v, x, h, hx => by
    rw [ValsAt] at h
    subst h
    show ValsAt b K H (v :: []) [x]
    rw [ValsAt]
    exact ⟨x, [], rfl, hx, by rw [ValsAt]⟩
  | w :: r, xs, v, x, h, hx => by
    rw [ValsAt] at h
    obtain ⟨y, ys, rfl, h1, h⟩ := h
    show ValsAt b K H (w :: (r ++ [v])) (y :: ys ++ [x])
    rw [ValsAt]
    exact ⟨y, ys ++ [x], rfl, h1, h.snoc hx⟩
theorem EntsAt.snoc : ∀ {l : List (RWire.Text × RWire.Value)} {xs : List V} {n : RWire.Text} {v : RWire.Value} {p a : Addr} {x : V}, EntsAt b K H l xs → SqT K H p [.ref a, x] → SqT K H a (n.map ov) → ValAt b K H v x → EntsAt b K H (l ++ [(n, v)]) (xs ++ [.ref p])
  | [], xs, n, v, p, a, x, h, h1, h2, hx => by
    rw [EntsAt] at h
    subst h
    show EntsAt b K H ((n, v) :: []) [.ref p]
    rw [EntsAt]
    exact ⟨p, a, x, [], rfl, h1, h2, hx, by rw [EntsAt]⟩
  | (m, w) :: r, xs, n, v, p, a, x, h, h1, h2, hx => by
    rw [EntsAt] at h
    obtain ⟨q, c, y, ys, rfl, g1, g2, g3, h⟩ := h
    show EntsAt b K H ((m, w) :: (r ++ [(n, v)])) (.ref q :: ys ++ [.ref p])
    rw [EntsAt]
    exact ⟨q, c, y, ys ++ [.ref p], rfl, g1, g2, g3, h.snoc h1 h2 hx⟩
end
end Sw
set_option Elab.async false
set_option linter.all false
set_option maxRecDepth 100000
set_option maxHeartbeats 4000000
/-! Separating words: rules that the hand layer lacks: t[i::2], t.count(n), len(set(xs)). -/
namespace Sw
open PySem PySem.Spec PyProof.Rows L2

/-! ### every other element -/
theorem evens_pick {α : Type} : ∀ l : List α, (List.range ((l.length + 1) / 2)).filterMap (fun k => l[2 * k]?) = evens l
  | [] => by simp [evens]
  | [a] => by simp [evens]
  | a :: b :: r => by
    have e : ((a :: b :: r).length + 1) / 2 = (r.length + 1) / 2 + 1 := by
      simp only [List.length_cons]
      omega
    rw [e, List.range_succ_eq_map, List.filterMap_cons]
    show a :: List.filterMap (fun k => (a :: b :: r)[2 * k]?) (List.map Nat.succ (List.range ((r.length + 1) / 2))) = a :: evens r
    rw [← evens_pick r, List.filterMap_map]
    congr 1
theorem evens_vals : ∀ {xs : List V} {us : List Value}, Vals xs us → Vals (evens xs) (evens us)
  | _, _, .nil => .nil
  | _, _, .cons r .nil => .cons r .nil
  | _, _, .cons r (.cons _ t) => .cons r (evens_vals t)

section
variable {prog : Program} {w : World} {A : Around} {E : Value → Shared → Prop} {s : Shared}
theorem evens_size {α : Type} (l : List α) : (evens l).length ≤ l.length := by
  rw [evens_length]
  omega
/-- t[i::2], not the whole of t -/
theorem item_step {t sl : Addr} {its : List Value} {vl vs : Value} {i : Nat} {Q : Value → Shared → Prop} (ht : IsTup s.heap t its.toArray) (hs : s.heap.IsSliceOf sl vl .none vs) (pl : IsPart vl (some (i : Int))) (ps : IsPart vs (some 2)) (hz : its.length ≤ sizeLine)
    (h : Q (.ref s.heap.objs.size) { s with heap := s.heap.push { cls := .type "tuple", data := .seq (evens (its.drop i)).toArray } }) : wpAny (model prog w) A (getItem (.ref t) (.ref sl)) Q E s := by
  obtain ⟨o, ho, oc, od⟩ := id hs
  have ts : s.TypeIs (.ref sl) "slice" := ⟨o, ho, oc⟩
  have many : Builtin.Slice.slicePlaces (min (i : Int) (its.length : Int)) (its.length : Int) 2 = ((its.drop i).length + 1) / 2 := by
    unfold Builtin.Slice.slicePlaces
    rw [if_pos (show (2 : Int) > 0 by decide), List.length_drop]
    by_cases q : (min (i : Int) (its.length : Int)) < (its.length : Int)
    · rw [if_pos q]; omega
    · rw [if_neg q]; omega
  have adj : Builtin.Slice.sliceAdjust (some (i : Int)) none 2 (its.length : Int) = (min (i : Int) (its.length : Int), (its.length : Int)) := by
    unfold Builtin.Slice.sliceAdjust
    have c1 : ¬ ((2 : Int) < 0) := by decide
    have c2 : ¬ ((i : Int) < 0) := by omega
    simp only [c1, c2, if_false]
  have pick : ((List.range (((its.drop i).length + 1) / 2)).filterMap fun (k : Nat) => its.toArray[(min (i : Int) (its.length : Int) + (k : Int) * 2).toNat]?) = evens (its.drop i) := by
    rw [← evens_pick]
    have cong : ∀ l : List Nat, (∀ k ∈ l, k < ((its.drop i).length + 1) / 2) → l.filterMap (fun (k : Nat) => its.toArray[(min (i : Int) (its.length : Int) + (k : Int) * 2).toNat]?) = l.filterMap fun k => (its.drop i)[2 * k]? := by
      intro l
      induction l with
      | nil => intro _; rfl
      | cons k l ih =>
        intro hl
        have hk := hl k List.mem_cons_self
        rw [List.length_drop] at hk
        have e : (min (i : Int) (its.length : Int) + (k : Int) * 2).toNat = i + 2 * k := by omega
        have e2 : its.toArray[(min (i : Int) (its.length : Int) + (k : Int) * 2).toNat]? = (its.drop i)[2 * k]? := by
          rw [e, List.getElem?_drop]
          simp
        rw [List.filterMap_cons, List.filterMap_cons, e2, ih fun k hk => hl k (List.mem_cons_of_mem _ hk)]
    exact cong _ fun k hk => List.mem_range.mp hk
  have ok : sizeOk (.seq (evens (its.drop i)).toArray) := by
    show (evens (its.drop i)).toArray.size ≤ sizeLine
    rw [List.size_toArray]
    have h1 := evens_size (its.drop i)
    rw [List.length_drop] at h1
    omega
  unfold getItem
  try with_reducible refine wpAny_holding ?_
  first | refine wpAny_bind (wpAny_pure ?_) | skip
  refine wpAny_bind (wpAny_sequenceKey ht.typeIs (by decide) ?_)
  refine wpAny_bind (wpAny_callSpecial?_slot (name := Str.ofString "__getitem__") ht.typeIs PyProof.Rows.slot_tuple_getitem (wpAny_call_entry PyProof.Rows.slot_tuple_getitem ht.typeIs PyProof.Rows.entry_tuple_getitem ?_ (PyProof.Rows.args_tuple_getitem _ _)))
  show wpAny _ _ (Builtin.Tuple.tupleItemsOf (.ref t) >>= _) _ _ s
  refine wpAny_bind (PyProof.Rows.tupleItemsOf_ ht (wpAny_bind (wpAny_typeOf ts ?_)))
  rw [if_pos (by decide)]
  refine wpAny_bind ?_
  unfold Builtin.Slice.sliceApplied Builtin.Slice.sliceFields
  refine wpAny_bind (wpAny_bind (wpAny_field ho od (x := vl) rfl (wpAny_bind (wpAny_field ho od (x := .none) rfl (wpAny_bind (wpAny_field ho od (x := vs) rfl (wpAny_pure ?_)))))))
  refine wpAny_bind (HT.slicePart_ ps ?_)
  show wpAny _ _ (if ((2 : Int) == 0) = true then _ else _) _ _ s
  rw [if_neg (by decide)]
  refine wpAny_bind (HT.slicePart_ pl (wpAny_bind (HT.slicePart_ .none (wpAny_bind (wpAny_pure ?_)))))
  have sz : its.toArray.size = its.length := by rw [List.size_toArray]
  rw [sz]
  show wpAny _ _ (match Builtin.Slice.sliceAdjust (some (i : Int)) none 2 (its.length : Int) with | (lo, hi) => pure (lo, (2 : Int), Builtin.Slice.slicePlaces lo hi 2)) _ _ s
  rw [adj]
  refine wpAny_pure ?_
  have no : ¬ ((min (i : Int) (its.length : Int) == 0 && (2 : Int) == 1 && Builtin.Slice.slicePlaces (min (i : Int) (its.length : Int)) (its.length : Int) 2 == its.length) = true) := by
    intro q
    rw [Bool.and_eq_true, Bool.and_eq_true] at q
    exact absurd q.1.2 (by decide)
  show wpAny _ _ (if (min (i : Int) (its.length : Int) == 0 && (2 : Int) == 1 && Builtin.Slice.slicePlaces (min (i : Int) (its.length : Int)) (its.length : Int) 2 == its.length) = true then _ else _) _ _ s
  rw [if_neg no, many, pick]
  first
    | exact wpAny_bind (m := Builtin.Tuple.tupleExact _) (wpAny_newObj_type (wpAny_pure ⟨_, rfl, wpAny_pure h⟩) ok)
    | exact wpAny_bind (m := Builtin.Tuple.tupleExact _) (wpAny_newObj_type (wpAny_bind (wpAny_pure (wpAny_pure ⟨_, rfl, wpAny_pure h⟩))) ok)
    | exact wpAny_bind (wpAny_bind (m := Builtin.Tuple.tupleExact _) (wpAny_newObj_type (wpAny_pure (wpAny_pure ⟨_, rfl, wpAny_pure h⟩)) ok))
    | exact wpAny_bind (wpAny_bind (m := Builtin.Tuple.tupleExact _) (wpAny_newObj_type (wpAny_pure ⟨_, rfl, wpAny_pure h⟩) ok))
end

section
variable {X : Cx}
/-- t[i::2] -/
def tStep (K : PySem.W.Frag) (te tl ts : TE) : TE := fun σ H Q => te σ H fun x H1 => tl σ H1 fun y H2 => ts σ H2 fun z H3 => ∃ (a : Addr) (xs : List V) (i : Nat), x = .ref a ∧ y = .int (i : Int) ∧ z = .int 2 ∧ SqT K H3 a xs ∧
  ∀ p, H3 p = none → Q (.ref p) (upd H3 p (.tup (evens (xs.drop i))))
theorem pe_slStep {e lo st : Expr} {te tl ts : TE} {p2 pos : Pos} (he : PE X e te) (hl : PE X lo tl) (hs : PE X st ts) : PE X (.Subscript e (.Slice (some lo) none (some st) p2) pos) (tStep X.K te tl ts) := by
  refine ⟨fun pins s σ H Q I h => ?_⟩
  refine Subscript_ (thn (he.run pins s σ H _ I h) fun v s1 ⟨x, H1, I1, r1, q1⟩ => ?_)
  refine wpAny_Slice ?_
  rw [evalPart_some]
  refine thn (hl.run pins s1 σ H1 _ I1 q1) fun vl s2 ⟨y, H2, I2, r2, q2⟩ => ?_
  rw [evalPart_none]
  refine wpAny_pure ?_
  rw [evalPart_some]
  refine thn (hs.run pins s2 σ H2 _ I2 q2) fun vs s3 ⟨z, H3, I3, r3, q3⟩ => ?_
  obtain ⟨a, xs, i, ex, ey, ez, ha, q⟩ := q3
  subst ex ey ez
  cases r1
  obtain ⟨t2, rfl⟩ := r2
  obtain ⟨t3, rfl⟩ := r3
  have I4 : Inv X pins σ H3 { s3 with heap := s3.heap.push { cls := .type "slice", data := .fields #[.int (i : Int) t2, .none, .int 2 t3] } } := I3.kept (t' := s3.toks) fun b ob q => Heap.get?_push_of_some _ q
  obtain ⟨its, r, ht, hz⟩ := I4.tuple ha
  have hlen := r.length
  show wpAny (model X.prog X.w) X.A (subscriptTail e (.Slice (some lo) none (some st) p2) (.ref a) (.ref s3.heap.objs.size)) (EP X pins σ Q) X.xe { s3 with heap := s3.heap.push { cls := .type "slice", data := .fields #[.int (i : Int) t2, .none, .int 2 t3] } }
  refine tail_any (ops := [.ref a, .ref s3.heap.objs.size]) ht.typeIs PyProof.Rows.slot_tuple_getitem.lookup ?_ (by with_unfolding_all rfl)
  refine item_step ht (Heap.IsSliceOf.new ..) (.int _ _) (.int _ _) (by omega) ?_
  have rd : Vals (evens (xs.drop i)) (evens (its.drop i)) := evens_vals (r.drop i)
  refine ⟨.ref _, _, I4.laid (t' := s3.toks) (o := .tup (evens (xs.drop i))) (fun b ob q => Heap.get?_push_of_some _ q) (Nat.le_refl _) ?_, rfl, q _ (I4.hok.fresh (Nat.le_refl _))⟩
  refine ⟨?_, _, rd, IsTup.new _ _⟩
  have h1 := evens_size (xs.drop i)
  rw [List.length_drop] at h1
  omega

/-- t.count(n), t a tuple of ints -/
def rCntT (K : PySem.W.Frag) : V → List V → Hp → VK → Prop := fun x xs H Q => ∃ (p : Addr) (ns : List Int) (k : Int), x = .ref p ∧ xs = [.int k] ∧ SqT K H p (ns.map V.int) ∧ Q (.int (ns.count k : Nat)) H
theorem mt_tcount : MtR X "tuple.count" (rCntT X.K) := by
  intro pins s σ H x xs v us Q I rx rxs h
  obtain ⟨p, ns, k, rfl, rfl, hs, q⟩ := h
  cases rx
  obtain ⟨u, rfl, ru⟩ := rxs.one
  obtain ⟨t, rfl⟩ := ru
  obtain ⟨its, rv, ⟨⟨cls, dd, data, sl⟩, ho, hc, n, hd⟩, hlen⟩ := I.tuple hs
  simp only at hc hd
  subst hc hd
  have hi := ints_of_vals rv
  have ec : its.toArray.toList.countP (eqk k) = ns.count k := eqk_count hi
  refine call_meets PySem.F.slot_tuple_count ⟨_, ho, rfl⟩ PySem.F.entry_tuple_count (PySem.F.args_tuple_count_2 _ _) (SeqAt.tuple_countAt p its.toArray n dd sl (.int k t) (eqk k)) ⟨ho, fun y hy => (eqk_gives hi y (by simpa using hy)).at _ _, ?_⟩
  exact ⟨.int (ns.count k : Nat), H, I.tok _, ⟨s.toks, by rw [ec]⟩, q⟩

/-- each once, in the order of their first places -/
def onceI (ns : List Int) : List Int := ns.foldl PyProof.Rows.step_dedup []
theorem firstMet_once (ns : List Int) : PyProof.Rows.firstMet (fun i => ns.getD i 0) ns.length = onceI ns := by
  unfold PyProof.Rows.firstMet onceI
  congr 1
  refine List.ext_getElem? fun i => ?_
  rw [List.getElem?_map]
  by_cases hi : i < ns.length
  · rw [List.getElem?_range hi, List.getElem?_eq_getElem hi]
    show some (ns.getD i 0) = _
    rw [List.getD_eq_getElem?_getD, List.getElem?_eq_getElem hi]
    rfl
  · rw [List.getElem?_eq_none (by rw [List.length_range]; omega), List.getElem?_eq_none (by omega)]
    rfl
def tLenSet (K : PySem.W.Frag) (ta : TE) : TE := fun σ H Q => ta σ H fun x H1 => ∃ (l : Addr) (ns : List Int), x = .ref l ∧ SqL K H1 l (ns.map V.int) ∧ ns.length ≤ 4000 ∧ Q (.int ((onceI ns).length : Nat)) H1
theorem pe_lenSet {a : Expr} {ta : TE} {p p2 q pos : Pos} (hg : Gl X "len") (hm : X.mg "len" = none) (hg2 : Gl X "set") (hm2 : X.mg "set" = none) (ha : PE X a ta) (hc : X.calm = true := by rfl)
    (na : starEach [a] X.env = (false, eval a X.env) :: starEach [] X.env := by rfl) : PE X (.Call (.Name "len" p) [.Call (.Name "set" p2) [a] [] q] [] pos) (tLenSet X.K ta) := by
  refine ⟨fun pins s σ H Q I h => ?_⟩
  refine Call_ (ld_blt I hg hm boot_len (PyProof.Rows.callWith_builtin1 (PyProof.Rows.args_cons ?_ rfl) rfl rfl))
  refine Call_ (ld_blt I hg2 hm2 boot_set (PyProof.Rows.callWith_type1 (PyProof.Rows.args_cons (thn (ha.run pins s σ H _ I h) fun v s1 ⟨x, H1, I1, r1, q1⟩ => PyProof.Rows.args_nil ?_) na) na rfl))
  obtain ⟨l, ns, rfl, hq, hl, q1⟩ := q1
  cases r1
  obtain ⟨its, r, pl, hz⟩ := I1.list hq
  have lenI : its.toArray.size = ns.length := by rw [List.size_toArray, ← r.length, List.length_map]
  refine call_set_list (I1.ok.hd hc) pl.isList (by simpa using RZ.intsAre_vals r) (by rw [lenI]; unfold scanBound; omega) fun h' tk hS hk => PyProof.Rows.args_nil ?_
  rw [lenI, firstMet_once] at hS
  have few : (onceI ns).length ≤ ns.length := by
    have z := PyProof.Rows.firstMet_length_le (fun i => ns.getD i 0) ns.length
    rwa [firstMet_once] at z
  obtain ⟨o, es, ep, t, ho, hex, hd, _, _, _, hf, hn⟩ := hS
  have I2 : Inv X pins σ H1 { s1 with heap := h', toks := tk } := I1.kept fun b o e => hk b o (Heap.lt_size e) e
  exact call_len_set ho hex hd hf (by rw [hn] <;> omega) ⟨.int (onceI ns).length, H1, I2.tok _, ⟨_, by rw [hn]⟩, q1⟩
end
end Sw
set_option Elab.async false
set_option linter.all false
set_option maxRecDepth 100000
set_option maxHeartbeats 4000000
/-! Separating words: further rules: d.setdefault(t, x) with a tuple for a key; [e for c in text] while an exception is handled. -/
namespace Sw
open PySem PySem.Spec PyProof.Rows L2

/-! ### d.setdefault(t, x) -/
/-- d.setdefault(y, z), y a tuple -/
def tSetT (td ty tx : TE) : TE := fun σ H Q => td σ H fun x H1 => ∃ a, x = .ref a ∧ IsD H1 a ∧ ty σ H1 fun y H2 => tx σ H2 fun z H3 => ∃ (kvs : List (List Key × V)) (k : List Key) (b : Addr), y = .ref b ∧ H3 a = some (.dT kvs) ∧ H3 b = some (.tup (k.map kV)) ∧ kvs.length < sizeLine ∧
  (∀ v, valV kvs k = some v → Q v H3) ∧ (valV kvs k = none → Q z (upd H3 a (.dT (putK kvs k z))))
section
variable {X : Cx} {o e f : Expr} {td ty tx : TE} {apos cpos : Pos}
theorem pe_dsetT (hu : X.A.units + 1 < cLine) (ho : PE X o td) (he : PE X e ty) (hf : PE X f tx) (m : M2 X o "setdefault" apos e f cpos) : PE X (.Call (.Attribute o "setdefault" apos) [e, f] [] cpos) (tSetT td ty tx) := by
  refine ⟨fun pins s σ H Q I h => ?_⟩
  refine wpAny_Call_method m.base m.few m.line PySem.F.plainAttrs_dict PySem.F.slot_dict_setdefault PySem.F.type_dict_setdefault (thn (ho.run pins s σ H _ I h) fun u s1 ⟨x, H1, I1, rx, a, ex, d, q1⟩ => ?_)
  subst ex
  obtain rfl : u = Value.ref a := rx
  obtain ⟨t1, t2, _⟩ := isD_at I1 d
  refine ⟨t1, t2, ?_⟩
  rw [m.trees]
  refine Calls.callWith_builtin rfl (Calls.evalArgs_plain (Calls.spliced_cons (thn (he.run pins s1 σ H1 _ I1 q1) fun iv s2 ⟨y, H2, I2, ry, q2⟩ => Calls.spliced_cons (thn (hf.run pins s2 σ H2 _ I2 q2) fun fv s3 ⟨z, H3, I3, rz, kvs, k, b, ey, ea, eb, hl, q3, q4⟩ => Calls.spliced_nil ?_))))
  subst ey
  obtain rfl : iv = Value.ref b := ry
  obtain ⟨hz, hd, xs, rel, dd⟩ := dt_of I3.hok ea
  have len : xs.length ≤ sizeLine := by rw [← Paired.length rel]; exact hz
  have val := rel.val k
  refine call_setdefault_heap (hsz := len) (tupleKind_room_in1 hu) (key_of I3.hok eb) hd dd (fun p hp => ?_) fun hn h' dd' hs => ?_
  · rw [hp] at val
    cases c : valV kvs k with
    | none =>
      rw [c] at val
      exact (show False from val).elim
    | some v =>
      rw [c] at val
      exact ⟨v, _, I3.tok _, val, q3 v c⟩
  · rw [hn] at val
    cases c : valV kvs k with
    | some v =>
      rw [c] at val
      exact (show False from val).elim
    | none =>
      have hl2 : (putK kvs k z).length ≤ sizeLine := by
        have := length_putK kvs k z
        omega
      obtain ⟨ob, es, ep, hq, h2, h3, h4, _, h5⟩ := dd'
      refine ⟨z, _, d_write (ob := .dT (putK kvs k z)) (t' := s3.toks + _) I3 (by rw [ea]; trivial) hs ⟨ob, hq⟩ ⟨hl2, hd, _, (rel.put k eb rz).keeps fun c ys ec => ?_, ob, es, ep, hq, h2, h3, h4, h5⟩, rz, q4 c⟩
      rw [upd_ne (ne_of ec ea (fun z => nomatch z))]
      exact ec
end

/-! ### a text's signs while an exception is handled -/
section
variable {prog : Program} {w : World} {A : Around} {E : Value → Shared → Prop} {s : Shared}
theorem next_end_hot {it x1 : Addr} {x : Str} {t : Tok} {i : Nat} {Q : Option Value → Shared → Prop} (hot : HotX.HotAt A x1 s.heap) (hit : s.heap.IsStrIter it "str_ascii_iterator" x t i) (hx : x.cps[i]? = none)
    (hQ : ∀ h', (∀ b o, b ≠ it → s.heap.get? b = some o → h'.get? b = some o) → Q none { s with heap := h' }) : wpAny (model prog w) A (pyNext (.ref it)) Q E s := by
  obtain ⟨o, ho, hc, hd⟩ := id hit
  obtain ⟨hh, o1, vs1, h1, d1, c1⟩ := hot
  have ne : x1 ≠ it := fun z => by
    rw [z, ho] at h1
    cases h1
    rw [hd] at d1
    injection d1 with d1
    rw [← d1] at c1
    simp at c1
  unfold pyNext
  refine wpAny_bind (wpAny_attempt (wpAny_callSpecial?_slot (name := Str.ofString "__next__") hit.typeIs F.slot_str_ascii_iterator_next (wpAny_call_entry F.slot_str_ascii_iterator_next hit.typeIs F.entry_str_ascii_iterator_next ?_ (F.args_str_ascii_iterator_next_1 _))))
  show wpAny _ _ (field (.ref it) 0 >>= _) _ _ s
  refine wpAny_bind (wpAny_field ho hd (x := .str x t) rfl ?_)
  show wpAny _ _ (field (.ref it) 1 >>= _) _ _ s
  refine wpAny_bind (wpAny_field ho hd (x := .int i 0) rfl ?_)
  simp only [Int.toNat_natCast, hx]
  refine wpAny_bind (wpAny_rule (wpAny_bind (wpAny_setField ho hd (by simp) (wpAny_bind (wpAny_letGo ?_)))))
  generalize hU : s.heap.update it _ = U
  have keep : ∀ b ob, b ≠ it → s.heap.get? b = some ob → U.get? b = some ob := fun b ob hb e => by
    rw [← hU, Heap.get?_update_other _ _ (Ne.symm hb)]
    exact e
  show wpAny _ _ (newExc (.type "StopIteration") [] >>= _) _ _ _
  refine wpAny_bind ?_
  simp only [newExc, newTuple]
  refine wpAny_bind (wpAny_newObj_type ?_ (by size_fits))
  refine wpAny_bind (m := firstArgMember _ _) (wpAny_of_eq (a := Value.none) (by first | rfl | (simp only [firstArgMember]; rfl)) ?_)
  refine wpAny_newObj_type ?_ (by size_fits)
  have hot2 := Heap.get?_push_of_some { cls := .type "StopIteration", data := .fields #[.ref U.objs.size, .none, .none, .none, .bool false, .none, .none] } (Heap.get?_push_of_some { cls := .type "tuple", data := .seq ([] : List Value).toArray } (keep _ _ ne h1))
  refine HotX.raiseNew_hot ⟨hh, o1, vs1, Heap.get?_push_of_some _ (Heap.get?_push_of_some _ (keep _ _ ne h1)), d1, c1⟩ (Nat.ne_of_lt (Heap.lt_size (Heap.get?_push_of_some _ (keep _ _ ne h1)))) (Heap.get?_push_size _ rfl) rfl (by first | (simp; done) | (simp; omega) | (simp only [Array.size_append]; simp; omega)) ?_
  refine wpAny_bind (wpAny_isInstance (T := "StopIteration") (b := true) ⟨_, Heap.get?_update_self _ (Heap.get?_push_size _ rfl) rfl, rfl⟩ isSubtype_stop ?_)
  refine wpAny_pure (hQ _ fun b ob hb e => ?_)
  rw [Heap.get?_update_other _ _ (Nat.ne_of_gt (Heap.lt_size (Heap.get?_push_of_some _ (keep b ob hb e))))]
  exact Heap.get?_push_of_some _ (Heap.get?_push_of_some _ (keep b ob hb e))
end
theorem turn_strH {P : Program} {w : World} {K : PySem.W.Frag} {tg : Expr} (it : Addr) (x : Str) (t : Tok) : L2H.TurnH P w K tg (Its x) [it] it (fun i h => h.IsStrIter it "str_ascii_iterator" x t i) where
  mem := by simp
  obj := fun i h st b hb => by
    obtain rfl : b = it := by simpa using hb
    obtain ⟨o, e, c, d⟩ := st
    exact ⟨o, e, fun v z => by rw [d] at z; cases z⟩
  keep := fun i h h' st k => let ⟨o, ho, r⟩ := st; ⟨o, k it (by simp) o ho, r⟩
  item := by
    intro X hP hw hK hc i pins s σ H E I hf st hg
    subst hP hw hK
    obtain ⟨f0, f1, f2, f3, f4, f5⟩ := hf it (by simp)
    have hg : i < x.cps.size := hg
    refine wpAny_pyNext_ascii_item st (c := x.cps[i]) (by simp [hg]) fun h' st' sb => ?_
    have I1 : Inv X pins σ H { s with heap := h', toks := s.toks + 1 } := I.turned (fun b o hb e => (sb.2 b hb).trans e) f0 f1 f3 f4 f5
    obtain ⟨oi, e, cc, dd⟩ := id st'
    exact ⟨_, rfl, go_of (s := { s with heap := h', toks := s.toks + 1 }) e cc dd (by decide) ⟨.str ⟨#[x.cps[i]]⟩, H, I1, ⟨_, rfl⟩, ⟨rfl, _, by simp [hg], rfl⟩, st', fun b hb => (hf b hb).1⟩⟩
  done := by
    intro X hP hw hK hc i pins s σ H E I hf st hg
    subst hP hw hK
    obtain ⟨f0, f1, f2, f3, f4, f5⟩ := hf it (by simp)
    obtain ⟨x1, hot⟩ := hc.at I
    exact next_end_hot hot st (Array.getElem?_eq_none hg) fun h' eb => ⟨rfl, I.turned (t' := s.toks) (fun b o hb e => eb b o hb e) f0 f1 f3 f4 f5⟩
  self := fun A i s Q E st h => wpAny_pyIter_striter_ascii st h
/-- a text of plain signs -/
def iStrA (te : TE) : TI := fun σ H R => te σ H fun v H1 => ∃ x : Str, v = .str x ∧ x.cps.all (· < 128) = true ∧ R (Its x) H1
theorem pi_strH {X : Cx} {tg e : Expr} {te : TE} (he : PE X e te) : L2H.PIH X tg e (iStrA te) := by
  refine ⟨fun pins s σ H R I h => ?_⟩
  refine thn (he.run pins s σ H _ I h) fun v s1 ⟨y, H1, I1, r1, x, ex, ha, q⟩ => ?_
  subst ex
  obtain ⟨t, rfl⟩ := r1
  refine wpAny_pyIter_ascii ha ⟨s1.heap.objs.size, [s1.heap.objs.size], _, Its x, H1, rfl, I1.kept (t' := s1.toks) fun b ob e => Heap.get?_push_of_some _ e, turn_strH _ x t, ⟨_, Heap.get?_push_size _ rfl, rfl, rfl⟩, fun b hb => ?_, q⟩
  obtain rfl : b = s1.heap.objs.size := by simpa using hb
  exact I1.fpOk (Nat.le_refl _) (I1.hok.fresh (Nat.le_refl _))

/-! ### a comprehension while an exception is handled: its block keeps the exception pinned -/
abbrev blkH (X : Cx) (s : Shared) (H : Hp) (scope : Scope) (cenv : Env) (fp : List Addr) : Cx := (X.blk s H scope cenv fp).tr X.pn (fun _ _ => False)
def tLcH (wi : TI) (g : TG) (te : TE) (vs : List Nat) : TE := tLc wi g tYes te vs
theorem hotB {X : Cx} (hc : L2H.HotC X) (s : Shared) (H : Hp) (scope : Scope) (cenv : Env) (fp : List Addr) : L2H.HotC (blkH X s H scope cenv fp) := hc
section
variable {X : Cx}
theorem pe_lcH {elt tg iter : Expr} {scope : Scope} {own : List (Str × Nat)} {pos : Pos} {wi : TI} {g : TG} {te : TE} (hc : L2H.HotC X) (hN : X.N.Nodup) (hi : L2H.PIH X tg iter wi) (ok : BlkOk X.N X.env.scope scope own)
    (hg : ∀ (s : Shared) (H : Hp) (C : Addr) (cl : List (Str × Addr)) (fp : List Addr), PG (blkH X s H scope (compEnvC scope cl C X.env) fp) tg g)
    (he : ∀ (s : Shared) (H : Hp) (C : Addr) (cl : List (Str × Addr)) (fp : List Addr), PE (blkH X s H scope (compEnvC scope cl C X.env) fp) elt te) (hs : ∀ x, foldedSetIterable iter X.env x = pure x := by intro _; rfl) :
    PE X (.ListComp elt [⟨tg, iter, [], 0⟩] scope pos) (tLcH wi g te (own.map (·.2))) := by
  refine ⟨fun pins s σ H Q I h => ?_⟩
  have hfree : ∀ y ∈ scope.names, y.2 = .free → ∃ c, X.env.cells.lookup y.1 = some c := fun y hy e => (ok.free y hy e).elim (fun k => I.ok.has _ (.inl k)) fun k => I.ok.has _ (.inr k)
  rw [eval_ListComp]
  refine wpAny_comprehension_free (use := none) rfl hs (closure_ok hfree) ok.kind (fun y hy e => by rw [ok.uniq y hy, e]) (thn (hi.run pins s σ H _ I h) fun xv s1 hx => thn hx fun itv s2 h2 => ?_)
  obtain ⟨it, fp, tn, J, H2, e, I2, T, st2, f2, q⟩ := h2
  subst e
  refine wpAny_newObj_type (newEnv_comp ?_) (by show 0 ≤ sizeLine; decide)
  generalize hD : s2.heap.objs.size = D
  obtain ⟨W, ⟨m0, w0⟩, turn⟩ := q D (I2.hok.fresh (Nat.le_of_eq hD))
  generalize hs3 : ({ s2 with heap := s2.heap.push { cls := .type "list", data := .seq ([] : List Value).toArray } } : Shared) = s3
  have h3 : s3.heap = s2.heap.push { cls := .type "list", data := .seq ([] : List Value).toArray } := by rw [← hs3]
  have I3 : Inv X pins σ (upd H2 D (.lst [])) s3 := by
    rw [← hs3]
    refine I2.laid (t' := s2.toks) (fun b o e => Heap.get?_push_of_some _ e) (Nat.le_of_eq hD) ⟨Nat.zero_le _, [], 0, .nil, ?_⟩
    rw [← hD]
    exact Heap.get?_push_size _ rfl
  have sz : ∀ b ∈ fp, b < s2.heap.objs.size := fun b hb => let ⟨o, e, _⟩ := T.obj _ _ st2 b hb; Heap.lt_size e
  have f3 : ∀ b ∈ fp, FpOk X pins (upd H2 D (.lst [])) b ∧ b < s3.heap.objs.size := fun b hb => by
    refine ⟨⟨?_, (f2 b hb).2⟩, by rw [h3, Heap.size_push]; exact Nat.lt_succ_of_lt (sz b hb)⟩
    rw [upd_ne (by rw [← hD]; exact Nat.ne_of_lt (sz b hb))]
    exact (f2 b hb).1
  have st3 : tn 0 s3.heap := T.keep _ _ _ st2 fun b _ o e => by rw [h3]; exact Heap.get?_push_of_some _ e
  have B0 := block_start I3 ok hN f3
  have PG0 := hg s3 (upd H2 D (.lst [])) s3.heap.objs.size (cellsFrom (s3.heap.objs.size + 1) scope.names (cloFrom X.env.cells scope.names [])) fp
  have PE0 := he s3 (upd H2 D (.lst [])) s3.heap.objs.size (cellsFrom (s3.heap.objs.size + 1) scope.names (cloFrom X.env.cells scope.names [])) fp
  show codeAny _ _ (.compStart (.ListComp elt [⟨tg, iter, [], 0⟩] scope pos) 0 (.ref it) (.ref D) (compEnvC scope (cellsFrom (s3.heap.objs.size + 1) scope.names (cloFrom X.env.cells scope.names [])) s3.heap.objs.size X.env)) (compPost (model X.prog X.w) X.A X.xe none (EP X pins σ Q) (.ref D) s3.heap.objs.size) { s3 with heap := pushCells (s3.heap.push { cls := .type "dict", data := .dict #[] }) scope.names }
  have nfp : ∀ b ∈ fp, (upd H2 D (.lst [])) b = none := fun b hb => (f3 b hb).1.1
  generalize hce : compEnvC scope (cellsFrom (s3.heap.objs.size + 1) scope.names (cloFrom X.env.cells scope.names [])) s3.heap.objs.size X.env = ce at B0 PG0 PE0 ⊢
  have cL : ce.locals = s3.heap.objs.size := by subst hce; rfl
  generalize hH3 : upd H2 D (.lst []) = H3 at I3 B0 PG0 PE0 w0 nfp f3
  have gk : ∀ b o, s3.heap.get? b = some o → (pushCells (s3.heap.push { cls := .type "dict", data := .dict #[] }) scope.names).get? b = some o := fun b o e => pushCells_keeps _ _ _ _ (Heap.get?_push_of_some _ e)
  generalize hs4 : ({ s3 with heap := pushCells (s3.heap.push { cls := .type "dict", data := .dict #[] }) scope.names } : Shared) = s4 at B0 ⊢
  have k4 : ∀ b o, s3.heap.get? b = some o → s4.heap.get? b = some o := fun b o e => by rw [← hs4]; exact gk b o e
  have st4 : tn 0 s4.heap := T.keep _ _ _ st3 fun b _ o e => k4 b o e
  -- the exception's pin, in the block
  have pinB : ∀ p ∈ X.pn, s4.heap.get? p.1 = some p.2 ∧ H3 p.1 = none ∧ p.1 ≠ ce.locals ∧ p.1 ∉ frs X.stack ∧ ∀ v, p.2.data ≠ .cell v := fun p hp => by
    obtain ⟨g1, g2, g3, g4, g5⟩ := I3.pin p (List.mem_append_left _ hp)
    refine ⟨k4 _ _ g1, g2, by rw [cL]; exact Nat.ne_of_lt (Heap.lt_size g1), fun z => ?_, g5⟩
    rcases List.mem_cons.mp (I3.stkSub _ z) with z | z
    · exact g3 z
    · exact g4 z
  have I4 : Inv (blkH X s3 H3 scope ce fp) [] (wipe σ (own.map (·.2))) H3 s4 := (B0.pins_of (pins' := X.pn) pinB).toTry (fun _ _ => False)
  have hotH : L2H.HotC (blkH X s3 H3 scope ce fp) := hc
  have npn : ∀ b ∈ fp, ∀ p ∈ X.pn, p.1 ≠ b := fun b hb p hp => (f3 b hb).1.2.2.2.2.2 p (List.mem_append_left _ hp)
  have stat : ∀ {σ' : L2.St} {H' : Hp} {s' : Shared}, Inv (blkH X s3 H3 scope ce fp) [] σ' H' s' → (∀ b ∈ fp, H' b = none) → ∀ b ∈ fp, FpOk (blkH X s3 H3 scope ce fp) [] H' b := fun {σ' H' s'} I' hn b hb =>
    ⟨hn b hb, (I'.ok.exf b hb).1, I'.ok.exfs b hb, .inl hb, fun x c e => (I'.ok.exf b hb).2 x c e, fun p hp => npn b hb p (by simpa using (show p ∈ X.pn ++ [] from hp))⟩
  have loop : codeAny (model X.prog X.w) X.A (.compLoop (.ListComp elt [⟨tg, iter, [], 0⟩] scope pos) 0 (.ref it) (.ref D) ce) (compPost (model X.prog X.w) X.A X.xe none (EP X pins σ Q) (.ref D) s3.heap.objs.size) s4 := by
    refine compLoop_any (fun n s' => ∃ i H', Inv (blkH X s3 H3 scope ce fp) [] (wipe σ (own.map (·.2))) H' s' ∧ tn i s'.heap ∧ (∀ b ∈ fp, H' b = none) ∧ W i n H') ?_ m0 ⟨0, H3, I4, st4, nfp, w0⟩
    rintro n s5 ⟨i, H5, I5, st5, n5, w5⟩
    rcases turn i n H5 w5 with ⟨stop, qq⟩ | ⟨go, Nx, hNx, step⟩
    · refine thnF (T.done (blkH X s3 H3 scope ce fp) rfl rfl rfl hotH i [] s5 _ H5 (fun _ _ => False) I5 (stat I5 n5) st5 stop) fun r s6 ⟨hr, I6⟩ => ?_
      subst hr
      have I7 : Inv X pins σ H5 s6 := I3.call' (ch := fp) I6.os I6.base I6.hok I6.bare fun b hb => ⟨(f3 b hb).1.2.2.2.1, (f3 b hb).1.2.1, (f3 b hb).1.2.2.2.2.1, (f3 b hb).1.2.2.2.2.2⟩
      have nC : H5 s3.heap.objs.size = none := by
        have z : H5 ce.locals = none := I6.free
        rwa [cL] at z
      obtain ⟨m, hn, _⟩ := I6.loc
      have hn : s6.heap.Ns ce.locals m := hn
      rw [cL] at hn
      obtain ⟨g0, g1, g2, g3, g4, g5⟩ := I3.fpOk (Nat.le_refl _) nC
      exact ⟨m, hn, fun h'' sb => ⟨.ref D, H5, I7.turned (t' := s6.toks) (fun b o hb e => (sb.2 b hb).trans e) g0 g1 g3 g4 g5, rfl, qq⟩⟩
    · refine thnF (T.item (blkH X s3 H3 scope ce fp) rfl rfl rfl hotH i [] s5 _ H5 (fun _ _ => False) I5 (stat I5 n5) st5 go) fun r s6 ⟨u, hr, h6⟩ => ?_
      subst hr
      refine thnF h6 fun _ s7 ⟨x, H7, I7, r7, y7, st7, n7⟩ => ?_
      have I7' := I7.pinned (stat I7 n7) (T.obj _ _ st7)
      refine thnF (PG0.run _ s7 _ H7 x u _ I7' r7 (step x H7 y7)) fun _ s8 ⟨σ8, H8, I8, hw8, q8⟩ => ?_
      refine thnF ((pts_nil (X := blkH X s3 H3 scope ce fp)).run _ s8 σ8 H8 (fun b H9 => b = true ∧ H9 = H8) I8 ⟨rfl, rfl⟩) fun b s9 ⟨H9, I9, eb, eH⟩ => ?_
      subst eb eH
      simp only [if_true]
      have q8 : if true = true then te σ8 H9 fun y H4 => ∃ acc, H4 D = some (.lst acc) ∧ acc.length < sizeLine ∧ Nx (upd H4 D (.lst (acc ++ [y]))) else Nx H9 := q8
      rw [if_pos rfl] at q8
      refine thnF (PE0.run _ s9 σ8 H9 _ I9 q8) fun z s10 ⟨yv, H10, I10, r10, acc, hD10, hz10, nx⟩ => ?_
      refine app_ok (X := blkH X s3 H3 scope ce fp) I10 hD10 hz10 r10 fun s11 I11 => ?_
      obtain ⟨m', hm, w'⟩ := hNx _ nx
      have pin' : ∀ b ∈ fp, ∀ o, s7.heap.get? b = some o → s11.heap.get? b = some o ∧ (upd H10 D (.lst (acc ++ [yv]))) b = none := fun b hb o e =>
        let z := I11.pin (b, o) (List.mem_append_right _ (List.mem_append_right _ (mem_pinsAt hb e)))
        ⟨z.1, z.2.1⟩
      have hl : (wipe σ (own.map (·.2))).length = σ8.length := by rw [← hw8, wipe_length]
      refine ⟨m', hm, i + 1, _, (I11.unpinned (pins := [])).weak hl (fun j v e => ?_), T.keep _ _ _ st7 fun b hb o e => (pin' b hb o e).1, fun b hb => ?_, w'⟩
      · rw [← hw8] at e
        exact (wipe_some e).1
      · obtain ⟨o, e, _⟩ := T.obj _ _ st7 b hb
        exact (pin' b hb o e).2
  exact codeAny_compStart_list loop (T.self X.A 0 _ _ _ st4 loop)
end
end Sw
set_option Elab.async false
set_option linter.all false
set_option maxRecDepth 100000
set_option maxHeartbeats 4000000
/-! Separating words: rules whose answers need no cases (a tuple that may be an old one), rows of references. -/
namespace Sw
open PySem PySem.Spec PyProof.Rows L2

/-! ### numbers -/
theorem nvs_get {l : List Nat} {i : Nat} {x : V} (h : (nvs l)[i]? = some x) : ∃ n, l[i]? = some n ∧ x = nv n := by
  rw [List.getElem?_map] at h
  cases e : l[i]? with
  | none => rw [e] at h; cases h
  | some n =>
    rw [e] at h
    exact ⟨n, rfl, (Option.some.inj h).symm⟩
theorem nvs_at {l : List Nat} {i : Nat} {n : Nat} (h : l[i]? = some n) : (nvs l)[i]? = some (nv n) := by
  rw [List.getElem?_map, h]
  rfl
theorem nvs_len (l : List Nat) : (nvs l).length = l.length := List.length_map ..
theorem take_more {α : Type} {l : List α} {i : Nat} {x : α} (h : l[i]? = some x) : l.take (i + 1) = l.take i ++ [x] := by
  rw [List.take_add_one, h]
  rfl
theorem in_nvs (s : Nat) (l : List Nat) : inV (nv s) (nvs l) = l.contains s := by
  induction l with
  | nil => rfl
  | cons a l ih =>
    show (eqV (nv a) (nv s) || inV (nv s) (nvs l)) = (s == a || l.contains s)
    rw [ih]
    congr 1
    show ((a : Int) == (s : Int)) = (s == a)
    by_cases h : a = s
    · subst h; simp
    · have h1 : ¬ (a : Int) = (s : Int) := by omega
      have h2 : ¬ s = a := fun e => h e.symm
      rw [beq_eq_false_iff_ne.mpr h1, beq_eq_false_iff_ne.mpr h2]
theorem flat_nvs (l : List Nat) : (nvs l).all flatV = true := by
  rw [List.all_map]
  exact List.all_eq_true.mpr fun _ _ => rfl
theorem evens_map {α β : Type} (f : α → β) : ∀ l : List α, evens (l.map f) = (evens l).map f
  | [] => rfl
  | [_] => rfl
  | a :: b :: r => by
    show f a :: evens (r.map f) = f a :: (evens r).map f
    rw [evens_map f r]
theorem small_line {n : Nat} (h : n ≤ 1000000) : n ≤ sizeLine := Nat.le_trans h (by decide)
theorem small_lt {n : Nat} (h : n ≤ 1000000) : n < sizeLine := Nat.lt_of_le_of_lt h (by decide)

/-! ### t + u -/
section
variable {X : Cx}
def rCatU (K : PySem.W.Frag) : R2 := fun x y H Q => ∃ a b xs ys, x = .ref a ∧ y = .ref b ∧ SqT K H a xs ∧ SqT K H b ys ∧ xs.length + ys.length ≤ sizeLine ∧ ∀ p H', Same H H' → SqT K H' p (xs ++ ys) → Q (.ref p) H'
theorem op_catU : OpR X (binaryOp .Add) (rCatU X.K) := by
  intro pins s σ H x y v u Q I rx ry h
  obtain ⟨a, b, xs, ys, ex, ey, ha, hb, hz, q⟩ := h
  refine op_catA pins s σ H x y v u Q I rx ry ⟨a, b, xs, ys, ex, ey, ha, hb, hz, fun e => q b H (Same.refl H) (by rw [e]; exact hb), fun _ e => q a H (Same.refl H) (by rw [e, List.append_nil]; exact ha), fun _ _ p hp => q p _ ((Same.refl H).new hp) (SqT.of upd_same)⟩
/-- t[lo:hi] -/
def rSlU (K : PySem.W.Frag) : V → Option Int → Option Int → Hp → VK → Prop := fun x lo hi H Q => ∃ a xs, x = .ref a ∧ SqT K H a xs ∧ ∀ p H', Same H H' → SqT K H' p (cutV xs lo hi) → Q (.ref p) H'
theorem sl_tupU : SlR X (rSlU X.K) := by
  intro pins s σ H x v vl vu lo hi sl Q I rx hs pl pu h
  obtain ⟨a, xs, ex, hx, q⟩ := h
  refine sl_tupA pins s σ H x v vl vu lo hi sl Q I rx hs pl pu ⟨a, xs, ex, hx, fun e => ?_, fun _ p hp => q p _ ((Same.refl H).new hp) (SqT.of upd_same)⟩
  refine q a H (Same.refl H) ?_
  have : cutV xs lo hi = xs := by
    unfold cutV
    rw [e.1, e.2]
    simp
  rw [this]
  exact hx
theorem cutV_nat {xs : List V} {i j : Nat} : cutV xs (some (i : Int)) (some (j : Int)) = (xs.drop i).take (j - i) := by
  unfold cutV
  rw [HT.sIx_nat, HT.sIx_nat]
  by_cases hi : i ≤ xs.length
  · rw [Nat.min_eq_left hi]
    by_cases hj : j ≤ xs.length
    · rw [Nat.min_eq_left hj]
    · rw [Nat.min_eq_right (by omega), List.take_of_length_le (by rw [List.length_drop]; omega), List.take_of_length_le (by rw [List.length_drop]; omega)]
  · rw [Nat.min_eq_right (by omega : xs.length ≤ i), List.drop_of_length_le (by omega), List.drop_of_length_le (by omega)]
    simp
end

/-! ### rules by the frag's own name: in a comprehension's block the context's is another term -/
section
variable {X : Cx}
theorem ixl (K : PySem.W.Frag) (h : X.K = K := by rfl) : IxR X (rIxL K) := by subst h; exact ix_list
theorem ixt (K : PySem.W.Frag) (h : X.K = K := by rfl) : IxR X (rIxT K) := by subst h; exact ix_tup
theorem catU (K : PySem.W.Frag) (h : X.K = K := by rfl) : OpR X (binaryOp .Add) (rCatU K) := by subst h; exact op_catU
theorem inQ (K : PySem.W.Frag) (h : X.K = K := by rfl) : OpR X (compareOp .In) (rIn K false) := by subst h; exact op_in_seq
theorem ninQ (K : PySem.W.Frag) (h : X.K = K := by rfl) : OpR X (compareOp .NotIn) (rIn K true) := by subst h; exact op_notIn_seq
theorem slU (K : PySem.W.Frag) (h : X.K = K := by rfl) : SlR X (rSlU K) := by subst h; exact sl_tupU
theorem lenQ (K : PySem.W.Frag) (h : X.K = K := by rfl) : CallR X (.builtin "len") (fun xs H Q => ∃ p ys, xs = [.ref p] ∧ (SqL K H p ys ∨ SqT K H p ys) ∧ Q (.int ys.length) H) := by subst h; exact call_len_seq
theorem pe_fldK (K : PySem.W.Frag) {e : Expr} {f : Str} {ta : TE} {pos : Pos} (he : PE X e ta) (hb : attributeBase e f X.env (eval e X.env) = eval e X.env) (h : X.K = K := by rfl) : PE X (.Attribute e f pos) (tFld K ta f) := by subst h; exact pe_fld he hb
end

/-! ### stores beside a tuple, a list -/
theorem sqT_put {K : PySem.W.Frag} {H : Hp} {a p : Addr} {xs ys : List V} {o : HO} (hp : H p = some (.lst ys)) (h : SqT K H a xs) : SqT K (upd H p o) a xs := by
  rcases h with (h | ⟨ob, h⟩) | h
  · refine .inl (.inl ?_)
    rw [upd_ne (ne_of h hp (by intro z; cases z))]
    exact h
  · refine .inl (.inr ⟨ob, ?_⟩)
    rw [upd_ne (ne_of h hp (by intro z; cases z))]
    exact h
  · exact .inr h
theorem sqL_put {K : PySem.W.Frag} {H : Hp} {a p : Addr} {xs : List V} {o : HO} (ne : a ≠ p) (h : SqL K H a xs) : SqL K (upd H p o) a xs := by
  rcases h with (h | ⟨ob, h⟩) | h
  · exact .inl (.inl (by rw [upd_ne ne]; exact h))
  · exact .inl (.inr ⟨ob, by rw [upd_ne ne]; exact h⟩)
  · exact .inr h

/-! ### rows of references -/
theorem paired_get {α β : Type} {F : α → β → Prop} : ∀ {l : List α} {m : List β} {i : Nat} {y : β}, Paired F l m → m[i]? = some y → ∃ x, l[i]? = some x ∧ F x y
  | _, _, _, _, .nil, h => by simp at h
  | _, _, 0, y, .cons (a := a) (b := b) r _, h => by
    have : b = y := by simpa using h
    subst this
    exact ⟨a, rfl, r⟩
  | _, _, i + 1, y, .cons _ t, h => paired_get (i := i) t (by simpa using h)
theorem paired_get' {α β : Type} {F : α → β → Prop} : ∀ {l : List α} {m : List β} {i : Nat} {x : α}, Paired F l m → l[i]? = some x → ∃ y, m[i]? = some y ∧ F x y
  | _, _, _, _, .nil, h => by simp at h
  | _, _, 0, y, .cons (a := a) (b := b) r _, h => by
    have : a = y := by simpa using h
    subst this
    exact ⟨b, rfl, r⟩
  | _, _, i + 1, y, .cons _ t, h => paired_get' (i := i) t (by simpa using h)
theorem paired_append {α β : Type} {F : α → β → Prop} : ∀ {l l' : List α} {m m' : List β}, Paired F l m → Paired F l' m' → Paired F (l ++ l') (m ++ m')
  | _, _, _, _, .nil, s => s
  | _, _, _, _, .cons r t, s => .cons r (paired_append t s)
theorem paired_snoc_inv {α β : Type} {F : α → β → Prop} : ∀ {l : List α} {m : List β} {y : β}, Paired F l (m ++ [y]) → ∃ l' x, l = l' ++ [x] ∧ Paired F l' m ∧ F x y
  | _, [], y, h => by
    cases h with
    | cons r t =>
      cases t
      exact ⟨[], _, rfl, .nil, r⟩
  | _, b :: m, y, h => by
    cases h with
    | cons r t =>
      obtain ⟨l', x, rfl, h1, h2⟩ := paired_snoc_inv t
      exact ⟨_ :: l', x, rfl, .cons r h1, h2⟩
/-- tuples of numbers -/
def Rows (K : PySem.W.Frag) (H : Hp) (as : List Addr) (ls : List (List Nat)) : Prop := Paired (fun a l => SqT K H a (nvs l)) as ls
theorem Rows.same {K : PySem.W.Frag} {H H' : Hp} {as : List Addr} {ls : List (List Nat)} (s : Same H H') (r : Rows K H as ls) : Rows K H' as ls := Paired.mapP r fun _ _ h => s.tup h
theorem Rows.put {K : PySem.W.Frag} {H : Hp} {as : List Addr} {ls : List (List Nat)} {p : Addr} {ys : List V} {o : HO} (hp : H p = some (.lst ys)) (r : Rows K H as ls) : Rows K (upd H p o) as ls := Paired.mapP r fun _ _ h => sqT_put hp h
/-- a table: a list of rows of two numbers, lists -/
def TabL (K : PySem.W.Frag) (H : Hp) (a : Addr) (t : List (Nat × Nat)) : Prop := ∃ rs : List Addr, SqL K H a (rs.map V.ref) ∧ Paired (fun r (p : Nat × Nat) => SqL K H r [nv p.1, nv p.2]) rs t
/-- .. tuples -/
def TabT (K : PySem.W.Frag) (H : Hp) (a : Addr) (t : List (Nat × Nat)) : Prop := ∃ rs : List Addr, SqL K H a (rs.map V.ref) ∧ Paired (fun r (p : Nat × Nat) => SqT K H r [nv p.1, nv p.2]) rs t
theorem TabL.same {K : PySem.W.Frag} {H H' : Hp} {a : Addr} {t : List (Nat × Nat)} (s : Same H H') (h : TabL K H a t) : TabL K H' a t := let ⟨rs, h1, h2⟩ := h; ⟨rs, s.seq h1, Paired.mapP h2 fun _ _ h => s.seq h⟩
theorem TabT.same {K : PySem.W.Frag} {H H' : Hp} {a : Addr} {t : List (Nat × Nat)} (s : Same H H') (h : TabT K H a t) : TabT K H' a t := let ⟨rs, h1, h2⟩ := h; ⟨rs, s.seq h1, Paired.mapP h2 fun _ _ h => s.tup h⟩

/-! ### a comprehension over range(lo, hi, c) -/
theorem lc_rangeC {lo c : Int} {n : Nat} {g : TG} {tt : TT} {te : TE} {vs : List Nat} {σ : L2.St} {H1 : Hp} {D : Addr} {Qd : Hp → Prop} (Pv : Nat → Hp → Prop) (h0 : Pv 0 (upd H1 D (.lst [])))
    (hs : ∀ i H, i < n → Pv i H → g (.int (lo + (i : Nat) * c)) (wipe σ vs) H fun σ2 H2 => wipe σ2 vs = wipe σ vs ∧ tt σ2 H2 fun b H3 =>
      if b = true then te σ2 H3 fun y H4 => ∃ acc, H4 D = some (.lst acc) ∧ acc.length < sizeLine ∧ Pv (i + 1) (upd H4 D (.lst (acc ++ [y]))) else Pv (i + 1) H3) (hd : ∀ H, Pv n H → Qd H) :
    ∃ W : Nat → Nat → Hp → Prop, (∃ m, W 0 m (upd H1 D (.lst []))) ∧ ∀ i m H, W i m H →
      ((Itc lo c n).stop i H ∧ Qd H) ∨ ((Itc lo c n).go i H ∧ ∃ Nx : Hp → Prop, (∀ H', Nx H' → ∃ m', m' < m ∧ W (i + 1) m' H') ∧ ∀ x H', (Itc lo c n).yld i H x H' → g x (wipe σ vs) H' fun σ2 H2 => wipe σ2 vs = wipe σ vs ∧ tt σ2 H2 fun b H3 =>
        if b = true then te σ2 H3 fun y H4 => ∃ acc, H4 D = some (.lst acc) ∧ acc.length < sizeLine ∧ Nx (upd H4 D (.lst (acc ++ [y]))) else Nx H3) := by
  refine ⟨fun i m H => m = n - i ∧ i ≤ n ∧ Pv i H, ⟨n, by simp, Nat.zero_le _, h0⟩, fun i m H ⟨em, hi, p⟩ => ?_⟩
  rcases Nat.lt_or_eq_of_le hi with hlt | hlt
  · exact .inr ⟨hlt, Pv (i + 1), fun H' p' => ⟨n - (i + 1), by omega, rfl, hlt, p'⟩, fun x H' y => by rw [y.1, y.2]; exact hs i H hlt p⟩
  · exact .inl ⟨Nat.le_of_eq hlt.symm, hd H (by rw [← hlt]; exact p)⟩

/-! ### while, by a word and a measure, the test told by what it gives -/
theorem while_of {c : TT} {tb : TS} {D : Ends} {σ : L2.St} {H : Hp} (Pv : Nat → L2.St → Hp → Prop) (m : Nat) (h0 : Pv m σ H)
    (hs : ∀ m σ H, Pv m σ H → c σ H fun b H1 => if b = true then tb { D with nx := fun σ' H' => ∃ m', m' < m ∧ Pv m' σ' H', ct := fun σ' H' => ∃ m', m' < m ∧ Pv m' σ' H', bk := D.nx } σ H1 else D.nx σ H1) (mono : ∀ σ H Q Q', (∀ b H1, Q b H1 → Q' b H1) → c σ H Q → c σ H Q') : tWhile c tb D σ H := by
  refine ⟨Pv, ⟨m, h0⟩, fun m σ H p => mono σ H _ _ (fun b H1 q => ?_) (hs m σ H p)⟩
  cases b with
  | true => exact ⟨_, fun σ' H' h => h, q⟩
  | false => exact q
end Sw
set_option Elab.async false
set_option linter.all false
set_option maxRecDepth 100000
set_option maxHeartbeats 4000000
/-! Separating words: tuples that are made by tuple(..) are known to have no further attributes, so that their methods can be called. -/
namespace Sw
open PySem PySem.Spec PyProof.Rows L2
/-- a tuple as tuple(..) makes it -/
def PlT (H : Hp) (a : Addr) (xs : List V) : Prop := ∃ ob : Obj, H a = some (.frz ob (.tup xs)) ∧ ob.dict = none
theorem PlT.sq {K : PySem.W.Frag} {H : Hp} {a : Addr} {xs : List V} (h : PlT H a xs) : SqT K H a xs := let ⟨ob, h, _⟩ := h; .inl (.inr ⟨ob, h⟩)
theorem PlT.same {H H' : Hp} {a : Addr} {xs : List V} (s : Same H H') (h : PlT H a xs) : PlT H' a xs := let ⟨ob, h, d⟩ := h; ⟨ob, s _ _ h, d⟩
section
variable {X : Cx}
theorem call_tupleF : CallR X (.type "tuple") (fun xs H Q => ∃ p ys, xs = [.ref p] ∧ SqL X.K H p ys ∧ ∀ (l : Addr) (ob : Obj), H l = none → ob.dict = none → Q (.ref l) (upd H l (.frz ob (.tup ys)))) := by
  intro pins s σ H xs us Q I r h
  obtain ⟨p, ys, rfl, hq, q⟩ := h
  obtain ⟨u, rfl, rx⟩ := vals1 r
  cases rx
  obtain ⟨its, r', pl, hz⟩ := I.list hq
  have hlen := r'.length
  refine call_tuple_list pl.isList (fun h' kp => ?_) (by simp only [List.size_toArray] <;> omega)
  have I1 : Inv X pins σ H { s with heap := h' } := I.kept (t' := s.toks) kp
  have I2 : Inv X pins σ (upd H h'.objs.size (.frz { cls := .type "tuple", data := .seq its.toArray } (.tup ys))) { s with heap := h'.push { cls := .type "tuple", data := .seq its.toArray } } :=
    I1.laid (t' := s.toks) (fun b o e => Heap.get?_push_of_some _ e) (Nat.le_refl _) (show ObjOk X.prog X.w _ _ _ (.frz _ (.tup ys)) from ⟨Heap.get?_push_size _ rfl, hz, its, r', IsTup.new _ _⟩)
  exact ⟨.ref h'.objs.size, _, I2, rfl, q _ _ (I1.hok.fresh (Nat.le_refl _)) rfl⟩
def tBMT (r : V → List V → Hp → VK → Prop) (to : TE) (t : TA) : TE := fun σ H Q => to σ H fun x H1 => (∃ a xs, x = .ref a ∧ PlT H1 a xs) ∧ t σ H1 fun xs H2 => r x xs H2 Q
theorem pe_bmT {o e : Expr} {es : List Expr} {to : TE} {t : TA} {name : Str} {apos cpos : Pos} {id : String} {r : V → List V → Hp → VK → Prop}
    (pa : PlainAttrs "tuple") (slot : Slot "tuple" name id) (hty : typeOf (.builtin id) = pure (.type "method_descriptor")) (hm : MtR X id r) (ho : PE X o to) (ha : PA X (e :: es) t)
    (hbase : attributeBase o name X.env (eval o X.env) = eval o X.env := by rfl)
    (hfew : ((backTo cpos (starEach (e :: es) X.env)).all (fun x => !x.1) && (backToKw cpos (keywordEach [] X.env)).all (fun x => x.1.isSome)
      && decide ((e :: es).length + ([] : List Keyword).length + (if ([] : List Keyword).isEmpty then 0 else 1) < 30)) = true := by rfl)
    (hline : (apos.endLine == cpos.line) = true := by rfl) (hs : starEach (e :: es) X.env = (false, eval e X.env) :: starEach es X.env := by rfl) (hplain : (backTo cpos (starEach es X.env)).any (·.1) = false := by rfl) :
    PE X (.Call (.Attribute o name apos) (e :: es) [] cpos) (tBMT r to t) := by
  refine ⟨fun pins s σ H Q I h => ?_⟩
  refine wpAny_Call_method_late hbase hfew hline rfl (thn (ho.run pins s σ H _ I h) fun v s1 ⟨x, H1, I1, r1, ⟨a, xs, ex, ob, hob, hd⟩, q1⟩ => ?_)
  subst ex
  cases r1
  obtain ⟨g, _, its, _, pl⟩ := (I1.hok a _ hob : ObjOk X.prog X.w H1 s1.heap a (.frz ob (.tup xs)))
  refine ⟨"tuple", id, pa, slot, hty, pl.typeIs, fun b e => ?_, ?_⟩
  · cases e
    exact ⟨ob, g, hd⟩
  have hA := ha.run cpos pins s1 σ H1 _ I1 q1
  rw [hs] at hA ⊢
  refine Calls.callWith_builtin (by show (false || (backTo cpos (starEach es X.env)).any (·.1)) = false; rw [hplain] <;> rfl) (Calls.evalArgs_plain ?_)
  exact thn hA fun us s2 ⟨vs, H2, I2, r2, q2⟩ => hm pins s2 σ H2 (.ref a) vs _ us Q I2 rfl r2 q2
end
end Sw
set_option Elab.async false
set_option linter.all false
set_option maxRecDepth 100000
set_option maxHeartbeats 4000000
/-! Separating words: an exception of an own class with its own __init__ walked, made where nothing is handled: its context is None. -/
namespace Sw
open PySem PySem.Spec PyProof.Rows L2
section
variable {X : Cx} {e : Expr} {es : List Expr} {ta : TA} {p pos : Pos}
theorem pmk_oexN {CX : CXT} {x : Str} {C fI : Addr} {k : Nat} {fd : FuncData} {ps : List Str} {sp : Sp} (T : OexC X.K C) (iC : PySem.W.findIn X.K (.ref C) "__init__" = some (some (.ref fI))) (tI : PySem.W.typeIn X.K (.ref fI) = some (.type "function"))
    (F1 : FnOk X.prog X.w X.K X.mg X.base CX k fI fd ps sp) (hr : Room (k + 1) X.A) (hb : Binds X.K fd ps []) (hx : Passes CX X (fun _ _ _ => False)) (hg : Gl X x) (hm : X.mg x = some (.ref C)) (ha : PA X (e :: es) ta)
    (hdb : (x == ("__debug__" : Str)) = false := by decide) (he : starEach (e :: es) X.env = (false, eval e X.env) :: starEach es X.env := by rfl) (hpl : (backTo pos (starEach es X.env)).any (·.1) = false := by rfl) :
    L2N.PMk X (.Call (.Name x p) (e :: es) [] pos) (tMkO C sp [] ta) := by
  intro pins s σ H Q I h
  obtain ⟨nm, q, N, bs, bm, sn, sub, ab, col, dd, k0, k1, k2, k3, k5, hC, hbm⟩ := T.cls
  refine wpAny_Call_Name_kw (ld_glob I hg hm ?_ hdb)
  refine PySem.W.callWith_K (h₀ := X.base) I.ok.mod.kin T.kC (thn (ha.run pos pins s σ H _ I h) fun us s1 ⟨vs, H1, I1, r1, hz, q1⟩ => ⟨I1.kIn, ?_⟩) he hpl
  show wpAny _ _ (call (.ref C) us) _ _ _
  obtain ⟨hp, g, dr, tk, os⟩ := s1
  have hsz : hp.objs.size ≤ hp.objs.size + 1 := Nat.le_succ _
  have hq := q1 (hp.objs.size + 1) (I1.hok.fresh hsz)
  rw [List.append_nil] at hq
  have kk : ∀ b o, hp.get? b = some o → ((hp.push (PySem.W.kdv_tup us)).push (PySem.HandSPX.excO C hp.objs.size)).get? b = some o := fun b o e => Heap.get?_push_of_some _ (Heap.get?_push_of_some _ e)
  have hget : ((hp.push (PySem.W.kdv_tup us)).push (PySem.HandSPX.excO C hp.objs.size)).get? (hp.objs.size + 1) = some (PySem.HandSPX.excO C hp.objs.size) := by heap_get
  have I2 : Inv X pins σ (upd H1 (hp.objs.size + 1) (exo (hp.objs.size + 1) C none)) ⟨(hp.push (PySem.W.kdv_tup us)).push (PySem.HandSPX.excO C hp.objs.size), g, dr, tk, os⟩ :=
    I1.laid (t' := tk) (a := hp.objs.size + 1) (o := exo (hp.objs.size + 1) C none) (h' := (hp.push (PySem.W.kdv_tup us)).push (PySem.HandSPX.excO C hp.objs.size)) kk hsz (exo_ok hget)
  have r2 : Vals (V.ref (hp.objs.size + 1) :: vs) (Value.ref (hp.objs.size + 1) :: us) := .cons rfl r1
  have hl : (Value.ref (hp.objs.size + 1) :: us ++ []).length = ps.length := by
    have e := r2.length
    rw [F1.len _ _ _ _ hq] at e
    rw [List.append_nil]
    exact e.symm
  have hus : us.length ≤ sizeLine := by
    rw [← Paired.length r1, sizeLine_eq]
    omega
  have b2 := hb _ (Value.ref (hp.objs.size + 1) :: us) I2.kIn hl
  rw [List.append_nil] at b2
  refine wpAny_call (PySem.HandSPX.call_own F.excBase_ValueError (fun Y => PySem.HandSPX.refsVE_contains Y bm hbm) (I1.kIn _ _ hC) (PySem.W.looks_findIn I1.kIn iC) (fun self => PySem.W.bind_fn I1.kIn self tI) hus
    (codeAny_mono (F1.run _ X.stack _ _ ⟨Value.ref (hp.objs.size + 1) :: us, []⟩ (Value.ref (hp.objs.size + 1) :: us) _ _ (fun _ _ _ => False) (hr.make C us []) (I2.env0.make C us []) b2 r2 hq) fun r s' hq' => ?_))
  cases r with
  | error er => exact hx pins σ _ _ er s' I2 hq'
  | ok fl =>
    cases fl with
    | ret u =>
      obtain ⟨v, H2, os2, bare2, un2, hok2, rv, ev, d, fs, ea, ed, hd1, q2⟩ := hq'
      subst ev
      obtain ⟨h2, g2, d2, t2, os'⟩ := s'
      obtain ⟨t0, G, J, kG, ge, hoe, na⟩ := mk_end0 (d2 := d2) (t2 := t2) I1 hsz kk un2 hok2 os2 bare2 ea ed hd1
      refine ⟨rv, hp.objs.size + 1, _, _, ⟨G, g2, d2, t2, os'⟩, _, .ref C, some d, rfl, J, kG, ge, hoe, ⟨rfl, rfl, fun ws hw => ?_⟩, rfl, rfl, na, rfl, bare2, raises_own T.exC T.tyC, q2⟩
      injection hw with hw
      rw [← hw]
      rfl
    | next => exact False.elim hq'
    | brk => exact False.elim hq'
    | cont => exact False.elim hq'
end
end Sw
set_option Elab.async false
set_option linter.all false
set_option maxRecDepth 100000
set_option maxHeartbeats 2000000
/-! Separating words: tables, their words' ends. -/
namespace Sw
open PySem PySem.Spec PyProof.Rows L2
section
variable {P : Program} {w : World} {K : PySem.W.Frag} {mg : Str → Option Value} {base : Heap} {A : Ad}

theorem kend_snoc {es : List Nat} {l : Nat} : ∀ {w : List Nat} {st : Nat}, kend es st (w ++ [l]) = match kend es st w with
    | none => none
    | some s => es[2 * s + l]?
  | [], st => by
    show (match es[2 * st + l]? with | none => none | some s => kend es s []) = es[2 * st + l]?
    cases es[2 * st + l]? <;> rfl
  | a :: r, st => by
    show (match es[2 * st + a]? with | none => none | some s => kend es s (r ++ [l])) = match (match es[2 * st + a]? with | none => none | some s => kend es s r) with | none => none | some s => es[2 * s + l]?
    cases es[2 * st + a]? with
    | none => rfl
    | some s => exact kend_snoc
theorem kend_none {es : List Nat} : ∀ {w r : List Nat} {st : Nat}, kend es st w = none → kend es st (w ++ r) = none
  | [], _, _, h => by cases h
  | a :: w, r, st, h => by
    unfold kend at h
    show kend es st (a :: (w ++ r)) = none
    unfold kend
    cases e : es[2 * st + a]? with
    | none => rfl
    | some s =>
      rw [e] at h
      exact kend_none h

/-- known_end(entries, word) -/
def spKnown (K : PySem.W.Frag) : Sp := fun vs H Q _ => ∃ (a b : Addr) (es wd : List Nat), vs = [.ref a, .ref b] ∧ SqT K H a (nvs es) ∧ SqT K H b (nvs wd) ∧ Q (.int (kInt (kend es 0 wd))) H
theorem c_known_end (T : Txt K mg A) : Cal P w K mg base CX0 1 "known_end" (spKnown K) := by
  refine cal_of T.d_known_end sc_known_end (fun vs H Q E h => ?_) (fun f cdv A outer s H vs Q E hr h => ?_)
  · obtain ⟨a, b, es, wd, rfl, _⟩ := h
    rfl
  · obtain ⟨a, b, es, wd, rfl, ha, hb, k⟩ := h
    refine ⟨_, (pss_cons (ps_set (i := 2) sc_known_end.nd rfl (Or.inl rfl) pe_int)
      (pss_cons (ps_for PassesOwn.never rfl (pi_tup (pv 1)) (pg_name (i := 3) sc_known_end.nd rfl (Or.inl rfl))
       (pss_cons (ps_set (i := 4) sc_known_end.nd rfl (Or.inl rfl) (pe_op op_add (pe_op op_mul (pe_gi rfl T.LETTERS) (pv 2)) (pv 3)))
        (pss_cons (ps_if (pt_cmpR op_ge (pv 4) (pe_callB (lenQ K) rfl T.len PySem.boot_len (pa_cons (pv 0) pa_nil)) (nomark _))
         (pss_one (ps_ret (pe_un un_neg pe_int)))
         pss_nil)
        (pss_one (ps_set (i := 2) sc_known_end.nd rfl (Or.inl rfl) (pe_ix (ixt K) (pv 0) (pv 4) (fun _ _ => rfl)))))))
      (pss_one (ps_ret (pv 2))))), ?_⟩
    refine ⟨_, rfl, b, rfl, ⟨_, hb⟩, for_tup (K := K) (a := b) (xs := nvs wd) (fun i σ H' => ∃ (st : Nat) (x y : Option V), σ = [some (.ref a), some (.ref b), some (nv st), x, y] ∧ H' = H ∧ kend es 0 (wd.take i) = some st)
      ⟨0, none, none, rfl, rfl, rfl⟩ (fun i σ H' _ ⟨_, _, _, _, e, _⟩ => by rw [e]; exact hb) ?_ ?_⟩
    · rintro i x σ H' hi ⟨st, x0, y0, rfl, rfl, hk⟩
      obtain ⟨l, hl, rfl⟩ := nvs_get hi
      have hs : kend es 0 (wd.take (i + 1)) = es[2 * st + l]? := by rw [take_more hl, kend_snoc, hk]
      refine ⟨_, rfl, _, _, rfl, rfl, .inl (by decide), _, rfl, _, _, rfl, rfl, ?_⟩
      refine ⟨_, rfl, _, rfl, a, _, rfl, .inr ha, _, _, rfl, rfl, _, rfl, ?_⟩
      refine ite2 (fun hc => ?_) (fun hc => ?_)
      · have hge : es.length ≤ 2 * st + l := by
          have := of_decide_eq_true hc
          rw [List.length_map] at this
          omega
        have hn : es[2 * st + l]? = none := List.getElem?_eq_none hge
        have : kend es 0 wd = none := by
          rw [← List.take_append_drop (i + 1) wd]
          exact kend_none (by rw [hs, hn])
        rw [this] at k
        exact ⟨_, rfl, k⟩
      · have hlt : 2 * st + l < es.length := by
          have := of_decide_eq_false (Bool.eq_false_iff.mpr hc)
          rw [List.length_map] at this
          omega
        refine ⟨_, rfl, _, rfl, a, _, _, nv es[2 * st + l], rfl, rfl, ha, at_of (j := 2 * st + l) (by push_cast; rfl) (by rw [List.getElem?_map, List.getElem?_eq_getElem hlt]; rfl), ?_⟩
        exact ⟨_, _, _, rfl, rfl, by rw [hs, List.getElem?_eq_getElem hlt]⟩
    · rintro σ H' ⟨st, x0, y0, rfl, rfl, hk⟩
      rw [List.length_map, List.take_length] at hk
      rw [hk] at k
      exact ⟨_, rfl, k⟩

/-- end_of(table, word) -/
def spEnd (K : PySem.W.Frag) : Sp := fun vs H Q _ => ∃ (a b : Addr) (t : List (Nat × Nat)) (wd : List Nat), vs = [.ref a, .ref b] ∧ TabL K H a t ∧ SqT K H b (nvs wd) ∧ Tab t.length t ∧ 1 ≤ t.length ∧ (∀ l ∈ wd, l < 2) ∧ Q (.int (R7291g.Spec.finalStateOf t wd : Nat)) H
theorem run_snoc (t : List (Nat × Nat)) (l : Nat) : ∀ (wd : List Nat) (p : Nat), R7291g.Spec.run t p (wd ++ [l]) = R7291g.Spec.transition t (R7291g.Spec.run t p wd) l
  | [], _ => rfl
  | a :: r, p => run_snoc t l r _
theorem run_lt {t : List (Nat × Nat)} (ht : Tab t.length t) : ∀ (wd : List Nat) (p : Nat), p < t.length → R7291g.Spec.run t p wd < t.length
  | [], _, h => h
  | a :: r, p, h => run_lt ht r _ (transition_lt ht h)
theorem pair_at {t : List (Nat × Nat)} {p l : Nat} {q : Nat × Nat} (h : t[p]? = some q) (hl : l < 2) : ([nv q.1, nv q.2] : List V)[l]? = some (nv (R7291g.Spec.transition t p l)) := by
  have e : t.getD p (0, 0) = q := by rw [List.getD_eq_getElem?_getD, h]; rfl
  unfold R7291g.Spec.transition
  rw [e]
  have : l = 0 ∨ l = 1 := by omega
  rcases this with rfl | rfl <;> rfl
theorem refs_at {rs : List Addr} {i : Nat} {r : Addr} (h : rs[i]? = some r) : (rs.map V.ref)[i]? = some (.ref r) := by
  rw [List.getElem?_map, h]
  rfl
theorem c_end_of (T : Txt K mg A) : Cal P w K mg base CX0 1 "end_of" (spEnd K) := by
  refine cal_of T.d_end_of sc_end_of (fun vs H Q E h => ?_) (fun f cdv A outer s H vs Q E hr h => ?_)
  · obtain ⟨a, b, t, wd, rfl, _⟩ := h
    rfl
  · obtain ⟨a, b, t, wd, rfl, ⟨rs, ha, hrs⟩, hb, ht, h1, hw, k⟩ := h
    refine ⟨_, (pss_cons (ps_set (i := 2) sc_end_of.nd rfl (Or.inl rfl) pe_int)
      (pss_cons (ps_for PassesOwn.never rfl (pi_tup (pv 1)) (pg_name (i := 3) sc_end_of.nd rfl (Or.inl rfl))
       (pss_one (ps_set (i := 2) sc_end_of.nd rfl (Or.inl rfl) (pe_ix (ixl K) (pe_ix (ixl K) (pv 0) (pv 2) (fun _ _ => rfl)) (pv 3) (fun _ _ => rfl)))))
      (pss_one (ps_ret (pv 2))))), ?_⟩
    refine ⟨_, rfl, b, rfl, ⟨_, hb⟩, for_tup (K := K) (a := b) (xs := nvs wd) (fun i σ H' => ∃ (y : Option V), σ = [some (.ref a), some (.ref b), some (nv (R7291g.Spec.run t 0 (wd.take i))), y] ∧ H' = H)
      ⟨none, rfl, rfl⟩ (fun i σ H' _ ⟨_, _, e⟩ => by rw [e]; exact hb) ?_ ?_⟩
    · rintro i x σ H' hi ⟨y0, rfl, rfl⟩
      obtain ⟨l, hl, rfl⟩ := nvs_get hi
      have hl2 := hw l (List.mem_of_getElem? hl)
      have hp := run_lt ht (wd.take i) 0 h1
      obtain ⟨r, hr1, hr2⟩ := paired_get hrs (List.getElem?_eq_getElem hp)
      refine ⟨_, rfl, _, rfl, a, _, _, .ref r, rfl, rfl, ha, at_of rfl (refs_at hr1), ?_⟩
      refine ⟨_, rfl, r, _, _, _, rfl, rfl, hr2, at_of rfl (pair_at (List.getElem?_eq_getElem hp) hl2), ?_⟩
      refine ⟨some (nv l), ?_, rfl⟩
      rw [take_more hl, run_snoc]
      rfl
    · rintro σ H' ⟨y0, rfl, rfl⟩
      rw [List.length_map, List.take_length]
      exact ⟨_, rfl, k⟩

/-- is_reversible(table) -/
def spRev (K : PySem.W.Frag) : Sp := fun vs H Q _ => ∃ (a : Addr) (t : List (Nat × Nat)), vs = [.ref a] ∧ TabL K H a t ∧ t.length ≤ 1000 ∧ ∀ H', Same H H' → Q (.bl (R7291g.Spec.isReversibleTable t)) H'
theorem once_len : ∀ (l acc : List Int), acc.Nodup → (l.foldl PyProof.Rows.step_dedup acc).length ≤ acc.length + l.length ∧ ((l.foldl PyProof.Rows.step_dedup acc).length = acc.length + l.length ↔ (acc ++ l).Nodup)
  | [], acc, h => ⟨Nat.le_refl _, by simp [h]⟩
  | x :: l, acc, h => by
    show (l.foldl PyProof.Rows.step_dedup (PyProof.Rows.step_dedup acc x)).length ≤ _ ∧ _
    by_cases hx : x ∈ acc
    · have e : PyProof.Rows.step_dedup acc x = acc := by
        unfold PyProof.Rows.step_dedup
        rw [if_pos (List.any_eq_true.mpr ⟨x, hx, by simp⟩)]
      have e3 : (x :: l).foldl PyProof.Rows.step_dedup acc = l.foldl PyProof.Rows.step_dedup acc := by rw [List.foldl_cons, e]
      rw [← List.foldl_cons, e3]
      obtain ⟨h1, h2⟩ := once_len l acc h
      rw [List.length_cons]
      refine ⟨by omega, fun q => ?_, fun q => ?_⟩
      · omega
      · exact absurd rfl ((List.nodup_append.mp q).2.2 x hx x List.mem_cons_self)
    · have e : PyProof.Rows.step_dedup acc x = acc ++ [x] := by
        unfold PyProof.Rows.step_dedup
        rw [if_neg]
        intro q
        obtain ⟨y, hy, ey⟩ := List.any_eq_true.mp q
        have : y = x := eq_of_beq ey
        exact hx (this ▸ hy)
      obtain ⟨h1, h2⟩ := once_len l (acc ++ [x]) (nodup_snoc h hx)
      rw [List.length_append, List.length_singleton] at h1 h2
      rw [List.length_cons]
      have e2 : acc ++ x :: l = (acc ++ [x]) ++ l := by simp
      rw [e2]
      have e3 : (x :: l).foldl PyProof.Rows.step_dedup acc = l.foldl PyProof.Rows.step_dedup (acc ++ [x]) := by rw [List.foldl_cons, e]
      rw [← List.foldl_cons, e3]
      exact ⟨by omega, fun q => h2.mp (by omega), fun q => by have := h2.mpr q; omega⟩
theorem diff_nodup : ∀ l : List Nat, R7291g.Spec.allDifferent l = true ↔ l.Nodup
  | [] => by simp [R7291g.Spec.allDifferent]
  | a :: l => by
    unfold R7291g.Spec.allDifferent
    rw [Bool.and_eq_true, diff_nodup l, List.nodup_cons]
    simp
theorem ints_nodup {l : List Nat} : (l.map fun n : Nat => (n : Int)).Nodup ↔ l.Nodup := by
  constructor
  · exact fun h => List.Pairwise.of_map _ (fun a b hab e => hab (by rw [e])) h
  · exact fun h => List.Pairwise.map _ (fun a b hab e => hab (by omega)) h
theorem once_lt (l : List Nat) : (((onceI (l.map fun n : Nat => (n : Int))).length : Nat) : Int) < (l.length : Int) ↔ R7291g.Spec.allDifferent l = false := by
  obtain ⟨h1, h2⟩ := once_len (l.map fun n : Nat => (n : Int)) [] List.nodup_nil
  have e1 : ([] : List Int).length + (l.map fun n : Nat => (n : Int)).length = l.length := by rw [List.length_map]; exact Nat.zero_add _
  rw [e1] at h1 h2
  rw [List.nil_append, ints_nodup, ← diff_nodup] at h2
  show (((l.map fun n : Nat => (n : Int)).foldl PyProof.Rows.step_dedup []).length : Int) < _ ↔ _
  cases hd : R7291g.Spec.allDifferent l with
  | true =>
    have := h2.mpr hd
    simp
    omega
  | false =>
    have hne : (List.foldl PyProof.Rows.step_dedup [] (l.map fun n : Nat => (n : Int))).length ≠ l.length := fun e => by
      have := h2.mp e
      rw [hd] at this
      cases this
    simp
    omega
/-- a column of a table -/
def col (l : Nat) (t : List (Nat × Nat)) : List Nat := t.map fun p => if l = 0 then p.1 else p.2
theorem rev_col (t : List (Nat × Nat)) : R7291g.Spec.isReversibleTable t = (R7291g.Spec.allDifferent (col 0 t) && R7291g.Spec.allDifferent (col 1 t)) := rfl
theorem col_at {q : Nat × Nat} {l : Nat} (hl : l < 2) : ([nv q.1, nv q.2] : List V)[l]? = some (nv (if l = 0 then q.1 else q.2)) := by
  have : l = 0 ∨ l = 1 := by omega
  rcases this with rfl | rfl <;> rfl
theorem col_more {t : List (Nat × Nat)} {i : Nat} {q : Nat × Nat} {l : Nat} (h : t[i]? = some q) : (nvs (col l (t.take (i + 1)))) = nvs (col l (t.take i)) ++ [nv (if l = 0 then q.1 else q.2)] := by
  rw [take_more h]
  unfold col
  simp
theorem c_is_reversible (T : Txt K mg A) : Cal P w K mg base CX0 1 "is_reversible" (spRev K) := by
  refine cal_of T.d_is_reversible sc_is_reversible (fun vs H Q E h => ?_) (fun f cdv A outer s H vs Q E hr h => ?_)
  · obtain ⟨a, t, rfl, _⟩ := h
    rfl
  · obtain ⟨a, t, rfl, ⟨rs, ha, hrs⟩, h1, k⟩ := h
    have hlen : rs.length = t.length := Paired.length hrs
    refine ⟨_, (pss_cons (ps_for PassesOwn.never rfl (pi_range1 rfl T.range (pa_cons (pe_gi rfl T.LETTERS) pa_nil)) (pg_name (i := 1) sc_is_reversible.nd rfl (Or.inr rfl))
       (pss_one (ps_if (pt_cmpR op_lt (pe_lenSet rfl T.len rfl T.set (pe_lc (own := [("row", 2)]) (g := (gName 2)) (tt := tYes) rfl sc_is_reversible.nd (pi_list (pv 0)) (blkOk_by (own := [("row", 2)]) (N := ["table", "letter", "row"]) (sc := defScope s_is_reversible) (by decide +kernel)) (fun _ _ _ _ _ => pg_name (i := 2) sc_is_reversible.nd rfl (Or.inl rfl)) (fun _ _ _ _ _ => pts_nil) (fun _ _ _ _ _ => (pe_ix (ixl K) (pv 2) (pv 1) (fun _ _ => rfl))))) (pe_callB (lenQ K) rfl T.len PySem.boot_len (pa_cons (pv 0) pa_nil)) (nomark _))
         (pss_one (ps_ret pe_bl))
         pss_nil)))
      (pss_one (ps_ret pe_bl))), ?_⟩
    refine ⟨2, rfl, by decide, by decide, for_range (lo := 0) (n := 2) (fun i σ H' => ∃ (y z : Option V), σ = [some (.ref a), y, z] ∧ Same H H' ∧ ∀ j, j < i → R7291g.Spec.allDifferent (col j t) = true)
      ⟨none, none, rfl, Same.refl H, fun j hj => absurd hj (Nat.not_lt_zero j)⟩ ?_ ?_⟩
    · rintro i σ H' hi ⟨y0, z0, rfl, s0, ok⟩
      have hcol : (col i t).length = t.length := List.length_map ..
      refine ⟨_, rfl, a, rfl, ⟨_, s0.seq ha⟩, fun D hD => lc_list (K := K) (a := a) (xs := rs.map V.ref) (fun j H2 => Same H H2 ∧ H2 D = some (.lst (nvs (col i (t.take j))))) ⟨s0.new hD, upd_same⟩ (fun j H2 _ q => q.1.seq ha) ?_ ?_⟩
      · rintro j x H2 hx ⟨s2, hD2⟩
        obtain ⟨r, hr1, rfl⟩ : ∃ r, rs[j]? = some r ∧ x = .ref r := by
          rw [List.getElem?_map] at hx
          cases e : rs[j]? with
          | none => rw [e] at hx; cases hx
          | some r => rw [e] at hx; exact ⟨r, rfl, (Option.some.inj hx).symm⟩
        obtain ⟨q, hq, hrow⟩ := paired_get' hrs hr1
        refine ⟨rfl, _, rfl, _, rfl, r, _, _, _, rfl, rfl, s2.seq hrow, at_of (by show (0 : Int) + (i : Int) = (i : Int); omega) (col_at hi), ?_⟩
        have hj : j < t.length := (List.getElem?_eq_some_iff.mp hq).1
        refine ⟨_, hD2, ?_, s2.put (s0.free hD), ?_⟩
        · rw [nvs_len]
          unfold col
          rw [List.length_map, List.length_take]
          exact small_lt (by omega)
        · rw [upd_same, ← col_more hq]
      · rintro H2 ⟨s2, hD2⟩
        rw [List.length_map, hlen, List.take_length] at hD2
        have e3 : nvs (col i t) = ((col i t).map fun n : Nat => (n : Int)).map V.int := by simp [nvs]
        refine ⟨D, _, rfl, SqL.of (by rw [hD2, e3]), ?_, ?_⟩
        · rw [List.length_map, hcol]
          omega
        refine ⟨_, rfl, a, _, rfl, .inl (s2.seq ha), _, _, rfl, rfl, _, rfl, ?_⟩
        have e4 : ((rs.map V.ref).length : Int) = ((col i t).length : Int) := by rw [List.length_map, hlen, hcol]
        refine ite2 (fun hc => ?_) (fun hc => ?_)
        · have hc := of_decide_eq_true hc
          rw [e4, once_lt] at hc
          have hf : R7291g.Spec.isReversibleTable t = false := by
            rw [rev_col]
            have : i = 0 ∨ i = 1 := by omega
            rcases this with rfl | rfl
            · rw [hc]; rfl
            · rw [hc, Bool.and_false]
          rw [hf] at k
          exact k H2 s2
        · have hc := of_decide_eq_false (Bool.eq_false_iff.mpr hc)
          rw [e4, once_lt] at hc
          refine ⟨_, _, rfl, s2, fun j hj => ?_⟩
          by_cases e : j = i
          · rw [e]
            cases q : R7291g.Spec.allDifferent (col i t) with
            | true => rfl
            | false => exact absurd q hc
          · exact ok j (by omega)
    · rintro σ H' ⟨y0, z0, rfl, s0, ok⟩
      have ht : R7291g.Spec.isReversibleTable t = true := by rw [rev_col, ok 0 (by omega), ok 1 (by omega)]; rfl
      rw [ht] at k
      exact k H' s0
end
end Sw
set_option Elab.async false
set_option linter.all false
set_option maxRecDepth 100000
set_option maxHeartbeats 4000000
/-! Separating words: the search. -/
namespace Sw
open PySem PySem.Spec PyProof.Rows L2
section
variable {P : Program} {w : World} {K : PySem.W.Frag} {mg : Str → Option Value} {base : Heap} {A : Ad}

/-- choices(states, entries, is_both_ways) -/
def spChoices (K : PySem.W.Frag) : Sp := fun vs H Q _ => ∃ (a : Addr) (n : Nat) (es : List Nat) (both : Bool), vs = [nv n, .ref a, .bl both] ∧ SqT K H a (nvs es) ∧ n ≤ 1000 ∧ ∀ (H' : Hp) (p : Addr), Same H H' → H p = none → H' p = some (.lst (nvs (chs n both es))) → Q (.ref p) H'
theorem rgV_nvs (n : Nat) : rgV 0 (n : Int) = nvs (List.range n) := by
  unfold rgV
  have e : ((n : Int) - 0).toNat = n := by omega
  rw [e]
  refine List.map_congr_left fun i _ => ?_
  show V.int (0 + (i : Int)) = V.int (i : Int)
  rw [Int.zero_add]
theorem used_drop (es : List Nat) : evens ((nvs es).drop (es.length % 2)) = nvs (used es) := by
  unfold used
  have h : es.length % 2 = 0 ∨ es.length % 2 = 1 := by omega
  rcases h with h | h
  · rw [h, if_pos rfl]
    exact evens_map nv es
  · rw [h, if_neg (by decide), ← List.map_drop]
    rw [evens_map nv]
    unfold odds
    rw [List.drop_one]
theorem c_choices (T : Txt K mg A) : Cal P w K mg base CX0 1 "choices" (spChoices K) := by
  refine cal_of T.d_choices sc_choices (fun vs H Q E h => ?_) (fun f cdv A outer s H vs Q E hr h => ?_)
  · obtain ⟨a, n, es, both, rfl, _⟩ := h
    rfl
  · obtain ⟨a, n, es, both, rfl, ha, hn, k⟩ := h
    refine ⟨_, (pss_cons (ps_set (i := 3) sc_choices.nd rfl (Or.inl rfl) (pe_op op_mod (pe_callB (lenQ K) rfl T.len PySem.boot_len (pa_cons (pv 1) pa_nil)) (pe_gi rfl T.LETTERS)))
      (pss_cons (ps_if (pt_not (pt_val (pv 2)))
       (pss_one (ps_ret (pe_listRg rfl rfl T.list (prg_1 rfl T.range (pv 0)))))
       pss_nil)
      (pss_cons (ps_set (i := 4) sc_choices.nd rfl (Or.inr rfl) (pe_slStep (pv 1) (pv 3) (pe_gi rfl T.LETTERS)))
      (pss_one (ps_ret (pe_lc (own := [("state", 5)]) (g := (gName 5)) rfl sc_choices.nd (pi_range1 rfl T.range (pa_cons (pv 0) pa_nil)) (blkOk_by (own := [("state", 5)]) (N := ["states", "entries", "is_both_ways", "letter", "used", "state"]) (sc := defScope s_choices) (by decide +kernel)) (fun _ _ _ _ _ => pg_name (i := 5) sc_choices.nd rfl (Or.inl rfl)) (fun _ _ _ _ _ => pts_one (pt_cmpR (ninQ K) (pv 5) (pv 4) rfl)) (fun _ _ _ _ _ => (pv 5)))))))), ?_⟩
    refine ⟨_, rfl, a, _, rfl, .inr ha, _, _, rfl, rfl, (by show (0 : Int) < 2; decide), ?_⟩
    refine ⟨_, rfl, both, rfl, ?_⟩
    cases both with
    | false =>
      refine iteT ?_
      refine ⟨_, rfl, (n : Int), rfl, RgOk.of_le (Int.le_refl 0) (by omega) (by decide) (by omega), fun p hp => ?_⟩
      refine k _ p ((Same.refl H).new hp) hp ?_
      rw [upd_same, rgV_nvs]
      rfl
    | true =>
      refine iteF ?_
      refine ⟨_, rfl, _, rfl, a, _, es.length % 2, rfl, ?_, rfl, ha, fun p hp => ?_⟩
      · rw [nvs_len]
        rfl
      rw [used_drop]
      have s1 : Same H (upd H p (.tup (nvs (used es)))) := (Same.refl H).new hp
      have hu : SqT K (upd H p (.tup (nvs (used es)))) p (nvs (used es)) := SqT.of upd_same
      generalize upd H p (.tup (nvs (used es))) = H1 at s1 hu
      refine ⟨_, rfl, (n : Int), rfl, by omega, by omega, fun D hD => lc_range (lo := 0) (n := (n : Int).toNat) (fun i H2 => Same H1 H2 ∧ H2 D = some (.lst (nvs ((List.range i).filter (fun s => !(used es).contains s))))) ⟨(Same.refl H1).new hD, upd_same⟩ ?_ ?_⟩
      · rintro i H2 hi ⟨s2, hD2⟩
        refine ⟨rfl, _, rfl, _, rfl, p, _, rfl, .inr (s2.tup hu), rfl, flat_nvs _, _, rfl, ?_⟩
        have e0 : (V.int (0 + (i : Int))) = nv i := by show V.int (0 + (i : Int)) = V.int (i : Int); rw [Int.zero_add]
        have el : ((List.range i).filter (fun s => !(used es).contains s)).length ≤ i := Nat.le_trans (List.length_filter_le _ _) (by rw [List.length_range]; exact Nat.le_refl _)
        rw [e0]
        show if (!inV (nv i) (nvs (used es))) = true then _ else _
        rw [in_nvs]
        have ef : (List.range (i + 1)).filter (fun s => !(used es).contains s) = (List.range i).filter (fun s => !(used es).contains s) ++ (if (!(used es).contains i) = true then [i] else []) := by
          rw [List.range_succ, List.filter_append, List.filter_cons]
          rfl
        refine ite2 (fun hc => ?_) (fun hc => ?_)
        · refine ⟨_, rfl, _, hD2, by rw [nvs_len]; exact small_lt (by omega), s2.put hD, ?_⟩
          rw [upd_same, ef, if_pos hc]
          simp [nvs]
        · refine ⟨s2, ?_⟩
          rw [hD2, ef, if_neg hc, List.append_nil]
      · rintro H2 ⟨s2, hD2⟩
        exact k H2 D (s1.trans s2) (s1.free hD) hD2

/-- filled(states, entries, is_both_ways) -/
def spFilled (K : PySem.W.Frag) : Sp := fun vs H Q _ => ∃ (a : Addr) (n : Nat) (es : List Nat) (both : Bool), vs = [nv n, .ref a, .bl both] ∧ SqT K H a (nvs es) ∧ n ≤ 1000 ∧ Good n both es ∧
  ∀ (H' : Hp) (p : Addr), Same H H' → SqT K H' p (nvs (fill (chs n both) (2 * n - es.length) es)) → Q (.ref p) H'
theorem c_filled (T : Txt K mg A) : Cal P w K mg base CX0 2 "filled" (spFilled K) := by
  have c_choices := c_choices (P := P) (w := w) (base := base) T
  refine cal_of T.d_filled sc_filled (fun vs H Q E h => ?_) (fun f cdv A outer s H vs Q E hr h => ?_)
  · obtain ⟨a, n, es, both, rfl, _⟩ := h
    rfl
  · obtain ⟨a, n, es, both, rfl, ha, hn, g, k⟩ := h
    refine ⟨_, (pss_cons (ps_while PassesOwn.never (pt_cmpR op_lt (pe_callB (lenQ K) rfl T.len PySem.boot_len (pa_cons (pv 1) pa_nil)) (pe_op op_mul (pe_gi rfl T.LETTERS) (pv 0)) (nomark _))
       (pss_one (ps_set (i := 1) sc_filled.nd rfl (Or.inl rfl) (pe_op (catU K) (pv 1) (pe_tup (pa_cons (pe_ix (ixl K) (pe_d c_choices hr rfl (pa_cons (pv 0) (pa_cons (pv 1) (pa_cons (pv 2) pa_nil)))) pe_int (fun _ _ => rfl)) pa_nil))))))
      (pss_one (ps_ret (pv 1)))), ?_⟩
    refine while_of (fun m σ H' => ∃ (b : Addr) (e : List Nat), σ = [some (nv n), some (.ref b), some (.bl both)] ∧ Same H H' ∧ SqT K H' b (nvs e) ∧ Good n both e ∧ m = 2 * n - e.length ∧ fill (chs n both) (2 * n - e.length) e = fill (chs n both) (2 * n - es.length) es)
      (2 * n - es.length) ⟨a, es, rfl, Same.refl H, ha, g, rfl, rfl⟩ ?_ ?_
    · rintro m σ H1 ⟨b, e, rfl, s1, hb, g1, rfl, ef⟩
      refine ⟨_, rfl, b, _, rfl, .inr hb, _, rfl, _, _, rfl, rfl, .inl (by decide), _, _, rfl, rfl, _, rfl, ?_⟩
      rw [nvs_len]
      refine ite2 (fun hc => ?_) (fun hc => ?_)
      · have hc := of_decide_eq_true hc
        have hl : e.length < 2 * n := by omega
        refine ⟨_, rfl, _, rfl, _, rfl, _, rfl, b, n, e, both, rfl, hb, hn, fun H2 p s2 hp h2 => ?_⟩
        obtain ⟨c, cs, ec⟩ : ∃ c cs, chs n both e = c :: cs := by
          cases q : chs n both e with
          | nil => exact absurd q (g1.some_choice hl)
          | cons c cs => exact ⟨c, cs, rfl⟩
        refine ⟨p, _, _, nv c, rfl, rfl, SqL.of h2, at_of (j := 0) rfl (by rw [ec]; rfl), (by show 1 ≤ sizeLine; decide), fun q hq => ?_⟩
        refine ⟨b, q, _, _, rfl, rfl, ((s2.new hq).tup hb), SqT.of upd_same, ?_, fun r H3 s3 h3 => ?_⟩
        · rw [nvs_len]
          have := g1.len
          show e.length + 1 ≤ sizeLine
          exact small_line (by omega)
        refine ⟨_, ?_, r, e ++ [c], rfl, s1.trans ((s2.new hq).trans s3), ?_, g1.snoc hl (by rw [ec]; exact List.mem_cons_self), rfl, ?_⟩
        · rw [List.length_append, List.length_singleton]
          omega
        · have e1 : nvs (e ++ [c]) = nvs e ++ [nv c] := by simp [nvs]
          rw [e1]
          exact h3
        · rw [← ef, List.length_append, List.length_singleton]
          have e2 : 2 * n - e.length = (2 * n - (e.length + 1)) + 1 := by omega
          rw [e2]
          show _ = fill (chs n both) (2 * n - (e.length + 1)) (e ++ [(chs n both e).headD 0])
          rw [ec]
          rfl
      · have hc := of_decide_eq_false (Bool.eq_false_iff.mpr hc)
        have hl : 2 * n - e.length = 0 := by omega
        rw [hl] at ef
        have ef : e = fill (chs n both) (2 * n - es.length) es := ef
        rw [ef] at hb
        exact ⟨_, rfl, k H1 b s1 hb⟩
    · rintro σ H1 Q1 Q2 f ⟨v1, e1, p, ys, e2, hq, v2, e3, i, j, e4, e5, e6, i2, j2, e7, e8, b, e9, q⟩
      exact ⟨v1, e1, p, ys, e2, hq, v2, e3, i, j, e4, e5, e6, i2, j2, e7, e8, b, e9, f _ _ q⟩

/-- first_separating(states, first, second, is_both_ways) -/
def spFirst (K : PySem.W.Frag) : Sp := fun vs H Q _ => ∃ (a b : Addr) (n : Nat) (u v : List Nat) (both : Bool), vs = [nv n, .ref a, .ref b, .bl both] ∧ SqT K H a (nvs u) ∧ SqT K H b (nvs v) ∧ 1 ≤ n ∧ n ≤ 4 ∧ (∀ l ∈ u, l < 2) ∧ (∀ l ∈ v, l < 2) ∧
  (∀ t, sepT n both u v = some t → ∀ (H' : Hp) (p : Addr), Same H H' → H p = none → TabT K H' p t → Q (.ref p) H') ∧ (sepT n both u v = none → ∀ H', Same H H' → Q .non H')
theorem cut_flat : ∀ {t : List (Nat × Nat)} {i : Nat} {q : Nat × Nat}, t[i]? = some q → ((nvs (R7291g.Spec.flatten t)).drop (2 * i)).take 2 = [nv q.1, nv q.2]
  | [], _, _, h => by simp at h
  | (x, y) :: t, 0, q, h => by
    have : (x, y) = q := by simpa using h
    subst this
    rfl
  | (x, y) :: t, i + 1, q, h => by
    have e : 2 * (i + 1) = 2 * i + 1 + 1 := by omega
    rw [e, flatten_cons]
    exact cut_flat (t := t) (i := i) (by simpa using h)
theorem rg_two {n : Nat} (h : n ≤ 4) : RgC 0 ((2 * n : Nat) : Int) 2 n := by
  have : n = 0 ∨ n = 1 ∨ n = 2 ∨ n = 3 ∨ n = 4 := by omega
  rcases this with rfl | rfl | rfl | rfl | rfl <;> exact ⟨by decide, by decide, by decide, by decide⟩
theorem c_first_separating (T : Txt K mg A) : Cal P w K mg base CX0 3 "first_separating" (spFirst K) := by
  have c_choices := c_choices (P := P) (w := w) (base := base) T
  have c_filled := c_filled (P := P) (w := w) (base := base) T
  have c_known_end := c_known_end (P := P) (w := w) (base := base) T
  refine cal_of T.d_first_separating sc_first_separating (fun vs H Q E h => ?_) (fun f cdv A outer s H vs Q E hr h => ?_)
  · obtain ⟨a, b, n, u, v, both, rfl, _⟩ := h
    rfl
  · obtain ⟨a, b, n, u, v, both, rfl, ha, hb, n1, n4, lu, lv, kS, kN⟩ := h
    refine ⟨_, (pss_cons (ps_set (i := 4) sc_first_separating.nd rfl (Or.inl rfl) (pe_lst (pa_cons (pe_tup pa_nil) pa_nil)))
      (pss_cons (ps_while PassesOwn.never (pt_cmpR op_gt (pe_callB (lenQ K) rfl T.len PySem.boot_len (pa_cons (pv 4) pa_nil)) pe_int (nomark _))
       (pss_cons (ps_set (i := 5) sc_first_separating.nd rfl (Or.inl rfl) (pe_bm0 PySem.F.plainAttrs_list PySem.F.slot_list_pop PySem.F.type_list_pop mt_pop (pv 4)))
        (pss_cons (ps_set (i := 6) sc_first_separating.nd rfl (Or.inl rfl) (pe_d c_known_end hr rfl (pa_cons (pv 5) (pa_cons (pv 1) pa_nil))))
        (pss_cons (ps_set (i := 7) sc_first_separating.nd rfl (Or.inl rfl) (pe_d c_known_end hr rfl (pa_cons (pv 5) (pa_cons (pv 2) pa_nil))))
        (pss_one (ps_if (PW.pt (pw_and (pt_cmpR op_ge (pv 6) pe_int (nomark _)) (pw_and1 (pt_cmpR op_ge (pv 7) pe_int (nomark _)))))
         (pss_one (ps_if (pt_cmpR op_ne (pv 6) (pv 7) (nomark _))
           (pss_cons (ps_set (i := 8) sc_first_separating.nd rfl (Or.inr rfl) (pe_d c_filled hr rfl (pa_cons (pv 0) (pa_cons (pv 5) (pa_cons (pv 3) pa_nil)))))
            (pss_one (ps_ret (pe_lc (own := [("at", 9)]) (g := (gName 9)) (tt := tYes) rfl sc_first_separating.nd (pi_range3 rfl T.range (pa_cons pe_int (pa_cons (pe_callB (lenQ K) rfl T.len PySem.boot_len (pa_cons (pv 8) pa_nil)) (pa_cons (pe_gi rfl T.LETTERS) pa_nil)))) (blkOk_by (own := [("at", 9)]) (N := ["states", "first", "second", "is_both_ways", "stack", "entries", "one", "other", "whole", "at", "state"]) (sc := defScope s_first_separating) (by decide +kernel)) (fun _ _ _ _ _ => pg_name (i := 9) sc_first_separating.nd rfl (Or.inl rfl)) (fun _ _ _ _ _ => pts_nil) (fun _ _ _ _ _ => (pe_slice (slU K) (pv 8) (po_some (pv 9)) (po_some (pe_op op_add (pv 9) (pe_gi rfl T.LETTERS)))))))))
           pss_nil))
         (pss_one (ps_for PassesOwn.never rfl (pi_list (pe_revL (pe_d c_choices hr rfl (pa_cons (pv 0) (pa_cons (pv 5) (pa_cons (pv 3) pa_nil)))))) (pg_name (i := 10) sc_first_separating.nd rfl (Or.inl rfl))
           (pss_one (ps_expr (pe_bm PySem.F.plainAttrs_list PySem.F.slot_list_append PySem.F.type_list_append mt_append (pv 4) (pa_cons (pe_op (catU K) (pv 5) (pe_tup (pa_cons (pv 10) pa_nil))) pa_nil))))))))))))
      (pss_one (ps_ret pe_non)))), ?_⟩
    have hfound := found (both := both) n1 lu lv
    refine ⟨Nat.zero_le _, fun e0 he0 => ⟨(by show 1 ≤ sizeLine; decide), fun st hst => ?_⟩⟩
    have hst0 : H st = none := ((Same.refl H).new he0).free hst
    have big : weight n [[]] ≤ 1000000 := by
      have : n = 1 ∨ n = 2 ∨ n = 3 ∨ n = 4 := by omega
      rcases this with rfl | rfl | rfl | rfl <;> decide
    refine while_of (fun m σ H' => ∃ (y5 y6 y7 y8 y9 y10 : Option V) (as : List Addr) (ls : List (List Nat)), σ = [some (nv n), some (.ref a), some (.ref b), some (.bl both), some (.ref st), y5, y6, y7, y8, y9, y10] ∧
        Same H H' ∧ H' st = some (.lst (as.map V.ref)) ∧ Rows K H' as ls ∧ (∀ e ∈ ls, Good n both e) ∧ (held n both ls).find? (sepE u v) = (sepT n both u v).map R7291g.Spec.flatten ∧ m = weight n ls ∧ m ≤ weight n [[]])
      (weight n [[]]) ⟨none, none, none, none, none, none, [e0], [[]], rfl, ((Same.refl H).new he0).new hst, upd_same, .cons (((Same.refl _).new hst).tup (SqT.of upd_same)) .nil, fun e he => ?_, hfound, rfl, Nat.le_refl _⟩ ?_ ?_
    · have : e = [] := by simpa using he
      rw [this]
      exact Good.nil n both
    · rintro m σ H1 ⟨y5, y6, y7, y8, y9, y10, as, ls, rfl, s1, h1, hrows, good, hfind, rfl, hm⟩
      have hlen : as.length = ls.length := Paired.length hrows
      refine ⟨_, rfl, st, _, rfl, .inl (SqL.of h1), _, _, rfl, rfl, _, rfl, ?_⟩
      rcases List.eq_nil_or_concat ls with rfl | ⟨ls', e, rfl⟩
      · -- nothing is left
        have : as = [] := List.eq_nil_of_length_eq_zero hlen
        subst this
        refine iteF ?_
        have hn : sepT n both u v = none := by
          cases q : sepT n both u v with
          | none => rfl
          | some t => rw [q] at hfind; cases hfind
        exact kN hn H1 s1
      · rw [List.concat_eq_append] at hrows good hfind hm hlen ⊢
        obtain ⟨as', ae, rfl, hrows', hae⟩ := paired_snoc_inv hrows
        have hpos : decide ((0 : Int) < (((as' ++ [ae]).map V.ref).length : Int)) = true := by
          refine decide_eq_true ?_
          rw [List.length_map, List.length_append, List.length_singleton]
          omega
        rw [hpos]
        refine iteT ?_
        have ge := good e (by simp)
        have gl : ∀ x ∈ ls', Good n both x := fun x hx => good x (by simp [hx])
        have hlast : ((as' ++ [ae]).map V.ref)[((as' ++ [ae]).map V.ref).length - 1]? = some (.ref ae) := by simp
        refine ⟨_, rfl, .inl ⟨rfl, _, SqL.of h1⟩, st, _, _, rfl, rfl, h1, hlast, ?_⟩
        have hdrop : ((as' ++ [ae]).map V.ref).dropLast = as'.map V.ref := by simp
        rw [hdrop]
        have s2 : Same H (upd H1 st (.lst (as'.map V.ref))) := s1.put hst0
        have hst2 : (upd H1 st (.lst (as'.map V.ref))) st = some (.lst (as'.map V.ref)) := upd_same
        have hrows2 : Rows K (upd H1 st (.lst (as'.map V.ref))) as' ls' := Rows.put h1 hrows'
        have hae2 : SqT K (upd H1 st (.lst (as'.map V.ref))) ae (nvs e) := sqT_put h1 hae
        generalize upd H1 st (.lst (as'.map V.ref)) = H2 at s2 hst2 hrows2 hae2
        refine ⟨_, rfl, _, rfl, ae, a, e, u, rfl, hae2, s2.tup ha, ?_⟩
        refine ⟨_, rfl, _, rfl, ae, b, e, v, rfl, hae2, s2.tup hb, ?_⟩
        refine ⟨_, rfl, _, _, rfl, rfl, _, rfl, ?_⟩
        -- where an end isn't known, the next entry is laid
        have expand : e.length < 2 * n → ∀ (z6 z7 : Option V), tFor (iList K (tRevL K (tCl (spChoices K) (tCons (tVar 0) (tCons (tVar 5) (tCons (tVar 3) tNil)))))) (gName 10)
            (tDrop (tBM K "list" rAppend (tVar 4) (tCons (tOp (rCatU K) (tVar 5) (tTup (tCons (tVar 10) tNil))) tNil)))
            { nx := fun σ' H' => ∃ m', m' < weight n (ls' ++ [e]) ∧ ∃ (y5 y6 y7 y8 y9 y10 : Option V) (as : List Addr) (ls : List (List Nat)), σ' = [some (nv n), some (.ref a), some (.ref b), some (.bl both), some (.ref st), y5, y6, y7, y8, y9, y10] ∧
              Same H H' ∧ H' st = some (.lst (as.map V.ref)) ∧ Rows K H' as ls ∧ (∀ e ∈ ls, Good n both e) ∧ (held n both ls).find? (sepE u v) = (sepT n both u v).map R7291g.Spec.flatten ∧ m' = weight n ls ∧ m' ≤ weight n [[]], rt := Q, bk := fun σ' H' => tRet (tC V.non) { nx := fun _ H' => Q .non H', rt := Q } σ' H', ct := fun σ' H' => ∃ m', m' < weight n (ls' ++ [e]) ∧ ∃ (y5 y6 y7 y8 y9 y10 : Option V) (as : List Addr) (ls : List (List Nat)), σ' = [some (nv n), some (.ref a), some (.ref b), some (.bl both), some (.ref st), y5, y6, y7, y8, y9, y10] ∧
              Same H H' ∧ H' st = some (.lst (as.map V.ref)) ∧ Rows K H' as ls ∧ (∀ e ∈ ls, Good n both e) ∧ (held n both ls).find? (sepE u v) = (sepT n both u v).map R7291g.Spec.flatten ∧ m' = weight n ls ∧ m' ≤ weight n [[]] }
            [some (nv n), some (.ref a), some (.ref b), some (.bl both), some (.ref st), some (.ref ae), z6, z7, y8, y9, y10] H2 := by
          intro hl z6 z7
          refine ⟨_, rfl, _, rfl, _, rfl, ae, n, e, both, rfl, hae2, by omega, fun H3 c s3 hc h3 => ?_⟩
          refine ⟨c, _, rfl, SqL.of h3, fun r hr => ⟨r, rfl, ⟨_, SqL.of upd_same⟩, ?_⟩⟩
          have hst3 := s3 _ _ hst2
          have s4 : Same H2 (upd H3 r (.lst (nvs (chs n both e)).reverse)) := s3.new hr
          have hr4 : (upd H3 r (.lst (nvs (chs n both e)).reverse)) r = some (.lst (nvs (chs n both e)).reverse) := upd_same
          have hst4 := s4 _ _ hst2
          generalize upd H3 r (.lst (nvs (chs n both e)).reverse) = H4 at s4 hr4 hst4
          have nrs : r ≠ st := fun z => by
            rw [z, hst3] at hr
            cases hr
          have erev : (nvs (chs n both e)).reverse = nvs (chs n both e).reverse := by simp [nvs]
          rw [erev] at hr4
          have hw : ∀ i, i ≤ (chs n both e).reverse.length → weight n (ls' ++ ((chs n both e).reverse.take i).map fun s => e ++ [s]) < weight n (ls' ++ [e]) := fun i hi =>
            weight_expand_le (both := both) hl _ (by have := chs_length (n := n) (both := both) (e := e); rw [List.length_take, List.length_reverse]; omega)
          refine for_list (K := K) (a := r) (xs := nvs (chs n both e).reverse) (fun i σ' H' => ∃ (y10 : Option V) (bs : List Addr), σ' = [some (nv n), some (.ref a), some (.ref b), some (.bl both), some (.ref st), some (.ref ae), z6, z7, y8, y9, y10] ∧
              Same H H' ∧ H' r = some (.lst (nvs (chs n both e).reverse)) ∧ H' st = some (.lst ((as' ++ bs).map V.ref)) ∧ Rows K H' (as' ++ bs) (ls' ++ ((chs n both e).reverse.take i).map fun s => e ++ [s]) ∧ SqT K H' ae (nvs e))
            ⟨y10, [], rfl, s2.trans s4, hr4, by rw [List.append_nil]; exact hst4, by simp only [List.append_nil, List.take_zero, List.map_nil]; exact hrows2.same s4, s4.tup hae2⟩ (fun i σ' H' _ ⟨_, _, _, _, q, _⟩ => SqL.of q) ?_ ?_
          · rintro i x σ' H5 hx ⟨z10, bs, rfl, s5, hr5, hst5, hrows5, hae5⟩
            obtain ⟨c', hc', rfl⟩ := nvs_get hx
            have hi : i < (chs n both e).reverse.length := (List.getElem?_eq_some_iff.mp hc').1
            refine ⟨_, rfl, .inl ⟨rfl, _, SqL.of hst5⟩, _, rfl, _, rfl, (by show 1 ≤ sizeLine; decide), fun q hq => ?_⟩
            have sq : Same H5 (upd H5 q (.tup [nv c'])) := (Same.refl H5).new hq
            refine ⟨ae, q, _, _, rfl, rfl, sq.tup hae5, SqT.of upd_same, ?_, fun p H6 s6 h6 => ?_⟩
            · rw [nvs_len]
              have := ge.len
              show e.length + 1 ≤ sizeLine
              exact small_line (by omega)
            have s56 := sq.trans s6
            have hst6 := s56 _ _ hst5
            have hlen5 : (as' ++ bs).length = (ls' ++ ((chs n both e).reverse.take i).map fun s => e ++ [s]).length := Paired.length hrows5
            refine ⟨st, _, _, rfl, rfl, hst6, ?_, some (nv c'), bs ++ [p], rfl, (s5.trans s56).put hst0, ?_, ?_, ?_, ?_⟩
            · rw [List.length_map, hlen5]
              refine small_lt ?_
              have h1 := length_le_weight (n := n) (ls' ++ ((chs n both e).reverse.take i).map fun s => e ++ [s])
              have h2 := hw i (Nat.le_of_lt hi)
              omega
            · rw [upd_ne nrs]
              exact s56 _ _ hr5
            · rw [upd_same]
              simp
            · have e1 : ls' ++ ((chs n both e).reverse.take (i + 1)).map (fun s => e ++ [s]) = (ls' ++ ((chs n both e).reverse.take i).map fun s => e ++ [s]) ++ [e ++ [c']] := by
                rw [take_more hc']
                simp
              rw [e1, ← List.append_assoc]
              refine Paired.snoc (Rows.put hst6 (hrows5.same s56)) (sqT_put hst6 ?_)
              have e2 : nvs (e ++ [c']) = nvs e ++ [nv c'] := by simp [nvs]
              rw [e2]
              exact h6
            · exact sqT_put hst6 (s56.tup hae5)
          · rintro σ' H5 ⟨z10, bs, rfl, s5, hr5, hst5, hrows5, hae5⟩
            have hall : (chs n both e).reverse.take (nvs (chs n both e).reverse).length = (chs n both e).reverse := by rw [nvs_len, List.take_length]
            rw [hall] at hrows5
            have hww := hw (chs n both e).reverse.length (Nat.le_refl _)
            rw [List.take_length] at hww
            have erev2 : ls' ++ (chs n both e).reverse.map (fun s => e ++ [s]) = ls' ++ ((chs n both e).map fun s => e ++ [s]).reverse := by rw [List.map_reverse]
            refine ⟨_, hww, some (.ref ae), z6, z7, y8, y9, z10, as' ++ bs, _, rfl, s5, hst5, hrows5, fun x hx => ?_, ?_, rfl, by omega⟩
            · rcases List.mem_append.mp hx with hx | hx
              · exact gl x hx
              · obtain ⟨c', hc', rfl⟩ := List.mem_map.mp hx
                exact ge.snoc hl (List.mem_reverse.mp hc')
            · rw [erev2, held_expand hl]
              exact hfind
        rcases qu : kend e 0 u with _ | x
        · -- the first word's end isn't known
          have hl := not_full n1 ge lu qu
          refine iteF (iteF ?_)
          exact expand hl _ _
        · have c1 : decide ((0 : Int) ≤ kInt (some x)) = true := decide_eq_true (by show (0 : Int) ≤ (x : Int); omega)
          rw [c1]
          refine iteT ?_
          refine ⟨_, rfl, _, _, rfl, rfl, _, rfl, ?_⟩
          rcases qv : kend e 0 v with _ | z
          · have hl := not_full n1 ge lv qv
            refine iteF ?_
            exact expand hl _ _
          · have c2 : decide ((0 : Int) ≤ kInt (some z)) = true := decide_eq_true (by show (0 : Int) ≤ (z : Int); omega)
            rw [c2]
            refine iteT ?_
            refine ⟨_, rfl, _, rfl, rfl, _, rfl, ?_⟩
            by_cases hxz : x = z
            · -- the ends are one: none of its completions separates
              subst hxz
              have c3 : (!decide (V.int (kInt (some x)) = V.int (kInt (some x)))) = false := by simp
              rw [c3]
              refine iteF ?_
              rw [held_snoc, List.find?_append, find_none_of qu qv] at hfind
              refine ⟨weight n ls', ?_, _, _, _, _, _, _, as', ls', rfl, s2, hst2, hrows2, gl, hfind, rfl, ?_⟩
              · rw [weight_snoc]
                have : 1 ≤ (n + 1) ^ (2 * n - e.length) := Nat.one_le_pow _ _ (Nat.succ_pos n)
                omega
              · rw [weight_snoc] at hm
                omega
            · have c3 : (!decide (V.int (kInt (some x)) = V.int (kInt (some z)))) = true := by
                rw [Bool.not_eq_true', decide_eq_false_iff_not]
                intro q
                injection q with q
                exact hxz (by
                  have q : (x : Int) = (z : Int) := q
                  omega)
              rw [c3]
              refine iteT ?_
              obtain ⟨R, hR⟩ := good_head ge
              rw [held_snoc, List.find?_append, find_some_of hR qu qv hxz] at hfind
              obtain ⟨t, ht⟩ : ∃ t, sepT n both u v = some t := by
                cases q : sepT n both u v with
                | none => rw [q] at hfind; cases hfind
                | some t => exact ⟨t, rfl⟩
              rw [ht] at hfind
              have ef : fill (chs n both) (2 * n - e.length) e = R7291g.Spec.flatten t := Option.some.inj hfind
              obtain ⟨tl, tlt⟩ := sepT_len n1 lu lv ht
              refine ⟨_, rfl, _, rfl, _, rfl, ae, n, e, both, rfl, hae2, by omega, ge, fun H3 p s3 h3 => ?_⟩
              rw [ef] at h3
              have e4 : ((nvs (R7291g.Spec.flatten t)).length : Int) = ((2 * n : Nat) : Int) := by rw [nvs_len, flatten_length, tl]
              refine ⟨_, rfl, p, _, rfl, .inr h3, 0, _, 2, n, rfl, by rw [e4]; exact rg_two n4, fun D hD => lc_rangeC (lo := 0) (c := 2) (n := n) (fun i H4 => Same H3 H4 ∧ ∃ rs : List Addr, H4 D = some (.lst (rs.map V.ref)) ∧ Paired (fun r (p : Nat × Nat) => SqT K H4 r [nv p.1, nv p.2]) rs (t.take i)) ⟨(Same.refl H3).new hD, [], upd_same, .nil⟩ ?_ ?_⟩
              · rintro i H4 hi ⟨s4, rs, hD4, hrs4⟩
                have hit : i < t.length := by omega
                have e5 : V.int (0 + (i : Int) * 2) = V.int ((2 * i : Nat) : Int) := by
                  congr 1
                  omega
                refine ⟨rfl, _, rfl, _, rfl, _, rfl, ?_⟩
                refine ⟨_, rfl, _, _, rfl, rfl, _, rfl, p, _, rfl, s4.tup h3, fun r H5 s5 h5 => ?_⟩
                have e6 : cutV (nvs (R7291g.Spec.flatten t)) (some (0 + (i : Int) * 2)) (some (0 + (i : Int) * 2 + 2)) = [nv t[i].1, nv t[i].2] := by
                  have a1 : (0 + (i : Int) * 2) = ((2 * i : Nat) : Int) := by omega
                  have a2 : (0 + (i : Int) * 2 + 2) = ((2 * i + 2 : Nat) : Int) := by omega
                  rw [a2, a1, cutV_nat]
                  have a3 : 2 * i + 2 - 2 * i = 2 := by omega
                  rw [a3]
                  exact cut_flat (List.getElem?_eq_getElem hit)
                have h5 : SqT K H5 r (cutV (nvs (R7291g.Spec.flatten t)) (some (0 + (i : Int) * 2)) (some (0 + (i : Int) * 2 + 2))) := h5
                rw [e6] at h5
                have hD5 := s5 _ _ hD4
                have hl4 : rs.length = i := by
                  have := Paired.length hrs4
                  rw [List.length_take] at this
                  omega
                refine ⟨_, hD5, by rw [List.length_map]; exact small_lt (by omega), (s4.trans s5).put hD, rs ++ [r], ?_, ?_⟩
                · rw [upd_same]
                  simp
                · rw [take_more (List.getElem?_eq_getElem hit)]
                  exact Paired.snoc (Paired.mapP hrs4 fun _ _ q => sqT_put hD5 (s5.tup q)) (sqT_put hD5 h5)
              · rintro H4 ⟨s4, rs, hD4, hrs4⟩
                have : t.take n = t := by rw [← tl, List.take_length]
                rw [this] at hrs4
                exact kS t ht H4 D ((s2.trans s3).trans s4) ((s2.trans s3).free hD) ⟨rs, SqL.of hD4, hrs4⟩
    · rintro σ H1 Q1 Q2 f ⟨v1, e1, p, ys, e2, hq, i, j, e4, e5, b, e9, q⟩
      exact ⟨v1, e1, p, ys, e2, hq, i, j, e4, e5, b, e9, f _ _ q⟩
end
end Sw
/-! Separating words: least numbers, words, groups: plain lists and numbers. -/
namespace Sw
open R7291g.Spec

/-! ### least numbers -/
theorem least_some {f : Nat → Option Table} {m n : Nat} (h1 : 1 ≤ n) (hm : n ≤ m) (hs : (f n).isSome = true) (hn : ∀ j, 1 ≤ j → j < n → f j = none) : leastCount f m = some n := by
  unfold leastCount
  rw [List.find?_eq_some_iff_getElem]
  refine ⟨hs, n - 1, by simp; omega, by simp; omega, fun j hj => ?_⟩
  simp only [List.getElem_map, List.getElem_range]
  rw [hn (j + 1) (by omega) (by omega)]
  rfl
theorem least_none {f : Nat → Option Table} {m : Nat} (hn : ∀ j, 1 ≤ j → j ≤ m → f j = none) : leastCount f m = none := by
  unfold leastCount
  refine List.find?_eq_none.mpr fun x hx => ?_
  obtain ⟨i, hi, rfl⟩ := List.mem_map.mp hx
  have := List.mem_range.mp hi
  rw [hn (i + 1) (by omega) (by omega)]
  simp
theorem lnd_of {d p : Nat} (hd : d ≠ 0) (hp : 2 ≤ p) (hm : d % p ≠ 0) (hq : ∀ q, 2 ≤ q → q < p → d % q = 0) : leastNonDivisor d = some p := by
  have hle : p ≤ d + 1 := by
    apply Classical.byContradiction
    intro h
    have := hq (d + 1) (by omega) (by omega)
    rw [Nat.mod_eq_of_lt (by omega)] at this
    exact hd this
  unfold leastNonDivisor
  rw [if_neg hd, List.find?_eq_some_iff_getElem]
  refine ⟨by simpa using hm, p - 2, by simp; omega, by simp; omega, fun j hj => ?_⟩
  simp only [List.getElem_drop, List.getElem_range]
  have := hq (2 + j) (by omega) (by omega)
  simp [this]
theorem lnd_zero : leastNonDivisor 0 = none := rfl
theorem lnd_is {d p : Nat} (h : leastNonDivisor d = some p) : d % p ≠ 0 ∧ 2 ≤ p := by
  unfold leastNonDivisor at h
  by_cases hd : d = 0
  · rw [if_pos hd] at h; cases h
  · rw [if_neg hd] at h
    have h1 := List.find?_some h
    have h2 := List.mem_of_find?_eq_some h
    obtain ⟨i, hi, e⟩ := List.mem_iff_getElem.mp h2
    simp only [List.getElem_drop, List.getElem_range] at e
    exact ⟨by simpa using h1, by omega⟩
theorem counting_none {u v : Word} (h0 : countDifference 0 u v = 0) (h1 : countDifference 1 u v = 0) : countingSeparator u v = none := by
  unfold countingSeparator
  rw [h0, h1]
  rfl
theorem counting_first {u v : Word} {p : Nat} (hp : 2 ≤ p) (h0 : countDifference 0 u v % p ≠ 0) (hq : ∀ q, 2 ≤ q → q < p → countDifference 0 u v % q = 0 ∧ countDifference 1 u v % q = 0) : countingSeparator u v = some (0, p) := by
  have e0 : leastNonDivisor (countDifference 0 u v) = some p := lnd_of (fun z => by rw [z, Nat.zero_mod] at h0; exact h0 rfl) hp h0 fun q a b => (hq q a b).1
  unfold countingSeparator
  rw [e0]
  cases e1 : leastNonDivisor (countDifference 1 u v) with
  | none => rfl
  | some q =>
    obtain ⟨h2, h3⟩ := lnd_is e1
    show (if q < p then some (1, q) else some (0, p)) = _
    rw [if_neg fun h => h2 (hq q h3 h).2]
theorem counting_second {u v : Word} {p : Nat} (hp : 2 ≤ p) (h0 : countDifference 0 u v % p = 0) (h1 : countDifference 1 u v % p ≠ 0) (hq : ∀ q, 2 ≤ q → q < p → countDifference 0 u v % q = 0 ∧ countDifference 1 u v % q = 0) : countingSeparator u v = some (1, p) := by
  have e1 : leastNonDivisor (countDifference 1 u v) = some p := lnd_of (fun z => by rw [z, Nat.zero_mod] at h1; exact h1 rfl) hp h1 fun q a b => (hq q a b).2
  unfold countingSeparator
  rw [e1]
  cases e0 : leastNonDivisor (countDifference 0 u v) with
  | none => rfl
  | some q =>
    obtain ⟨h2, h3⟩ := lnd_is e0
    show (if p < q then some (1, p) else some (0, q)) = _
    have : p < q := by
      rcases Nat.lt_trichotomy p q with h | h | h
      · exact h
      · subst h; exact absurd h0 h2
      · exact absurd (hq q h3 h).1 h2
    rw [if_pos this]
theorem letterCount_eq (l : Nat) (u : Word) : letterCount l u = u.count l := by
  unfold letterCount
  rw [List.count, List.countP_eq_length_filter]
theorem diff_abs (l : Nat) (u v : Word) : ((countDifference l u v : Nat) : Int) = (((u.count l : Nat) : Int) - ((v.count l : Nat) : Int)).natAbs := by
  unfold countDifference
  rw [letterCount_eq, letterCount_eq]
  omega
theorem count_le (l : Nat) (u v : Word) : countDifference l u v ≤ u.length + v.length := by
  unfold countDifference
  rw [letterCount_eq, letterCount_eq]
  have h1 := List.count_le_length (a := l) (l := u)
  have h2 := List.count_le_length (a := l) (l := v)
  omega

/-! ### rows that grow -/
def grow (n : Nat) (rows : List (List Nat)) : List (List Nat) := rows.flatMap fun r => (List.range n).map fun s => r ++ [s]
theorem comp_grow (n : Nat) : ∀ (k : Nat) (e : List Nat), comp (chs n false) (k + 1) e = grow n (comp (chs n false) k e)
  | 0, e => by
    show (List.range n).flatMap (fun s => [e ++ [s]]) = ([e] : List (List Nat)).flatMap _
    rw [List.flatMap_cons, List.flatMap_nil, List.append_nil, List.map_eq_flatMap]
  | k + 1, e => by
    show (List.range n).flatMap (fun s => comp (chs n false) (k + 1) (e ++ [s])) = grow n ((List.range n).flatMap fun s => comp (chs n false) k (e ++ [s]))
    unfold grow
    rw [List.flatMap_assoc]
    congr 1
    funext s
    exact comp_grow n k _
theorem grow_append (n : Nat) (a b : List (List Nat)) : grow n (a ++ b) = grow n a ++ grow n b := List.flatMap_append
theorem grow_length (n : Nat) (l : List (List Nat)) : (grow n l).length = l.length * n := by
  unfold grow
  induction l with
  | nil => simp
  | cons a l ih =>
    rw [List.flatMap_cons, List.length_append, ih, List.length_map, List.length_range, List.length_cons, Nat.add_mul, Nat.one_mul, Nat.add_comm]
theorem comp_length (n : Nat) : ∀ (k : Nat), (comp (chs n false) k []).length = n ^ k
  | 0 => rfl
  | k + 1 => by rw [comp_grow, grow_length, comp_length n k, Nat.pow_succ]
theorem words_comp : ∀ (k : Nat) (e : List Nat), (wordsOfLength k).map (fun r => e ++ r) = comp (chs 2 false) k e
  | 0, e => by
    show [e ++ []] = [e]
    rw [List.append_nil]
  | k + 1, e => by
    show (((wordsOfLength k).map fun r => 0 :: r) ++ (wordsOfLength k).map fun r => 1 :: r).map (fun r => e ++ r) = (List.range 2).flatMap fun s => comp (chs 2 false) k (e ++ [s])
    rw [List.map_append, List.map_map, List.map_map]
    show _ = comp (chs 2 false) k (e ++ [0]) ++ (comp (chs 2 false) k (e ++ [1]) ++ [])
    rw [List.append_nil, ← words_comp k (e ++ [0]), ← words_comp k (e ++ [1])]
    congr 1
    · refine List.map_congr_left fun r _ => ?_
      show e ++ 0 :: r = _
      simp
    · refine List.map_congr_left fun r _ => ?_
      show e ++ 1 :: r = _
      simp
theorem words_eq (k : Nat) : wordsOfLength k = comp (chs 2 false) k [] := by
  rw [← words_comp k []]
  simp
theorem words_more (k : Nat) : wordsOfLength (k + 1) = grow 2 (wordsOfLength k) := by
  rw [words_eq, words_eq, comp_grow]
theorem upTo_more (k : Nat) : wordsUpTo (k + 1) = wordsUpTo k ++ wordsOfLength (k + 1) := by
  unfold wordsUpTo
  rw [List.range_succ (n := k + 1), List.flatMap_append]
  simp
theorem words_len (k : Nat) : (wordsOfLength k).length = 2 ^ k := by rw [words_eq, comp_length]
theorem mem_words : ∀ {k : Nat} {r : Word}, r ∈ wordsOfLength k → r.length = k ∧ ∀ l ∈ r, l < 2 := fun {k r} h => by
  rw [words_eq] at h
  obtain ⟨g, hl⟩ : (∀ s ∈ r, s < 2) ∧ r.length = k := by
    have key : ∀ (k : Nat) (e : List Nat), (∀ s ∈ e, s < 2) → ∀ x ∈ comp (chs 2 false) k e, (∀ s ∈ x, s < 2) ∧ x.length = e.length + k := by
      intro k
      induction k with
      | zero =>
        intro e he x hx
        have : x = e := by simpa [comp] using hx
        subst this
        exact ⟨he, rfl⟩
      | succ k ih =>
        intro e he x hx
        obtain ⟨s, hs, hx⟩ := List.mem_flatMap.mp (show x ∈ (chs 2 false e).flatMap fun s => comp (chs 2 false) k (e ++ [s]) from hx)
        have hs2 : s < 2 := (mem_chs.mp hs).1
        obtain ⟨h1, h2⟩ := ih (e ++ [s]) (fun a ha => by
          rcases List.mem_append.mp ha with ha | ha
          · exact he a ha
          · have : a = s := by simpa using ha
            rw [this]; exact hs2) x hx
        refine ⟨h1, ?_⟩
        rw [h2, List.length_append, List.length_singleton]
        omega
    obtain ⟨h1, h2⟩ := key k [] (fun _ h => nomatch h) r h
    exact ⟨h1, by simpa using h2⟩
  exact ⟨hl, g⟩
theorem mem_upTo {k : Nat} {r : Word} (h : r ∈ wordsUpTo k) : r.length ≤ k ∧ ∀ l ∈ r, l < 2 := by
  obtain ⟨j, hj, h⟩ := List.mem_flatMap.mp h
  obtain ⟨h1, h2⟩ := mem_words h
  have := List.mem_range.mp hj
  exact ⟨by omega, h2⟩
theorem upTo_len (k : Nat) : (wordsUpTo k).length + 1 = 2 ^ (k + 1) := by
  induction k with
  | zero => rfl
  | succ k ih =>
    rw [upTo_more, List.length_append, words_len, Nat.pow_succ 2 (k + 1)]
    omega

/-! ### groups -/
abbrev Grp := List Nat × Word × Nat
def groups (n : Nat) (ws : List Word) : List Grp := (ws.map fun r => (finalStates n r, r)).foldl addToGroup []
theorem groups_snoc (n : Nat) (ws : List Word) (r : Word) : groups n (ws ++ [r]) = addToGroup (groups n ws) (finalStates n r, r) := by
  unfold groups
  rw [List.map_append, List.foldl_append]
  rfl
theorem groups_reps (n k : Nat) : representativesOf n k = (groups n (wordsUpTo k)).map fun x => (x.2.1, x.2.2) := rfl
theorem add_keys_old {l : List Grp} {e : List Nat × Word} (h : (l.any fun x => x.1 == e.1) = true) : (addToGroup l e).map (·.1) = l.map (·.1) := by
  unfold addToGroup
  rw [if_pos h, List.map_map]
  refine List.map_congr_left fun x _ => ?_
  show (if (x.1 == e.1) = true then (x.1, x.2.1, x.2.2 + 1) else x).1 = x.1
  split <;> rfl
theorem groups_nodup (n : Nat) (ws : List Word) : ((groups n ws).map (·.1)).Nodup := by
  unfold groups
  have key : ∀ (es : List (List Nat × Word)) (l : List Grp), (l.map (·.1)).Nodup → ((es.foldl addToGroup l).map (·.1)).Nodup := by
    intro es
    induction es with
    | nil => exact fun l h => h
    | cons e es ih =>
      intro l h
      refine ih _ ?_
      by_cases c : (l.any fun x => x.1 == e.1) = true
      · rw [add_keys_old c]; exact h
      · unfold addToGroup
        rw [if_neg c, List.map_append]
        refine nodup_snoc h fun hm => c ?_
        obtain ⟨x, hx, ex⟩ := List.mem_map.mp hm
        exact List.any_eq_true.mpr ⟨x, hx, by rw [ex]; simp⟩
  exact key _ [] List.nodup_nil
theorem add_len (l : List Grp) (e : List Nat × Word) : (addToGroup l e).length ≤ l.length + 1 := by
  unfold addToGroup
  split
  · rw [List.length_map]; omega
  · rw [List.length_append]; exact Nat.le_refl _
theorem groups_len (n : Nat) (ws : List Word) : (groups n ws).length ≤ ws.length := by
  have key : ∀ (es : List (List Nat × Word)) (l : List Grp), (es.foldl addToGroup l).length ≤ l.length + es.length := by
    intro es
    induction es with
    | nil => exact fun l => Nat.le_refl _
    | cons e es ih =>
      intro l
      have h1 := ih (addToGroup l e)
      have h2 := add_len l e
      rw [List.foldl_cons, List.length_cons]
      omega
  have := key (ws.map fun r => (finalStates n r, r)) []
  rw [List.length_map, List.length_nil, Nat.zero_add] at this
  exact this

/-! ### the numbers of a list, each once -/
theorem distinct_snoc (l : List Nat) (x : Nat) : distinct (l ++ [x]) = if (distinct l).contains x then distinct l else distinct l ++ [x] := by
  unfold distinct
  rw [List.foldl_append]
  rfl
end Sw
set_option Elab.async false
set_option linter.all false
set_option maxRecDepth 100000
set_option maxHeartbeats 4000000
/-! Separating words: least numbers, counters. -/
namespace Sw
open PySem PySem.Spec PyProof.Rows L2
section
variable {P : Program} {w : World} {K : PySem.W.Frag} {mg : Str → Option Value} {base : Heap} {A : Ad}

def oN : Option Nat → V
  | none => .non
  | some n => nv n
/-- fewest(first, second, is_both_ways) -/
def spFewest (K : PySem.W.Frag) : Sp := fun vs H Q _ => ∃ (a b : Addr) (u v : List Nat) (both : Bool), vs = [.ref a, .ref b, .bl both] ∧ SqT K H a (nvs u) ∧ SqT K H b (nvs v) ∧ (∀ l ∈ u, l < 2) ∧ (∀ l ∈ v, l < 2) ∧
  ∀ H', Same H H' → Q (oN (R7291g.Spec.leastCount (fun n => sepT n both u v) 4)) H'
theorem c_fewest (T : Txt K mg A) : Cal P w K mg base CX0 4 "fewest" (spFewest K) := by
  have c_first_separating := c_first_separating (P := P) (w := w) (base := base) T
  refine cal_of T.d_fewest sc_fewest (fun vs H Q E h => ?_) (fun f cdv A outer s H vs Q E hr h => ?_)
  · obtain ⟨a, b, u, v, both, rfl, _⟩ := h
    rfl
  · obtain ⟨a, b, u, v, both, rfl, ha, hb, lu, lv, k⟩ := h
    refine ⟨_, (pss_cons (ps_for PassesOwn.never rfl (pi_range2 rfl T.range (pa_cons pe_int (pa_cons (pe_op op_add (pe_gi rfl T.MOST_STATES) pe_int) pa_nil))) (pg_name (i := 3) sc_fewest.nd rfl (Or.inl rfl))
       (pss_one (ps_if (pt_cmpR op_notN (pe_d c_first_separating hr rfl (pa_cons (pv 3) (pa_cons (pv 0) (pa_cons (pv 1) (pa_cons (pv 2) pa_nil))))) pe_non (nomark _))
         (pss_one (ps_ret (pv 3)))
         pss_nil)))
      (pss_one (ps_ret pe_non))), ?_⟩
    refine ⟨_, _, rfl, rfl, _, _, rfl, ⟨by decide, by decide, by decide, by decide⟩, for_range (lo := 1) (n := 4) (fun i σ H' => ∃ y, σ = [some (.ref a), some (.ref b), some (.bl both), y] ∧ Same H H' ∧ ∀ j, 1 ≤ j → j ≤ i → sepT j both u v = none)
      ⟨none, rfl, Same.refl H, fun j h1 h2 => absurd h2 (by omega)⟩ ?_ ?_⟩
    · rintro i σ H' hi ⟨y0, rfl, s1, ok⟩
      have e1 : V.int (1 + (i : Int)) = nv (i + 1) := by
        show V.int _ = V.int _
        congr 1
        omega
      rw [e1]
      refine ⟨_, rfl, _, rfl, _, rfl, _, rfl, a, b, i + 1, u, v, both, rfl, s1.tup ha, s1.tup hb, by omega, by omega, lu, lv, fun t ht H2 p s2 _ _ => ⟨rfl, _, rfl, iteT ?_⟩, fun hn H2 s2 => ⟨rfl, _, rfl, iteF ?_⟩⟩
      · have := k H2 (s1.trans s2)
        rw [least_some (f := fun n => sepT n both u v) (n := i + 1) (by omega) (by omega) (by rw [ht]; rfl) (fun j h1 h2 => ok j h1 (by omega))] at this
        exact ⟨_, rfl, this⟩
      · refine ⟨_, rfl, s1.trans s2, fun j h1 h2 => ?_⟩
        by_cases e : j = i + 1
        · rw [e]; exact hn
        · exact ok j h1 (by omega)
    · rintro σ H' ⟨y0, rfl, s1, ok⟩
      have := k H' s1
      rw [least_none (f := fun n => sepT n both u v) (m := 4) (fun j h1 h2 => ok j h1 h2)] at this
      exact this

/-- difference(first, second, letter) -/
def spDiff (K : PySem.W.Frag) : Sp := fun vs H Q _ => ∃ (a b : Addr) (u v : List Nat) (l : Nat), vs = [.ref a, .ref b, nv l] ∧ PlT H a (nvs u) ∧ PlT H b (nvs v) ∧ Q (nv (R7291g.Spec.countDifference l u v)) H
theorem nvs_int (l : List Nat) : nvs l = (l.map fun n : Nat => (n : Int)).map V.int := by simp [nvs]
theorem count_int (l : Nat) : ∀ u : List Nat, (u.map fun n : Nat => (n : Int)).count (l : Int) = u.count l
  | [] => rfl
  | a :: u => by
    rw [List.map_cons, List.count_cons, List.count_cons, count_int l u]
    congr 1
    by_cases h : a = l
    · subst h; simp
    · have : ¬ (a : Int) = (l : Int) := by omega
      simp [h, this]
theorem c_difference (T : Txt K mg A) : Cal P w K mg base CX0 1 "difference" (spDiff K) := by
  refine cal_of T.d_difference sc_difference (fun vs H Q E h => ?_) (fun f cdv A outer s H vs Q E hr h => ?_)
  · obtain ⟨a, b, u, v, l, rfl, _⟩ := h
    rfl
  · obtain ⟨a, b, u, v, l, rfl, ha, hb, k⟩ := h
    refine ⟨_, (pss_one (ps_ret (pe_callB call_abs rfl T.abs (by decide +kernel) (pa_cons (pe_op op_sub (pe_bmT PySem.F.plainAttrs_tuple PySem.F.slot_tuple_count PySem.F.type_tuple_count mt_tcount (pv 0) (pa_cons (pv 2) pa_nil)) (pe_bmT PySem.F.plainAttrs_tuple PySem.F.slot_tuple_count PySem.F.type_tuple_count mt_tcount (pv 1) (pa_cons (pv 2) pa_nil))) pa_nil)))), ?_⟩
    rw [nvs_int] at ha hb
    refine ⟨_, rfl, ⟨_, _, rfl, ha⟩, _, rfl, a, _, _, rfl, rfl, ha.sq, ?_⟩
    refine ⟨_, rfl, ⟨_, _, rfl, hb⟩, _, rfl, b, _, _, rfl, rfl, hb.sq, ?_⟩
    rw [count_int, count_int]
    refine ⟨_, _, rfl, rfl, _, rfl, ?_⟩
    have e := diff_abs l u v
    have e2 : V.int (if (((u.count l : Nat) : Int) - ((v.count l : Nat) : Int)) < 0 then -(((u.count l : Nat) : Int) - ((v.count l : Nat) : Int)) else (((u.count l : Nat) : Int) - ((v.count l : Nat) : Int))) = nv (R7291g.Spec.countDifference l u v) := by
      show V.int _ = V.int _
      rw [e]
      congr 1
      split <;> omega
    rw [e2]
    exact k

/-- find_counter(first, second) -/
def spFindC (K : PySem.W.Frag) : Sp := fun vs H Q _ => ∃ (a b : Addr) (u v : List Nat), vs = [.ref a, .ref b] ∧ PlT H a (nvs u) ∧ PlT H b (nvs v) ∧ u.length ≤ 1000 ∧ v.length ≤ 1000 ∧
  (R7291g.Spec.countingSeparator u v = none → ∀ H', Same H H' → Q .non H') ∧
  ∀ l p, R7291g.Spec.countingSeparator u v = some (l, p) → ∀ H' t, Same H H' → SqT K H' t [nv l, nv p] → Q (.ref t) H'
theorem c_find_counter (T : Txt K mg A) : Cal P w K mg base CX0 2 "find_counter" (spFindC K) := by
  have c_difference := c_difference (P := P) (w := w) (base := base) T
  refine cal_of T.d_find_counter sc_find_counter (fun vs H Q E h => ?_) (fun f cdv A outer s H vs Q E hr h => ?_)
  · obtain ⟨a, b, u, v, rfl, _⟩ := h
    rfl
  · obtain ⟨a, b, u, v, rfl, ha, hb, lu, lv, kN, kS⟩ := h
    refine ⟨_, (pss_cons (ps_setLc (i := 2) (own := [("letter", 3)]) (g := (gName 3)) (tt := tYes) rfl sc_find_counter.nd rfl rfl (sw_true rfl rfl rfl (by decide +kernel)) (pi_range1 rfl T.range (pa_cons (pe_gi rfl T.LETTERS) pa_nil)) (blkOk_by (own := [("letter", 3)]) (N := ["first", "second", "gaps", "letter", "number"]) (sc := defScope s_find_counter) (by decide +kernel)) (fun _ _ _ _ _ => pg_name (i := 3) sc_find_counter.nd rfl (Or.inl rfl)) (fun _ _ _ _ _ => pts_nil) (fun _ _ _ _ _ => (pe_d c_difference hr rfl (pa_cons (pv 0) (pa_cons (pv 1) (pa_cons (pv 3) pa_nil))))))
      (pss_cons (ps_if (pt_cmpR (op_eqD hr.units) (pv 2) (pe_lst (pa_cons pe_int (pa_cons pe_int pa_nil))) (nomark _))
       (pss_one (ps_ret pe_non))
       pss_nil)
      (pss_cons (ps_set (i := 4) sc_find_counter.nd rfl (Or.inl rfl) pe_int)
      (pss_one (ps_while PassesOwn.never (pt_val pe_bl)
       (pss_cons (ps_for PassesOwn.never rfl (pi_range1 rfl T.range (pa_cons (pe_gi rfl T.LETTERS) pa_nil)) (pg_name (i := 3) sc_find_counter.nd rfl (Or.inl rfl))
         (pss_one (ps_if (pt_cmpR op_ne (pe_op op_mod (pe_ix (ixl K) (pv 2) (pv 3) (fun _ _ => rfl)) (pv 4)) pe_int (nomark _))
           (pss_one (ps_ret (pe_tup (pa_cons (pv 3) (pa_cons (pv 4) pa_nil)))))
           pss_nil)))
        (pss_one (ps_aug (i := 4) sc_find_counter.nd rfl (Or.inl rfl) pe_int ip_add)))))))), ?_⟩
    refine ⟨_, rfl, by decide, by decide, fun D hD => lc_range (lo := 0) (n := 2) (fun i H2 => Same H H2 ∧ H2 D = some (.lst (nvs ((List.range i).map fun l => R7291g.Spec.countDifference l u v)))) ⟨(Same.refl H).new hD, upd_same⟩ ?_ ?_⟩
    · rintro i H2 hi ⟨s2, hD2⟩
      have e0 : (V.int (0 + (i : Int))) = nv i := by show V.int (0 + (i : Int)) = V.int (i : Int); rw [Int.zero_add]
      rw [e0]
      refine ⟨rfl, _, rfl, _, rfl, _, rfl, a, b, u, v, i, rfl, ha.same s2, hb.same s2, _, hD2, ?_, s2.put hD, ?_⟩
      · rw [nvs_len, List.length_map, List.length_range]
        exact small_lt (by omega)
      · rw [upd_same, List.range_succ]
        simp [nvs]
    · rintro H2 ⟨s2, hD2⟩
      have hD2 : H2 D = some (.lst [nv (R7291g.Spec.countDifference 0 u v), nv (R7291g.Spec.countDifference 1 u v)]) := hD2
      have b0 := count_le 0 u v
      have b1 := count_le 1 u v
      have hcd : ∀ i, i < 2 → ([nv (R7291g.Spec.countDifference 0 u v), nv (R7291g.Spec.countDifference 1 u v)] : List V)[i]? = some (nv (R7291g.Spec.countDifference i u v)) := by
        intro i hi
        have : i = 0 ∨ i = 1 := by omega
        rcases this with rfl | rfl <;> rfl
      refine ⟨_, rfl, (by show 2 ≤ sizeLine; decide), fun q hq => ?_⟩
      have hDq : upd H2 q (.lst [.int 0, .int 0]) D = some (.lst [nv (R7291g.Spec.countDifference 0 u v), nv (R7291g.Spec.countDifference 1 u v)]) := by
        rw [upd_ne (ne_of_none hD2 hq)]
        exact hD2
      have s3 : Same H (upd H2 q (.lst [.int 0, .int 0])) := s2.new hq
      refine ⟨.list [.int (R7291g.Spec.countDifference 0 u v : Nat), .int (R7291g.Spec.countDifference 1 u v : Nat)], .list [.int 0, .int 0], Dp.lst (SqL.of hDq) (.cons (.int _) (.cons (.int _) .nil)), Dp.lst (SqL.of upd_same) (.cons (.int _) (.cons (.int _) .nil)), rfl, rfl, _, rfl, ?_⟩
      generalize upd H2 q (.lst [.int 0, .int 0]) = H3 at hDq s3
      have eq0 : PyData.eqv (.list [.int (R7291g.Spec.countDifference 0 u v : Nat), .int (R7291g.Spec.countDifference 1 u v : Nat)]) (.list [.int 0, .int 0]) = (decide (R7291g.Spec.countDifference 0 u v = 0) && decide (R7291g.Spec.countDifference 1 u v = 0)) := by
        show (((R7291g.Spec.countDifference 0 u v : Nat) : Int) == 0 && (((R7291g.Spec.countDifference 1 u v : Nat) : Int) == 0 && true)) = _
        rw [Bool.and_true]
        congr 1
        · rw [Bool.eq_iff_iff]
          simp
        · rw [Bool.eq_iff_iff]
          simp
      rw [eq0]
      refine ite2 (fun hc => ?_) (fun hc => ?_)
      · rw [Bool.and_eq_true, decide_eq_true_eq, decide_eq_true_eq] at hc
        exact kN (counting_none hc.1 hc.2) H3 s3
      · have hne : R7291g.Spec.countDifference 0 u v ≠ 0 ∨ R7291g.Spec.countDifference 1 u v ≠ 0 := by
          by_cases z : R7291g.Spec.countDifference 0 u v = 0
          · right
            intro z1
            exact hc (by rw [z, z1]; rfl)
          · exact .inl z
        refine while_of (fun m σ H' => ∃ (y3 : Option V) (p : Nat), σ = [some (.ref a), some (.ref b), some (.ref D), y3, some (nv p)] ∧ Same H H' ∧ H' D = some (.lst [nv (R7291g.Spec.countDifference 0 u v), nv (R7291g.Spec.countDifference 1 u v)]) ∧
            2 ≤ p ∧ (∀ q, 2 ≤ q → q < p → R7291g.Spec.countDifference 0 u v % q = 0 ∧ R7291g.Spec.countDifference 1 u v % q = 0) ∧ m = 5000 - p) (5000 - 2) ⟨none, 2, rfl, s3, hDq, Nat.le_refl _, fun q h1 h2 => absurd h2 (by omega), rfl⟩ ?_ ?_
        · rintro m σ H4 ⟨y3, p, rfl, s4, hD4, hp, hq2, rfl⟩
          have hp5 : p ≤ 4000 := by
            apply Classical.byContradiction
            intro hh
            rcases hne with z | z
            · have := (hq2 (R7291g.Spec.countDifference 0 u v + 1) (by omega) (by omega)).1
              rw [Nat.mod_eq_of_lt (by omega)] at this
              exact z this
            · have := (hq2 (R7291g.Spec.countDifference 1 u v + 1) (by omega) (by omega)).2
              rw [Nat.mod_eq_of_lt (by omega)] at this
              exact z this
          refine ⟨_, rfl, iteT ?_⟩
          refine ⟨2, rfl, by decide, by decide, for_range (lo := 0) (n := 2) (fun i σ H' => ∃ y3, σ = [some (.ref a), some (.ref b), some (.ref D), y3, some (nv p)] ∧ H' = H4 ∧ ∀ j, j < i → R7291g.Spec.countDifference j u v % p = 0)
            ⟨y3, rfl, rfl, fun j hj => absurd hj (by omega)⟩ ?_ ?_⟩
          · rintro i σ H5 hi ⟨z3, rfl, rfl, ok⟩
            have e0 : (V.int (0 + (i : Int))) = nv i := by show V.int (0 + (i : Int)) = V.int (i : Int); rw [Int.zero_add]
            rw [e0]
            refine ⟨_, rfl, _, rfl, D, _, _, nv (R7291g.Spec.countDifference i u v), rfl, rfl, SqL.of hD4, at_of rfl (hcd i hi), ?_⟩
            refine ⟨_, rfl, _, _, rfl, rfl, (by show (0 : Int) < (p : Int); omega), rfl, _, rfl, ?_⟩
            have e1 : (!decide (V.int ((R7291g.Spec.countDifference i u v : Nat) % (p : Int)) = V.int 0)) = decide (R7291g.Spec.countDifference i u v % p ≠ 0) := by
              rw [decide_not]
              congr 1
              refine decide_eq_decide.mpr ⟨fun h => ?_, fun h => ?_⟩
              · injection h with h
                omega
              · congr 1
                omega
            rw [e1]
            refine ite2 (fun hc => ?_) (fun hc => ?_)
            · have hc := of_decide_eq_true hc
              refine ⟨_, rfl, _, rfl, (by show 2 ≤ sizeLine; decide), fun t ht => ?_⟩
              have : R7291g.Spec.countingSeparator u v = some (i, p) := by
                have : i = 0 ∨ i = 1 := by omega
                rcases this with rfl | rfl
                · exact counting_first hp hc hq2
                · exact counting_second hp (ok 0 (by omega)) hc hq2
              exact kS i p this _ t (s4.new ht) (SqT.of upd_same)
            · have hc := of_decide_eq_false (Bool.eq_false_iff.mpr hc)
              refine ⟨_, rfl, rfl, fun j hj => ?_⟩
              by_cases e : j = i
              · rw [e]
                apply Classical.byContradiction
                exact hc
              · exact ok j (by omega)
          · rintro σ H5 ⟨z3, rfl, rfl, ok⟩
            refine ⟨_, rfl, _, _, rfl, rfl, _, ?_, z3, p + 1, rfl, s4, hD4, by omega, fun q h1 h2 => ?_, rfl⟩
            · omega
            · by_cases e : q = p
              · rw [e]
                exact ⟨ok 0 (by omega), ok 1 (by omega)⟩
              · exact hq2 q h1 (by omega)
        · rintro σ H1 Q1 Q2 f ⟨v1, e1, q⟩
          exact ⟨v1, e1, f _ _ q⟩

/-- counter(letter, states) -/
def spCounter (K : PySem.W.Frag) : Sp := fun vs H Q _ => ∃ (l n : Nat), vs = [nv l, nv n] ∧ l < 2 ∧ 1 ≤ n ∧ n ≤ 1000 ∧ ∀ H' p, Same H H' → H p = none → TabT K H' p (R7291g.Spec.counterTable l n) → Q (.ref p) H'
theorem c_counter (T : Txt K mg A) : Cal P w K mg base CX0 1 "counter" (spCounter K) := by
  refine cal_of T.d_counter sc_counter (fun vs H Q E h => ?_) (fun f cdv A outer s H vs Q E hr h => ?_)
  · obtain ⟨l, n, rfl, _⟩ := h
    rfl
  · obtain ⟨l, n, rfl, hl, n1, n2, k⟩ := h
    refine ⟨_, (pss_cons (ps_set (i := 2) sc_counter.nd rfl (Or.inl rfl) (pe_lst pa_nil))
      (pss_cons (ps_for PassesOwn.never rfl (pi_range1 rfl T.range (pa_cons (pv 1) pa_nil)) (pg_name (i := 3) sc_counter.nd rfl (Or.inl rfl))
       (pss_cons (ps_set (i := 4) sc_counter.nd rfl (Or.inl rfl) (pe_op op_mod (pe_op op_add (pv 3) pe_int) (pv 1)))
        (pss_one (ps_expr (pe_bm PySem.F.plainAttrs_list PySem.F.slot_list_append PySem.F.type_list_append mt_append (pv 2) (pa_cons (pe_ifExp (pt_cmpR op_eq (pv 0) pe_int (nomark _)) (pe_tup (pa_cons (pv 4) (pa_cons (pv 3) pa_nil))) (pe_tup (pa_cons (pv 3) (pa_cons (pv 4) pa_nil)))) pa_nil))))))
      (pss_one (ps_ret (pv 2))))), ?_⟩
    refine ⟨Nat.zero_le _, fun D hD => ⟨_, rfl, (n : Int), rfl, by omega, by omega, for_range (lo := 0) (n := (n : Int).toNat) (fun i σ H' => ∃ (y3 y4 : Option V) (rs : List Addr), σ = [some (nv l), some (nv n), some (.ref D), y3, y4] ∧ Same H H' ∧ H' D = some (.lst (rs.map V.ref)) ∧
      Paired (fun r (p : Nat × Nat) => SqT K H' r [nv p.1, nv p.2]) rs ((R7291g.Spec.counterTable l n).take i)) ⟨none, none, [], rfl, (Same.refl H).new hD, upd_same, .nil⟩ ?_ ?_⟩⟩
    · rintro i σ H2 hi ⟨y3, y4, rs, rfl, s2, hD2, hrs⟩
      have hin : i < n := by omega
      have e0 : (V.int (0 + (i : Int))) = nv i := by show V.int (0 + (i : Int)) = V.int (i : Int); rw [Int.zero_add]
      rw [e0]
      refine ⟨_, rfl, _, _, rfl, rfl, _, rfl, _, _, rfl, rfl, (by show (0 : Int) < (n : Int); omega), ?_⟩
      have e1 : V.int (((i : Int) + 1) % (n : Int)) = nv ((i + 1) % n) := rfl
      have hlen : rs.length = i := by
        have := Paired.length hrs
        rw [List.length_take] at this
        unfold R7291g.Spec.counterTable at this
        rw [List.length_map, List.length_range] at this
        omega
      have hget : (R7291g.Spec.counterTable l n)[i]? = some (if l = 0 then ((i + 1) % n, i) else (i, (i + 1) % n)) := by
        unfold R7291g.Spec.counterTable
        rw [List.getElem?_map, List.getElem?_range hin]
        rfl
      have fin : ∀ (t : Addr) (x y : V) (pq : Nat × Nat), H2 t = none → x = nv pq.1 → y = nv pq.2 → pq = (if l = 0 then ((i + 1) % n, i) else (i, (i + 1) % n)) → Paired (fun r (p : Nat × Nat) => SqT K (upd (upd H2 t (.tup [x, y])) D (.lst ((rs.map V.ref) ++ [.ref t]))) r [nv p.1, nv p.2]) (rs ++ [t]) ((R7291g.Spec.counterTable l n).take (i + 1)) := by
        intro t x y pq ht ex ey ep
        subst ex ey
        have hDt : upd H2 t (.tup [nv pq.1, nv pq.2]) D = some (.lst (rs.map V.ref)) := ((Same.refl H2).new ht) _ _ hD2
        rw [take_more hget, ← ep]
        exact Paired.snoc (Paired.mapP hrs fun _ _ q => sqT_put hDt (((Same.refl H2).new ht).tup q)) (sqT_put hDt (SqT.of upd_same))
      refine ⟨_, rfl, .inl ⟨rfl, _, SqL.of hD2⟩, ?_⟩
      have hl01 : l = 0 ∨ l = 1 := by omega
      rcases hl01 with rfl | rfl
      · refine ⟨_, rfl, rfl, _, rfl, iteT ?_⟩
        refine ⟨_, rfl, _, rfl, (by show 2 ≤ sizeLine; decide), fun t ht => ?_⟩
        have hDt : upd H2 t (.tup [nv ((i + 1) % n), nv i]) D = some (.lst (rs.map V.ref)) := ((Same.refl H2).new ht) _ _ hD2
        refine ⟨D, _, _, rfl, rfl, hDt, by rw [List.length_map, hlen]; exact small_lt (by omega), _, _, rs ++ [t], rfl, (s2.new ht).put hD, ?_, fin t _ _ ((i + 1) % n, i) ht e1 rfl rfl⟩
        rw [upd_same]
        simp
      · refine ⟨_, rfl, rfl, _, rfl, iteF ?_⟩
        refine ⟨_, rfl, _, rfl, (by show 2 ≤ sizeLine; decide), fun t ht => ?_⟩
        have hDt : upd H2 t (.tup [nv i, nv ((i + 1) % n)]) D = some (.lst (rs.map V.ref)) := ((Same.refl H2).new ht) _ _ hD2
        refine ⟨D, _, _, rfl, rfl, hDt, by rw [List.length_map, hlen]; exact small_lt (by omega), _, _, rs ++ [t], rfl, (s2.new ht).put hD, ?_, fin t _ _ (i, (i + 1) % n) ht rfl e1 rfl⟩
        rw [upd_same]
        simp
    · rintro σ H2 ⟨y3, y4, rs, rfl, s2, hD2, hrs⟩
      refine ⟨_, rfl, ?_⟩
      have e : (R7291g.Spec.counterTable l n).take (n : Int).toNat = R7291g.Spec.counterTable l n := List.take_of_length_le (by unfold R7291g.Spec.counterTable; rw [List.length_map, List.length_range]; omega)
      rw [e] at hrs
      exact k H2 D s2 hD ⟨rs, SqL.of hD2, hrs⟩
end
end Sw
set_option Elab.async false
set_option linter.all false
set_option maxRecDepth 100000
set_option maxHeartbeats 4000000
/-! Separating words: all tables, all words. -/
namespace Sw
open PySem PySem.Spec PyProof.Rows L2
section
variable {P : Program} {w : World} {K : PySem.W.Frag} {mg : Str → Option Value} {base : Heap} {A : Ad}

/-- a list of rows -/
def RowsL (K : PySem.W.Frag) (H : Hp) (a : Addr) (ls : List (List Nat)) : Prop := ∃ as : List Addr, SqL K H a (as.map V.ref) ∧ Rows K H as ls
/-- .. that may be written -/
def RowsH (K : PySem.W.Frag) (H : Hp) (a : Addr) (ls : List (List Nat)) : Prop := ∃ as : List Addr, H a = some (.lst (as.map V.ref)) ∧ Rows K H as ls
theorem RowsH.l {H : Hp} {a : Addr} {ls : List (List Nat)} (h : RowsH K H a ls) : RowsL K H a ls := let ⟨as, h1, h2⟩ := h; ⟨as, SqL.of h1, h2⟩
theorem RowsL.same {H H' : Hp} {a : Addr} {ls : List (List Nat)} (s : Same H H') (h : RowsL K H a ls) : RowsL K H' a ls := let ⟨as, h1, h2⟩ := h; ⟨as, s.seq h1, h2.same s⟩
theorem grow_more (n : Nat) (ls : List (List Nat)) {i : Nat} {r : List Nat} (h : ls[i]? = some r) : grow n (ls.take (i + 1)) = grow n (ls.take i) ++ (List.range n).map fun s => r ++ [s] := by
  rw [take_more h, grow_append]
  congr 1
  unfold grow
  rw [List.flatMap_cons, List.flatMap_nil, List.append_nil]
theorem pow_le {a b : Nat} (h : a ≤ b) : 3 ^ a ≤ 3 ^ b := Nat.pow_le_pow_right (by decide) h
theorem comp_small {n k : Nat} (hn : n ≤ 3) (hk : k ≤ 6) : (comp (chs n false) k []).length ≤ 729 := by
  rw [comp_length]
  exact Nat.le_trans (Nat.pow_le_pow_left hn k) (pow_le hk)

/-- all_tables(states) -/
def spTables (K : PySem.W.Frag) : Sp := fun vs H Q _ => ∃ (n : Nat), vs = [nv n] ∧ n ≤ 3 ∧ ∀ (H' : Hp) (p : Addr), Same H H' → RowsL K H' p (comp (chs n false) (2 * n) []) → Q (.ref p) H'
theorem comp_len9 {n k : Nat} (hk : k ≤ 6) : ∀ e ∈ comp (chs n false) k [], e.length ≤ 6 := fun e he => by
  obtain ⟨y, ey, ly⟩ := comp_prefix k he
  rw [ey, List.nil_append]
  omega
theorem c_all_tables (T : Txt K mg A) : Cal P w K mg base CX0 1 "all_tables" (spTables K) := by
  refine cal_of T.d_all_tables sc_all_tables (fun vs H Q E h => ?_) (fun f cdv A outer s H vs Q E hr h => ?_)
  · obtain ⟨n, rfl, _⟩ := h
    rfl
  · obtain ⟨n, rfl, hn, k⟩ := h
    have hn3 := hn
    refine ⟨_, (pss_cons (ps_set (i := 1) sc_all_tables.nd rfl (Or.inl rfl) (pe_lst (pa_cons (pe_tup pa_nil) pa_nil)))
      (pss_cons (ps_for PassesOwn.never rfl (pi_range1 rfl T.range (pa_cons (pe_op op_mul (pe_gi rfl T.LETTERS) (pv 0)) pa_nil)) (pg_name (i := 2) sc_all_tables.nd rfl (Or.inl rfl))
       (pss_cons (ps_set (i := 3) sc_all_tables.nd rfl (Or.inl rfl) (pe_lst pa_nil))
        (pss_cons (ps_for PassesOwn.never rfl (pi_list (pv 1)) (pg_name (i := 4) sc_all_tables.nd rfl (Or.inr rfl))
         (pss_one (ps_expr (pe_bm PySem.F.plainAttrs_list PySem.F.slot_list_extend PySem.F.type_list_extend mt_extend (pv 3) (pa_cons (pe_lc (own := [("state", 5)]) (g := (gName 5)) (tt := tYes) rfl sc_all_tables.nd (pi_range1 rfl T.range (pa_cons (pv 0) pa_nil)) (blkOk_by (own := [("state", 5)]) (N := ["states", "rows", "turn", "longer", "row", "state"]) (sc := defScope s_all_tables) (by decide +kernel)) (fun _ _ _ _ _ => pg_name (i := 5) sc_all_tables.nd rfl (Or.inl rfl)) (fun _ _ _ _ _ => pts_nil) (fun _ _ _ _ _ => (pe_op (catU K) (pv 4) (pe_tup (pa_cons (pv 5) pa_nil))))) pa_nil)))))
        (pss_one (ps_set (i := 1) sc_all_tables.nd rfl (Or.inl rfl) (pv 3))))))
      (pss_one (ps_ret (pv 1))))), ?_⟩
    refine ⟨Nat.zero_le _, fun e0 he0 => ⟨(by show 1 ≤ sizeLine; decide), fun R0 hR0 => ?_⟩⟩
    have s0 : Same H (upd (upd H e0 (.tup [])) R0 (.lst [.ref e0])) := ((Same.refl H).new he0).new hR0
    have hrow0 : SqT K (upd (upd H e0 (.tup [])) R0 (.lst [.ref e0])) e0 (nvs []) := ((Same.refl _).new hR0).tup (SqT.of upd_same)
    refine ⟨_, rfl, _, _, rfl, rfl, .inl (by decide), 2 * (n : Int), rfl, by omega, by omega, for_range (lo := 0) (n := (2 * (n : Int)).toNat) (fun i σ H' => ∃ (R : Addr) (y2 y3 y4 y5 : Option V), σ = [some (nv n), some (.ref R), y2, y3, y4, y5] ∧ Same H H' ∧ RowsH K H' R (comp (chs n false) i []))
      ⟨R0, none, none, none, none, rfl, s0, [e0], upd_same, .cons hrow0 .nil⟩ ?_ ?_⟩
    · rintro i σ H1 hi ⟨R, y2, y3, y4, y5, rfl, s1, as, hR, hrows⟩
      have hlen : as.length = (comp (chs n false) i []).length := Paired.length hrows
      have hsm := comp_small (n := n) (k := i) hn (by omega)
      have he9 := comp_len9 (n := n) (k := i) (by omega)
      refine ⟨Nat.zero_le _, fun L hL => ?_⟩
      have hL0 : H L = none := s1.free hL
      have s2 : Same H1 (upd H1 L (.lst [])) := (Same.refl H1).new hL
      refine ⟨_, rfl, R, rfl, ⟨_, SqL.of (s2 _ _ hR)⟩, for_list (K := K) (a := R) (xs := as.map V.ref) (fun j σ H' => ∃ (y4 y5 : Option V) (bs : List Addr), σ = [some (nv n), some (.ref R), some (.int (0 + (i : Int))), some (.ref L), y4, y5] ∧ Same H H' ∧ H' R = some (.lst (as.map V.ref)) ∧ Rows K H' as (comp (chs n false) i []) ∧
          H' L = some (.lst (bs.map V.ref)) ∧ Rows K H' bs (grow n ((comp (chs n false) i []).take j)))
        ⟨y4, y5, [], rfl, s1.trans s2, s2 _ _ hR, hrows.same s2, upd_same, .nil⟩ (fun j σ H' _ ⟨_, _, _, _, _, q, _⟩ => SqL.of q) ?_ ?_⟩
      · rintro j x σ H3 hx ⟨z4, z5, bs, rfl, s3, hR3, hrows3, hL3, hbs⟩
        obtain ⟨r, hr1, rfl⟩ : ∃ r, as[j]? = some r ∧ x = .ref r := by
          rw [List.getElem?_map] at hx
          cases e : as[j]? with
          | none => rw [e] at hx; cases hx
          | some r => rw [e] at hx; exact ⟨r, rfl, (Option.some.inj hx).symm⟩
        obtain ⟨e, he, hrow⟩ := paired_get' hrows3 hr1
        refine ⟨_, rfl, .inl ⟨rfl, _, SqL.of hL3⟩, _, rfl, (n : Int), rfl, by omega, by omega, fun D hD => lc_range (lo := 0) (n := (n : Int).toNat) (fun m H' => ∃ cs : List Addr, Same H3 H' ∧ H' D = some (.lst (cs.map V.ref)) ∧ Rows K H' cs ((List.range m).map fun s => e ++ [s])) ⟨[], (Same.refl H3).new hD, upd_same, .nil⟩ ?_ ?_⟩
        · rintro m H4 hm ⟨cs, s4, hD4, hcs⟩
          have e0 : (V.int (0 + (m : Int))) = nv m := by show V.int (0 + (m : Int)) = V.int (m : Int); rw [Int.zero_add]
          have hcl : cs.length = m := by
            have := Paired.length hcs
            rwa [List.length_map, List.length_range] at this
          rw [e0]
          refine ⟨rfl, _, rfl, _, rfl, (by show 1 ≤ sizeLine; decide), fun q hq => ?_⟩
          have sq : Same H4 (upd H4 q (.tup [nv m])) := (Same.refl H4).new hq
          refine ⟨r, q, _, _, rfl, rfl, sq.tup (s4.tup hrow), SqT.of upd_same, ?_, fun t H6 s6 h6 => ?_⟩
          · rw [nvs_len]
            have := he9 e (List.mem_of_getElem? he)
            show e.length + 1 ≤ sizeLine
            exact small_line (by omega)
          have s46 := sq.trans s6
          refine ⟨_, s46 _ _ hD4, by rw [List.length_map]; exact small_lt (by omega), cs ++ [t], (s4.trans s46).put hD, ?_, ?_⟩
          · rw [upd_same]
            simp
          · rw [List.range_succ, List.map_append]
            refine Paired.snoc (Rows.put (s46 _ _ hD4) (hcs.same s46)) (sqT_put (s46 _ _ hD4) ?_)
            have e2 : nvs (e ++ [m]) = nvs e ++ [nv m] := by simp [nvs]
            rw [e2]
            exact h6
        · rintro H4 ⟨cs, s4, hD4, hcs⟩
          have hLD := s4 _ _ hL3
          have hcl : cs.length = (n : Int).toNat := by
            have := Paired.length hcs
            rwa [List.length_map, List.length_range] at this
          have hbl : bs.length ≤ 729 * 3 := by
            have := Paired.length hbs
            rw [grow_length, List.length_take] at this
            have h1 : min j (comp (chs n false) i []).length ≤ 729 := by omega
            have h2 := Nat.mul_le_mul h1 hn3
            omega
          have nRL : R ≠ L := fun z => by
            rw [z, hL] at hR
            cases hR
          have hR4 := s4 _ _ hR3
          refine ⟨L, D, _, _, rfl, rfl, hLD, hD4, by rw [List.length_map, List.length_map, hcl]; exact small_line (by omega), _, _, bs ++ cs, rfl, (s3.trans s4).put hL0, ?_, Rows.put hLD (hrows3.same s4), ?_, ?_⟩
          · rw [upd_ne nRL]
            exact hR4
          · rw [upd_same]
            simp
          · rw [grow_more n _ he]
            have e3 : (n : Int).toNat = n := by omega
            rw [e3] at hcs
            exact paired_append (Rows.put hLD (hbs.same s4)) (Rows.put hLD hcs)
      · rintro σ H3 ⟨z4, z5, bs, rfl, s3, hR3, hrows3, hL3, hbs⟩
        have hall : (comp (chs n false) i []).take (as.map V.ref).length = comp (chs n false) i [] := by
          rw [List.length_map, hlen, List.take_length]
        rw [hall] at hbs
        refine ⟨_, rfl, L, _, _, _, _, rfl, s3, bs, hL3, ?_⟩
        rw [comp_grow]
        exact hbs
    · rintro σ H1 ⟨R, y2, y3, y4, y5, rfl, s1, hR⟩
      have e2 : (2 * (n : Int)).toNat = 2 * n := by omega
      rw [e2] at hR
      exact ⟨_, rfl, k H1 R s1 hR.l⟩

/-- all_words(longest) -/
def spWords (K : PySem.W.Frag) : Sp := fun vs H Q _ => ∃ (k : Nat), vs = [nv k] ∧ k ≤ 5 ∧ ∀ (H' : Hp) (p : Addr), Same H H' → RowsL K H' p (R7291g.Spec.wordsUpTo k) → Q (.ref p) H'
theorem words_small {k : Nat} (hk : k ≤ 5) : (R7291g.Spec.wordsOfLength k).length ≤ 729 := by
  rw [words_eq]
  exact comp_small (by decide) (by omega)
theorem upTo_small {k : Nat} (hk : k ≤ 5) : (R7291g.Spec.wordsUpTo k).length ≤ 63 := by
  have h := upTo_len k
  have : 2 ^ (k + 1) ≤ 2 ^ 6 := Nat.pow_le_pow_right (by decide) (by omega)
  omega
theorem c_all_words (T : Txt K mg A) : Cal P w K mg base CX0 1 "all_words" (spWords K) := by
  refine cal_of T.d_all_words sc_all_words (fun vs H Q E h => ?_) (fun f cdv A outer s H vs Q E hr h => ?_)
  · obtain ⟨lo, rfl, _⟩ := h
    rfl
  · obtain ⟨lo, rfl, hlo, k⟩ := h
    have hn3 : 2 ≤ 3 := by decide
    refine ⟨_, (pss_cons (ps_set (i := 1) sc_all_words.nd rfl (Or.inl rfl) (pe_lst (pa_cons (pe_tup pa_nil) pa_nil)))
      (pss_cons (ps_set (i := 2) sc_all_words.nd rfl (Or.inl rfl) (pe_lst (pa_cons (pe_tup pa_nil) pa_nil)))
      (pss_cons (ps_for PassesOwn.never rfl (pi_range1 rfl T.range (pa_cons (pv 0) pa_nil)) (pg_name (i := 3) sc_all_words.nd rfl (Or.inl rfl))
       (pss_cons (ps_set (i := 4) sc_all_words.nd rfl (Or.inl rfl) (pe_lst pa_nil))
        (pss_cons (ps_for PassesOwn.never rfl (pi_list (pv 1)) (pg_name (i := 5) sc_all_words.nd rfl (Or.inr rfl))
         (pss_one (ps_expr (pe_bm PySem.F.plainAttrs_list PySem.F.slot_list_extend PySem.F.type_list_extend mt_extend (pv 4) (pa_cons (pe_lc (own := [("letter", 6)]) (g := (gName 6)) (tt := tYes) rfl sc_all_words.nd (pi_range1 rfl T.range (pa_cons (pe_gi rfl T.LETTERS) pa_nil)) (blkOk_by (own := [("letter", 6)]) (N := ["longest", "rows", "found", "turn", "longer", "row", "letter"]) (sc := defScope s_all_words) (by decide +kernel)) (fun _ _ _ _ _ => pg_name (i := 6) sc_all_words.nd rfl (Or.inl rfl)) (fun _ _ _ _ _ => pts_nil) (fun _ _ _ _ _ => (pe_op (catU K) (pv 5) (pe_tup (pa_cons (pv 6) pa_nil))))) pa_nil)))))
        (pss_cons (ps_set (i := 1) sc_all_words.nd rfl (Or.inl rfl) (pv 4))
        (pss_one (ps_expr (pe_bm PySem.F.plainAttrs_list PySem.F.slot_list_extend PySem.F.type_list_extend mt_extend (pv 2) (pa_cons (pv 1) pa_nil))))))))
      (pss_one (ps_ret (pv 2)))))), ?_⟩
    refine ⟨Nat.zero_le _, fun e0 he0 => ⟨(by show 1 ≤ sizeLine; decide), fun R0 hR0 => ⟨Nat.zero_le _, fun e1 he1 => ⟨(by show 1 ≤ sizeLine; decide), fun F0 hF0 => ?_⟩⟩⟩⟩
    have s0 : Same H (upd (upd H e0 (.tup [])) R0 (.lst [.ref e0])) := ((Same.refl H).new he0).new hR0
    have hrow0 : SqT K (upd (upd H e0 (.tup [])) R0 (.lst [.ref e0])) e0 (nvs []) := ((Same.refl _).new hR0).tup (SqT.of upd_same)
    have hR00 : (upd (upd H e0 (.tup [])) R0 (.lst [.ref e0])) R0 = some (.lst [.ref e0]) := upd_same
    generalize upd (upd H e0 (.tup [])) R0 (.lst [.ref e0]) = Ha at s0 hrow0 hR00 he1 hF0
    have sa : Same Ha (upd (upd Ha e1 (.tup [])) F0 (.lst [.ref e1])) := ((Same.refl Ha).new he1).new hF0
    have hrow1 : SqT K (upd (upd Ha e1 (.tup [])) F0 (.lst [.ref e1])) e1 (nvs []) := ((Same.refl _).new hF0).tup (SqT.of upd_same)
    have hF00 : (upd (upd Ha e1 (.tup [])) F0 (.lst [.ref e1])) F0 = some (.lst [.ref e1]) := upd_same
    have hFa : Ha F0 = none := ((Same.refl Ha).new he1).free hF0
    have hF : H F0 = none := s0.free hFa
    have nRF : R0 ≠ F0 := fun z => by
      rw [z, hFa] at hR00
      cases hR00
    generalize upd (upd Ha e1 (.tup [])) F0 (.lst [.ref e1]) = Hb at sa hrow1 hF00
    refine ⟨_, rfl, (lo : Int), rfl, by omega, by omega, for_range (lo := 0) (n := (lo : Int).toNat) (fun i σ H' => ∃ (R : Addr) (y3 y4 y5 y6 : Option V), σ = [some (nv lo), some (.ref R), some (.ref F0), y3, y4, y5, y6] ∧ Same H H' ∧ RowsH K H' R (R7291g.Spec.wordsOfLength i) ∧ R ≠ F0 ∧ RowsH K H' F0 (R7291g.Spec.wordsUpTo i))
      ⟨R0, none, none, none, none, rfl, s0.trans sa, ⟨[e0], sa _ _ hR00, .cons (sa.tup hrow0) .nil⟩, nRF, [e1], hF00, .cons hrow1 .nil⟩ ?_ ?_⟩
    · rintro i σ H1 hi ⟨R, y3, y6, y4, y5, rfl, s1, ⟨as, hR, hrows⟩, nRF, fs, hFl, hFrows⟩
      have hlen : as.length = (R7291g.Spec.wordsOfLength i).length := Paired.length hrows
      have hsm := words_small (k := i) (by omega)
      have he9 : ∀ e ∈ R7291g.Spec.wordsOfLength i, e.length ≤ 6 := fun e he => by
        rw [(mem_words he).1]
        omega
      refine ⟨Nat.zero_le _, fun L hL => ?_⟩
      have hL0 : H L = none := s1.free hL
      have nFL : F0 ≠ L := fun z => by
        rw [z, hL] at hFl
        cases hFl
      have s2 : Same H1 (upd H1 L (.lst [])) := (Same.refl H1).new hL
      refine ⟨_, rfl, R, rfl, ⟨_, SqL.of (s2 _ _ hR)⟩, for_list (K := K) (a := R) (xs := as.map V.ref) (fun j σ H' => ∃ (y4 y5 : Option V) (bs : List Addr), σ = [some (nv lo), some (.ref R), some (.ref F0), some (.int (0 + (i : Int))), some (.ref L), y4, y5] ∧ Same H H' ∧ H' R = some (.lst (as.map V.ref)) ∧ Rows K H' as (R7291g.Spec.wordsOfLength i) ∧
          H' L = some (.lst (bs.map V.ref)) ∧ Rows K H' bs (grow 2 ((R7291g.Spec.wordsOfLength i).take j)) ∧ H' F0 = some (.lst (fs.map V.ref)) ∧ Rows K H' fs (R7291g.Spec.wordsUpTo i))
        ⟨y4, y5, [], rfl, s1.trans s2, s2 _ _ hR, hrows.same s2, upd_same, .nil, s2 _ _ hFl, hFrows.same s2⟩ (fun j σ H' _ ⟨_, _, _, _, _, q, _⟩ => SqL.of q) ?_ ?_⟩
      · rintro j x σ H3 hx ⟨z4, z5, bs, rfl, s3, hR3, hrows3, hL3, hbs, hF3, hFrows3⟩
        obtain ⟨r, hr1, rfl⟩ : ∃ r, as[j]? = some r ∧ x = .ref r := by
          rw [List.getElem?_map] at hx
          cases e : as[j]? with
          | none => rw [e] at hx; cases hx
          | some r => rw [e] at hx; exact ⟨r, rfl, (Option.some.inj hx).symm⟩
        obtain ⟨e, he, hrow⟩ := paired_get' hrows3 hr1
        refine ⟨_, rfl, .inl ⟨rfl, _, SqL.of hL3⟩, 2, rfl, by decide, by decide, fun D hD => lc_range (lo := 0) (n := 2) (fun m H' => ∃ cs : List Addr, Same H3 H' ∧ H' D = some (.lst (cs.map V.ref)) ∧ Rows K H' cs ((List.range m).map fun s => e ++ [s])) ⟨[], (Same.refl H3).new hD, upd_same, .nil⟩ ?_ ?_⟩
        · rintro m H4 hm ⟨cs, s4, hD4, hcs⟩
          have e0 : (V.int (0 + (m : Int))) = nv m := by show V.int (0 + (m : Int)) = V.int (m : Int); rw [Int.zero_add]
          have hcl : cs.length = m := by
            have := Paired.length hcs
            rwa [List.length_map, List.length_range] at this
          rw [e0]
          refine ⟨rfl, _, rfl, _, rfl, (by show 1 ≤ sizeLine; decide), fun q hq => ?_⟩
          have sq : Same H4 (upd H4 q (.tup [nv m])) := (Same.refl H4).new hq
          refine ⟨r, q, _, _, rfl, rfl, sq.tup (s4.tup hrow), SqT.of upd_same, ?_, fun t H6 s6 h6 => ?_⟩
          · rw [nvs_len]
            have := he9 e (List.mem_of_getElem? he)
            show e.length + 1 ≤ sizeLine
            exact small_line (by omega)
          have s46 := sq.trans s6
          refine ⟨_, s46 _ _ hD4, by rw [List.length_map]; exact small_lt (by omega), cs ++ [t], (s4.trans s46).put hD, ?_, ?_⟩
          · rw [upd_same]
            simp
          · rw [List.range_succ, List.map_append]
            refine Paired.snoc (Rows.put (s46 _ _ hD4) (hcs.same s46)) (sqT_put (s46 _ _ hD4) ?_)
            have e2 : nvs (e ++ [m]) = nvs e ++ [nv m] := by simp [nvs]
            rw [e2]
            exact h6
        · rintro H4 ⟨cs, s4, hD4, hcs⟩
          have hLD := s4 _ _ hL3
          have hcl : cs.length = 2 := by
            have := Paired.length hcs
            rwa [List.length_map, List.length_range] at this
          have hbl : bs.length ≤ 729 * 3 := by
            have := Paired.length hbs
            rw [grow_length, List.length_take] at this
            have h1 : min j (R7291g.Spec.wordsOfLength i).length ≤ 729 := by omega
            have h2 := Nat.mul_le_mul h1 hn3
            omega
          have nRL : R ≠ L := fun z => by
            rw [z, hL] at hR
            cases hR
          have hR4 := s4 _ _ hR3
          refine ⟨L, D, _, _, rfl, rfl, hLD, hD4, by rw [List.length_map, List.length_map, hcl]; exact small_line (by omega), _, _, bs ++ cs, rfl, (s3.trans s4).put hL0, ?_, Rows.put hLD (hrows3.same s4), ?_, ?_, (by rw [upd_ne nFL]; exact s4 _ _ hF3), Rows.put hLD (hFrows3.same s4)⟩
          · rw [upd_ne nRL]
            exact hR4
          · rw [upd_same]
            simp
          · rw [grow_more 2 _ he]
            have e3 : 2 = 2 := by omega
            rw [e3] at hcs
            exact paired_append (Rows.put hLD (hbs.same s4)) (Rows.put hLD hcs)
      · rintro σ H3 ⟨z4, z5, bs, rfl, s3, hR3, hrows3, hL3, hbs, hF3, hFrows3⟩
        have hall : (R7291g.Spec.wordsOfLength i).take (as.map V.ref).length = R7291g.Spec.wordsOfLength i := by
          rw [List.length_map, hlen, List.take_length]
        rw [hall] at hbs
        have hw : Rows K H3 bs (R7291g.Spec.wordsOfLength (i + 1)) := by
          rw [words_more]
          exact hbs
        have hbl := Paired.length hw
        have hsm2 := words_small (k := i + 1) (by omega)
        have hfl := Paired.length hFrows3
        have hus := upTo_small (k := i) (by omega)
        refine ⟨_, rfl, _, rfl, .inl ⟨rfl, _, SqL.of hF3⟩, _, rfl, F0, L, _, _, rfl, rfl, hF3, hL3, by rw [List.length_map, List.length_map]; exact small_line (by omega), L, _, _, _, _, rfl, s3.put hF, ⟨bs, ?_, Rows.put hF3 hw⟩, fun z => nFL z.symm, fs ++ bs, ?_, ?_⟩
        · rw [upd_ne (fun z => nFL z.symm)]
          exact hL3
        · rw [upd_same]
          simp
        · rw [upTo_more]
          exact paired_append (Rows.put hF3 hFrows3) (Rows.put hF3 hw)
    · rintro σ H1 ⟨R, y3, y4, y5, y6, rfl, s1, hR, nRF, hFr⟩
      have e2 : (lo : Int).toNat = lo := by omega
      rw [e2] at hFr
      exact ⟨_, rfl, k H1 F0 s1 hFr.l⟩
end
end Sw
set_option Elab.async false
set_option linter.all false
set_option maxRecDepth 100000
set_option maxHeartbeats 4000000
/-! Separating words: representatives. -/
namespace Sw
open PySem PySem.Spec PyProof.Rows L2

/-! ### dicts with the groups -/
def keyOf (l : List Nat) : List Key := l.map fun n : Nat => (Sum.inl (n : Int) : Key)
theorem keyOf_vals (l : List Nat) : (keyOf l).map kV = nvs l := by
  unfold keyOf
  rw [List.map_map]
  rfl
theorem keyOf_inj : ∀ {a b : List Nat}, keyOf a = keyOf b → a = b
  | [], [], _ => rfl
  | [], _ :: _, h => by cases h
  | _ :: _, [], h => by cases h
  | x :: a, y :: b, h => by
    have h : (Sum.inl (x : Int) : Key) :: keyOf a = (Sum.inl (y : Int) : Key) :: keyOf b := h
    injection h with h1 h2
    injection h1 with h1
    rw [keyOf_inj h2, show x = y by omega]
abbrev DRel (R : V → Grp → Prop) (F : List (List Key × V)) (G : List Grp) : Prop := Paired (fun (p : List Key × V) (g : Grp) => p.1 = keyOf g.1 ∧ R p.2 g) F G
theorem drel_none {R : V → Grp → Prop} {l : List Nat} : ∀ {F : List (List Key × V)} {G : List Grp}, DRel R F G → (G.any fun x => x.1 == l) = false → valV F (keyOf l) = none
  | _, _, .nil, _ => rfl
  | _, _, .cons (a := p) (b := g) ⟨h1, _⟩ t, h => by
    rw [List.any_cons, Bool.or_eq_false_iff] at h
    have ne : ¬ p.1 = keyOf l := fun z => by
      rw [h1] at z
      rw [keyOf_inj z] at h
      simp at h
    rw [valV_neg ne]
    exact drel_none t h.2
theorem drel_some {R : V → Grp → Prop} : ∀ {F : List (List Key × V)} {G : List Grp} {g : Grp}, DRel R F G → g ∈ G → (G.map (·.1)).Nodup → ∃ v, valV F (keyOf g.1) = some v ∧ R v g
  | _, _, g, .nil, hg, _ => by cases hg
  | _, _, g, .cons (a := p) (b := g0) ⟨h1, h2⟩ t, hg, nd => by
    obtain ⟨n1, n2⟩ := List.nodup_cons.mp (show (g0.1 :: _).Nodup from nd)
    rcases List.mem_cons.mp hg with e | hg
    · subst e
      exact ⟨p.2, valV_pos h1, h2⟩
    · have ne : ¬ p.1 = keyOf g.1 := fun z => by
        rw [h1] at z
        exact n1 (keyOf_inj z ▸ List.mem_map.mpr ⟨g, hg, rfl⟩)
      rw [valV_neg ne]
      exact drel_some t hg n2
theorem fst_inj : ∀ {G : List Grp} {a b : Grp}, (G.map (·.1)).Nodup → a ∈ G → b ∈ G → a.1 = b.1 → a = b
  | [], _, _, _, h, _, _ => by cases h
  | g :: G, a, b, nd, ha, hb, e => by
    obtain ⟨n1, n2⟩ := List.nodup_cons.mp (show (g.1 :: _).Nodup from nd)
    rcases List.mem_cons.mp ha with e1 | ha'
    · rcases List.mem_cons.mp hb with e2 | hb'
      · rw [e1, e2]
      · exact (n1 (List.mem_map.mpr ⟨b, hb', by rw [← e, e1]⟩)).elim
    · rcases List.mem_cons.mp hb with e2 | hb'
      · exact (n1 (List.mem_map.mpr ⟨a, ha', by rw [e, e2]⟩)).elim
      · exact fst_inj n2 ha' hb' e
theorem paired_maps {α β α' β' : Type} {F : α → β → Prop} {F' : α' → β' → Prop} {f : α → α'} {h : β → β'} : ∀ {l : List α} {m : List β}, Paired F l m → (∀ a b, b ∈ m → F a b → F' (f a) (h b)) → Paired F' (l.map f) (m.map h)
  | _, _, .nil, _ => .nil
  | _, _, .cons r t, k => .cons (k _ _ List.mem_cons_self r) (paired_maps t fun a b hb => k a b (List.mem_cons_of_mem _ hb))
theorem paired_right {α β β' : Type} {F : α → β → Prop} {F' : α → β' → Prop} {h : β → β'} : ∀ {l : List α} {m : List β}, Paired F l m → (∀ a b, b ∈ m → F a b → F' a (h b)) → Paired F' l (m.map h)
  | _, _, .nil, _ => .nil
  | _, _, .cons r t, k => .cons (k _ _ List.mem_cons_self r) (paired_right t fun a b hb => k a b (List.mem_cons_of_mem _ hb))
theorem add_new {G : List Grp} {e : List Nat × List Nat} (h : (G.any fun x => x.1 == e.1) = false) : R7291g.Spec.addToGroup G e = G ++ [(e.1, e.2, 1)] := by
  unfold R7291g.Spec.addToGroup
  rw [if_neg (by rw [h]; decide)]
theorem add_old {G : List Grp} {e : List Nat × List Nat} (h : (G.any fun x => x.1 == e.1) = true) : R7291g.Spec.addToGroup G e = G.map fun x => if x.1 == e.1 then (x.1, x.2.1, x.2.2 + 1) else x := by
  unfold R7291g.Spec.addToGroup
  rw [if_pos h]
theorem putK_new {F : List (List Key × V)} {k : List Key} {v : V} (h : valV F k = none) : putK F k v = F ++ [(k, v)] := by
  unfold putK
  rw [if_neg]
  rw [valV_any, h]
  decide
theorem putK_old {F : List (List Key × V)} {k : List Key} {v x : V} (h : valV F k = some x) : putK F k v = F.map fun kv => if kv.1 = k then (kv.1, v) else kv := by
  unfold putK
  rw [if_pos]
  rw [valV_any, h]
  rfl

/-! ### stores beside a tuple -/
theorem sqT_putU {K : PySem.W.Frag} {H : Hp} {a p : Addr} {xs : List V} {u o : HO} (hp : H p = some u) (h1 : ∀ ys, HO.tup ys ≠ u) (h2 : ∀ ob ys, HO.frz ob (.tup ys) ≠ u) (h : SqT K H a xs) : SqT K (upd H p o) a xs := by
  rcases h with (h | ⟨ob, h⟩) | h
  · refine .inl (.inl ?_)
    rw [upd_ne (ne_of h hp (h1 _))]
    exact h
  · refine .inl (.inr ⟨ob, ?_⟩)
    rw [upd_ne (ne_of h hp (h2 _ _))]
    exact h
  · exact .inr h
theorem sqT_putD {K : PySem.W.Frag} {H : Hp} {a p : Addr} {xs : List V} {kvs : List (List Key × V)} {o : HO} (hp : H p = some (.dT kvs)) (h : SqT K H a xs) : SqT K (upd H p o) a xs :=
  sqT_putU hp (fun _ z => by cases z) (fun _ _ z => by cases z) h
theorem sqT_putF {K : PySem.W.Frag} {H : Hp} {a p : Addr} {xs : List V} {kvs : List (List Key × V)} {ob : Obj} {o : HO} (hp : H p = some (.frz ob (.dT kvs))) (h : SqT K H a xs) : SqT K (upd H p o) a xs :=
  sqT_putU hp (fun _ z => by cases z) (fun _ _ z => by cases z) h
theorem Rows.putD {K : PySem.W.Frag} {H : Hp} {as : List Addr} {ls : List (List Nat)} {p : Addr} {kvs : List (List Key × V)} {o : HO} (hp : H p = some (.dT kvs)) (r : Rows K H as ls) : Rows K (upd H p o) as ls := Paired.mapP r fun _ _ h => sqT_putD hp h
theorem sqL_putU {K : PySem.W.Frag} {H : Hp} {a p : Addr} {xs : List V} {u o : HO} (hp : H p = some u) (h1 : ∀ ys, HO.lst ys ≠ u) (h2 : ∀ ob ys, HO.frz ob (.lst ys) ≠ u) (h : SqL K H a xs) : SqL K (upd H p o) a xs := by
  rcases h with (h | ⟨ob, h⟩) | h
  · refine .inl (.inl ?_)
    rw [upd_ne (ne_of h hp (h1 _))]
    exact h
  · refine .inl (.inr ⟨ob, ?_⟩)
    rw [upd_ne (ne_of h hp (h2 _ _))]
    exact h
  · exact .inr h
theorem RowsL.putD {K : PySem.W.Frag} {H : Hp} {a : Addr} {ls : List (List Nat)} {p : Addr} {kvs : List (List Key × V)} {o : HO} (hp : H p = some (.dT kvs)) (r : RowsL K H a ls) : RowsL K (upd H p o) a ls :=
  let ⟨as, h1, h2⟩ := r
  ⟨as, sqL_putU hp (fun _ z => by cases z) (fun _ _ z => by cases z) h1, h2.putD hp⟩

/-! ### a comprehension over a dict that is locked -/
theorem lc_keysT {d : Addr} {o : Obj} {kvs : List (List Key × V)} {g : TG} {tt : TT} {te : TE} {vs : List Nat} {σ : L2.St} {H1 : Hp} {D : Addr} {Qd : Hp → Prop} (Pv : Nat → Hp → Prop) (h0 : Pv 0 (upd H1 D (.lst [])))
    (hl : ∀ i H, Pv i H → H d = some (.frz o (.dT kvs)))
    (hs : ∀ i (k : List Key) (v : V) (q : Addr) H, kvs[i]? = some (k, v) → H q = some (.tup (k.map kV)) → Pv i H → g (.ref q) (wipe σ vs) H fun σ2 H2 => wipe σ2 vs = wipe σ vs ∧ tt σ2 H2 fun b H3 =>
      if b = true then te σ2 H3 fun y H4 => ∃ acc, H4 D = some (.lst acc) ∧ acc.length < sizeLine ∧ Pv (i + 1) (upd H4 D (.lst (acc ++ [y]))) else Pv (i + 1) H3) (hd : ∀ H, Pv kvs.length H → Qd H) :
    ∃ W : Nat → Nat → Hp → Prop, (∃ m, W 0 m (upd H1 D (.lst []))) ∧ ∀ i m H, W i m H →
      ((Itkt d o kvs).stop i H ∧ Qd H) ∨ ((Itkt d o kvs).go i H ∧ ∃ Nx : Hp → Prop, (∀ H', Nx H' → ∃ m', m' < m ∧ W (i + 1) m' H') ∧ ∀ x H', (Itkt d o kvs).yld i H x H' → g x (wipe σ vs) H' fun σ2 H2 => wipe σ2 vs = wipe σ vs ∧ tt σ2 H2 fun b H3 =>
        if b = true then te σ2 H3 fun y H4 => ∃ acc, H4 D = some (.lst acc) ∧ acc.length < sizeLine ∧ Nx (upd H4 D (.lst (acc ++ [y]))) else Nx H3) := by
  refine ⟨fun i m H => m = kvs.length - i ∧ i ≤ kvs.length ∧ Pv i H, ⟨kvs.length, by simp, Nat.zero_le _, h0⟩, fun i m H ⟨em, hi, p⟩ => ?_⟩
  rcases Nat.lt_or_eq_of_le hi with hlt | hlt
  · refine .inr ⟨⟨hl i H p, hlt⟩, Pv (i + 1), fun H' p' => ⟨kvs.length - (i + 1), by omega, rfl, hlt, p'⟩, fun x H' y => ?_⟩
    obtain ⟨eH, k, v, q, hkv, ex, hq⟩ := y
    subst eH ex
    exact hs i k v q _ hkv hq p
  · exact .inl ⟨⟨hl i H p, Nat.le_of_eq hlt.symm⟩, hd H (by rw [← hlt]; exact p)⟩

section
variable {P : Program} {w : World} {K : PySem.W.Frag} {mg : Str → Option Value} {base : Heap} {A : Ad}
/-- representatives in a list -/
def RepL (K : PySem.W.Frag) (H : Hp) (a : Addr) (rs : List (List Nat × Nat)) : Prop := ∃ ps : List Addr, H a = some (.lst (ps.map V.ref)) ∧ Paired (fun p (e : List Nat × Nat) => ∃ b, SqT K H p [.ref b, nv e.2] ∧ SqT K H b (nvs e.1)) ps rs
theorem RepL.same {H H' : Hp} {a : Addr} {rs : List (List Nat × Nat)} (s : Same H H') (h : RepL K H a rs) : RepL K H' a rs :=
  let ⟨ps, h1, h2⟩ := h
  ⟨ps, s _ _ h1, Paired.mapP h2 fun _ _ ⟨b, x, y⟩ => ⟨b, s.tup x, s.tup y⟩⟩
/-- representatives(states, longest) -/
def spReps (K : PySem.W.Frag) : Sp := fun vs H Q _ => ∃ (n k : Nat), vs = [nv n, nv k] ∧ 1 ≤ n ∧ n ≤ 3 ∧ k ≤ 5 ∧ ∀ (H' : Hp) (p : Addr), Same H H' → RepL K H' p (R7291g.Spec.representativesOf n k) → Q (.ref p) H'
theorem c_representatives (T : Txt K mg A) : Cal P w K mg base CX0 2 "representatives" (spReps K) := by
  have c_all_tables := c_all_tables (P := P) (w := w) (base := base) T
  have c_all_words := c_all_words (P := P) (w := w) (base := base) T
  have c_known_end := c_known_end (P := P) (w := w) (base := base) T
  refine cal_of T.d_representatives sc_representatives (fun vs H Q E h => ?_) (fun f cdv A outer s H vs Q E hr h => ?_)
  · obtain ⟨n, k, rfl, _⟩ := h
    rfl
  · obtain ⟨n, lo, rfl, n1, hn, hlo, k⟩ := h
    refine ⟨_, (pss_cons (ps_set (i := 2) sc_representatives.nd rfl (Or.inl rfl) (pe_d c_all_tables hr rfl (pa_cons (pv 0) pa_nil)))
      (pss_cons (ps_set (i := 3) sc_representatives.nd rfl (Or.inr rfl) pe_dnewT)
      (pss_cons (ps_set (i := 4) sc_representatives.nd rfl (Or.inr rfl) pe_dnewT)
      (pss_cons (ps_for PassesOwn.never rfl (pi_list (pe_d c_all_words hr rfl (pa_cons (pv 1) pa_nil))) (pg_name (i := 5) sc_representatives.nd rfl (Or.inr rfl))
       (pss_cons (ps_set (i := 6) sc_representatives.nd rfl (Or.inl rfl) (pe_callTy call_tuple_of rfl T.tuple (by decide +kernel) (pa_cons (pe_lc (own := [("entries", 7)]) (g := (gName 7)) (tt := tYes) rfl sc_representatives.nd (pi_list (pv 2)) (blkOk_by (own := [("entries", 7)]) (N := ["states", "longest", "tables", "counts", "firsts", "word", "key", "entries"]) (sc := defScope s_representatives) (by decide +kernel)) (fun _ _ _ _ _ => pg_name (i := 7) sc_representatives.nd rfl (Or.inl rfl)) (fun _ _ _ _ _ => pts_nil) (fun _ _ _ _ _ => (pe_d c_known_end hr rfl (pa_cons (pv 7) (pa_cons (pv 5) pa_nil))))) pa_nil)))
        (pss_cons (ps_expr (pe_dsetT (hu_of hr) (pv 4) (pv 6) (pv 5) ⟨rfl, rfl, rfl, rfl⟩))
        (pss_one (ps_dput (hu_of hr) (pv 3) (pv 6) (pe_op op_add (pe_dget2 (hu_of hr) (pv 3) (pv 6) pe_int ⟨rfl, rfl, rfl, rfl⟩) pe_int) rfl)))))
      (pss_one (ps_ret (pe_lock (pe_lc (own := [("key", 6)]) (g := (gName 6)) (tt := tYes) rfl sc_representatives.nd (pi_keys (pv 4)) (blkOk_by (own := [("key", 6)]) (N := ["states", "longest", "tables", "counts", "firsts", "word", "key", "entries"]) (sc := defScope s_representatives) (by decide +kernel)) (fun _ _ _ _ _ => pg_name (i := 6) sc_representatives.nd rfl (Or.inl rfl)) (fun _ _ _ _ _ => pts_nil) (fun _ _ _ _ _ => (pe_tup (pa_cons (pe_dget (hu_of hr) (pv 4) (pv 6) (fun _ _ => rfl)) (pa_cons (pe_dget (hu_of hr) (pv 3) (pv 6) (fun _ _ => rfl)) pa_nil)))))))))))), ?_⟩
    refine ⟨_, rfl, n, rfl, hn, fun H1 tb s1 htb => fun ca hca => fun fa hfa => ?_⟩
    rw [← flatten_all] at htb
    have htb2 := htb.same (((Same.refl H1).new hca).new hfa (o := .dT []))
    have s2 : Same H (upd (upd H1 ca (.dT [])) fa (.dT [])) := (s1.new hca).new hfa
    have hC2 : (upd (upd H1 ca (.dT [])) fa (.dT [])) ca = some (.dT []) := ((Same.refl _).new hfa) _ _ upd_same
    have hF2 : (upd (upd H1 ca (.dT [])) fa (.dT [])) fa = some (.dT []) := upd_same
    have hca0 : H ca = none := s1.free hca
    have hfa0 : H fa = none := (s1.new hca).free hfa
    have ncf : ca ≠ fa := ne_of_none upd_same hfa
    generalize upd (upd H1 ca (.dT [])) fa (.dT []) = H2 at s2 hC2 hF2 htb2
    refine ⟨_, rfl, lo, rfl, hlo, fun H3 wl s3 hwl => ?_⟩
    have hC3 := s3 _ _ hC2
    have hF3 := s3 _ _ hF2
    have htb3 := htb2.same s3
    have hws := upTo_small hlo
    obtain ⟨was, hwa, hwrows⟩ := id hwl
    have hwlen : was.length = (R7291g.Spec.wordsUpTo lo).length := Paired.length hwrows
    refine ⟨wl, rfl, ⟨_, hwa⟩, for_list (K := K) (a := wl) (xs := was.map V.ref) (fun i σ H' => ∃ (y5 y6 y7 : Option V) (F C : List (List Key × V)), σ = [some (nv n), some (nv lo), some (.ref tb), some (.ref ca), some (.ref fa), y5, y6, y7] ∧ Same H H' ∧
        RowsL K H' tb ((R7291g.Spec.allTables n).map R7291g.Spec.flatten) ∧ SqL K H' wl (was.map V.ref) ∧ Rows K H' was (R7291g.Spec.wordsUpTo lo) ∧ H' ca = some (.dT C) ∧ H' fa = some (.dT F) ∧
        DRel (fun v g => ∃ a, v = .ref a ∧ SqT K H' a (nvs g.2.1)) F (groups n ((R7291g.Spec.wordsUpTo lo).take i)) ∧ DRel (fun v g => v = nv g.2.2) C (groups n ((R7291g.Spec.wordsUpTo lo).take i)))
      ⟨none, none, none, [], [], rfl, s2.trans s3, htb3, hwa, hwrows, hC3, hF3, .nil, .nil⟩ (fun i σ H' _ ⟨_, _, _, _, _, _, _, _, q, _⟩ => q) ?_ ?_⟩
    · rintro i x σ H4 hx ⟨y5, y6, y7, F, C, rfl, s4, ⟨tas, htas, htrows⟩, hwa4, hwrows4, hC4, hF4, hF, hC⟩
      obtain ⟨wa, hwa1, rfl⟩ : ∃ r, was[i]? = some r ∧ x = .ref r := by
        rw [List.getElem?_map] at hx
        cases e : was[i]? with
        | none => rw [e] at hx; cases hx
        | some r => rw [e] at hx; exact ⟨r, rfl, (Option.some.inj hx).symm⟩
      obtain ⟨wd, hwd, hwrow⟩ := paired_get' hwrows4 hwa1
      have hwm := mem_upTo (List.mem_of_getElem? hwd)
      have htl : tas.length = (R7291g.Spec.allTables n).length := by
        have := Paired.length htrows
        rwa [List.length_map] at this
      have htsm : (R7291g.Spec.allTables n).length ≤ 729 := by
        have h := comp_small (n := n) (k := 2 * n) hn (by omega)
        rwa [← flatten_all, List.length_map] at h
      refine ⟨_, rfl, tb, rfl, ⟨_, htas⟩, fun D hD => lc_list (K := K) (a := tb) (xs := tas.map V.ref) (fun j H' => Same H4 H' ∧ H' D = some (.lst (nvs (((R7291g.Spec.allTables n).take j).map fun t => R7291g.Spec.finalStateOf t wd)))) ⟨(Same.refl H4).new hD, upd_same⟩ (fun j H' _ q => q.1.seq htas) ?_ ?_⟩
      · rintro j x H5 hx ⟨s5, hD5⟩
        obtain ⟨ta, hta, rfl⟩ : ∃ r, tas[j]? = some r ∧ x = .ref r := by
          rw [List.getElem?_map] at hx
          cases e : tas[j]? with
          | none => rw [e] at hx; cases hx
          | some r => rw [e] at hx; exact ⟨r, rfl, (Option.some.inj hx).symm⟩
        obtain ⟨e, he, htrow⟩ := paired_get' htrows hta
        obtain ⟨t, ht, rfl⟩ : ∃ t, (R7291g.Spec.allTables n)[j]? = some t ∧ e = R7291g.Spec.flatten t := by
          rw [List.getElem?_map] at he
          cases q : (R7291g.Spec.allTables n)[j]? with
          | none => rw [q] at he; cases he
          | some t => rw [q] at he; exact ⟨t, rfl, (Option.some.inj he).symm⟩
        have hk := kend_table (mem_all (List.mem_of_getElem? ht)) wd 0 n1 hwm.2
        refine ⟨rfl, _, rfl, _, rfl, ta, wa, R7291g.Spec.flatten t, wd, rfl, s5.tup htrow, s5.tup hwrow, _, hD5, ?_, s5.put hD, ?_⟩
        · rw [nvs_len, List.length_map, List.length_take]
          exact small_lt (by omega)
        · rw [upd_same, take_more ht, hk, List.map_append]
          simp [nvs, kInt, R7291g.Spec.finalStateOf]
      · rintro H5 ⟨s5, hD5⟩
        rw [List.length_map, htl, List.take_length] at hD5
        refine ⟨D, _, rfl, .inl ⟨SqL.of hD5, fun kq hkq => ?_⟩⟩
        have s6 : Same H4 (upd H5 kq (.tup (nvs ((R7291g.Spec.allTables n).map fun t => R7291g.Spec.finalStateOf t wd)))) := s5.new hkq
        have hk6 : (upd H5 kq (.tup (nvs ((R7291g.Spec.allTables n).map fun t => R7291g.Spec.finalStateOf t wd)))) kq = some (.tup ((keyOf (R7291g.Spec.finalStates n wd)).map kV)) := by
          rw [upd_same, keyOf_vals]
          rfl
        generalize upd H5 kq (.tup (nvs ((R7291g.Spec.allTables n).map fun t => R7291g.Spec.finalStateOf t wd))) = H6 at s6 hk6
        have hC6 := s6 _ _ hC4
        have hF6 := s6 _ _ hF4
        have hgrp : groups n ((R7291g.Spec.wordsUpTo lo).take (i + 1)) = R7291g.Spec.addToGroup (groups n ((R7291g.Spec.wordsUpTo lo).take i)) (R7291g.Spec.finalStates n wd, wd) := by
          rw [take_more hwd, groups_snoc]
        have hnd := groups_nodup n ((R7291g.Spec.wordsUpTo lo).take i)
        have hgl := groups_len n ((R7291g.Spec.wordsUpTo lo).take i)
        rw [List.length_take] at hgl
        have hFl : F.length ≤ 63 := by
          have := Paired.length hF
          omega
        have hCl : C.length ≤ 63 := by
          have := Paired.length hC
          omega
        have tb6 : RowsL K H6 tb ((R7291g.Spec.allTables n).map R7291g.Spec.flatten) := ⟨tas, s6.seq htas, htrows.same s6⟩
        have hF' : DRel (fun v g => ∃ a, v = .ref a ∧ SqT K H6 a (nvs g.2.1)) F (groups n ((R7291g.Spec.wordsUpTo lo).take i)) := Paired.mapP hF fun _ _ ⟨e, a, ea, h⟩ => ⟨e, a, ea, s6.tup h⟩
        rw [hgrp]
        generalize groups n ((R7291g.Spec.wordsUpTo lo).take i) = G at hF hC hnd hF'
        cases hany : G.any fun x => x.1 == R7291g.Spec.finalStates n wd with
        | true =>
          obtain ⟨g, hg, eg⟩ := List.any_eq_true.mp hany
          have eg : g.1 = R7291g.Spec.finalStates n wd := eq_of_beq eg
          obtain ⟨v, hv, _⟩ := drel_some hF' hg hnd
          obtain ⟨c, hc, rfl⟩ := drel_some hC hg hnd
          rw [eg] at hv hc
          refine ⟨_, rfl, fa, rfl, .inr ⟨F, .inl hF6⟩, _, rfl, _, rfl, F, _, kq, rfl, hF6, hk6, small_lt (by omega), fun v' _ => ?_, fun hn => (by rw [hv] at hn; cases hn)⟩
          refine ⟨_, rfl, ca, rfl, .inr ⟨C, .inl hC6⟩, _, rfl, some (nv g.2.2), ?_, _, _, rfl, rfl, _, rfl, _, rfl, ca, _, rfl, DPut.t hC6 hk6 (small_lt (by omega)), ?_⟩
          · rw [← hc]
            exact DGet.t hC6 hk6
          · refine ⟨_, _, _, F, _, rfl, (s4.trans s6).put hca0, tb6.putD hC6, sqL_putU hC6 (fun _ z => by cases z) (fun _ _ z => by cases z) (s6.seq hwa4), (hwrows4.same s6).putD hC6, upd_same, ?_, ?_, ?_⟩
            · rw [upd_ne (fun z => ncf z.symm)]
              exact hF6
            · rw [add_old hany]
              refine paired_right hF' fun a b hb ⟨h1, x, h2, h3⟩ => ?_
              by_cases q : b.1 = R7291g.Spec.finalStates n wd
              · rw [if_pos (by rw [q]; simp)]
                exact ⟨h1, x, h2, sqT_putD hC6 h3⟩
              · rw [if_neg (by simpa using q)]
                exact ⟨h1, x, h2, sqT_putD hC6 h3⟩
            · rw [add_old hany, putK_old hc]
              refine paired_maps hC fun a b hb ⟨h1, h2⟩ => ?_
              by_cases q : b.1 = R7291g.Spec.finalStates n wd
              · have e : b = g := fst_inj hnd hb hg (by rw [q, eg])
                subst e
                rw [if_pos (by rw [h1, q]), if_pos (by rw [q]; simp)]
                exact ⟨h1, rfl⟩
              · have q2 : ¬ a.1 = keyOf (R7291g.Spec.finalStates n wd) := fun z => q (keyOf_inj (by rw [← h1, z]))
                rw [if_neg q2, if_neg (by simpa using q)]
                exact ⟨h1, h2⟩
        | false =>
          have hvF := drel_none hF' hany
          have hvC := drel_none hC hany
          refine ⟨_, rfl, fa, rfl, .inr ⟨F, .inl hF6⟩, _, rfl, _, rfl, F, _, kq, rfl, hF6, hk6, small_lt (by omega), fun v' hv' => (by rw [hvF] at hv'; cases hv'), fun _ => ?_⟩
          have hC7 : upd H6 fa (.dT (putK F (keyOf (R7291g.Spec.finalStates n wd)) (.ref wa))) ca = some (.dT C) := by
            rw [upd_ne ncf]
            exact hC6
          have hk7 : upd H6 fa (.dT (putK F (keyOf (R7291g.Spec.finalStates n wd)) (.ref wa))) kq = some (.tup ((keyOf (R7291g.Spec.finalStates n wd)).map kV)) := by
            rw [upd_ne (ne_of hk6 hF6 (fun z => by cases z))]
            exact hk6
          refine ⟨_, rfl, ca, rfl, .inr ⟨C, .inl hC7⟩, _, rfl, none, ?_, _, _, rfl, rfl, _, rfl, _, rfl, ca, _, rfl, DPut.t hC7 hk7 (small_lt (by omega)), ?_⟩
          · rw [← hvC]
            exact DGet.t hC7 hk7
          · refine ⟨_, _, _, putK F (keyOf (R7291g.Spec.finalStates n wd)) (.ref wa), _, rfl, ((s4.trans s6).put hfa0).put hca0, (tb6.putD hF6).putD hC7, sqL_putU hC7 (fun _ z => by cases z) (fun _ _ z => by cases z) (sqL_putU hF6 (fun _ z => by cases z) (fun _ _ z => by cases z) (s6.seq hwa4)), ((hwrows4.same s6).putD hF6).putD hC7, upd_same, ?_, ?_, ?_⟩
            · rw [upd_ne (fun z => ncf z.symm), upd_same]
            · rw [putK_new hvF] at hC7
              rw [add_new hany, putK_new hvF]
              exact Paired.snoc (Paired.mapP hF' fun _ _ ⟨e, a, ea, h⟩ => ⟨e, a, ea, sqT_putD hC7 (sqT_putD hF6 h)⟩) ⟨rfl, wa, rfl, sqT_putD hC7 (sqT_putD hF6 (s6.tup hwrow))⟩
            · rw [add_new hany, putK_new hvC]
              exact Paired.snoc hC ⟨rfl, rfl⟩
    · rintro σ H4 ⟨y5, y6, y7, F, C, rfl, s4, htb4, hwa4, hwrows4, hC4, hF4, hF, hC⟩
      rw [List.length_map, hwlen, List.take_length] at hF hC
      have hnd := groups_nodup n (R7291g.Spec.wordsUpTo lo)
      have hgl := groups_len n (R7291g.Spec.wordsUpTo lo)
      rw [groups_reps] at k
      generalize groups n (R7291g.Spec.wordsUpTo lo) = G at hF hC hnd hgl k
      have hFG : F.length = G.length := Paired.length hF
      refine ⟨fa, _, hF4, trivial, fun od => ?_⟩
      refine ⟨_, rfl, fa, od, rfl, .inr ⟨F, upd_same, fun D hD => lc_keysT (fun i H' => ∃ ps : List Addr, Same (upd H4 fa (.frz od (.dT F))) H' ∧ H' D = some (.lst (ps.map V.ref)) ∧ Paired (fun p (e : List Nat × Nat) => ∃ b, SqT K H' p [.ref b, nv e.2] ∧ SqT K H' b (nvs e.1)) ps ((G.take i).map fun x => (x.2.1, x.2.2)))
        ⟨[], (Same.refl _).new hD, upd_same, .nil⟩ (fun i H' ⟨_, q, _, _⟩ => q _ _ upd_same) ?_ ?_⟩⟩
      · rintro i key v q H5 hkv hq ⟨ps, s5, hD5, hps⟩
        obtain ⟨g, hg, e1, _⟩ := paired_get' hF hkv
        have e1 : key = keyOf g.1 := e1
        subst e1
        obtain ⟨v1, hv1, wa, rfl, hwa1⟩ := drel_some hF (List.mem_of_getElem? hg) hnd
        obtain ⟨c, hc, rfl⟩ := drel_some hC (List.mem_of_getElem? hg) hnd
        have hF5 : H5 fa = some (.frz od (.dT F)) := s5 _ _ upd_same
        have hC5 : H5 ca = some (.dT C) := s5 _ _ (by rw [upd_ne ncf]; exact hC4)
        refine ⟨rfl, _, rfl, _, rfl, fa, _, rfl, .inr ⟨F, _, q, .inr ⟨od, hF5⟩, rfl, hq, hv1.symm⟩, ?_⟩
        refine ⟨_, rfl, _, rfl, ca, _, rfl, .inr ⟨C, _, q, .inl hC5, rfl, hq, hc.symm⟩, (by show 2 ≤ sizeLine; decide), fun t ht => ?_⟩
        have st : Same H5 (upd H5 t (.tup [.ref wa, nv g.2.2])) := (Same.refl H5).new ht
        have hDt := st _ _ hD5
        have hpl : ps.length = i := by
          have := Paired.length hps
          rw [List.length_map, List.length_take] at this
          have hi := (List.getElem?_eq_some_iff.mp hg).1
          omega
        refine ⟨_, hDt, by rw [List.length_map, hpl]; have hi := (List.getElem?_eq_some_iff.mp hg).1; exact small_lt (by omega), ps ++ [t], (s5.trans st).put hD, ?_, ?_⟩
        · rw [upd_same]
          simp
        · rw [take_more hg, List.map_append]
          refine Paired.snoc (Paired.mapP hps fun _ _ ⟨b, x, y⟩ => ⟨b, sqT_put hDt (st.tup x), sqT_put hDt (st.tup y)⟩) ⟨wa, sqT_put hDt (SqT.of upd_same), sqT_put hDt (st.tup (s5.tup (sqT_putD hF4 hwa1)))⟩
      · rintro H5 ⟨ps, s5, hD5, hps⟩
        rw [hFG, List.take_length] at hps
        have hF5 : H5 fa = some (.frz od (.dT F)) := s5 _ _ upd_same
        refine ⟨hF5, k _ D (fun b o e => ?_) ⟨ps, ?_, Paired.mapP hps fun _ _ ⟨b, x, y⟩ => ⟨b, sqT_putF hF5 x, sqT_putF hF5 y⟩⟩⟩
        · have ne : b ≠ fa := ne_of_none e hfa0
          rw [upd_ne ne]
          refine s5 _ _ ?_
          rw [upd_ne ne]
          exact s4 _ _ e
        · rw [upd_ne (ne_of hD5 hF5 (fun z => by cases z))]
          exact hD5
end
end Sw
set_option Elab.async false
set_option linter.all false
set_option maxRecDepth 100000
set_option maxHeartbeats 4000000
/-! Separating words: values are made. -/
namespace Sw
open PySem PySem.Spec PyProof.Rows L2

/-- a text of plain signs, as octets -/
def txt (x : Str) : List UInt8 := x.cps.toList.map UInt8.ofNat
def ascii (x : Str) : Bool := x.cps.all (· < 128)
theorem lc_str {x : Str} {g : TG} {tt : TT} {te : TE} {vs : List Nat} {σ : L2.St} {H1 : Hp} {D : Addr} {Qd : Hp → Prop} (Pv : Nat → Hp → Prop) (h0 : Pv 0 (upd H1 D (.lst [])))
    (hs : ∀ i c H, x.cps.toList[i]? = some c → Pv i H → g (.str ⟨#[c]⟩) (wipe σ vs) H fun σ2 H2 => wipe σ2 vs = wipe σ vs ∧ tt σ2 H2 fun b H3 =>
      if b = true then te σ2 H3 fun y H4 => ∃ acc, H4 D = some (.lst acc) ∧ acc.length < sizeLine ∧ Pv (i + 1) (upd H4 D (.lst (acc ++ [y]))) else Pv (i + 1) H3) (hd : ∀ H, Pv x.cps.toList.length H → Qd H) :
    ∃ W : Nat → Nat → Hp → Prop, (∃ m, W 0 m (upd H1 D (.lst []))) ∧ ∀ i m H, W i m H →
      ((Its x).stop i H ∧ Qd H) ∨ ((Its x).go i H ∧ ∃ Nx : Hp → Prop, (∀ H', Nx H' → ∃ m', m' < m ∧ W (i + 1) m' H') ∧ ∀ v H', (Its x).yld i H v H' → g v (wipe σ vs) H' fun σ2 H2 => wipe σ2 vs = wipe σ vs ∧ tt σ2 H2 fun b H3 =>
        if b = true then te σ2 H3 fun y H4 => ∃ acc, H4 D = some (.lst acc) ∧ acc.length < sizeLine ∧ Nx (upd H4 D (.lst (acc ++ [y]))) else Nx H3) := by
  have hsz : x.cps.toList.length = x.cps.size := Array.length_toList
  refine ⟨fun i m H => m = x.cps.toList.length - i ∧ i ≤ x.cps.toList.length ∧ Pv i H, ⟨x.cps.toList.length, by simp, Nat.zero_le _, h0⟩, fun i m H ⟨em, hi, p⟩ => ?_⟩
  rcases Nat.lt_or_eq_of_le hi with hlt | hlt
  · refine .inr ⟨(by show i < x.cps.size; omega), Pv (i + 1), fun H' p' => ⟨x.cps.toList.length - (i + 1), by omega, rfl, hlt, p'⟩, fun v H' y => ?_⟩
    obtain ⟨eH, c, hc, ex⟩ := y
    subst eH ex
    exact hs i c _ (by rw [Array.getElem?_toList]; exact hc) p
  · exact .inl ⟨(by show x.cps.size ≤ i; omega), hd H (by rw [← hlt]; exact p)⟩

theorem Moves.put {b : Addr → Prop} {K : PySem.W.Frag} {H : Hp} {p : Addr} {ys : List V} {o : HO} (hp : H p = some (.lst ys)) (hN : ∀ a, b a → a ≠ p) : Moves b b K H (upd H p o) := ⟨fun h => sqT_put hp h, fun n h => ⟨n, by rw [upd_ne (hN _ n)]; exact h⟩⟩
theorem Moves.putU {b : Addr → Prop} {K : PySem.W.Frag} {H : Hp} {p : Addr} {u o : HO} (hp : H p = some u) (h1 : ∀ ys, HO.tup ys ≠ u) (h2 : ∀ ob ys, HO.frz ob (.tup ys) ≠ u) (h3 : ∀ ys, HO.lst ys ≠ u) : Moves b b K H (upd H p o) :=
  ⟨fun h => sqT_putU hp h1 h2 h, fun n h => ⟨n, by rw [upd_ne (ne_of h hp (h3 _))]; exact h⟩⟩
/-- what stands is not new -/
theorem Moves.old {b : Addr → Prop} {K : PySem.W.Frag} {H : Hp} : Moves b (fun a => b a ∧ H a ≠ none) K H H := ⟨fun h => h, fun n h => ⟨⟨n, by rw [h]; exact fun z => by cases z⟩, h⟩⟩
theorem Moves.trans {b c d : Addr → Prop} {K : PySem.W.Frag} {H H1 H2 : Hp} (x : Moves b c K H H1) (y : Moves c d K H1 H2) : Moves b d K H H2 := ⟨fun h => y.tup (x.tup h), fun n h => y.seq (x.seq n h).1 (x.seq n h).2⟩

section
variable {P : Program} {w : World} {K : PySem.W.Frag} {mg : Str → Option Value} {base : Heap} {A : Ad}
/-- codes_of(text) -/
def spCodes (K : PySem.W.Frag) : Sp := fun vs H Q _ => ∃ (x : Str), vs = [.str x] ∧ ascii x = true ∧ x.cps.size ≤ 1000 ∧ ∀ (H' : Hp) (p : Addr), Same H H' → SqT K H' p ((txt x).map ov) → Q (.ref p) H'
theorem ascii_at {x : Str} (h : ascii x = true) {i c : Nat} (hc : x.cps.toList[i]? = some c) : c < 128 := by
  unfold ascii at h
  rw [← Array.all_toList] at h
  have := List.all_eq_true.mp h c (List.mem_of_getElem? hc)
  simpa using this
theorem ov_small {c : Nat} (h : c < 128) : ov (UInt8.ofNat c) = .int (c : Nat) := by
  unfold ov
  congr 2
  show (UInt8.ofNat c).toNat = c
  simp
  omega
theorem c_codes_of (T : Txt K mg A) : Cal P w K mg base CX0 1 "codes_of" (spCodes K) := by
  refine cal_of T.d_codes_of sc_codes_of (fun vs H Q E h => ?_) (fun f cdv A outer s H vs Q E hr h => ?_)
  · obtain ⟨x, rfl, _⟩ := h
    rfl
  · obtain ⟨x, rfl, ha, hz, k⟩ := h
    refine ⟨_, (pss_one (ps_ret (pe_callTy call_tuple_of rfl T.tuple (by decide +kernel) (pa_cons (pe_lc (own := [("sign", 1)]) (g := (gName 1)) (tt := tYes) rfl sc_codes_of.nd (pi_str (pv 0)) (blkOk_by (own := [("sign", 1)]) (N := ["text", "sign"]) (sc := defScope s_codes_of) (by decide +kernel)) (fun _ _ _ _ _ => pg_name (i := 1) sc_codes_of.nd rfl (Or.inl rfl)) (fun _ _ _ _ _ => pts_nil) (fun _ _ _ _ _ => (pe_callB call_ord rfl T.ord (by decide +kernel) (pa_cons (pv 1) pa_nil)))) pa_nil)))), ?_⟩
    refine ⟨_, rfl, x, rfl, fun D hD => lc_str (fun i H' => Same H H' ∧ H' D = some (.lst (((txt x).take i).map ov))) ⟨(Same.refl H).new hD, upd_same⟩ ?_ ?_⟩
    · rintro i c H2 hc ⟨s2, hD2⟩
      have hi : (txt x)[i]? = some (UInt8.ofNat c) := by
        unfold txt
        rw [List.getElem?_map, hc]
        rfl
      refine ⟨rfl, _, rfl, _, rfl, rfl, ?_⟩
      refine ⟨_, hD2, ?_, s2.put hD, ?_⟩
      · rw [List.length_map, List.length_take]
        unfold txt
        rw [List.length_map, Array.length_toList]
        exact small_lt (by omega)
      · rw [upd_same, take_more hi, List.map_append, List.map_singleton, ov_small (ascii_at ha hc)]
        rfl
    · rintro H2 ⟨s2, hD2⟩
      have e : (txt x).take x.cps.toList.length = txt x := List.take_of_length_le (by unfold txt; rw [List.length_map]; exact Nat.le_refl _)
      rw [e] at hD2
      exact ⟨D, _, rfl, .inl ⟨SqL.of hD2, fun p hp => k _ p (s2.new hp) (SqT.of upd_same)⟩⟩

/-- integer(number) -/
def spInteger (K : PySem.W.Frag) : Sp := fun vs H Q _ => ∃ (i : Int), vs = [.int i] ∧ ∀ (H' : Hp) (p : Addr), Same H H' → ValAt NF K H' (.int i) (.ref p) → Q (.ref p) H'
theorem c_integer (T : Txt K mg A) : Cal P w K mg base CX0 1 "integer" (spInteger K) := by
  refine cal_of T.d_integer sc_integer (fun vs H Q E h => ?_) (fun f cdv A outer s H vs Q E hr h => ?_)
  · obtain ⟨x, rfl, _⟩ := h
    rfl
  · obtain ⟨i, rfl, k⟩ := h
    refine ⟨_, (pss_one (ps_ret (pe_tup (pa_cons (pe_gi rfl T.INTEGER) (pa_cons (pv 0) pa_nil))))), ?_⟩
    refine ⟨_, rfl, (by show 2 ≤ sizeLine; decide), fun p hp => k _ p ((Same.refl H).new hp) ?_⟩
    rw [ValAt]
    exact ⟨p, rfl, SqT.of upd_same⟩

/-- text(string) -/
def spText (K : PySem.W.Frag) : Sp := fun vs H Q _ => ∃ (x : Str), vs = [.str x] ∧ ascii x = true ∧ x.cps.size ≤ 1000 ∧ ∀ (H' : Hp) (p : Addr), Same H H' → ValAt NF K H' (.text (txt x)) (.ref p) → Q (.ref p) H'
theorem c_text (T : Txt K mg A) : Cal P w K mg base CX0 2 "text" (spText K) := by
  have c_codes_of := c_codes_of (P := P) (w := w) (base := base) T
  refine cal_of T.d_text sc_text (fun vs H Q E h => ?_) (fun f cdv A outer s H vs Q E hr h => ?_)
  · obtain ⟨x, rfl, _⟩ := h
    rfl
  · obtain ⟨x, rfl, ha, hz, k⟩ := h
    refine ⟨_, (pss_one (ps_ret (pe_tup (pa_cons (pe_gi rfl T.TEXT) (pa_cons (pe_d c_codes_of hr rfl (pa_cons (pv 0) pa_nil)) pa_nil))))), ?_⟩
    refine ⟨_, rfl, x, rfl, ha, hz, fun H1 c s1 hc => ⟨(by show 2 ≤ sizeLine; decide), fun p hp => k _ p (s1.new hp) ?_⟩⟩
    rw [ValAt]
    exact ⟨p, c, rfl, SqT.of upd_same, .inl (((Same.refl H1).new hp).tup hc)⟩

/-- truth(told) -/
def spTruth (K : PySem.W.Frag) : Sp := fun vs H Q _ => ∃ (b : Bool), vs = [.bl b] ∧ ∀ p : Addr, ValAt NF K H (.bool b) (.ref p) → Q (.ref p) H
theorem c_truth (T : Txt K mg A) : Cal P w K mg base CX0 1 "truth" (spTruth K) := by
  refine cal_of T.d_truth sc_truth (fun vs H Q E h => ?_) (fun f cdv A outer s H vs Q E hr h => ?_)
  · obtain ⟨x, rfl, _⟩ := h
    rfl
  · obtain ⟨b, rfl, k⟩ := h
    refine ⟨_, (pss_one (ps_ret (pe_ifExp (pt_val (pv 0)) (pe_gr rfl T.TRUE) (pe_gr rfl T.FALSE)))), ?_⟩
    refine ⟨_, rfl, b, rfl, ?_⟩
    cases b with
    | true =>
      refine iteT fun a ha => k a ?_
      rw [ValAt]
      exact ⟨a, rfl, ha _⟩
    | false =>
      refine iteF fun a ha => k a ?_
      rw [ValAt]
      exact ⟨a, rfl, ha _⟩

/-- listed(rows) -/
def spListed (K : PySem.W.Frag) : Sp := fun vs H Q _ => ∃ (r : Addr) (xs : List V) (b : Addr → Prop) (l : List RWire.Value), vs = [.ref r] ∧ SqL K H r xs ∧ ValsAt b K H l xs ∧ ∀ (H' : Hp) (p : Addr), Same H H' → ValAt b K H' (.list l) (.ref p) → Q (.ref p) H'
theorem c_listed (T : Txt K mg A) : Cal P w K mg base CX0 1 "listed" (spListed K) := by
  refine cal_of T.d_listed sc_listed (fun vs H Q E h => ?_) (fun f cdv A outer s H vs Q E hr h => ?_)
  · obtain ⟨x, _, _, _, rfl, _⟩ := h
    rfl
  · obtain ⟨r, xs, b, l, rfl, hx, hl, k⟩ := h
    refine ⟨_, (pss_one (ps_ret (pe_tup (pa_cons (pe_gi rfl T.LIST) (pa_cons (pe_callTy call_tuple_of rfl T.tuple (by decide +kernel) (pa_cons (pv 0) pa_nil)) pa_nil))))), ?_⟩
    refine ⟨_, rfl, r, _, rfl, .inl ⟨hx, fun c hc => ⟨(by show 2 ≤ sizeLine; decide), fun p hp => k _ p (((Same.refl H).new hc).new hp) ?_⟩⟩⟩
    rw [ValAt]
    exact ⟨p, c, xs, rfl, SqT.of upd_same, ((Same.refl _).new hp).tup (SqT.of upd_same), hl.same (((Same.refl H).new hc).new hp)⟩

/-- integers(rows) -/
def spIntegers (K : PySem.W.Frag) : Sp := fun vs H Q _ => ∃ (r : Addr) (l : List Nat), vs = [.ref r] ∧ SqL K H r (nvs l) ∧ l.length ≤ 100000 ∧ ∀ (H' : Hp) (p : Addr), Same H H' → ValAt NF K H' (.list (l.map fun n : Nat => .int (n : Int))) (.ref p) → Q (.ref p) H'
theorem c_integers (T : Txt K mg A) : Cal P w K mg base CX0 2 "integers" (spIntegers K) := by
  have c_integer := c_integer (P := P) (w := w) (base := base) T
  have c_listed := c_listed (P := P) (w := w) (base := base) T
  refine cal_of T.d_integers sc_integers (fun vs H Q E h => ?_) (fun f cdv A outer s H vs Q E hr h => ?_)
  · obtain ⟨x, _, rfl, _⟩ := h
    rfl
  · obtain ⟨r, l, rfl, hx, hl, k⟩ := h
    refine ⟨_, (pss_one (ps_ret (pe_d c_listed hr rfl (pa_cons (pe_lc (own := [("number", 1)]) (g := (gName 1)) (tt := tYes) rfl sc_integers.nd (pi_list (pv 0)) (blkOk_by (own := [("number", 1)]) (N := ["rows", "number"]) (sc := defScope s_integers) (by decide +kernel)) (fun _ _ _ _ _ => pg_name (i := 1) sc_integers.nd rfl (Or.inl rfl)) (fun _ _ _ _ _ => pts_nil) (fun _ _ _ _ _ => (pe_d c_integer hr rfl (pa_cons (pv 1) pa_nil)))) pa_nil)))), ?_⟩
    refine ⟨_, rfl, r, rfl, ⟨_, hx⟩, fun D hD => lc_list (K := K) (a := r) (xs := nvs l) (fun i H' => Same H H' ∧ ∃ vs, H' D = some (.lst vs) ∧ ValsAt NF K H' ((l.take i).map fun n : Nat => .int (n : Int)) vs) ⟨(Same.refl H).new hD, [], upd_same, ?_⟩ (fun i H' _ q => q.1.seq hx) ?_ ?_⟩
    · rw [List.take_zero, List.map_nil, ValsAt]
    · rintro i x H2 hi ⟨s2, vs, hD2, hvs⟩
      obtain ⟨n, hn, rfl⟩ := nvs_get hi
      refine ⟨rfl, _, rfl, (n : Int), rfl, fun H3 p s3 hp => ⟨_, s3 _ _ hD2, ?_, (s2.trans s3).put hD, _, upd_same, ?_⟩⟩
      · rw [ValsAt.length hvs, List.length_map, List.length_take]
        exact small_lt (by omega)
      · rw [take_more hn, List.map_append, List.map_singleton]
        have mv : Moves NF NF K H3 (upd H3 D (.lst (vs ++ [.ref p]))) := Moves.put (s3 _ _ hD2) fun _ z => z.elim
        exact (ValsAt.move mv _ _ (hvs.same s3)).snoc (ValAt.move mv _ _ hp)
    · rintro H2 ⟨s2, vs, hD2, hvs⟩
      rw [nvs_len, List.take_length] at hvs
      exact ⟨D, vs, NF, _, rfl, SqL.of hD2, hvs, fun H3 p s3 hp => k H3 p (s2.trans s3) hp⟩

/-- record(pairs) -/
def spRecord (K : PySem.W.Frag) : Sp := fun vs H Q _ => ∃ (r : Addr) (ps : List Addr) (b : Addr → Prop) (es : List (Str × RWire.Value)), vs = [.ref r] ∧ SqL K H r (ps.map V.ref) ∧ es.length ≤ 1000 ∧
  Paired (fun p (e : Str × RWire.Value) => ascii e.1 = true ∧ e.1.cps.size ≤ 1000 ∧ ∃ x, SqT K H p [.str e.1, x] ∧ ValAt b K H e.2 x) ps es ∧
  ∀ (H' : Hp) (p : Addr), Same H H' → ValAt b K H' (.record (es.map fun e => (txt e.1, e.2))) (.ref p) → Q (.ref p) H'
theorem c_record (T : Txt K mg A) : Cal P w K mg base CX0 2 "record" (spRecord K) := by
  have c_codes_of := c_codes_of (P := P) (w := w) (base := base) T
  refine cal_of T.d_record sc_record (fun vs H Q E h => ?_) (fun f cdv A outer s H vs Q E hr h => ?_)
  · obtain ⟨x, _, _, _, rfl, _⟩ := h
    rfl
  · obtain ⟨r, ps, b, es, rfl, hx, hl, hps, k⟩ := h
    refine ⟨_, (pss_one (ps_ret (pe_tup (pa_cons (pe_gi rfl T.RECORD) (pa_cons (pe_callTy call_tuple_of rfl T.tuple (by decide +kernel) (pa_cons (pe_lc (own := [("name", 1), ("value", 2)]) (g := (gTup K 2 (gCons (gName 1) (gCons (gName 2) gNil)))) (tt := tYes) rfl sc_record.nd (pi_list (pv 0)) (blkOk_by (own := [("name", 1), ("value", 2)]) (N := ["pairs", "name", "value"]) (sc := defScope s_record) (by decide +kernel)) (fun _ _ _ _ _ => pg_tup rfl (pgs_cons (pg_name (i := 1) sc_record.nd rfl (Or.inl rfl)) (pgs_cons (pg_name (i := 2) sc_record.nd rfl (Or.inl rfl)) pgs_nil))) (fun _ _ _ _ _ => pts_nil) (fun _ _ _ _ _ => (pe_tup (pa_cons (pe_d c_codes_of hr rfl (pa_cons (pv 1) pa_nil)) (pa_cons (pv 2) pa_nil))))) pa_nil)) pa_nil))))), ?_⟩
    refine ⟨_, rfl, r, rfl, ⟨_, hx⟩, fun D hD => lc_list (K := K) (a := r) (xs := ps.map V.ref) (fun i H' => Same H H' ∧ ∃ vs, H' D = some (.lst vs) ∧ EntsAt (fun a => b a ∧ H a ≠ none) K H' ((es.take i).map fun e => (txt e.1, e.2)) vs) ⟨(Same.refl H).new hD, [], upd_same, ?_⟩ (fun i H' _ q => q.1.seq hx) ?_ ?_⟩
    · rw [List.take_zero, List.map_nil, EntsAt]
    · rintro i x H2 hi ⟨s2, vs, hD2, hvs⟩
      obtain ⟨p, hp, rfl⟩ : ∃ r, ps[i]? = some r ∧ x = .ref r := by
        rw [List.getElem?_map] at hi
        cases e : ps[i]? with
        | none => rw [e] at hi; cases hi
        | some r => rw [e] at hi; exact ⟨r, rfl, (Option.some.inj hi).symm⟩
      obtain ⟨e, he, ha, hz, y, hpy, hy⟩ := paired_get' hps hp
      refine ⟨p, _, rfl, s2.tup hpy, rfl, _, _, rfl, _, _, rfl, rfl, rfl, _, rfl, e.1, rfl, ha, hz, fun H3 c s3 hc => ⟨_, rfl, (by show 2 ≤ sizeLine; decide), fun t ht => ?_⟩⟩
      have st : Same H2 (upd H3 t (.tup [.ref c, y])) := s3.new ht
      have hDt := st _ _ hD2
      have mv : Moves (fun a => b a ∧ H a ≠ none) (fun a => b a ∧ H a ≠ none) K (upd H3 t (.tup [.ref c, y])) (upd (upd H3 t (.tup [.ref c, y])) D (.lst (vs ++ [.ref t]))) := Moves.put hDt fun a z e => z.2 (e ▸ hD)
      refine ⟨_, hDt, ?_, (s2.trans st).put hD, _, upd_same, ?_⟩
      · rw [EntsAt.length hvs, List.length_map, List.length_take]
        exact small_lt (by omega)
      · rw [take_more he, List.map_append, List.map_singleton]
        exact (EntsAt.move mv _ _ (hvs.same st)).snoc (mv.tup (SqT.of upd_same)) (mv.tup (((Same.refl H3).new ht).tup hc)) (ValAt.move (Moves.old.trans ((Moves.same (s2.trans st)).trans mv)) _ _ hy)
    · rintro H2 ⟨s2, vs, hD2, hvs⟩
      rw [List.length_map, Paired.length hps, List.take_length] at hvs
      refine ⟨D, _, rfl, .inl ⟨SqL.of hD2, fun c hc => ⟨(by show 2 ≤ sizeLine; decide), fun p hp => k _ p ((s2.new hc).new hp) ?_⟩⟩⟩
      rw [ValAt]
      exact ⟨p, c, vs, rfl, SqT.of upd_same, ((Same.refl _).new hp).tup (SqT.of upd_same), EntsAt.move ((Moves.mono fun _ z => z.1).trans (.same (((Same.refl H2).new hc).new hp))) _ _ hvs⟩

/-- low_first(number, many) -/
def spLow (K : PySem.W.Frag) : Sp := fun vs H Q _ => ∃ (n m : Nat), vs = [nv n, nv m] ∧ m ≤ 8 ∧ ∀ (H' : Hp) (p : Addr), Same H H' → H p = none → H' p = some (.lst ((RWire.low m n).map ov)) → Q (.ref p) H'
theorem c_low_first (T : Txt K mg A) : Cal P w K mg base CX0 1 "low_first" (spLow K) := by
  refine cal_of T.d_low_first sc_low_first (fun vs H Q E h => ?_) (fun f cdv A outer s H vs Q E hr h => ?_)
  · obtain ⟨x, _, rfl, _⟩ := h
    rfl
  · obtain ⟨n, m, rfl, hm, k⟩ := h
    refine ⟨_, (pss_cons (ps_set (i := 2) sc_low_first.nd rfl (Or.inl rfl) (pe_lst pa_nil))
      (pss_cons (ps_for PassesOwn.never rfl (pi_range1 rfl T.range (pa_cons (pv 1) pa_nil)) (pg_name (i := 3) sc_low_first.nd rfl (Or.inl rfl))
       (pss_cons (ps_expr (pe_bm PySem.F.plainAttrs_list PySem.F.slot_list_append PySem.F.type_list_append mt_append (pv 2) (pa_cons (pe_op op_mod (pv 0) pe_int) pa_nil)))
        (pss_one (ps_set (i := 0) sc_low_first.nd rfl (Or.inl rfl) (pe_op op_fdiv (pv 0) pe_int)))))
      (pss_one (ps_ret (pv 2))))), ?_⟩
    refine ⟨Nat.zero_le _, fun D hD => ?_⟩
    refine ⟨_, rfl, (m : Int), rfl, by omega, by omega, for_range (lo := 0) (n := (m : Int).toNat) (fun i σ H' => ∃ (j : Nat) (y : Option V), σ = [some (nv j), some (nv m), some (.ref D), y] ∧ Same H H' ∧ ∃ ls, H' D = some (.lst (ls.map ov)) ∧ ls.length = i ∧ ls ++ RWire.low (m - i) j = RWire.low m n) ⟨n, none, rfl, (Same.refl H).new hD, [], upd_same, rfl, rfl⟩ ?_ ?_⟩
    · rintro i σ H2 hi ⟨j, y, rfl, s2, ls, hD2, hll, hls⟩
      have hmi : m - i = (m - (i + 1)) + 1 := by omega
      rw [hmi] at hls
      have hls : ls ++ (UInt8.ofNat j :: RWire.low (m - (i + 1)) (j / 256)) = RWire.low m n := hls
      have e1 : ov (UInt8.ofNat j) = .int ((j : Int) % 256) := by
        unfold ov
        congr 1
      have e2 : V.int ((j : Int) / 256) = nv (j / 256) := rfl
      refine ⟨_, rfl, .inl ⟨rfl, _, SqL.of hD2⟩, _, rfl, _, _, rfl, rfl, (by show (0 : Int) < 256; decide), D, _, _, rfl, rfl, hD2, by rw [List.length_map, hll]; exact small_lt (by omega), ?_⟩
      refine ⟨_, rfl, _, _, rfl, rfl, ?_, j / 256, _, rfl, s2.put hD, ls ++ [UInt8.ofNat j], ?_, ?_, ?_⟩
      · exact ⟨by decide, by decide⟩
      · rw [upd_same, List.map_append, List.map_singleton, e1]
      · rw [List.length_append, List.length_singleton, hll]
      · exact (List.append_assoc ..).trans hls
    · rintro σ H2 ⟨j, y, rfl, s2, ls, hD2, hll, hls⟩
      have e0 : m - (m : Int).toNat = 0 := by omega
      rw [e0] at hls
      have hls : ls ++ [] = RWire.low m n := hls
      rw [List.append_nil] at hls
      rw [hls] at hD2
      exact ⟨_, rfl, k H2 D s2 hD hD2⟩
end
end Sw
set_option Elab.async false
set_option linter.all false
set_option maxRecDepth 100000
set_option maxHeartbeats 4000000
/-! Separating words: values are written. -/
namespace Sw
open PySem PySem.Spec PyProof.Rows L2
open RWire (write writeMany writeEntries low)

theorem low_len : ∀ k n : Nat, (low k n).length = k
  | 0, _ => rfl
  | k + 1, n => by
    show (UInt8.ofNat n :: low k (n / 256)).length = _
    rw [List.length_cons, low_len k]
theorem writeMany_snoc : ∀ (l : List RWire.Value) (v : RWire.Value), writeMany (l ++ [v]) = writeMany l ++ write v
  | [], v => by
    show writeMany (v :: []) = [] ++ write v
    rw [writeMany, writeMany]
    simp
  | x :: l, v => by
    show writeMany (x :: (l ++ [v])) = writeMany (x :: l) ++ write v
    rw [writeMany, writeMany, writeMany_snoc l v, List.append_assoc]
theorem writeEntries_snoc : ∀ (l : List (RWire.Text × RWire.Value)) (e : RWire.Text × RWire.Value), writeEntries (l ++ [e]) = writeEntries l ++ (RWire.writeText e.1 ++ write e.2)
  | [], e => by
    show writeEntries (e :: []) = [] ++ _
    rw [writeEntries, writeEntries]
    simp
  | x :: l, e => by
    show writeEntries (x :: (l ++ [e])) = writeEntries (x :: l) ++ _
    rw [writeEntries, writeEntries, writeEntries_snoc l e]
    simp
theorem many_len : ∀ {l : List RWire.Value} {i : Nat} {v : RWire.Value}, l[i]? = some v → (writeMany (l.take i)).length + (write v).length ≤ (writeMany l).length
  | [], _, _, h => by simp at h
  | x :: l, 0, v, h => by
    have : x = v := by simpa using h
    subst this
    show (writeMany []).length + _ ≤ _
    rw [writeMany, writeMany, List.length_append]
    simp
  | x :: l, i + 1, v, h => by
    have ih := many_len (l := l) (i := i) (by simpa using h)
    show (writeMany (x :: l.take i)).length + _ ≤ _
    rw [writeMany, writeMany, List.length_append, List.length_append]
    omega
theorem ent_len : ∀ {l : List (RWire.Text × RWire.Value)} {i : Nat} {e : RWire.Text × RWire.Value}, l[i]? = some e → (writeEntries (l.take i)).length + (RWire.writeText e.1).length + (write e.2).length ≤ (writeEntries l).length
  | [], _, _, h => by simp at h
  | x :: l, 0, v, h => by
    have : x = v := by simpa using h
    subst this
    show (writeEntries []).length + _ + _ ≤ _
    rw [writeEntries, writeEntries, List.length_append, List.length_append]
    simp
  | x :: l, i + 1, v, h => by
    have ih := ent_len (l := l) (i := i) (by simpa using h)
    show (writeEntries (x :: l.take i)).length + _ + _ ≤ _
    rw [writeEntries, writeEntries, List.length_append, List.length_append, List.length_append, List.length_append]
    omega
theorem many_depth : ∀ {l : List RWire.Value} {v : RWire.Value}, v ∈ l → RWire.depth v ≤ RWire.depthMany l
  | [], _, h => nomatch h
  | x :: l, v, h => by
    rw [RWire.depthMany]
    rcases List.mem_cons.mp h with rfl | h
    · exact Nat.le_max_left _ _
    · exact Nat.le_trans (many_depth h) (Nat.le_max_right _ _)
theorem ent_depth : ∀ {l : List (RWire.Text × RWire.Value)} {e : RWire.Text × RWire.Value}, e ∈ l → RWire.depth e.2 ≤ RWire.depthEntries l
  | [], _, h => nomatch h
  | x :: l, v, h => by
    rw [RWire.depthEntries]
    rcases List.mem_cons.mp h with rfl | h
    · exact Nat.le_max_left _ _
    · exact Nat.le_trans (ent_depth h) (Nat.le_max_right _ _)
theorem depth_pos : ∀ v : RWire.Value, 1 ≤ RWire.depth v
  | .list l => by rw [RWire.depth]; omega
  | .record l => by rw [RWire.depth]; omega
  | .nothing => by rw [RWire.depth]; exact Nat.le_refl _
  | .null => by rw [RWire.depth]; exact Nat.le_refl _
  | .bool _ => by rw [RWire.depth]; exact Nat.le_refl _
  | .int _ => by rw [RWire.depth]; exact Nat.le_refl _
  | .big _ => by rw [RWire.depth]; exact Nat.le_refl _
  | .text _ => by rw [RWire.depth]; exact Nat.le_refl _
  | .octets _ => by rw [RWire.depth]; exact Nat.le_refl _
  | .wide _ => by rw [RWire.depth]; exact Nat.le_refl _
theorem fine_many : ∀ {l : List RWire.Value} {v : RWire.Value}, v ∈ l → RWire.fineMany l = true → RWire.fine v = true
  | [], _, h, _ => nomatch h
  | x :: l, v, h, f => by
    rw [RWire.fineMany, Bool.and_eq_true] at f
    rcases List.mem_cons.mp h with rfl | h
    · exact f.1
    · exact fine_many h f.2
theorem fine_ent : ∀ {l : List (RWire.Text × RWire.Value)} {e : RWire.Text × RWire.Value}, e ∈ l → RWire.fineEntries l = true → RWire.fine e.2 = true
  | [], _, h, _ => nomatch h
  | x :: l, v, h, f => by
    rw [RWire.fineEntries, Bool.and_eq_true, Bool.and_eq_true] at f
    rcases List.mem_cons.mp h with rfl | h
    · exact f.2.1
    · exact fine_ent h f.2.2
theorem EntsAt.get {b : Addr → Prop} {K : PySem.W.Frag} {H : Hp} : ∀ {l : List (RWire.Text × RWire.Value)} {xs : List V} {i : Nat} {y : V}, EntsAt b K H l xs → xs[i]? = some y →
    ∃ e p a x, l[i]? = some e ∧ y = .ref p ∧ SqT K H p [.ref a, x] ∧ SqT K H a (e.1.map ov) ∧ ValAt b K H e.2 x
  | [], xs, i, y, h, e => by
    rw [EntsAt] at h
    subst h
    simp at e
  | (n, v) :: r, xs, 0, y, h, e => by
    rw [EntsAt] at h
    obtain ⟨p, a, x, ys, rfl, h1, h2, h3, h4⟩ := h
    have : V.ref p = y := by simpa using e
    exact ⟨(n, v), p, a, x, rfl, this.symm, h1, h2, h3⟩
  | (n, v) :: r, xs, i + 1, y, h, e => by
    rw [EntsAt] at h
    obtain ⟨p, a, x, ys, rfl, h1, h2, h3, h4⟩ := h
    exact EntsAt.get (i := i) h4 (by simpa using e)
theorem ValsAt.get' {b : Addr → Prop} {K : PySem.W.Frag} {H : Hp} : ∀ {l : List RWire.Value} {xs : List V} {i : Nat} {y : V}, ValsAt b K H l xs → xs[i]? = some y → ∃ v, l[i]? = some v ∧ ValAt b K H v y
  | [], xs, i, y, h, e => by
    rw [ValsAt] at h
    subst h
    simp at e
  | v :: r, xs, 0, y, h, e => by
    rw [ValsAt] at h
    obtain ⟨x, ys, rfl, h1, h2⟩ := h
    have : x = y := by simpa using e
    subst this
    exact ⟨v, rfl, h1⟩
  | v :: r, xs, i + 1, y, h, e => by
    rw [ValsAt] at h
    obtain ⟨x, ys, rfl, h1, h2⟩ := h
    exact ValsAt.get' (i := i) h2 (by simpa using e)
theorem int_mod (i : Int) (h : i.natAbs ≤ RWire.intMost) : (i % RWire.wordMost).toNat = (if 0 ≤ i then i else i + 18446744073709551616).toNat := by
  have h : i.natAbs ≤ 9007199254740991 := h
  show (i % 18446744073709551616).toNat = _
  split <;> omega

section
variable {P : Program} {w : World} {K : PySem.W.Frag} {mg : Str → Option Value} {base : Heap} {A : Ad}
/-- octets_of(value) -/
def spOcts (K : PySem.W.Frag) (d : Nat) : Sp := fun vs H Q _ => ∃ (b : Addr → Prop) (x : V) (v : RWire.Value), vs = [x] ∧ ValAt b K H v x ∧ RWire.depth v ≤ d ∧ RWire.fine v = true ∧ (write v).length ≤ 100000 ∧
  ∀ (H' : Hp) (p : Addr), Same H H' → H p = none → H' p = some (.lst ((write v).map ov)) → Q (.ref p) H'
theorem c_octets_of (T : Txt K mg A) : ∀ d : Nat, Cal P w K mg base CX0 (d + 2) "octets_of" (spOcts K d)
  | 0 => cal_of T.d_octets_of sc_octets_of (fun vs H Q E h => by
      obtain ⟨b, x, v, rfl, _⟩ := h
      rfl) fun f cdv A outer s H vs Q E hr h => by
      obtain ⟨b, x, v, rfl, _, hd, _⟩ := h
      have := depth_pos v
      omega
  | d + 1 => by
    have c_octets_of := c_octets_of T d
    have c_low_first := c_low_first (P := P) (w := w) (base := base) T
    refine cal_of T.d_octets_of sc_octets_of (fun vs H Q E h => ?_) (fun f cdv A outer s H vs Q E hr h => ?_)
    · obtain ⟨b, x, v, rfl, _⟩ := h
      rfl
    · obtain ⟨b, x, v, rfl, hx, hd, hf, hz, k⟩ := h
      refine ⟨_, (pss_cons (ps_set (i := 1) sc_octets_of.nd rfl (Or.inl rfl) (pe_ix (ixt K) (pv 0) pe_int (fun _ _ => rfl)))
      (pss_cons (ps_if (pt_cmpR op_eq (pv 1) (pe_gi rfl T.INTEGER) (nomark _))
       (pss_one (ps_ret (pe_op op_cat (pe_lst (pa_cons (pv 1) pa_nil)) (pe_d c_low_first hr rfl (pa_cons (pe_ifExp (pt_cmpR op_ge (pe_ix (ixt K) (pv 0) pe_int (fun _ _ => rfl)) pe_int (nomark _)) (pe_ix (ixt K) (pv 0) pe_int (fun _ _ => rfl)) (pe_op op_add (pe_ix (ixt K) (pv 0) pe_int (fun _ _ => rfl)) (pe_gi rfl T.WORD))) (pa_cons pe_int pa_nil))))))
       pss_nil)
      (pss_cons (ps_if (pt_cmpR op_eq (pv 1) (pe_gi rfl T.TEXT) (nomark _))
       (pss_one (ps_ret (pe_op op_cat (pe_op op_cat (pe_lst (pa_cons (pv 1) pa_nil)) (pe_d c_low_first hr rfl (pa_cons (pe_callB (lenQ K) rfl T.len PySem.boot_len (pa_cons (pe_ix (ixt K) (pv 0) pe_int (fun _ _ => rfl)) pa_nil)) (pa_cons pe_int pa_nil)))) (pe_callTy call_list_of rfl T.list (by decide +kernel) (pa_cons (pe_ix (ixt K) (pv 0) pe_int (fun _ _ => rfl)) pa_nil)))))
       pss_nil)
      (pss_cons (ps_if (pt_cmpR op_lt (pv 1) (pe_gi rfl T.INTEGER) (nomark _))
       (pss_one (ps_ret (pe_lst (pa_cons (pv 1) pa_nil))))
       pss_nil)
      (pss_cons (ps_set (i := 2) sc_octets_of.nd rfl (Or.inl rfl) (pe_op op_cat (pe_lst (pa_cons (pv 1) pa_nil)) (pe_d c_low_first hr rfl (pa_cons (pe_callB (lenQ K) rfl T.len PySem.boot_len (pa_cons (pe_ix (ixt K) (pv 0) pe_int (fun _ _ => rfl)) pa_nil)) (pa_cons pe_int pa_nil)))))
      (pss_cons (ps_for PassesOwn.never rfl (pi_tup (pe_ix (ixt K) (pv 0) pe_int (fun _ _ => rfl))) (pg_name (i := 3) sc_octets_of.nd rfl (Or.inl rfl))
       (pss_one (ps_if (pt_cmpR op_eq (pv 1) (pe_gi rfl T.RECORD) (nomark _))
         (pss_one (ps_expr (pe_bm PySem.F.plainAttrs_list PySem.F.slot_list_extend PySem.F.type_list_extend mt_extend (pv 2) (pa_cons (pe_op op_cat (pe_op op_cat (pe_d c_low_first hr rfl (pa_cons (pe_callB (lenQ K) rfl T.len PySem.boot_len (pa_cons (pe_ix (ixt K) (pv 3) pe_int (fun _ _ => rfl)) pa_nil)) (pa_cons pe_int pa_nil))) (pe_callTy call_list_of rfl T.list (by decide +kernel) (pa_cons (pe_ix (ixt K) (pv 3) pe_int (fun _ _ => rfl)) pa_nil))) (pe_d c_octets_of hr rfl (pa_cons (pe_ix (ixt K) (pv 3) pe_int (fun _ _ => rfl)) pa_nil))) pa_nil))))
         (pss_one (ps_expr (pe_bm PySem.F.plainAttrs_list PySem.F.slot_list_extend PySem.F.type_list_extend mt_extend (pv 2) (pa_cons (pe_d c_octets_of hr rfl (pa_cons (pv 3) pa_nil)) pa_nil)))))))
      (pss_one (ps_ret (pv 2))))))))), ?_⟩
      cases v with
      | int i =>
        rw [ValAt] at hx
        obtain ⟨a, rfl, ha⟩ := hx
        have hi : i.natAbs ≤ RWire.intMost := by
          rw [RWire.fine] at hf
          exact Nat.le_of_ble_eq_true hf
        have hm := int_mod i hi
        refine ⟨_, rfl, a, _, _, _, rfl, rfl, ha, at_of (j := 0) rfl rfl, ?_⟩
        refine ⟨_, rfl, rfl, _, rfl, iteT ?_⟩
        refine ⟨_, rfl, (by show 1 ≤ sizeLine; decide), fun p hp => ?_⟩
        have s1 : Same H (upd H p (.lst [.int 4])) := (Same.refl H).new hp
        have hp1 : (upd H p (.lst [.int 4])) p = some (.lst [.int 4]) := upd_same
        generalize upd H p (.lst [.int 4]) = H1 at s1 hp1
        refine ⟨_, rfl, a, _, _, _, rfl, rfl, s1.tup ha, at_of (j := 1) rfl rfl, _, _, rfl, rfl, _, rfl, ?_⟩
        have wr : write (.int i) = 4 :: low 8 (i % RWire.wordMost).toNat := by rw [write]; rfl
        refine ite2 (fun hc => ?_) (fun hc => ?_)
        · have hc := of_decide_eq_true hc
          rw [if_pos hc] at hm
          refine ⟨_, rfl, a, _, _, _, rfl, rfl, s1.tup ha, at_of (j := 1) rfl rfl, i.toNat, 8, ?_, by decide, fun H2 q s2 hq h2 => ?_⟩
          · have : V.int i = nv i.toNat := by show V.int i = V.int _; congr 1; omega
            rw [this]
            rfl
          · refine ⟨p, q, _, _, rfl, rfl, s2 _ _ hp1, h2, ?_, fun t ht => k _ t ((s1.trans s2).new ht) ((s1.trans s2).free ht) ?_⟩
            · rw [List.length_map]
              show 1 + (low 8 _).length ≤ sizeLine
              rw [low_len]
              decide
            · rw [upd_same, wr, hm]
              rfl
        · have hc := of_decide_eq_false (Bool.eq_false_iff.mpr hc)
          rw [if_neg hc] at hm
          refine ⟨_, rfl, a, _, _, _, rfl, rfl, s1.tup ha, at_of (j := 1) rfl rfl, _, _, rfl, rfl, (i + 18446744073709551616).toNat, 8, ?_, by decide, fun H2 q s2 hq h2 => ?_⟩
          · have hi : i.natAbs ≤ 9007199254740991 := hi
            have : V.int (i + 18446744073709551616) = nv (i + 18446744073709551616).toNat := by show V.int _ = V.int _; congr 1; omega
            show [V.int (i + 18446744073709551616), V.int 8] = _
            rw [this]
            rfl
          · refine ⟨p, q, _, _, rfl, rfl, s2 _ _ hp1, h2, ?_, fun t ht => k _ t ((s1.trans s2).new ht) ((s1.trans s2).free ht) ?_⟩
            · rw [List.length_map]
              show 1 + (low 8 _).length ≤ sizeLine
              rw [low_len]
              decide
            · rw [upd_same, wr, hm]
              rfl
      | text u =>
        rw [ValAt] at hx
        obtain ⟨a, c, rfl, ha, hc⟩ := hx
        have wr : write (.text u) = 6 :: (low 4 u.length ++ u) := by rw [write]; rfl
        have hul : u.length ≤ 100000 := by
          rw [wr, List.length_cons, List.length_append] at hz
          omega
        refine ⟨_, rfl, a, _, _, _, rfl, rfl, ha, at_of (j := 0) rfl rfl, ?_⟩
        refine ⟨_, rfl, rfl, _, rfl, iteF ?_⟩
        refine ⟨_, rfl, rfl, _, rfl, iteT ?_⟩
        refine ⟨_, rfl, (by show 1 ≤ sizeLine; decide), fun p hp => ?_⟩
        have s1 : Same H (upd H p (.lst [.int 6])) := (Same.refl H).new hp
        have hp1 : (upd H p (.lst [.int 6])) p = some (.lst [.int 6]) := upd_same
        generalize upd H p (.lst [.int 6]) = H1 at s1 hp1
        have hcs : ∀ {H' : Hp}, Same H H' → SqL K H' c (u.map ov) ∨ SqT K H' c (u.map ov) := fun s => hc.elim (fun h => .inr (s.tup h)) fun h => .inl (SqL.of (s _ _ h.2))
        refine ⟨_, rfl, a, _, _, _, rfl, rfl, s1.tup ha, at_of (j := 1) rfl rfl, c, _, rfl, hcs s1, (u.map ov).length, 4, rfl, by decide, fun H2 q s2 hq h2 => ?_⟩
        rw [List.length_map] at h2
        refine ⟨p, q, _, _, rfl, rfl, s2 _ _ hp1, h2, ?_, fun t ht => ?_⟩
        · rw [List.length_map]
          show 1 + (low 4 _).length ≤ sizeLine
          rw [low_len]
          decide
        have s3 : Same H (upd H2 t (.lst ([.int 6] ++ (low 4 u.length).map ov))) := (s1.trans s2).new ht
        have ht3 : upd H2 t (.lst ([.int 6] ++ (low 4 u.length).map ov)) t = some (.lst ([.int 6] ++ (low 4 u.length).map ov)) := upd_same
        generalize upd H2 t (.lst ([.int 6] ++ (low 4 u.length).map ov)) = H3 at s3 ht3
        refine ⟨_, rfl, a, _, _, _, rfl, rfl, s3.tup ha, at_of (j := 1) rfl rfl, c, _, rfl, hcs s3, fun l hl => ?_⟩
        have s4 := (Same.refl H3).new hl (o := .lst (u.map ov))
        refine ⟨t, l, _, _, rfl, rfl, s4 _ _ ht3, upd_same, ?_, fun z hz => k _ z ((s3.trans s4).new hz) ((s3.trans s4).free hz) ?_⟩
        · rw [List.length_append, List.length_map, List.length_map, low_len]
          show 1 + 4 + u.length ≤ sizeLine
          exact small_line (by omega)
        · rw [upd_same, wr]
          simp
          rfl
      | list l => 
        rw [ValAt] at hx
        obtain ⟨a, c, xs, rfl, ha, hc, hxs⟩ := hx
        have wr : write (.list l) = 7 :: (low 4 l.length ++ writeMany l) := by rw [write]; rfl
        have hzl : 5 + (writeMany l).length ≤ 100000 := by
          rw [wr, List.length_cons, List.length_append, low_len] at hz
          omega
        rw [RWire.depth] at hd
        rw [RWire.fine, Bool.and_eq_true] at hf
        have hxl : xs.length = l.length := hxs.length
        refine ⟨_, rfl, a, _, _, _, rfl, rfl, ha, at_of (j := 0) rfl rfl, ?_⟩
        refine ⟨_, rfl, rfl, _, rfl, iteF ?_⟩
        refine ⟨_, rfl, rfl, _, rfl, iteF ?_⟩
        refine ⟨_, rfl, _, _, rfl, rfl, _, rfl, iteF ?_⟩
        refine ⟨_, rfl, (by show 1 ≤ sizeLine; decide), fun p hp => ?_⟩
        have s1 : Same H (upd H p (.lst [.int 7])) := (Same.refl H).new hp
        have hp1 : (upd H p (.lst [.int 7])) p = some (.lst [.int 7]) := upd_same
        generalize upd H p (.lst [.int 7]) = H1 at s1 hp1
        refine ⟨_, rfl, a, _, _, _, rfl, rfl, s1.tup ha, at_of (j := 1) rfl rfl, c, _, rfl, .inr (s1.tup hc), xs.length, 4, rfl, by decide, fun H2 q s2 hq h2 => ?_⟩
        rw [hxl] at h2
        refine ⟨p, q, _, _, rfl, rfl, s2 _ _ hp1, h2, ?_, fun F hF => ?_⟩
        · rw [List.length_map]
          show 1 + (low 4 _).length ≤ sizeLine
          rw [low_len]
          decide
        have s3 : Same H (upd H2 F (.lst ([.int 7] ++ (low 4 l.length).map ov))) := (s1.trans s2).new hF
        have hF0 : H F = none := (s1.trans s2).free hF
        have hF3 : upd H2 F (.lst ([.int 7] ++ (low 4 l.length).map ov)) F = some (.lst ([.int 7] ++ (low 4 l.length).map ov)) := upd_same
        generalize upd H2 F (.lst ([.int 7] ++ (low 4 l.length).map ov)) = H3 at s3 hF3
        refine ⟨_, rfl, a, _, _, _, rfl, rfl, s3.tup ha, at_of (j := 1) rfl rfl, c, rfl, ⟨_, s3.tup hc⟩, for_tup (K := K) (a := c) (xs := xs) (fun i σ H' => ∃ y, σ = [some (.ref a), some (.int 7), some (.ref F), y] ∧ Same H H' ∧ H' F = some (.lst ((7 :: (low 4 l.length ++ writeMany (l.take i))).map ov)))
          ⟨none, rfl, s3, ?_⟩ (fun i σ H' _ ⟨_, _, q, _⟩ => q.tup hc) ?_ ?_⟩
        · rw [hF3, List.take_zero, writeMany]
          simp
          rfl
        · rintro i y σ H4 hy ⟨z, rfl, s4, hF4⟩
          obtain ⟨v, hv, hvv⟩ := hxs.get' hy
          have hvm := List.mem_of_getElem? hv
          have hvl := many_len hv
          refine ⟨_, rfl, rfl, _, rfl, iteF ?_⟩
          refine ⟨_, rfl, .inl ⟨rfl, _, SqL.of hF4⟩, _, rfl, b, y, v, rfl, hvv.same s4, Nat.le_trans (many_depth hvm) (by omega), fine_many hvm hf.2, by omega, fun H5 p s5 hp h5 => ?_⟩
          refine ⟨F, p, _, _, rfl, rfl, s5 _ _ hF4, h5, ?_, _, rfl, (s4.trans s5).put hF0, ?_⟩
          · rw [List.length_map, List.length_map, List.length_cons, List.length_append, low_len]
            exact small_line (by omega)
          · rw [upd_same, take_more hv, writeMany_snoc]
            simp
        · rintro σ H4 ⟨z, rfl, s4, hF4⟩
          rw [hxl, List.take_length, ← wr] at hF4
          exact ⟨_, rfl, k H4 F s4 hF0 hF4⟩
      | record l => 
        rw [ValAt] at hx
        obtain ⟨a, c, xs, rfl, ha, hc, hxs⟩ := hx
        have wr : write (.record l) = 8 :: (low 4 l.length ++ writeEntries l) := by rw [write]; rfl
        have hzl : 5 + (writeEntries l).length ≤ 100000 := by
          rw [wr, List.length_cons, List.length_append, low_len] at hz
          omega
        rw [RWire.depth] at hd
        rw [RWire.fine, Bool.and_eq_true, Bool.and_eq_true] at hf
        have hxl : xs.length = l.length := hxs.length
        refine ⟨_, rfl, a, _, _, _, rfl, rfl, ha, at_of (j := 0) rfl rfl, ?_⟩
        refine ⟨_, rfl, rfl, _, rfl, iteF ?_⟩
        refine ⟨_, rfl, rfl, _, rfl, iteF ?_⟩
        refine ⟨_, rfl, _, _, rfl, rfl, _, rfl, iteF ?_⟩
        refine ⟨_, rfl, (by show 1 ≤ sizeLine; decide), fun p hp => ?_⟩
        have s1 : Same H (upd H p (.lst [.int 8])) := (Same.refl H).new hp
        have hp1 : (upd H p (.lst [.int 8])) p = some (.lst [.int 8]) := upd_same
        generalize upd H p (.lst [.int 8]) = H1 at s1 hp1
        refine ⟨_, rfl, a, _, _, _, rfl, rfl, s1.tup ha, at_of (j := 1) rfl rfl, c, _, rfl, .inr (s1.tup hc), xs.length, 4, rfl, by decide, fun H2 q s2 hq h2 => ?_⟩
        rw [hxl] at h2
        refine ⟨p, q, _, _, rfl, rfl, s2 _ _ hp1, h2, ?_, fun F hF => ?_⟩
        · rw [List.length_map]
          show 1 + (low 4 _).length ≤ sizeLine
          rw [low_len]
          decide
        have s3 : Same H (upd H2 F (.lst ([.int 8] ++ (low 4 l.length).map ov))) := (s1.trans s2).new hF
        have hF0 : H F = none := (s1.trans s2).free hF
        have hF3 : upd H2 F (.lst ([.int 8] ++ (low 4 l.length).map ov)) F = some (.lst ([.int 8] ++ (low 4 l.length).map ov)) := upd_same
        generalize upd H2 F (.lst ([.int 8] ++ (low 4 l.length).map ov)) = H3 at s3 hF3
        refine ⟨_, rfl, a, _, _, _, rfl, rfl, s3.tup ha, at_of (j := 1) rfl rfl, c, rfl, ⟨_, s3.tup hc⟩, for_tup (K := K) (a := c) (xs := xs) (fun i σ H' => ∃ y, σ = [some (.ref a), some (.int 8), some (.ref F), y] ∧ Same H H' ∧ H' F = some (.lst ((8 :: (low 4 l.length ++ writeEntries (l.take i))).map ov)))
          ⟨none, rfl, s3, ?_⟩ (fun i σ H' _ ⟨_, _, q, _⟩ => q.tup hc) ?_ ?_⟩
        · rw [hF3, List.take_zero, writeEntries]
          simp
          rfl
        · rintro i y σ H4 hy ⟨z, rfl, s4, hF4⟩
          obtain ⟨e, p, n, x, hv, rfl, hp1, hn, hvv⟩ := hxs.get hy
          have hvm := List.mem_of_getElem? hv
          have hvl := ent_len hv
          have htl : (RWire.writeText e.1).length = 4 + e.1.length := by
            show (low 4 _ ++ _).length = _
            rw [List.length_append, low_len]
          refine ⟨_, rfl, rfl, _, rfl, iteT ?_⟩
          refine ⟨_, rfl, .inl ⟨rfl, _, SqL.of hF4⟩, ?_⟩
          refine ⟨_, rfl, p, _, _, _, rfl, rfl, s4.tup hp1, at_of (j := 0) rfl rfl, n, _, rfl, .inr (s4.tup hn), (e.1.map ov).length, 4, rfl, by decide, fun H5 q s5 hq h5 => ?_⟩
          rw [List.length_map] at h5
          refine ⟨_, rfl, p, _, _, _, rfl, rfl, (s4.trans s5).tup hp1, at_of (j := 0) rfl rfl, n, _, rfl, .inr ((s4.trans s5).tup hn), fun t ht => ?_⟩
          have s6 : Same H5 (upd H5 t (.lst (e.1.map ov))) := (Same.refl H5).new ht
          refine ⟨q, t, _, _, rfl, rfl, s6 _ _ h5, upd_same, ?_, fun u hu => ?_⟩
          · rw [List.length_map, List.length_map, low_len]
            exact small_line (by omega)
          have s7 : Same H4 (upd (upd H5 t (.lst (e.1.map ov))) u (.lst ((low 4 e.1.length).map ov ++ e.1.map ov))) := (s5.trans s6).new hu
          have hu7 : (upd (upd H5 t (.lst (e.1.map ov))) u (.lst ((low 4 e.1.length).map ov ++ e.1.map ov))) u = some (.lst ((low 4 e.1.length).map ov ++ e.1.map ov)) := upd_same
          generalize upd (upd H5 t (.lst (e.1.map ov))) u (.lst ((low 4 e.1.length).map ov ++ e.1.map ov)) = H7 at s7 hu7
          refine ⟨_, rfl, p, _, _, _, rfl, rfl, (s4.trans s7).tup hp1, at_of (j := 1) rfl rfl, b, x, e.2, rfl, hvv.same (s4.trans s7), Nat.le_trans (ent_depth hvm) (by omega), fine_ent hvm hf.2.1, by omega, fun H8 p8 s8 hp8 h8 => ?_⟩
          refine ⟨u, p8, _, _, rfl, rfl, s8 _ _ hu7, h8, ?_, fun m hm => ?_⟩
          · rw [List.length_append, List.length_map, List.length_map, List.length_map, low_len]
            exact small_line (by omega)
          have s9 := s8.new hm (o := .lst ((low 4 e.1.length).map ov ++ e.1.map ov ++ (write e.2).map ov))
          refine ⟨F, m, _, _, rfl, rfl, (s7.trans s9) _ _ hF4, upd_same, ?_, _, rfl, (s4.trans (s7.trans s9)).put hF0, ?_⟩
          · rw [List.length_append, List.length_append, List.length_map, List.length_map, List.length_map, List.length_map, List.length_cons, List.length_append, low_len, low_len]
            exact small_line (by omega)
          · rw [upd_same, take_more hv, writeEntries_snoc]
            show _ = some (HO.lst (List.map ov (8 :: (low 4 l.length ++ (writeEntries (l.take i) ++ ((low 4 e.1.length ++ e.1) ++ write e.2))))))
            simp
        · rintro σ H4 ⟨z, rfl, s4, hF4⟩
          rw [hxl, List.take_length, ← wr] at hF4
          exact ⟨_, rfl, k H4 F s4 hF0 hF4⟩
      | nothing =>
        rw [ValAt] at hx
        obtain ⟨a, rfl, ha⟩ := hx
        refine ⟨_, rfl, a, _, _, _, rfl, rfl, ha, at_of (j := 0) rfl rfl, ?_⟩
        refine ⟨_, rfl, rfl, _, rfl, iteF ⟨_, rfl, rfl, _, rfl, iteF ⟨_, rfl, _, _, rfl, rfl, _, rfl, iteT ⟨_, rfl, (by show 1 ≤ sizeLine; decide), fun p hp => k _ p ((Same.refl H).new hp) hp ?_⟩⟩⟩⟩
        rw [upd_same, write]
        rfl
      | null =>
        rw [ValAt] at hx
        obtain ⟨a, rfl, ha⟩ := hx
        refine ⟨_, rfl, a, _, _, _, rfl, rfl, ha, at_of (j := 0) rfl rfl, ?_⟩
        refine ⟨_, rfl, rfl, _, rfl, iteF ⟨_, rfl, rfl, _, rfl, iteF ⟨_, rfl, _, _, rfl, rfl, _, rfl, iteT ⟨_, rfl, (by show 1 ≤ sizeLine; decide), fun p hp => k _ p ((Same.refl H).new hp) hp ?_⟩⟩⟩⟩
        rw [upd_same, write]
        rfl
      | bool t =>
        rw [ValAt] at hx
        obtain ⟨a, rfl, ha⟩ := hx
        refine ⟨_, rfl, a, _, _, _, rfl, rfl, ha, at_of (j := 0) rfl rfl, ?_⟩
        cases t
        all_goals
          refine ⟨_, rfl, rfl, _, rfl, iteF ⟨_, rfl, rfl, _, rfl, iteF ⟨_, rfl, _, _, rfl, rfl, _, rfl, iteT ⟨_, rfl, (by show 1 ≤ sizeLine; decide), fun p hp => k _ p ((Same.refl H).new hp) hp ?_⟩⟩⟩⟩
          rw [upd_same, write]
          rfl
      | big _ => rw [ValAt] at hx; exact hx.elim
      | octets _ => rw [ValAt] at hx; exact hx.elim
      | wide _ => rw [ValAt] at hx; exact hx.elim
end
end Sw
/-! Separating words: requests in octets: plain lists alone. -/
namespace Sw
open RWire

theorem front_some : ∀ {k : Nat} {b : Octets} {p : Octets × Octets}, front k b = some p → k ≤ b.length ∧ p = (b.take k, b.drop k)
  | 0, b, p, h => by
    have : ([], b) = p := Option.some.inj h
    exact ⟨Nat.zero_le _, by rw [← this]; rfl⟩
  | k + 1, [], p, h => by cases h
  | k + 1, a :: r, p, h => by
    unfold front at h
    cases e : front k r with
    | none => rw [e] at h; cases h
    | some q =>
      rw [e] at h
      obtain ⟨h1, rfl⟩ := front_some e
      have : (a :: r.take k, r.drop k) = p := Option.some.inj h
      exact ⟨by rw [List.length_cons]; omega, by rw [← this]; rfl⟩
theorem readNum_some {k : Nat} {b : Octets} {p : Nat × Octets} (h : readNum k b = some p) : k ≤ b.length ∧ p = (numOf (b.take k), b.drop k) := by
  unfold readNum at h
  cases e : front k b with
  | none => rw [e] at h; cases h
  | some q =>
    rw [e] at h
    obtain ⟨h1, rfl⟩ := front_some e
    exact ⟨h1, (Option.some.inj h).symm⟩
theorem readText_some {b u rest : Octets} (h : readText b = some (u, rest)) : 4 + u.length ≤ b.length ∧ u.length = numOf (b.take 4) ∧ u = (b.drop 4).take u.length ∧ rest = b.drop (4 + u.length) := by
  unfold readText at h
  cases e : readNum 4 b with
  | none => rw [e] at h; cases h
  | some q =>
    rw [e] at h
    obtain ⟨h1, rfl⟩ := readNum_some e
    obtain ⟨h2, h3⟩ := front_some (show front (numOf (b.take 4)) (b.drop 4) = some (u, rest) from h)
    injection h3 with h3 h4
    rw [List.length_drop] at h2
    have hl : u.length = numOf (b.take 4) := by rw [h3, List.length_take, List.length_drop]; omega
    refine ⟨by omega, hl, by rw [hl]; exact h3, ?_⟩
    rw [h4, List.drop_drop, hl]
theorem readMany_cons {α : Type} {f : Octets → Option (α × Octets)} {n : Nat} {r : Octets} {q : List α × Octets} (h : readMany f (n + 1) r = some q) : ∃ a r' l, f r = some (a, r') ∧ readMany f n r' = some (l, q.2) ∧ q.1 = a :: l := by
  unfold readMany at h
  cases e : f r with
  | none => rw [e] at h; cases h
  | some p =>
    rw [e] at h
    cases e2 : readMany f n p.2 with
    | none => simp only [e2] at h; cases h
    | some q' =>
      simp only [e2] at h
      have : (p.1 :: q'.1, q'.2) = q := Option.some.inj h
      exact ⟨p.1, p.2, q'.1, rfl, by rw [e2, ← this], by rw [← this]⟩
theorem readMany_len {α : Type} {f : Octets → Option (α × Octets)} : ∀ {n : Nat} {r : Octets} {q : List α × Octets}, readMany f n r = some q → q.1.length = n
  | 0, r, q, h => by
    have : ([], r) = q := Option.some.inj h
    rw [← this]; rfl
  | n + 1, r, q, h => by
    obtain ⟨a, r', l, h1, h2, h3⟩ := readMany_cons h
    rw [h3, List.length_cons]
    have := readMany_len h2
    simpa using this
theorem readEntry_some {f : Octets → Option (Value × Octets)} {b : Octets} {e : Text × Value} {r : Octets} (h : readEntry f b = some (e, r)) : ∃ r1, readText b = some (e.1, r1) ∧ f r1 = some (e.2, r) := by
  unfold readEntry at h
  cases h1 : readText b with
  | none => rw [h1] at h; cases h
  | some p =>
    rw [h1] at h
    cases h2 : f p.2 with
    | none => simp only [h2] at h; cases h
    | some q =>
      simp only [h2] at h
      have : ((p.1, q.1), q.2) = (e, r) := Option.some.inj h
      injection this with e1 e2
      exact ⟨p.2, by rw [← e1], by rw [h2, ← e1, ← e2]⟩
theorem readList_some {f : Octets → Option (Value × Octets)} {b : Octets} {v : Value} {r : Octets} (h : readList f b = some (v, r)) : ∃ l, 4 ≤ b.length ∧ v = .list l ∧ readMany f (numOf (b.take 4)) (b.drop 4) = some (l, r) := by
  unfold readList at h
  cases h1 : readNum 4 b with
  | none => rw [h1] at h; cases h
  | some p =>
    rw [h1] at h
    obtain ⟨h3, rfl⟩ := readNum_some h1
    cases h2 : readMany f (numOf (b.take 4)) (b.drop 4) with
    | none => simp only [h2] at h; cases h
    | some q =>
      simp only [h2] at h
      have : (Value.list q.1, q.2) = (v, r) := Option.some.inj h
      injection this with e1 e2
      exact ⟨q.1, h3, e1.symm, by rw [← e2]⟩
theorem readRecord_some {f : Octets → Option (Value × Octets)} {b : Octets} {v : Value} {r : Octets} (h : readRecord f b = some (v, r)) : ∃ l, 4 ≤ b.length ∧ v = .record l ∧ readMany (readEntry f) (numOf (b.take 4)) (b.drop 4) = some (l, r) := by
  unfold readRecord at h
  cases h1 : readNum 4 b with
  | none => rw [h1] at h; cases h
  | some p =>
    rw [h1] at h
    obtain ⟨h3, rfl⟩ := readNum_some h1
    cases h2 : readMany (readEntry f) (numOf (b.take 4)) (b.drop 4) with
    | none => simp only [h2] at h; cases h
    | some q =>
      simp only [h2] at h
      by_cases h4 : apart q.1 = true
      · rw [if_pos h4] at h
        have : (Value.record q.1, q.2) = (v, r) := Option.some.inj h
        injection this with e1 e2
        exact ⟨q.1, h3, e1.symm, by rw [← e2]⟩
      · rw [if_neg h4] at h
        cases h
theorem readInt_some {b : Octets} {v : Value} {r : Octets} (h : readInt b = some (v, r)) : 8 ≤ b.length ∧ v = .int (intOf (numOf (b.take 8))) ∧ r = b.drop 8 ∧ (intOf (numOf (b.take 8))).natAbs ≤ intMost := by
  unfold readInt at h
  cases h1 : readNum 8 b with
  | none => rw [h1] at h; cases h
  | some p =>
    rw [h1] at h
    obtain ⟨h3, rfl⟩ := readNum_some h1
    simp only at h
    by_cases h4 : Nat.ble (intOf (numOf (b.take 8))).natAbs intMost = true
    · rw [if_pos h4] at h
      have : (Value.int (intOf (numOf (b.take 8))), b.drop 8) = (v, r) := Option.some.inj h
      injection this with e1 e2
      exact ⟨h3, e1.symm, e2.symm, Nat.le_of_ble_eq_true h4⟩
    · rw [if_neg h4] at h
      cases h
/-- kinds that this document has -/
def okV (v : Value) : Bool := noBig v && (noOctets v && noWide v)
def okMany (l : List Value) : Bool := noBigMany l && (noOctetsMany l && noWideMany l)
def okEnts (l : List (Text × Value)) : Bool := noBigEntries l && (noOctetsEntries l && noWideEntries l)
theorem okV_list {l : List Value} (h : okV (.list l) = true) : okMany l = true := by
  unfold okV at h
  rw [noBig, noOctets, noWide] at h
  exact h
theorem okV_record {l : List (Text × Value)} (h : okV (.record l) = true) : okEnts l = true := by
  unfold okV at h
  rw [noBig, noOctets, noWide] at h
  exact h
theorem okMany_at : ∀ {l : List Value} {v : Value}, okMany l = true → v ∈ l → okV v = true
  | [], _, _, h => nomatch h
  | x :: l, v, h, hv => by
    unfold okMany at h
    rw [noBigMany, noOctetsMany, noWideMany] at h
    simp only [Bool.and_eq_true] at h
    rcases List.mem_cons.mp hv with rfl | hv
    · unfold okV
      simp only [Bool.and_eq_true]
      exact ⟨h.1.1, h.2.1.1, h.2.2.1⟩
    · refine okMany_at (l := l) ?_ hv
      unfold okMany
      simp only [Bool.and_eq_true]
      exact ⟨h.1.2, h.2.1.2, h.2.2.2⟩
theorem okEnts_at : ∀ {l : List (Text × Value)} {e : Text × Value}, okEnts l = true → e ∈ l → okV e.2 = true
  | [], _, _, h => nomatch h
  | x :: l, v, h, hv => by
    unfold okEnts at h
    rw [noBigEntries, noOctetsEntries, noWideEntries] at h
    simp only [Bool.and_eq_true] at h
    rcases List.mem_cons.mp hv with rfl | hv
    · unfold okV
      simp only [Bool.and_eq_true]
      exact ⟨h.1.1, h.2.1.1, h.2.2.1⟩
    · refine okEnts_at (l := l) ?_ hv
      unfold okEnts
      simp only [Bool.and_eq_true]
      exact ⟨h.1.2, h.2.1.2, h.2.2.2⟩
/-- what a kind octet says -/
inductive Kinds (f : Octets → Option (Value × Octets)) (r : Octets) (v : Value) (rest : Octets) : Nat → Prop
  | nothing : v = .nothing → rest = r → Kinds f r v rest 0
  | null : v = .null → rest = r → Kinds f r v rest 1
  | no : v = .bool false → rest = r → Kinds f r v rest 2
  | yes : v = .bool true → rest = r → Kinds f r v rest 3
  | int : readInt r = some (v, rest) → Kinds f r v rest 4
  | text (u : Text) : v = .text u → readText r = some (u, rest) → Kinds f r v rest 6
  | list : readList f r = some (v, rest) → Kinds f r v rest 7
  | record : readRecord f r = some (v, rest) → Kinds f r v rest 8
theorem readF_some {n : Nat} {b : Octets} {v : Value} {rest : Octets} (h : readF n b = some (v, rest)) (ok : okV v = true) : ∃ m k r, n = m + 1 ∧ b = k :: r ∧ Kinds (readF m) r v rest k.toNat := by
  match n, b, h with
  | m + 1, k :: r, h =>
    have h : readKind (readF m) k.toNat r = some (v, rest) := h
    refine ⟨m, k, r, rfl, rfl, ?_⟩
    unfold readKind at h
    split at h
    · rename_i e; rw [e]; injection h with h; injection h with h1 h2; exact .nothing h1.symm h2.symm
    · rename_i e; rw [e]; injection h with h; injection h with h1 h2; exact .null h1.symm h2.symm
    · rename_i e; rw [e]; injection h with h; injection h with h1 h2; exact .no h1.symm h2.symm
    · rename_i e; rw [e]; injection h with h; injection h with h1 h2; exact .yes h1.symm h2.symm
    · rename_i e; rw [e]; exact .int h
    · -- a great integer
      exfalso
      unfold readBig at h
      have : ∀ i, v ≠ .big i := fun i e => by
        rw [e] at ok
        unfold okV at ok
        rw [noBig] at ok
        cases ok
      split at h
      · cases h
      · split at h
        · cases h
        · split at h
          · cases h
          · split at h
            · cases h
            · injection h with h
              injection h with h1 h2
              exact this _ h1.symm
    · rename_i e
      rw [e]
      unfold readWords at h
      cases q : readText r with
      | none => rw [q] at h; cases h
      | some p =>
        rw [q] at h
        injection h with h
        injection h with h1 h2
        exact .text p.1 h1.symm (by rw [q, ← h2])
    · rename_i e; rw [e]; exact .list h
    · rename_i e; rw [e]; exact .record h
    · exfalso
      unfold readOctets at h
      split at h
      · cases h
      · injection h with h
        injection h with h1 h2
        rw [← h1] at ok
        unfold okV at ok
        rw [noBig, noOctets] at ok
        cases ok
    · exfalso
      unfold readWide at h
      split at h
      · cases h
      · split at h
        · cases h
        · split at h
          · injection h with h
            injection h with h1 h2
            rw [← h1] at ok
            unfold okV at ok
            rw [noBig, noOctets, noWide] at ok
            cases ok
          · cases h
    · cases h
theorem readRequest_some {B : Octets} {d : Nat} {l : List Value} (h : readRequest B = some (d, l)) : 3 ≤ B.length ∧ d = numOf (B.take 2) ∧ readMany (readF nestMost) (numOf ((B.drop 2).take 1)) (B.drop 3) = some (l, []) := by
  match B, h with
  | a :: b :: n :: r, h =>
    have h : (match readArgs n.toNat r with | none => none | some l => some (a.toNat + 256 * b.toNat, l)) = some (d, l) := h
    cases q : readArgs n.toNat r with
    | none => rw [q] at h; cases h
    | some l1 =>
      rw [q] at h
      have h : some (a.toNat + 256 * b.toNat, l1) = some (d, l) := h
      injection h with h
      injection h with h1 h2
      subst h2
      have q2 : readMany (readF nestMost) n.toNat r = some (l1, []) := by
        unfold readArgs at q
        split at q
        · rename_i e
          rw [e]
          injection q with q
          rw [q]
        · cases q
      refine ⟨by simp, ?_, ?_⟩
      · rw [← h1]
        show _ = a.toNat + 256 * (b.toNat + 256 * 0)
        omega
      · show readMany (readF nestMost) (n.toNat + 256 * 0) r = _
        rw [Nat.mul_zero, Nat.add_zero, q2]
theorem numOf_lt : ∀ l : Octets, numOf l < 256 ^ l.length
  | [] => by decide
  | a :: r => by
    have h := numOf_lt r
    have ha := a.toNat_lt
    show a.toNat + 256 * numOf r < 256 ^ (r.length + 1)
    rw [Nat.pow_succ]
    omega
end Sw
set_option Elab.async false
set_option linter.all false
set_option maxRecDepth 100000
set_option maxHeartbeats 4000000
/-! Separating words: requests are read. -/
namespace Sw
open PySem PySem.Spec PyProof.Rows L2
open RWire (numOf readF readMany readText)

theorem numOf_drop {W : List UInt8} {m j : Nat} (hl : W.length = m) (hj : j < m) : ∃ o, W[m - 1 - j]? = some o ∧ numOf (W.drop (m - (j + 1))) = o.toNat + 256 * numOf (W.drop (m - j)) := by
  have hi : m - 1 - j < W.length := by omega
  refine ⟨W[m - 1 - j], List.getElem?_eq_getElem hi, ?_⟩
  have e : m - (j + 1) = m - 1 - j := by omega
  have e2 : m - j = m - 1 - j + 1 := by omega
  rw [e, e2, List.drop_eq_getElem_cons hi]
  rfl

/-- a request that is being read -/
def ReqAt (K : PySem.W.Frag) (C : Addr) (H : Hp) (r oc : Addr) (B : List UInt8) (i : Nat) : Prop := ∃ dx, H r = some (.ins C dx [("octets", .ref oc), ("at", nv i)]) ∧ SqL K H oc (B.map ov)
section
variable {P : Program} {w : World} {K : PySem.W.Frag} {mg : Str → Option Value} {base : Heap} {A : Ad}
theorem ReqAt.move {C : Addr} {H H' : Hp} {r oc : Addr} {B : List UInt8} {i : Nat} (s : Same H H') (h : ReqAt K C H r oc B i) : ReqAt K C H' r oc B i := let ⟨dx, h1, h2⟩ := h; ⟨dx, s _ _ h1, s.seq h2⟩
theorem But.sqT {H H' : Hp} {r C dx : Addr} {fs : List (Str × V)} {a : Addr} {xs : List V} (b : But r H H') (hr : H r = some (.ins C dx fs)) (h : SqT K H a xs) : SqT K H' a xs := by
  rcases h with (h | ⟨ob, h⟩) | h
  · exact .inl (.inl (b _ _ h (ne_of h hr (fun z => by cases z))))
  · exact .inl (.inr ⟨ob, b _ _ h (ne_of h hr (fun z => by cases z))⟩)
  · exact .inr h
theorem But.sqL {H H' : Hp} {r C dx : Addr} {fs : List (Str × V)} {a : Addr} {xs : List V} (b : But r H H') (hr : H r = some (.ins C dx fs)) (h : SqL K H a xs) : SqL K H' a xs := by
  rcases h with (h | ⟨ob, h⟩) | h
  · exact .inl (.inl (b _ _ h (ne_of h hr (fun z => by cases z))))
  · exact .inl (.inr ⟨ob, b _ _ h (ne_of h hr (fun z => by cases z))⟩)
  · exact .inr h
theorem But.moves {H H' : Hp} {r C dx : Addr} {fs : List (Str × V)} {c : Addr → Prop} (b : But r H H') (hr : H r = some (.ins C dx fs)) : Moves c c K H H' :=
  ⟨fun h => b.sqT hr h, fun n h => ⟨n, b _ _ h (ne_of h hr (fun z => by cases z))⟩⟩

/-- Request(octets) -/
def spReq (C : Addr) : Sp := fun vs H Q _ => ∃ (r oc dx : Addr), vs = [.ref r, .ref oc] ∧ H r = some (.ins C dx []) ∧ ∀ H', But r H H' → H' r = some (.ins C dx [("octets", .ref oc), ("at", nv 0)]) → Q .non H'
theorem C_Request (T : Txt K mg A) : Mak P w K mg base 1 "Request" A.req (spReq A.req) := by
  refine mak_of T.d_Request sc_Request_init (fun vs H Q E h => ?_) (fun f cdv A2 outer s H vs Q E hr h => ?_)
  · obtain ⟨r, oc, dx, rfl, _⟩ := h
    rfl
  · obtain ⟨r, oc, dx, rfl, h0, k⟩ := h
    refine ⟨_, (pss_cons (ps_fld (pv 0) (pv 1) rfl)
      (pss_one (ps_fld (pv 0) pe_int rfl))), ?_⟩
    refine ⟨_, rfl, _, rfl, r, A.req, dx, [], rfl, h0, T.d_Request.cl, T.n_Request_octets, by decide, ?_⟩
    refine ⟨_, rfl, r, A.req, dx, _, rfl, upd_same, T.d_Request.cl, T.n_Request_at, (by show 1 < 1000; decide), ?_⟩
    refine k _ ?_ ?_
    · exact (But.refl r H).put.put
    · rw [upd_same]
      rfl

/-- self.number(many) -/
def spNumber (K : PySem.W.Frag) (C : Addr) : Sp := fun vs H Q _ => ∃ (r oc : Addr) (B : List UInt8) (i m : Nat), vs = [.ref r, nv m] ∧ ReqAt K C H r oc B i ∧ i + m ≤ B.length ∧ B.length ≤ 100000 ∧
  ∀ H', But r H H' → ReqAt K C H' r oc B (i + m) → Q (nv (numOf ((B.drop i).take m))) H'
theorem m_Request_number (T : Txt K mg A) : Met P w K mg base CX0 1 A.req "number" (spNumber K A.req) := by
  refine met_of T.d_Request.cl T.d_Request_number sc_Request_number (fun vs H Q E h => ?_) (fun f cdv A2 outer s H vs Q E hr h => ?_)
  · obtain ⟨r, oc, B, i, m, rfl, _⟩ := h
    rfl
  · obtain ⟨r, oc, B, i, m, rfl, ⟨dx, h0, hoc⟩, hle, hB, k⟩ := h
    refine ⟨_, (pss_cons (ps_set (i := 2) sc_Request_number.nd rfl (Or.inl rfl) pe_int)
      (pss_cons (ps_for PassesOwn.never rfl (pi_range1 rfl T.range (pa_cons (pv 1) pa_nil)) (pg_name (i := 3) sc_Request_number.nd rfl (Or.inl rfl))
       (pss_one (ps_set (i := 2) sc_Request_number.nd rfl (Or.inl rfl) (pe_op op_add (pe_op op_mul pe_int (pv 2)) (pe_ix (ixl K) (pe_fldK K (pv 0) rfl) (pe_op op_sub (pe_op op_sub (pe_op op_add (pe_fldK K (pv 0) rfl) (pv 1)) pe_int) (pv 3)) (fun _ _ => rfl))))))
      (pss_cons (ps_fldaug (pv 0) (pv 1) in_add)
      (pss_one (ps_ret (pv 2)))))), ?_⟩
    have hWl : ((B.drop i).take m).length = m := by rw [List.length_take, List.length_drop]; omega
    refine ⟨_, rfl, (m : Int), rfl, by omega, by omega, for_range (lo := 0) (n := (m : Int).toNat) (fun j σ H' => ∃ y, σ = [some (.ref r), some (nv m), some (nv (numOf (((B.drop i).take m).drop (m - j)))), y] ∧ H' = H) ⟨none, ?_, rfl⟩ ?_ ?_⟩
    · have : ((B.drop i).take m).drop (m - 0) = [] := List.drop_of_length_le (by omega)
      rw [this]
      rfl
    · rintro j σ H' hj ⟨y, rfl, rfl⟩
      obtain ⟨o, ho, en⟩ := numOf_drop hWl (by omega : j < m)
      have hBo : (B.map ov)[i + (m - 1 - j)]? = some (ov o) := by
        rw [List.getElem?_take_of_lt (by omega), List.getElem?_drop] at ho
        rw [List.getElem?_map, ho]
        rfl
      refine ⟨_, rfl, _, _, rfl, rfl, .inl (by decide), _, rfl, r, A.req, dx, _, _, rfl, h0, T.d_Request.cl, T.n_Request_octets, rfl, _, rfl, r, A.req, dx, _, _, rfl, h0, T.d_Request.cl, T.n_Request_at, rfl, _, rfl, _, _, rfl, rfl, _, _, rfl, rfl, _, rfl, _, _, rfl, rfl, oc, _, _, ov o, rfl, rfl, hoc, at_of (j := i + (m - 1 - j)) ?_ hBo, _, _, rfl, rfl, some (.int (0 + (j : Int))), ?_, rfl⟩
      · show ((i : Int) + (m : Int) - 1 - (0 + (j : Int))) = _
        omega
      · have e : V.int (256 * ((numOf (((B.drop i).take m).drop (m - j)) : Nat) : Int) + (o.toNat : Int)) = nv (numOf (((B.drop i).take m).drop (m - (j + 1)))) := by
          rw [en]
          show V.int _ = V.int _
          congr 1
          omega
        rw [← e]
        rfl
    · rintro σ H' ⟨y, rfl, rfl⟩
      have e : m - (m : Int).toNat = 0 := by omega
      rw [e, List.drop_zero]
      refine ⟨_, rfl, r, A.req, dx, _, _, rfl, h0, T.d_Request.cl, T.n_Request_at, rfl, _, rfl, _, _, rfl, rfl, dx, _, h0, (by show 2 < 1000; decide), ?_⟩
      refine ⟨_, rfl, k _ (But.refl r _).put ⟨dx, ?_, ?_⟩⟩
      · rw [upd_same]
        rfl
      · exact (But.refl r _).put.sqL h0 hoc

/-- self.plain() -/
def spPlain (K : PySem.W.Frag) (C : Addr) : Sp := fun vs H Q _ => ∃ (r oc : Addr) (B : List UInt8) (i : Nat) (u rest : List UInt8), vs = [.ref r] ∧ ReqAt K C H r oc B i ∧ i ≤ B.length ∧ B.length ≤ 100000 ∧ readText (B.drop i) = some (u, rest) ∧
  ∀ H' p, But r H H' → ReqAt K C H' r oc B (i + (4 + u.length)) → i + (4 + u.length) ≤ B.length → rest = B.drop (i + (4 + u.length)) → SqT K H' p (u.map ov) → Q (.ref p) H'
theorem m_Request_plain (T : Txt K mg A) : Met P w K mg base CX0 2 A.req "plain" (spPlain K A.req) := by
  have m_Request_number := m_Request_number (P := P) (w := w) (base := base) T
  refine met_of T.d_Request.cl T.d_Request_plain sc_Request_plain (fun vs H Q E h => ?_) (fun f cdv A2 outer s H vs Q E hr h => ?_)
  · obtain ⟨r, oc, B, i, u, rest, rfl, _⟩ := h
    rfl
  · obtain ⟨r, oc, B, i, u, rest, rfl, h0, hi, hB, ht, k⟩ := h
    refine ⟨_, (pss_cons (ps_set (i := 1) sc_Request_plain.nd rfl (Or.inl rfl) (pe_m m_Request_number hr (pv 0) (pa_cons pe_int pa_nil)))
      (pss_cons (ps_fldaug (pv 0) (pv 1) in_add)
      (pss_one (ps_ret (pe_callTy call_tuple_of rfl T.tuple (by decide +kernel) (pa_cons (pe_slice sl_list (pe_fldK K (pv 0) rfl) (po_some (pe_op op_sub (pe_fldK K (pv 0) rfl) (pv 1))) (po_some (pe_fldK K (pv 0) rfl))) pa_nil)))))), ?_⟩
    obtain ⟨t1, t2, t3, t4⟩ := readText_some ht
    rw [List.length_drop] at t1
    obtain ⟨dx, h0', hoc⟩ := id h0
    refine ⟨_, rfl, r, dx, _, rfl, h0', rfl, r, oc, B, i, 4, rfl, h0, by omega, hB, fun H1 b1 ⟨dx1, h1, hoc1⟩ => ?_⟩
    rw [← t2]
    refine ⟨_, rfl, r, A.req, dx1, _, _, rfl, h1, T.d_Request.cl, T.n_Request_at, rfl, _, rfl, _, _, rfl, rfl, dx1, _, h1, (by show 2 < 1000; decide), ?_⟩
    have b2 : But r H (upd H1 r (.ins A.req dx1 (putF "at" (.int (((i + 4 : Nat) : Int) + (u.length : Int))) [("octets", .ref oc), ("at", nv (i + 4))]))) := b1.put
    have h2 : (upd H1 r (.ins A.req dx1 (putF "at" (.int (((i + 4 : Nat) : Int) + (u.length : Int))) [("octets", .ref oc), ("at", nv (i + 4))]))) r = some (.ins A.req dx1 [("octets", .ref oc), ("at", nv (i + (4 + u.length)))]) := by
      rw [upd_same]
      have : V.int (((i + 4 : Nat) : Int) + (u.length : Int)) = nv (i + (4 + u.length)) := by show V.int _ = V.int _; congr 1; omega
      rw [this]
      rfl
    have hoc2 : SqL K (upd H1 r (.ins A.req dx1 (putF "at" (.int (((i + 4 : Nat) : Int) + (u.length : Int))) [("octets", .ref oc), ("at", nv (i + 4))]))) oc (B.map ov) := (But.refl r _).put.sqL h1 hoc1
    generalize upd H1 r (.ins A.req dx1 (putF "at" (.int (((i + 4 : Nat) : Int) + (u.length : Int))) [("octets", .ref oc), ("at", nv (i + 4))])) = H2 at b2 h2 hoc2
    have ec : cutV (B.map ov) (some (((i + (4 + u.length) : Nat) : Int) - (u.length : Int))) (some ((i + (4 + u.length) : Nat) : Int)) = u.map ov := by
      have a1 : ((i + (4 + u.length) : Nat) : Int) - (u.length : Int) = ((i + 4 : Nat) : Int) := by omega
      rw [a1, cutV_nat, ← List.map_drop, ← List.map_take]
      have a2 : i + (4 + u.length) - (i + 4) = u.length := by omega
      rw [a2, ← List.drop_drop, ← t3]
    refine ⟨_, rfl, r, A.req, dx1, _, _, rfl, h2, T.d_Request.cl, T.n_Request_octets, rfl, _, rfl, r, A.req, dx1, _, _, rfl, h2, T.d_Request.cl, T.n_Request_at, rfl, _, rfl, _, _, rfl, rfl, _, rfl,
      _, rfl, r, A.req, dx1, _, _, rfl, h2, T.d_Request.cl, T.n_Request_at, rfl, _, rfl, oc, _, rfl, hoc2, fun p hp => ⟨p, _, rfl, .inl ⟨SqL.of upd_same, fun l hl => ?_⟩⟩⟩
    have ec : cutV (B.map ov) (some (((i + (4 + u.length) : Nat) : Int) - (u.length : Int))) (some ((i + (4 + u.length) : Nat) : Int)) = u.map ov := ec
    rw [ec] at hl ⊢
    have s3 := ((Same.refl H2).new hp (o := .lst (u.map ov))).new hl (o := .tup (u.map ov))
    refine k _ l (b2.trans (But.of s3)) ⟨dx1, s3 _ _ h2, s3.seq hoc2⟩ (by omega) ?_ (SqT.of upd_same)
    rw [t4, List.drop_drop]
end
end Sw
set_option Elab.async false
set_option linter.all false
set_option maxRecDepth 100000
set_option maxHeartbeats 4000000
/-! Separating words: values of a request are read. -/
namespace Sw
open PySem PySem.Spec PyProof.Rows L2
open RWire (numOf readF readMany readText)

theorem drop_at {α : Type} {l : List α} {t : Nat} {a : α} {r : List α} (h : l.drop t = a :: r) : l[t]? = some a ∧ l.drop (t + 1) = r := by
  refine ⟨?_, ?_⟩
  · have := congrArg (·[0]?) h
    simpa using this
  · have := congrArg (List.drop 1) h
    rw [List.drop_drop] at this
    simpa using this
theorem But.put2 {a p : Addr} {H H1 : Hp} {o : HO} (x : But a H H1) (hp : H p = none) : But a H (upd H1 p o) := fun b u h n => by
  rw [upd_ne (ne_of_none h hp)]
  exact x b u h n
section
variable {P : Program} {w : World} {K : PySem.W.Frag} {mg : Str → Option Value} {base : Heap} {A : Ad}
/-- self.value() -/
def spValue (K : PySem.W.Frag) (C : Addr) (n : Nat) : Sp := fun vs H Q _ => ∃ (r oc : Addr) (B : List UInt8) (i : Nat) (v : RWire.Value) (rest : List UInt8), vs = [.ref r] ∧ ReqAt K C H r oc B i ∧ i ≤ B.length ∧ B.length ≤ 100000 ∧ readF n (B.drop i) = some (v, rest) ∧ okV v = true ∧
  ∀ H' x j, But r H H' → ReqAt K C H' r oc B j → i < j → j ≤ B.length → rest = B.drop j → ValAt NF K H' v x → Q x H'
theorem m_Request_value (T : Txt K mg A) : ∀ n : Nat, Met P w K mg base CX0 (n + 3) A.req "value" (spValue K A.req n)
  | 0 => met_of T.d_Request.cl T.d_Request_value sc_Request_value (fun vs H Q E h => by
      obtain ⟨r, oc, B, i, v, rest, rfl, _⟩ := h
      rfl) fun f cdv A2 outer s H vs Q E hr h => by
      obtain ⟨r, oc, B, i, v, rest, rfl, _, _, _, h, _⟩ := h
      cases h
  | n + 1 => by
    have m_Request_number := m_Request_number (P := P) (w := w) (base := base) T
    have m_Request_plain := m_Request_plain (P := P) (w := w) (base := base) T
    have m_Request_value := m_Request_value T n
    have c_integer := c_integer (P := P) (w := w) (base := base) T
    have c_integers := c_integers (P := P) (w := w) (base := base) T
    refine met_of T.d_Request.cl T.d_Request_value sc_Request_value (fun vs H Q E h => ?_) (fun f cdv A2 outer s H vs Q E hr h => ?_)
    · obtain ⟨r, oc, B, i, v, rest, rfl, _⟩ := h
      rfl
    · obtain ⟨r, oc, B, i, v, rest, rfl, h0, hi, hB, hread, ok, k⟩ := h
      refine ⟨_, (pss_cons (ps_set (i := 1) sc_Request_value.nd rfl (Or.inl rfl) (pe_m m_Request_number hr (pv 0) (pa_cons pe_int pa_nil)))
      (pss_cons (ps_if (pt_cmpR op_eq (pv 1) (pe_gi rfl T.INTEGER) (nomark _))
       (pss_cons (ps_set (i := 2) sc_Request_value.nd rfl (Or.inl rfl) (pe_m m_Request_number hr (pv 0) (pa_cons pe_int pa_nil)))
        (pss_one (ps_ret (pe_d c_integer hr rfl (pa_cons (pe_ifExp (pt_cmpR op_ge (pv 2) (pe_gi rfl T.HALF) (nomark _)) (pe_op op_sub (pv 2) (pe_gi rfl T.WORD)) (pv 2)) pa_nil)))))
       pss_nil)
      (pss_cons (ps_if (pt_cmpR op_eq (pv 1) (pe_gi rfl T.TEXT) (nomark _))
       (pss_one (ps_ret (pe_tup (pa_cons (pe_gi rfl T.TEXT) (pa_cons (pe_m0 m_Request_plain hr (pv 0)) pa_nil)))))
       pss_nil)
      (pss_cons (ps_if (pt_cmpR op_lt (pv 1) (pe_gi rfl T.INTEGER) (nomark _))
       (pss_one (ps_ret (pe_tup (pa_cons (pv 1) pa_nil))))
       pss_nil)
      (pss_cons (ps_if (pt_cmpR op_eq (pv 1) (pe_gi rfl T.OCTETS) (nomark _))
       (pss_one (ps_ret (pe_d c_integers hr rfl (pa_cons (pe_m0 m_Request_plain hr (pv 0)) pa_nil))))
       pss_nil)
      (pss_cons (ps_set (i := 3) sc_Request_value.nd rfl (Or.inl rfl) (pe_lst pa_nil))
      (pss_cons (ps_for PassesOwn.never rfl (pi_range1 rfl T.range (pa_cons (pe_m m_Request_number hr (pv 0) (pa_cons pe_int pa_nil)) pa_nil)) (pg_name (i := 4) sc_Request_value.nd rfl (Or.inl rfl))
       (pss_one (ps_if (pt_cmpR op_eq (pv 1) (pe_gi rfl T.RECORD) (nomark _))
         (pss_cons (ps_set (i := 5) sc_Request_value.nd rfl (Or.inl rfl) (pe_m0 m_Request_plain hr (pv 0)))
          (pss_one (ps_expr (pe_bm PySem.F.plainAttrs_list PySem.F.slot_list_append PySem.F.type_list_append mt_append (pv 3) (pa_cons (pe_tup (pa_cons (pv 5) (pa_cons (pe_m0 m_Request_value hr (pv 0)) pa_nil))) pa_nil)))))
         (pss_one (ps_expr (pe_bm PySem.F.plainAttrs_list PySem.F.slot_list_append PySem.F.type_list_append mt_append (pv 3) (pa_cons (pe_m0 m_Request_value hr (pv 0)) pa_nil)))))))
      (pss_one (ps_ret (pe_tup (pa_cons (pv 1) (pa_cons (pe_callTy call_tuple_of rfl T.tuple (by decide +kernel) (pa_cons (pv 3) pa_nil)) pa_nil)))))))))))), ?_⟩
      obtain ⟨m, kd, r1, em, eB, kinds⟩ := readF_some hread ok
      have em : n = m := by omega
      subst em
      obtain ⟨dx, h0', hoc⟩ := id h0
      obtain ⟨hkd, hr1⟩ := drop_at eB
      have hil : i < B.length := (List.getElem?_eq_some_iff.mp hkd).1
      have hk1 : numOf ((B.drop i).take 1) = kd.toNat := by
        rw [eB]
        show kd.toNat + 256 * 0 = _
        omega
      refine ⟨_, rfl, r, dx, _, rfl, h0', rfl, r, oc, B, i, 1, rfl, h0, by omega, hB, fun H1 b1 h1 => ?_⟩
      rw [hk1]
      obtain ⟨dx1, h1', hoc1⟩ := id h1
      subst hr1
      generalize kd.toNat = kn at kinds
      cases kinds with
      | nothing e1 e2 =>
        subst e1 e2
        refine ⟨_, rfl, rfl, _, rfl, iteF ⟨_, rfl, rfl, _, rfl, iteF ⟨_, rfl, _, _, rfl, rfl, _, rfl, iteT ⟨_, rfl, (by show 1 ≤ sizeLine; decide), fun p hp => k _ _ (i + 1) (b1.new hp) (h1.move ((Same.refl H1).new hp)) (by omega) (by omega) rfl ?_⟩⟩⟩⟩
        rw [ValAt]
        exact ⟨p, rfl, SqT.of upd_same⟩
      | null e1 e2 =>
        subst e1 e2
        refine ⟨_, rfl, rfl, _, rfl, iteF ⟨_, rfl, rfl, _, rfl, iteF ⟨_, rfl, _, _, rfl, rfl, _, rfl, iteT ⟨_, rfl, (by show 1 ≤ sizeLine; decide), fun p hp => k _ _ (i + 1) (b1.new hp) (h1.move ((Same.refl H1).new hp)) (by omega) (by omega) rfl ?_⟩⟩⟩⟩
        rw [ValAt]
        exact ⟨p, rfl, SqT.of upd_same⟩
      | no e1 e2 =>
        subst e1 e2
        refine ⟨_, rfl, rfl, _, rfl, iteF ⟨_, rfl, rfl, _, rfl, iteF ⟨_, rfl, _, _, rfl, rfl, _, rfl, iteT ⟨_, rfl, (by show 1 ≤ sizeLine; decide), fun p hp => k _ _ (i + 1) (b1.new hp) (h1.move ((Same.refl H1).new hp)) (by omega) (by omega) rfl ?_⟩⟩⟩⟩
        rw [ValAt]
        exact ⟨p, rfl, SqT.of upd_same⟩
      | yes e1 e2 =>
        subst e1 e2
        refine ⟨_, rfl, rfl, _, rfl, iteF ⟨_, rfl, rfl, _, rfl, iteF ⟨_, rfl, _, _, rfl, rfl, _, rfl, iteT ⟨_, rfl, (by show 1 ≤ sizeLine; decide), fun p hp => k _ _ (i + 1) (b1.new hp) (h1.move ((Same.refl H1).new hp)) (by omega) (by omega) rfl ?_⟩⟩⟩⟩
        rw [ValAt]
        exact ⟨p, rfl, SqT.of upd_same⟩
      | int h =>
        obtain ⟨g1, rfl, rfl, g4⟩ := readInt_some h
        rw [List.length_drop] at g1
        refine ⟨_, rfl, rfl, _, rfl, iteT ?_⟩
        refine ⟨_, rfl, r, dx1, _, rfl, h1', rfl, r, oc, B, i + 1, 8, rfl, h1, by omega, hB, fun H2 b2 h2 => ?_⟩
        have fin : ∀ (z : Int), z = RWire.intOf (numOf ((B.drop (i + 1)).take 8)) → ∀ (H' : Hp) (p : Addr), Same H2 H' → ValAt NF K H' (.int z) (.ref p) → Q (.ref p) H' := fun z ez H' p s' hv => by
          subst ez
          refine k H' _ (i + 1 + 8) ((b1.trans b2).trans (But.of s')) (h2.move s') (by omega) (by omega) ?_ hv
          rw [List.drop_drop]
        generalize numOf ((B.drop (i + 1)).take 8) = N at fin
        unfold RWire.intOf at fin
        refine ⟨_, rfl, _, _, rfl, rfl, _, rfl, ?_⟩
        refine ite2 (fun hc => ?_) (fun hc => ?_)
        · have hc := of_decide_eq_true hc
          refine ⟨_, rfl, _, _, rfl, rfl, _, rfl, fun H' p s' hv => fin _ ?_ H' p s' hv⟩
          rw [if_neg (by rw [decide_eq_true_eq]; omega)]
          rfl
        · have hc := of_decide_eq_false (Bool.eq_false_iff.mpr hc)
          refine ⟨_, rfl, _, rfl, fun H' p s' hv => fin _ ?_ H' p s' hv⟩
          rw [if_pos (by rw [decide_eq_true_eq]; omega)]
          rfl
      | text u e1 h =>
        subst e1
        refine ⟨_, rfl, rfl, _, rfl, iteF ⟨_, rfl, rfl, _, rfl, iteT ?_⟩⟩
        refine ⟨_, rfl, r, dx1, _, rfl, h1', rfl, r, oc, B, i + 1, u, rest, rfl, h1, by omega, hB, h, fun H2 c b2 h2 hle2 hrest hc => ⟨(by show 2 ≤ sizeLine; decide), fun p hp => ?_⟩⟩
        have s3 := (Same.refl H2).new hp (o := .tup [.int 6, .ref c])
        refine k _ _ (i + 1 + (4 + u.length)) ((b1.trans b2).new hp) (h2.move s3) (by omega) hle2 hrest ?_
        rw [ValAt]
        exact ⟨p, c, rfl, SqT.of upd_same, .inl (s3.tup hc)⟩
      | list h =>
        obtain ⟨l, g1, rfl, g3⟩ := readList_some h
        rw [List.length_drop] at g1
        rw [List.drop_drop] at g3
        have hlen := readMany_len g3
        have hoks := okV_list ok
        refine ⟨_, rfl, rfl, _, rfl, iteF ⟨_, rfl, rfl, _, rfl, iteF ⟨_, rfl, _, _, rfl, rfl, _, rfl, iteF ⟨_, rfl, rfl, _, rfl, iteF ⟨Nat.zero_le _, fun L hL => ?_⟩⟩⟩⟩⟩
        have nLr : L ≠ r := fun e => by
          rw [e, h1'] at hL
          cases hL
        have hL0 : H L = none := by
          cases q : H L with
          | none => rfl
          | some o => rw [b1 _ _ q nLr] at hL; cases hL
        have s2 : Same H1 (upd H1 L (.lst [])) := (Same.refl H1).new hL
        have hL2 : (upd H1 L (.lst [])) L = some (.lst []) := upd_same
        generalize upd H1 L (.lst []) = H2 at s2 hL2
        refine ⟨_, rfl, r, dx1, _, rfl, s2 _ _ h1', rfl, r, oc, B, i + 1, 4, rfl, h1.move s2, by omega, hB, fun H3 b3 h3 => ?_⟩
        have hN := numOf_lt ((B.drop (i + 1)).take 4)
        have hN2 : ((B.drop (i + 1)).take 4).length = 4 := by rw [List.length_take, List.length_drop]; omega
        rw [hN2] at hN
        generalize numOf ((B.drop (i + 1)).take 4) = N at g3 hN hlen
        have hlen : l.length = N := hlen
        have hN : N < 4294967296 := hN
        refine ⟨(N : Int), rfl, by omega, by omega, for_range (lo := 0) (n := (N : Int).toNat) (fun t σ H' => ∃ (y5 y6 : Option V) (j : Nat) (vs : List V), σ = [some (.ref r), some (nv 7), none, some (.ref L), y5, y6] ∧ But r H H' ∧ ReqAt K A.req H' r oc B j ∧ i + 1 + t ≤ j ∧ j ≤ B.length ∧ H' L = some (.lst vs) ∧
            ValsAt NF K H' (l.take t) vs ∧ readMany (readF n) (N - t) (B.drop j) = some (l.drop t, rest))
          ⟨none, none, i + 1 + 4, [], rfl, (b1.trans (But.of s2)).trans b3, h3, by omega, by omega, b3 _ _ hL2 nLr, ?_, g3⟩ ?_ ?_⟩
        · rw [List.take_zero, ValsAt]
        · rintro t σ H4 ht ⟨y5, y6, j, vs, rfl, b4, h4, hij, hjB, hL4, hvs, hrm⟩
          have eN : N - t = (N - (t + 1)) + 1 := by omega
          rw [eN] at hrm
          obtain ⟨a, r', l', ha, hrest, hl'⟩ := readMany_cons hrm
          obtain ⟨hla, hld⟩ := drop_at (show l.drop t = a :: l' from hl')
          have htl : t < l.length := (List.getElem?_eq_some_iff.mp hla).1
          have hvl : vs.length = t := by
            rw [hvs.length, List.length_take]
            omega
          obtain ⟨dx4, h4', hoc4⟩ := id h4
          refine ⟨_, rfl, rfl, _, rfl, iteF ?_⟩
          refine ⟨_, rfl, .inl ⟨rfl, _, SqL.of hL4⟩, _, rfl, r, dx4, _, rfl, h4', rfl, r, oc, B, j, a, r', rfl, h4, hjB, hB, ha, okMany_at hoks (List.mem_of_getElem? hla), fun H5 x j' b5 h5 hjj hjB' hr' hx => ?_⟩
          have hL5 := b5 _ _ hL4 nLr
          have mv : Moves NF NF K H5 (upd H5 L (.lst (vs ++ [x]))) := Moves.put hL5 fun _ z => z.elim
          obtain ⟨dx5, h5', hoc5⟩ := id h5
          have b6 : But r H (upd H5 L (.lst (vs ++ [x]))) := (b4.trans b5).put2 hL0
          refine ⟨L, vs, x, rfl, rfl, hL5, small_lt (by omega), _, _, j', _, rfl, b6, ⟨dx5, ?_, b6.sqL h0' hoc⟩, by omega, hjB', upd_same, ?_, ?_⟩
          · rw [upd_ne (fun z => nLr z.symm)]
            exact h5'
          · rw [take_more hla]
            exact (ValsAt.move mv _ _ (ValsAt.move (b5.moves h4') _ _ hvs)).snoc (ValAt.move mv _ _ hx)
          · rw [hld, ← hr']
            exact hrest
        · rintro σ H4 ⟨y5, y6, j, vs, rfl, b4, h4, hij, hjB, hL4, hvs, hrm⟩
          have e0 : (N : Int).toNat = N := by omega
          rw [e0] at hvs hrm hij
          rw [Nat.sub_self] at hrm
          have hrest : rest = B.drop j := by
            have : some (([] : List _), B.drop j) = some (l.drop N, rest) := hrm
            injection this with this
            injection this with _ e
            exact e.symm
          rw [← hlen, List.take_length] at hvs
          refine ⟨_, rfl, _, rfl, L, _, rfl, .inl ⟨SqL.of hL4, fun c hc => ⟨(by show 2 ≤ sizeLine; decide), fun p hp => ?_⟩⟩⟩
          have s5 := ((Same.refl H4).new hc (o := .tup vs)).new hp (o := .tup [nv 7, .ref c])
          refine k _ _ j ((b4.new hc).new hp) (h4.move s5) (by omega) hjB hrest ?_
          rw [ValAt]
          exact ⟨p, c, vs, rfl, SqT.of upd_same, ((Same.refl _).new hp).tup (SqT.of upd_same), hvs.same s5⟩
      | record h =>
        obtain ⟨l, g1, rfl, g3⟩ := readRecord_some h
        rw [List.length_drop] at g1
        rw [List.drop_drop] at g3
        have hlen := readMany_len g3
        have hoks := okV_record ok
        refine ⟨_, rfl, rfl, _, rfl, iteF ⟨_, rfl, rfl, _, rfl, iteF ⟨_, rfl, _, _, rfl, rfl, _, rfl, iteF ⟨_, rfl, rfl, _, rfl, iteF ⟨Nat.zero_le _, fun L hL => ?_⟩⟩⟩⟩⟩
        have nLr : L ≠ r := fun e => by
          rw [e, h1'] at hL
          cases hL
        have hL0 : H L = none := by
          cases q : H L with
          | none => rfl
          | some o => rw [b1 _ _ q nLr] at hL; cases hL
        have s2 : Same H1 (upd H1 L (.lst [])) := (Same.refl H1).new hL
        have hL2 : (upd H1 L (.lst [])) L = some (.lst []) := upd_same
        generalize upd H1 L (.lst []) = H2 at s2 hL2
        refine ⟨_, rfl, r, dx1, _, rfl, s2 _ _ h1', rfl, r, oc, B, i + 1, 4, rfl, h1.move s2, by omega, hB, fun H3 b3 h3 => ?_⟩
        have hN := numOf_lt ((B.drop (i + 1)).take 4)
        have hN2 : ((B.drop (i + 1)).take 4).length = 4 := by rw [List.length_take, List.length_drop]; omega
        rw [hN2] at hN
        generalize numOf ((B.drop (i + 1)).take 4) = N at g3 hN hlen
        have hlen : l.length = N := hlen
        have hN : N < 4294967296 := hN
        refine ⟨(N : Int), rfl, by omega, by omega, for_range (lo := 0) (n := (N : Int).toNat) (fun t σ H' => ∃ (y5 y6 : Option V) (j : Nat) (vs : List V), σ = [some (.ref r), some (nv 8), none, some (.ref L), y5, y6] ∧ But r H H' ∧ ReqAt K A.req H' r oc B j ∧ i + 1 + t ≤ j ∧ j ≤ B.length ∧ H' L = some (.lst vs) ∧
            EntsAt NF K H' (l.take t) vs ∧ readMany (RWire.readEntry (readF n)) (N - t) (B.drop j) = some (l.drop t, rest))
          ⟨none, none, i + 1 + 4, [], rfl, (b1.trans (But.of s2)).trans b3, h3, by omega, by omega, b3 _ _ hL2 nLr, ?_, g3⟩ ?_ ?_⟩
        · rw [List.take_zero, EntsAt]
        · rintro t σ H4 ht ⟨y5, y6, j, vs, rfl, b4, h4, hij, hjB, hL4, hvs, hrm⟩
          have eN : N - t = (N - (t + 1)) + 1 := by omega
          rw [eN] at hrm
          obtain ⟨a, r', l', ha, hrest, hl'⟩ := readMany_cons hrm
          obtain ⟨hla, hld⟩ := drop_at (show l.drop t = a :: l' from hl')
          have htl : t < l.length := (List.getElem?_eq_some_iff.mp hla).1
          have hvl : vs.length = t := by
            rw [hvs.length, List.length_take]
            omega
          obtain ⟨dx4, h4', hoc4⟩ := id h4
          obtain ⟨r1, ht1, hf1⟩ := readEntry_some (e := a) ha
          refine ⟨_, rfl, rfl, _, rfl, iteT ?_⟩
          refine ⟨_, rfl, r, dx4, _, rfl, h4', rfl, r, oc, B, j, a.1, r1, rfl, h4, hjB, hB, ht1, fun H5 c b5 h5 hle5 hr1 hc => ?_⟩
          obtain ⟨dx5, h5', hoc5⟩ := id h5
          have hL5 := b5 _ _ hL4 nLr
          rw [hr1] at hf1
          refine ⟨_, rfl, .inl ⟨rfl, _, SqL.of hL5⟩, _, rfl, _, rfl, r, dx5, _, rfl, h5', rfl, r, oc, B, _, a.2, r', rfl, h5, hle5, hB, hf1, okEnts_at hoks (List.mem_of_getElem? hla), fun H6 x j' b6 h6 hjj hjB' hr' hx => ⟨(by show 2 ≤ sizeLine; decide), fun p hp => ?_⟩⟩
          have s7 : Same H6 (upd H6 p (.tup [.ref c, x])) := (Same.refl H6).new hp
          have hL7 := s7 _ _ (b6 _ _ hL5 nLr)
          have mv : Moves NF NF K (upd H6 p (.tup [.ref c, x])) (upd (upd H6 p (.tup [.ref c, x])) L (.lst (vs ++ [.ref p]))) := Moves.put hL7 fun _ z => z.elim
          obtain ⟨dx6, h6', hoc6⟩ := id h6
          have b7 : But r H (upd (upd H6 p (.tup [.ref c, x])) L (.lst (vs ++ [.ref p]))) := (((b4.trans b5).trans b6).new hp).put2 hL0
          refine ⟨L, vs, .ref p, rfl, rfl, hL7, small_lt (by omega), _, _, j', _, rfl, b7, ⟨dx6, ?_, b7.sqL h0' hoc⟩, by omega, hjB', upd_same, ?_, ?_⟩
          · rw [upd_ne (fun z => nLr z.symm)]
            exact s7 _ _ h6'
          · rw [take_more hla]
            exact (EntsAt.move mv _ _ (EntsAt.same s7 (EntsAt.move (b6.moves h5') _ _ (EntsAt.move (b5.moves h4') _ _ hvs)))).snoc (mv.tup (SqT.of upd_same)) (mv.tup (s7.tup (b6.sqT h5' hc))) (ValAt.move mv _ _ (hx.same s7))
          · rw [hld, ← hr']
            exact hrest
        · rintro σ H4 ⟨y5, y6, j, vs, rfl, b4, h4, hij, hjB, hL4, hvs, hrm⟩
          have e0 : (N : Int).toNat = N := by omega
          rw [e0] at hvs hrm hij
          rw [Nat.sub_self] at hrm
          have hrest : rest = B.drop j := by
            have : some (([] : List _), B.drop j) = some (l.drop N, rest) := hrm
            injection this with this
            injection this with _ e
            exact e.symm
          rw [← hlen, List.take_length] at hvs
          refine ⟨_, rfl, _, rfl, L, _, rfl, .inl ⟨SqL.of hL4, fun c hc => ⟨(by show 2 ≤ sizeLine; decide), fun p hp => ?_⟩⟩⟩
          have s5 := ((Same.refl H4).new hc (o := .tup vs)).new hp (o := .tup [nv 8, .ref c])
          refine k _ _ j ((b4.new hc).new hp) (h4.move s5) (by omega) hjB hrest ?_
          rw [ValAt]
          exact ⟨p, c, vs, rfl, SqT.of upd_same, ((Same.refl _).new hp).tup (SqT.of upd_same), hvs.same s5⟩
end
end Sw
set_option Elab.async false
set_option linter.all false
set_option maxRecDepth 100000
set_option maxHeartbeats 4000000
/-! Separating words: a request is read. -/
namespace Sw
open PySem PySem.Spec PyProof.Rows L2
open RWire (numOf readF readMany readText)
section
variable {P : Program} {w : World} {K : PySem.W.Frag} {mg : Str → Option Value} {base : Heap} {A : Ad}
/-- self.whole() -/
def spWhole (K : PySem.W.Frag) (C : Addr) : Sp := fun vs H Q _ => ∃ (r oc : Addr) (B : List UInt8) (d : Nat) (l : List RWire.Value), vs = [.ref r] ∧ ReqAt K C H r oc B 0 ∧ B.length ≤ 100000 ∧ RWire.readRequest B = some (d, l) ∧ okMany l = true ∧
  ∀ H' t D vs, But r H H' → SqT K H' t [nv d, .ref D] → H D = none → H' D = some (.lst vs) → ValsAt NF K H' l vs → Q (.ref t) H'
theorem m_Request_whole (T : Txt K mg A) : Met P w K mg base CX0 36 A.req "whole" (spWhole K A.req) := by
  have m_Request_number := m_Request_number (P := P) (w := w) (base := base) T
  have m_Request_value := m_Request_value (P := P) (w := w) (base := base) T 32
  refine met_of T.d_Request.cl T.d_Request_whole sc_Request_whole (fun vs H Q E h => ?_) (fun f cdv A2 outer s H vs Q E hr h => ?_)
  · obtain ⟨r, oc, B, d, l, rfl, _⟩ := h
    rfl
  · obtain ⟨r, oc, B, d, l, rfl, h0, hB, hread, ok, k⟩ := h
    refine ⟨_, (pss_cons (ps_set (i := 1) sc_Request_whole.nd rfl (Or.inl rfl) (pe_m m_Request_number hr (pv 0) (pa_cons pe_int pa_nil)))
      (pss_one (ps_ret (pe_tup (pa_cons (pv 1) (pa_cons (pe_lc (own := [("turn", 2)]) (g := (gName 2)) (tt := tYes) rfl sc_Request_whole.nd (pi_range1 rfl T.range (pa_cons (pe_m m_Request_number hr (pv 0) (pa_cons pe_int pa_nil)) pa_nil)) (blkOk_by (own := [("turn", 2)]) (N := ["self", "door", "turn"]) (sc := defScope s_Request_whole) (by decide +kernel)) (fun _ _ _ _ _ => pg_name (i := 2) sc_Request_whole.nd rfl (Or.inl rfl)) (fun _ _ _ _ _ => pts_nil) (fun _ _ _ _ _ => (pe_m0 m_Request_value hr (pv 0)))) pa_nil)))))), ?_⟩
    obtain ⟨g1, hd, g3⟩ := readRequest_some hread
    have hlen := readMany_len g3
    obtain ⟨dx, h0', hoc⟩ := id h0
    refine ⟨_, rfl, r, dx, _, rfl, h0', rfl, r, oc, B, 0, 2, rfl, h0, by omega, hB, fun H1 b1 h1 => ?_⟩
    rw [List.drop_zero, ← hd]
    obtain ⟨dx1, h1', hoc1⟩ := id h1
    refine ⟨_, rfl, _, rfl, r, dx1, _, rfl, h1', rfl, r, oc, B, 0 + 2, 1, rfl, h1, by omega, hB, fun H2 b2 h2 => ?_⟩
    obtain ⟨dx2, h2', hoc2⟩ := id h2
    have hN := numOf_lt ((B.drop 2).take 1)
    have hN2 : ((B.drop 2).take 1).length = 1 := by rw [List.length_take, List.length_drop]; omega
    rw [hN2] at hN
    rw [Nat.zero_add] at h2 ⊢
    generalize numOf ((B.drop 2).take 1) = N at g3 hN hlen
    have hlen : l.length = N := hlen
    have hN : N < 256 := hN
    refine ⟨(N : Int), rfl, by omega, by omega, fun D hD => ?_⟩
    have nDr : D ≠ r := fun e => by
      rw [e, h2'] at hD
      cases hD
    have hD0 : H D = none := by
      cases q : H D with
      | none => rfl
      | some o => rw [(b1.trans b2) _ _ q nDr] at hD; cases hD
    have s3 : Same H2 (upd H2 D (.lst [])) := (Same.refl H2).new hD
    refine lc_range (lo := 0) (n := (N : Int).toNat) (fun t H' => ∃ (j : Nat) (vs : List V), But r H H' ∧ ReqAt K A.req H' r oc B j ∧ j ≤ B.length ∧ H' D = some (.lst vs) ∧ ValsAt NF K H' (l.take t) vs ∧ readMany (readF 32) (N - t) (B.drop j) = some (l.drop t, []))
      ⟨3, [], (b1.trans b2).new hD, h2.move s3, by omega, upd_same, by rw [List.take_zero, ValsAt], g3⟩ ?_ ?_
    · rintro t H4 ht ⟨j, vs, b4, h4, hjB, hD4, hvs, hrm⟩
      have eN : N - t = (N - (t + 1)) + 1 := by omega
      rw [eN] at hrm
      obtain ⟨a, r', l', ha, hrest, hl'⟩ := readMany_cons hrm
      obtain ⟨hla, hld⟩ := drop_at (show l.drop t = a :: l' from hl')
      have hvl : vs.length = t := by
        rw [hvs.length, List.length_take]
        omega
      obtain ⟨dx4, h4', hoc4⟩ := id h4
      refine ⟨rfl, _, rfl, r, dx4, _, rfl, h4', rfl, r, oc, B, j, a, r', rfl, h4, hjB, hB, ha, okMany_at ok (List.mem_of_getElem? hla), fun H5 x j' b5 h5 hjj hjB' hr' hx => ?_⟩
      have hD5 := b5 _ _ hD4 nDr
      have mv : Moves NF NF K H5 (upd H5 D (.lst (vs ++ [x]))) := Moves.put hD5 fun _ z => z.elim
      obtain ⟨dx5, h5', hoc5⟩ := id h5
      have b6 : But r H (upd H5 D (.lst (vs ++ [x]))) := (b4.trans b5).put2 hD0
      refine ⟨vs, hD5, small_lt (by omega), j', _, b6, ⟨dx5, ?_, b6.sqL h0' hoc⟩, hjB', upd_same, ?_, ?_⟩
      · rw [upd_ne (fun z => nDr z.symm)]
        exact h5'
      · rw [take_more hla]
        exact (ValsAt.move mv _ _ (ValsAt.move (b5.moves h4') _ _ hvs)).snoc (ValAt.move mv _ _ hx)
      · rw [hld, ← hr']
        exact hrest
    · rintro H4 ⟨j, vs, b4, h4, hjB, hD4, hvs, hrm⟩
      have e0 : (N : Int).toNat = N := by omega
      rw [e0, ← hlen, List.take_length] at hvs
      refine ⟨(by show 2 ≤ sizeLine; decide), fun p hp => ?_⟩
      have s5 := (Same.refl H4).new hp (o := .tup [nv d, .ref D])
      exact k _ p D vs (b4.new hp) (SqT.of upd_same) hD0 (s5 _ _ hD4) (hvs.same s5)
end
end Sw
/-! Separating words: arguments: what the program reads of a value, and what the specification reads: plain. -/
namespace Sw
open R7291g.Spec Rust

theorem takenAll_map : ∀ l : List RWire.Value, takenAll l = l.map taken
  | [] => rfl
  | v :: r => by rw [takenAll, takenAll_map r, List.map_cons]
/-- an integer in some bounds -/
def isInt (v : RWire.Value) (lo hi : Int) : Bool := match v with
  | .int i => decide (lo ≤ i) && decide (i ≤ hi)
  | _ => false
def intV (v : RWire.Value) : Int := match v with
  | .int i => i
  | _ => 0
theorem integer_taken (v : RWire.Value) : integerValue (taken v) = match v with | .int i => some i | _ => none := by
  cases v <;> rw [taken] <;> rfl
theorem inRange_taken (v : RWire.Value) (a b : Nat) : integerInRange a b (taken v) = if isInt v a b = true then some (intV v).toNat else none := by
  unfold integerInRange
  rw [integer_taken]
  cases v with
  | int i =>
    show (if Int.ofNat a ≤ i ∧ i ≤ Int.ofNat b then some i.toNat else none) = if (decide ((a : Int) ≤ i) && decide (i ≤ (b : Int))) = true then some i.toNat else none
    by_cases h1 : (a : Int) ≤ i <;> by_cases h2 : i ≤ (b : Int) <;> simp [h1, h2]
  | _ => rfl
theorem readInteger_taken (name : String) (a b : Nat) (v : RWire.Value) : readInteger name a b (taken v) = if isInt v a b = true then .ok (intV v).toNat else rangeFailure (name ++ " must be an integer from " ++ toString a ++ " to " ++ toString b) := by
  unfold readInteger
  rw [inRange_taken]
  by_cases h : isInt v a b = true
  · rw [if_pos h, if_pos h]
  · rw [if_neg h, if_neg h]
theorem isInt_nat {v : RWire.Value} {a b : Nat} (h : isInt v a b = true) : ∃ n : Nat, v = .int (n : Int) ∧ a ≤ n ∧ n ≤ b ∧ (intV v).toNat = n := by
  cases v with
  | int i =>
    have h : (decide ((a : Int) ≤ i) && decide (i ≤ (b : Int))) = true := h
    rw [Bool.and_eq_true, decide_eq_true_eq, decide_eq_true_eq] at h
    have e : ((i.toNat : Nat) : Int) = i := by omega
    exact ⟨i.toNat, by rw [e], by omega, by omega, rfl⟩
  | nothing => cases h
  | null => cases h
  | bool _ => cases h
  | big _ => cases h
  | text _ => cases h
  | octets _ => cases h
  | wide _ => cases h
  | list _ => cases h
  | record _ => cases h

/-! ### letters -/
def isL (o : UInt8) : Bool := o.toNat == 97 || o.toNat == 98
theorem unit_nat (o : UInt8) : (unitOf o).toNat = o.toNat := by
  unfold unitOf
  have := o.toNat_lt
  simp
theorem unit_letter (o : UInt8) : isLetterUnit (unitOf o) = isL o := by
  unfold isLetterUnit isL
  rw [unit_nat]
/-- the number of a letter -/
def letV (v : RWire.Value) : Option Nat := match v with
  | .text [o] => if isL o = true then some (o.toNat - 97) else none
  | _ => none
theorem letter_taken {v : RWire.Value} (ok : okV v = true) : parseLetter (taken v) = letV v := by
  cases v with
  | text u =>
    rw [taken]
    match u with
    | [] => rfl
    | [o] =>
      show (if isLetterUnit (unitOf o) = true then some ((unitOf o).toNat - 97) else none) = if isL o = true then some (o.toNat - 97) else none
      rw [unit_letter, unit_nat]
    | _ :: _ :: _ => rfl
  | wide u =>
    unfold okV at ok
    rw [RWire.noBig, RWire.noOctets, RWire.noWide] at ok
    cases ok
  | nothing => rw [taken]; rfl
  | null => rw [taken]; rfl
  | bool _ => rw [taken]; rfl
  | big _ => rw [taken]; rfl
  | int _ => rw [taken]; rfl
  | octets _ => rw [taken]; rfl
  | list _ => rw [taken]; rfl
  | record _ => rw [taken]; rfl
/-- a word -/
def wordV (v : RWire.Value) : Option (List Nat) := match v with
  | .text u => if (decide (u.length ≤ 12) && u.all isL) = true then some (u.map fun o => o.toNat - 97) else none
  | _ => none
theorem word_taken {v : RWire.Value} (ok : okV v = true) (name : String) : readWord name (taken v) = match wordV v with | some w => .ok w | none => typeFailure (name ++ " must be a text of 0 to 12 letters") := by
  cases v with
  | text u =>
    rw [taken]
    show (if (u.map unitOf).length ≤ 12 ∧ (u.map unitOf).all isLetterUnit = true then _ else _) = _
    have e1 : (u.map unitOf).all isLetterUnit = u.all isL := by
      rw [List.all_map]
      congr 1
      funext o
      exact unit_letter o
    have e2 : (u.map unitOf).map (fun c => c.toNat - 97) = u.map fun o => o.toNat - 97 := by
      rw [List.map_map]
      refine List.map_congr_left fun o _ => ?_
      show (unitOf o).toNat - 97 = _
      rw [unit_nat]
    rw [List.length_map, e1, e2]
    unfold wordV
    by_cases h : u.length ≤ 12 ∧ u.all isL = true
    · rw [if_pos h]
      simp only [h.1, h.2, decide_true, Bool.and_self, if_true]
    · rw [if_neg h]
      have : ¬ (decide (u.length ≤ 12) && u.all isL) = true := by
        rw [Bool.and_eq_true, decide_eq_true_eq]
        exact h
      simp only [this, if_false]
      rfl
  | wide u =>
    unfold okV at ok
    rw [RWire.noBig, RWire.noOctets, RWire.noWide] at ok
    cases ok
  | nothing => rw [taken]; rfl
  | null => rw [taken]; rfl
  | bool _ => rw [taken]; rfl
  | big _ => rw [taken]; rfl
  | int _ => rw [taken]; rfl
  | octets _ => rw [taken]; rfl
  | list _ => rw [taken]; rfl
  | record _ => rw [taken]; rfl
theorem wordV_is {v : RWire.Value} {w : List Nat} (h : wordV v = some w) : w.length ≤ 12 ∧ ∀ l ∈ w, l < 2 := by
  cases v with
  | text u =>
    unfold wordV at h
    simp only at h
    by_cases hc : (decide (u.length ≤ 12) && u.all isL) = true
    · rw [if_pos hc] at h
      injection h with h
      rw [Bool.and_eq_true, decide_eq_true_eq] at hc
      subst h
      refine ⟨by rw [List.length_map]; exact hc.1, fun l hl => ?_⟩
      obtain ⟨o, ho, rfl⟩ := List.mem_map.mp hl
      have := List.all_eq_true.mp hc.2 o ho
      unfold isL at this
      rw [Bool.or_eq_true, beq_iff_eq, beq_iff_eq] at this
      omega
    · rw [if_neg hc] at h
      cases h
  | nothing => cases h
  | null => cases h
  | bool _ => cases h
  | big _ => cases h
  | int _ => cases h
  | octets _ => cases h
  | wide _ => cases h
  | list _ => cases h
  | record _ => cases h

/-! ### tables -/
def stV (n : Nat) (v : RWire.Value) : Option (Nat × Nat) := match v with
  | .list [a, b] => if (isInt a 0 ((n : Int) - 1) && isInt b 0 ((n : Int) - 1)) = true then some ((intV a).toNat, (intV b).toNat) else none
  | _ => none
theorem state_taken {v : RWire.Value} (ok : okV v = true) {n : Nat} (hn : 1 ≤ n) : parseState n (taken v) = stV n v := by
  have e : ((n - 1 : Nat) : Int) = (n : Int) - 1 := by omega
  cases v with
  | list l =>
    rw [taken]
    match l with
    | [] => rw [takenAll]; rfl
    | [a] => rw [takenAll, takenAll]; rfl
    | [a, b] =>
      rw [takenAll, takenAll, takenAll]
      show ((integerInRange 0 (n - 1) (taken a)).bind fun i => (integerInRange 0 (n - 1) (taken b)).map fun j => (i, j)) = if (isInt a 0 ((n : Int) - 1) && isInt b 0 ((n : Int) - 1)) = true then some ((intV a).toNat, (intV b).toNat) else none
      rw [inRange_taken, inRange_taken, e]
      show ((if isInt a 0 ((n : Int) - 1) = true then some (intV a).toNat else none).bind fun i => (if isInt b 0 ((n : Int) - 1) = true then some (intV b).toNat else none).map fun j => (i, j)) = _
      cases h1 : isInt a 0 ((n : Int) - 1) <;> cases h2 : isInt b 0 ((n : Int) - 1) <;> rfl
    | a :: b :: c :: r => rw [takenAll, takenAll, takenAll]; rfl
  | octets u =>
    unfold okV at ok
    rw [RWire.noBig, RWire.noOctets] at ok
    cases ok
  | wide u => rw [taken]; rfl
  | text _ => rw [taken]; rfl
  | nothing => rw [taken]; rfl
  | null => rw [taken]; rfl
  | bool _ => rw [taken]; rfl
  | big _ => rw [taken]; rfl
  | int _ => rw [taken]; rfl
  | record _ => rw [taken]; rfl
/-- read so far -/
inductive RdSo (f : Plain → Option (Nat × Nat)) : List Plain → List (Nat × Nat) → Prop
  | nil : RdSo f [] []
  | snoc {l : List Plain} {t : List (Nat × Nat)} {p : Plain} {q : Nat × Nat} : RdSo f l t → f p = some q → RdSo f (l ++ [p]) (t ++ [q])
theorem readAll_app {f : Plain → Option (Nat × Nat)} {l : List Plain} {t : List (Nat × Nat)} (h : RdSo f l t) : ∀ (k : Nat) (r : List Plain), readAll f k (l ++ r) = match readAll f (k + l.length) r with | .ok s => .ok (t ++ s) | .error j => .error j := by
  induction h with
  | nil =>
    intro k r
    show readAll f k r = match readAll f (k + 0) r with | .ok s => .ok ([] ++ s) | .error j => .error j
    rw [Nat.add_zero]
    cases readAll f k r <;> rfl
  | @snoc l t p q _ hp ih =>
    intro k r
    rw [List.append_assoc, ih k]
    have e : readAll f (k + l.length) ([p] ++ r) = match readAll f (k + l.length + 1) r with | .ok s => .ok (q :: s) | .error j => .error j := by
      rw [List.singleton_append, readAll, hp]
      cases readAll f (k + l.length + 1) r <;> rfl
    rw [e, List.length_append, List.length_singleton, Nat.add_assoc]
    cases readAll f (k + (l.length + 1)) r with
    | ok s =>
      show Except.ok (t ++ (q :: s)) = Except.ok (t ++ [q] ++ s)
      simp
    | error j => rfl
theorem readAll_fail {f : Plain → Option (Nat × Nat)} {l r : List Plain} {p : Plain} {t : List (Nat × Nat)} (h : RdSo f l t) (hp : f p = none) : readAll f 0 (l ++ p :: r) = .error l.length := by
  rw [readAll_app h 0, Nat.zero_add]
  have : readAll f l.length (p :: r) = .error l.length := by
    rw [readAll, hp]
  rw [this]
theorem readAll_done {f : Plain → Option (Nat × Nat)} {l : List Plain} {t : List (Nat × Nat)} (h : RdSo f l t) : readAll f 0 l = .ok t := by
  have := readAll_app h 0 []
  rw [List.append_nil] at this
  rw [this]
  show Except.ok (t ++ []) = _
  rw [List.append_nil]
theorem RdSo.len {f : Plain → Option (Nat × Nat)} {l : List Plain} {t : List (Nat × Nat)} (h : RdSo f l t) : t.length = l.length := by
  induction h with
  | nil => rfl
  | snoc _ _ ih => rw [List.length_append, List.length_append, ih]; rfl
theorem isArray_taken {v : RWire.Value} (ok : okV v = true) : isArray (taken v) = match v with | .list _ => true | _ => false := by
  cases v with
  | octets u =>
    unfold okV at ok
    rw [RWire.noBig, RWire.noOctets] at ok
    cases ok
  | _ => rw [taken]; rfl
theorem stV_lt {n : Nat} {v : RWire.Value} {q : Nat × Nat} (h : stV n v = some q) : q.1 < n ∧ q.2 < n := by
  unfold stV at h
  split at h
  · rename_i a b
    by_cases hc : (isInt a 0 ((n : Int) - 1) && isInt b 0 ((n : Int) - 1)) = true
    · rw [if_pos hc] at h
      injection h with h
      rw [Bool.and_eq_true] at hc
      subst h
      have key : ∀ x : RWire.Value, isInt x 0 ((n : Int) - 1) = true → (intV x).toNat < n := fun x hx => by
        cases x with
        | int i =>
          have hx : (decide (0 ≤ i) && decide (i ≤ (n : Int) - 1)) = true := hx
          rw [Bool.and_eq_true, decide_eq_true_eq, decide_eq_true_eq] at hx
          show i.toNat < n
          omega
        | nothing => cases hx
        | null => cases hx
        | bool _ => cases hx
        | big _ => cases hx
        | text _ => cases hx
        | octets _ => cases hx
        | wide _ => cases hx
        | list _ => cases hx
        | record _ => cases hx
      exact ⟨key a hc.1, key b hc.2⟩
    · rw [if_neg hc] at h
      cases h
  · cases h
end Sw
set_option Elab.async false
set_option linter.all false
set_option maxRecDepth 100000
set_option maxHeartbeats 4000000
/-! Separating words: refusals, arguments. -/
namespace Sw
open PySem PySem.Spec PyProof.Rows L2
section
variable {P : Program} {w : World} {K : PySem.W.Frag} {mg : Str → Option Value} {base : Heap} {A : Ad}
/-- a refusal's own dict -/
def RefH (K : PySem.W.Frag) (H : Hp) (d : Addr) (o : Int) (m : Str) : Prop := ∃ fu, H d = some (.xd [("further", .ref fu), ("message", .str m), ("order", .int o)]) ∧ SqT K H fu []
theorem RefH.same {H H' : Hp} {d : Addr} {o : Int} {m : Str} (s : Same H H') (h : RefH K H d o m) : RefH K H' d o m := let ⟨fu, h1, h2⟩ := h; ⟨fu, s _ _ h1, s.tup h2⟩
/-- Refused(order, message, further) -/
def spRefI (C : Addr) : Sp := fun vs H Q _ => ∃ (a : Addr) (o m f : V), vs = [.ref a, o, m, f] ∧ H a = some (exo a C none) ∧ ∀ dx, H dx = none → dx ≠ a → ∀ H', (∀ b, b ≠ a → b ≠ dx → H' b = H b) → H' a = some (exo a C (some dx)) → H' dx = some (exd dx [("further", f), ("message", m), ("order", o)]) → Q .non H'
theorem fn_ref (T : Txt K mg A) : ∃ (f : Addr) (fd : FuncData), FnOk P w K mg base CX0 1 f fd ["self", "order", "message", "further"] (spRefI A.refu) ∧ PySem.W.findIn K (.ref A.refu) "__init__" = some (some (.ref f)) ∧ PySem.W.typeIn K (.ref f) = some (.type "function") ∧ Binds K fd ["self", "order", "message", "further"] [] := by
  obtain ⟨f, fd, F, i, t, b⟩ := T.Refused.ini
  refine ⟨f, fd, F.ok sc_Refused_init (fun vs H Q E h => ?_) (fun cdv A2 outer s H vs Q E hr h => ?_), i, t, b⟩
  · obtain ⟨a, o, m, f, rfl, _⟩ := h
    rfl
  · obtain ⟨a, o, m, fu, rfl, h0, k⟩ := h
    refine ⟨_, (pss_cons (ps_ost (pv 0) (pv 1))
      (pss_cons (ps_ost (pv 0) (pv 2))
      (pss_one (ps_ost (pv 0) (pv 3))))), ?_⟩
    refine ⟨_, rfl, _, rfl, a, A.refu, rfl, T.Refused.oex, T.Refused.n_order, .inl ⟨h0, fun dx hdx ne => ?_⟩⟩
    refine ⟨_, rfl, _, rfl, a, A.refu, rfl, T.Refused.oex, T.Refused.n_message, .inr ⟨dx, [("order", o)], upd_same, ?_, (by show 1 ≤ 900; decide), ?_⟩⟩
    · rw [upd_ne ne]
      exact upd_same
    refine ⟨_, rfl, _, rfl, a, A.refu, rfl, T.Refused.oex, T.Refused.n_further, .inr ⟨dx, [("message", m), ("order", o)], ?_, upd_same, (by show 2 ≤ 900; decide), ?_⟩⟩
    · rw [upd_ne (fun z => ne z.symm)]
      exact upd_same
    refine k dx hdx ne _ (fun b h1 h2 => ?_) ?_ upd_same
    · rw [upd_ne h2, upd_ne h2, upd_ne h1, upd_ne h2]
    · rw [upd_ne (fun z => ne z.symm), upd_ne (fun z => ne z.symm)]
      exact upd_same
theorem pmk_ref {X : Cx} {j : Nat} {A : Ad} (T : Txt X.K X.mg A) (hr : Room j X.A) {e : Expr} {es : List Expr} {ta : TA} {p pos : Pos} (ha : PA X (e :: es) ta) (hk : 2 ≤ j := by first | decide | omega) (hg : Gl X "Refused" := by rfl)
    (he : starEach (e :: es) X.env = (false, eval e X.env) :: starEach es X.env := by rfl) (hpl : (backTo pos (starEach es X.env)).any (·.1) = false := by rfl) :
    L2N.PMk X (.Call (.Name "Refused" p) (e :: es) [] pos) (tMkO A.refu (spRefI A.refu) [] ta) := by
  obtain ⟨f, fd, F, i, t, b⟩ := fn_ref (P := X.prog) (w := X.w) (base := X.base) T
  exact pmk_oexN T.Refused.oex i t F (hr.mono hk) b (fun _ _ _ _ _ _ _ z => z.elim) hg T.Refused.gm ha (by decide) he hpl
/-- Refused(o, m, ()) is made and thrown -/
theorem thrown {H : Hp} {C : Addr} {o : Int} {m : Str} {fu : Addr} {Q : XK} (hfu : SqT K H fu []) (q : ∀ H' d, Same H H' → RefH K H' d o m → Q (.ref C) (some d) H') :
    ∀ a, H a = none → spRefI C (.ref a :: ([.int o, .str m, .ref fu] ++ [])) (upd H a (exo a C none))
      (fun v H2 => v = .non ∧ ∃ (d : Addr) (fs : List (Str × V)), H2 a = some (exo a C (some d)) ∧ H2 d = some (exd d fs) ∧ H d = none ∧ Q (.ref C) (some d) (upd (del H2 a) d (.xd fs))) (fun _ _ _ => False) := by
  intro a ha
  refine ⟨a, _, _, _, rfl, upd_same, fun dx hdx ne H' hb h1 h2 => ⟨rfl, dx, _, h1, h2, by rw [upd_ne ne] at hdx; exact hdx, ?_⟩⟩
  have hdx0 : H dx = none := by rw [upd_ne ne] at hdx; exact hdx
  have s : Same H (upd (del H' a) dx (.xd [("further", .ref fu), ("message", .str m), ("order", .int o)])) := fun b u e => by
    have n1 : b ≠ a := ne_of_none e ha
    have n2 : b ≠ dx := ne_of_none e hdx0
    rw [upd_ne n2, del_ne n1, hb b n1 n2, upd_ne n1]
    exact e
  exact q _ _ s ⟨fu, upd_same, s.tup hfu⟩

/-- wrong_kind(wrong, message), out_of_range(wrong, message) -/
def spWrong (K : PySem.W.Frag) (C : Addr) (o : Int) : Sp := fun vs H Q E => ∃ (b : Bool) (m : Str), vs = [.bl b, .str m] ∧ (b = false → Q .non H) ∧ (b = true → ∀ H' d, Same H H' → RefH K H' d o m → E (.ref C) (some d) H')
theorem c_wrong_kind (T : Txt K mg A) : Cal P w K mg base (L2N.CX P w) 3 "wrong_kind" (spWrong K A.refu 1) := by
  refine calX_of T.d_wrong_kind sc_wrong_kind (fun vs H Q E h => ?_) (fun f cdv A2 outer s H vs Q E hr h => ?_)
  · obtain ⟨b, m, rfl, _⟩ := h
    rfl
  · obtain ⟨b, m, rfl, kF, kT⟩ := h
    refine ⟨_, (pss_one (ps_if (pt_val (pv 0))
       (pss_one (L2N.ps_raise rfl (L2N.takes_of rfl rfl rfl rfl) (pmk_ref T hr (pa_cons pe_int (pa_cons (pv 1) (pa_cons (pe_tup pa_nil) pa_nil))))))
       pss_nil)), ?_⟩
    refine ⟨_, rfl, b, rfl, ?_⟩
    cases b with
    | true =>
      refine iteT ⟨_, rfl, Nat.zero_le _, fun fu hfu => ⟨(by show 3 ≤ 1000; decide), thrown (SqT.of upd_same) fun H' d s' hr' => kT rfl H' d (((Same.refl H).new hfu).trans s') hr'⟩⟩
    | false => exact iteF (kF rfl)
theorem c_out_of_range (T : Txt K mg A) : Cal P w K mg base (L2N.CX P w) 3 "out_of_range" (spWrong K A.refu 2) := by
  refine calX_of T.d_out_of_range sc_out_of_range (fun vs H Q E h => ?_) (fun f cdv A2 outer s H vs Q E hr h => ?_)
  · obtain ⟨b, m, rfl, _⟩ := h
    rfl
  · obtain ⟨b, m, rfl, kF, kT⟩ := h
    refine ⟨_, (pss_one (ps_if (pt_val (pv 0))
       (pss_one (L2N.ps_raise rfl (L2N.takes_of rfl rfl rfl rfl) (pmk_ref T hr (pa_cons pe_int (pa_cons (pv 1) (pa_cons (pe_tup pa_nil) pa_nil))))))
       pss_nil)), ?_⟩
    refine ⟨_, rfl, b, rfl, ?_⟩
    cases b with
    | true =>
      refine iteT ⟨_, rfl, Nat.zero_le _, fun fu hfu => ⟨(by show 3 ≤ 1000; decide), thrown (SqT.of upd_same) fun H' d s' hr' => kT rfl H' d (((Same.refl H).new hfu).trans s') hr'⟩⟩
    | false => exact iteF (kF rfl)

/-- is_integer(value, least, most) -/
def spIsInt (K : PySem.W.Frag) : Sp := fun vs H Q _ => ∃ (b : Addr → Prop) (x : V) (v : RWire.Value) (lo hi : Int), vs = [x, .int lo, .int hi] ∧ ValAt b K H v x ∧ Q (.bl (isInt v lo hi)) H
/-- a value's kind -/
def kindV : RWire.Value → Int
  | .nothing => 0
  | .null => 1
  | .bool k => if k = true then 3 else 2
  | .int _ => 4
  | .text _ => 6
  | .list _ => 7
  | .record _ => 8
  | .big _ => 5
  | .octets _ => 10
  | .wide _ => 11
theorem ValAt.kind {b : Addr → Prop} {H : Hp} {v : RWire.Value} {x : V} (h : ValAt b K H v x) : ∃ a xs, x = .ref a ∧ SqT K H a (.int (kindV v) :: xs) := by
  cases v with
  | nothing => rw [ValAt] at h; obtain ⟨a, e, h⟩ := h; exact ⟨a, _, e, h⟩
  | null => rw [ValAt] at h; obtain ⟨a, e, h⟩ := h; exact ⟨a, _, e, h⟩
  | bool k => rw [ValAt] at h; obtain ⟨a, e, h⟩ := h; exact ⟨a, _, e, h⟩
  | int k => rw [ValAt] at h; obtain ⟨a, e, h⟩ := h; exact ⟨a, _, e, h⟩
  | text k => rw [ValAt] at h; obtain ⟨a, c, e, h, _⟩ := h; exact ⟨a, _, e, h⟩
  | list k => rw [ValAt] at h; obtain ⟨a, c, _, e, h, _⟩ := h; exact ⟨a, _, e, h⟩
  | record k => rw [ValAt] at h; obtain ⟨a, c, _, e, h, _⟩ := h; exact ⟨a, _, e, h⟩
  | big _ => rw [ValAt] at h; exact h.elim
  | octets _ => rw [ValAt] at h; exact h.elim
  | wide _ => rw [ValAt] at h; exact h.elim
theorem c_is_integer (T : Txt K mg A) : Cal P w K mg base CX0 1 "is_integer" (spIsInt K) := by
  refine cal_of T.d_is_integer sc_is_integer (fun vs H Q E h => ?_) (fun f cdv A2 outer s H vs Q E hr h => ?_)
  · obtain ⟨_, _, _, _, _, rfl, _⟩ := h
    rfl
  · obtain ⟨b, x, v, lo, hi, rfl, hx, k⟩ := h
    refine ⟨_, (pss_one (ps_ret (pe_and (pe_cmpR op_eq (pe_ix (ixt K) (pv 0) pe_int (fun _ _ => rfl)) (pe_gi rfl T.INTEGER) (nomark _)) (pe_one (pe_chain op_le op_le (pv 1) (pe_ix (ixt K) (pv 0) pe_int (fun _ _ => rfl)) (pv 2)))))), ?_⟩
    cases v with
    | int i =>
      rw [ValAt] at hx
      obtain ⟨a, rfl, ha⟩ := hx
      refine ⟨_, rfl, a, _, _, _, rfl, rfl, ha, at_of (j := 0) rfl rfl, rfl, _, rfl, iteT ?_⟩
      refine ⟨_, rfl, _, rfl, a, _, _, _, rfl, rfl, ha, at_of (j := 1) rfl rfl, _, _, rfl, rfl, _, rfl, ?_⟩
      have k : Q (.bl (decide (lo ≤ i) && decide (i ≤ hi))) H := k
      refine ite2 (fun hc => ?_) (fun hc => ?_)
      · rw [hc, Bool.true_and] at k
        exact ⟨_, rfl, _, _, rfl, rfl, k⟩
      · rw [Bool.eq_false_iff.mpr hc, Bool.false_and] at k
        exact k
    | nothing => obtain ⟨a, xs, rfl, ha⟩ := hx.kind; exact ⟨_, rfl, a, _, _, _, rfl, rfl, ha, at_of (j := 0) rfl rfl, rfl, _, rfl, iteF k⟩
    | null => obtain ⟨a, xs, rfl, ha⟩ := hx.kind; exact ⟨_, rfl, a, _, _, _, rfl, rfl, ha, at_of (j := 0) rfl rfl, rfl, _, rfl, iteF k⟩
    | bool t => obtain ⟨a, xs, rfl, ha⟩ := hx.kind; cases t <;> exact ⟨_, rfl, a, _, _, _, rfl, rfl, ha, at_of (j := 0) rfl rfl, rfl, _, rfl, iteF k⟩
    | text _ => obtain ⟨a, xs, rfl, ha⟩ := hx.kind; exact ⟨_, rfl, a, _, _, _, rfl, rfl, ha, at_of (j := 0) rfl rfl, rfl, _, rfl, iteF k⟩
    | list _ => obtain ⟨a, xs, rfl, ha⟩ := hx.kind; exact ⟨_, rfl, a, _, _, _, rfl, rfl, ha, at_of (j := 0) rfl rfl, rfl, _, rfl, iteF k⟩
    | record _ => obtain ⟨a, xs, rfl, ha⟩ := hx.kind; exact ⟨_, rfl, a, _, _, _, rfl, rfl, ha, at_of (j := 0) rfl rfl, rfl, _, rfl, iteF k⟩
    | big _ => rw [ValAt] at hx; exact hx.elim
    | octets _ => rw [ValAt] at hx; exact hx.elim
    | wide _ => rw [ValAt] at hx; exact hx.elim

theorem in_let (o : UInt8) : (!inV (ov o) [V.int 97, V.int 98]) = !isL o := by
  have e : ([V.int 97, V.int 98] : List V) = nvs [97, 98] := rfl
  have e2 : ov o = nv o.toNat := rfl
  rw [e, e2, in_nvs]
  unfold isL
  simp
  rfl
/-- letter_of(value) -/
def spLetter (K : PySem.W.Frag) : Sp := fun vs H Q _ => ∃ (x : V) (v : RWire.Value), vs = [x] ∧ ValAt NF K H v x ∧ ∀ H', Same H H' → Q (.int (kInt (letV v))) H'
theorem c_letter_of (T : Txt K mg A) : Cal P w K mg base CX0 1 "letter_of" (spLetter K) := by
  refine cal_of T.d_letter_of sc_letter_of (fun vs H Q E h => ?_) (fun f cdv A2 outer s H vs Q E hr h => ?_)
  · obtain ⟨_, _, rfl, _⟩ := h
    rfl
  · obtain ⟨x, v, rfl, hx, k⟩ := h
    refine ⟨_, (pss_cons (ps_if (PW.pt (pw_or (pt_cmpR op_ne (pe_ix (ixt K) (pv 0) pe_int (fun _ _ => rfl)) (pe_gi rfl T.TEXT) (nomark _)) (pw_or (pt_cmpR op_ne (pe_callB (lenQ K) rfl T.len PySem.boot_len (pa_cons (pe_ix (ixt K) (pv 0) pe_int (fun _ _ => rfl)) pa_nil)) pe_int (nomark _)) (pw_or1 (pt_cmpR (ninQ K) (pe_ix (ixt K) (pe_ix (ixt K) (pv 0) pe_int (fun _ _ => rfl)) pe_int (fun _ _ => rfl)) (pe_tup (pa_cons (pe_gi rfl T.FIRST) (pa_cons (pe_op op_add (pe_gi rfl T.FIRST) pe_int) pa_nil))) rfl)))))
       (pss_one (ps_ret (pe_un un_neg pe_int)))
       pss_nil)
      (pss_one (ps_ret (pe_op op_sub (pe_ix (ixt K) (pe_ix (ixt K) (pv 0) pe_int (fun _ _ => rfl)) pe_int (fun _ _ => rfl)) (pe_gi rfl T.FIRST))))), ?_⟩
    cases v with
    | text u =>
      rw [ValAt] at hx
      obtain ⟨a, c, rfl, ha, hc⟩ := hx
      have hc : SqT K H c (u.map ov) := hc.elim id fun z => z.1.elim
      refine ⟨_, rfl, a, _, _, _, rfl, rfl, ha, at_of (j := 0) rfl rfl, rfl, _, rfl, iteF ?_⟩
      refine ⟨_, rfl, a, _, _, _, rfl, rfl, ha, at_of (j := 1) rfl rfl, c, _, rfl, .inr hc, rfl, _, rfl, ?_⟩
      match u with
      | [] => exact iteT (iteT ⟨_, rfl, k H (Same.refl H)⟩)
      | o :: q :: r =>
        have e : (!decide (V.int (((o :: q :: r).map ov).length : Int) = V.int 1)) = true := by
          rw [Bool.not_eq_true', decide_eq_false_iff_not]
          intro z
          injection z with z
          rw [List.length_map, List.length_cons, List.length_cons] at z
          omega
        rw [e]
        exact iteT (iteT ⟨_, rfl, k H (Same.refl H)⟩)
      | [o] =>
        refine iteF ?_
        refine ⟨_, rfl, a, _, _, _, rfl, rfl, ha, at_of (j := 1) rfl rfl, c, _, _, _, rfl, rfl, hc, at_of (j := 0) rfl rfl, _, _, rfl, rfl, (by show 2 ≤ sizeLine; decide), fun p hp => ?_⟩
        have e : (!inV (ov o) [V.int 97, V.int 98]) = !isL o := in_let o
        refine ⟨p, _, rfl, .inr (SqT.of upd_same), rfl, rfl, _, rfl, ?_⟩
        have s1 : Same H (upd H p (.tup [.int 97, .int 98])) := (Same.refl H).new hp
        have k := k _ s1
        show if (!inV (ov o) [V.int 97, V.int 98]) = true then _ else _
        rw [e]
        have el : letV (.text [o]) = if isL o = true then some (o.toNat - 97) else none := rfl
        rw [el] at k
        cases ho : isL o with
        | false =>
          rw [ho] at k
          exact iteT ⟨_, rfl, k⟩
        | true =>
          rw [ho, if_pos rfl] at k
          refine iteF ⟨_, rfl, a, _, _, _, rfl, rfl, s1.tup ha, at_of (j := 1) rfl rfl, c, _, _, _, rfl, rfl, s1.tup hc, at_of (j := 0) rfl rfl, _, _, rfl, rfl, ?_⟩
          have : V.int (kInt (some (o.toNat - 97))) = V.int ((o.toNat : Int) - 97) := by
            unfold isL at ho
            rw [Bool.or_eq_true, beq_iff_eq, beq_iff_eq] at ho
            show V.int ((o.toNat - 97 : Nat) : Int) = _
            congr 1
            omega
          rw [this] at k
          exact k
    | int _ => obtain ⟨a, xs, rfl, ha⟩ := hx.kind; exact ⟨_, rfl, a, _, _, _, rfl, rfl, ha, at_of (j := 0) rfl rfl, rfl, _, rfl, iteT (iteT ⟨_, rfl, k H (Same.refl H)⟩)⟩
    | nothing => obtain ⟨a, xs, rfl, ha⟩ := hx.kind; exact ⟨_, rfl, a, _, _, _, rfl, rfl, ha, at_of (j := 0) rfl rfl, rfl, _, rfl, iteT (iteT ⟨_, rfl, k H (Same.refl H)⟩)⟩
    | null => obtain ⟨a, xs, rfl, ha⟩ := hx.kind; exact ⟨_, rfl, a, _, _, _, rfl, rfl, ha, at_of (j := 0) rfl rfl, rfl, _, rfl, iteT (iteT ⟨_, rfl, k H (Same.refl H)⟩)⟩
    | bool t => obtain ⟨a, xs, rfl, ha⟩ := hx.kind; cases t <;> exact ⟨_, rfl, a, _, _, _, rfl, rfl, ha, at_of (j := 0) rfl rfl, rfl, _, rfl, iteT (iteT ⟨_, rfl, k H (Same.refl H)⟩)⟩
    | list _ => obtain ⟨a, xs, rfl, ha⟩ := hx.kind; exact ⟨_, rfl, a, _, _, _, rfl, rfl, ha, at_of (j := 0) rfl rfl, rfl, _, rfl, iteT (iteT ⟨_, rfl, k H (Same.refl H)⟩)⟩
    | record _ => obtain ⟨a, xs, rfl, ha⟩ := hx.kind; exact ⟨_, rfl, a, _, _, _, rfl, rfl, ha, at_of (j := 0) rfl rfl, rfl, _, rfl, iteT (iteT ⟨_, rfl, k H (Same.refl H)⟩)⟩
    | big _ => rw [ValAt] at hx; exact hx.elim
    | octets _ => rw [ValAt] at hx; exact hx.elim
    | wide _ => rw [ValAt] at hx; exact hx.elim

/-- the message's parts are short -/
def numLens (nm : Str) (lo hi : Int) : Bool := decide (lo.natAbs.log2 < 1920) && (decide (hi.natAbs.log2 < 1920) && (decide (nm.length + (" must be an integer from " : Str).length ≤ sizeLine) &&
  (decide ((nm ++ (" must be an integer from " : Str)).length + (toString lo : Str).length ≤ sizeLine) && (decide (((nm ++ (" must be an integer from " : Str)) ++ (toString lo : Str)).length + (" to " : Str).length ≤ sizeLine) &&
  decide ((((nm ++ (" must be an integer from " : Str)) ++ (toString lo : Str)) ++ (" to " : Str)).length + (toString hi : Str).length ≤ sizeLine)))))
/-- number_of(value, name, least, most) -/
def spNumOf (K : PySem.W.Frag) (C : Addr) : Sp := fun vs H Q E => ∃ (b : Addr → Prop) (x : V) (v : RWire.Value) (nm : Str) (lo hi : Int), vs = [x, .str nm, .int lo, .int hi] ∧ ValAt b K H v x ∧ numLens nm lo hi = true ∧
  (isInt v lo hi = true → Q (.int (intV v)) H) ∧ (isInt v lo hi = false → ∀ H' d, Same H H' → RefH K H' d 2 ((((nm ++ (" must be an integer from " : Str)) ++ toString lo) ++ (" to " : Str)) ++ toString hi) → E (.ref C) (some d) H')
theorem c_number_of (T : Txt K mg A) : Cal P w K mg base (L2N.CX P w) 4 "number_of" (spNumOf K A.refu) := by
  have c_is_integer := c_is_integer (P := P) (w := w) (base := base) T
  have c_out_of_range := c_out_of_range (P := P) (w := w) (base := base) T
  refine calX_of T.d_number_of sc_number_of (fun vs H Q E h => ?_) (fun f cdv A2 outer s H vs Q E hr h => ?_)
  · obtain ⟨_, _, _, _, _, _, rfl, _⟩ := h
    rfl
  · obtain ⟨b, x, v, nm, lo, hi, rfl, hx, hn, kT, kF⟩ := h
    refine ⟨_, (pss_cons (ps_set (i := 4) sc_number_of.nd rfl (Or.inl rfl) (pe_not (pe_d c_is_integer hr rfl (pa_cons (pv 0) (pa_cons (pv 2) (pa_cons (pv 3) pa_nil))))))
      (pss_cons (ps_expr (pe_dX c_out_of_range hr (L2N.takes_of rfl rfl rfl rfl) rfl (pa_cons (pv 4) (pa_cons (pe_op op_add_str (pe_op op_add_str (pe_op op_add_str (pe_op op_add_str (pv 1) pe_str) (pe_callTy call_str_int rfl T.str (by decide +kernel) (pa_cons (pv 2) pa_nil))) pe_str) (pe_callTy call_str_int rfl T.str (by decide +kernel) (pa_cons (pv 3) pa_nil))) pa_nil))))
      (pss_one (ps_ret (pe_ix (ixt K) (pv 0) pe_int (fun _ _ => rfl)))))), ?_⟩
    unfold numLens at hn
    simp only [Bool.and_eq_true, decide_eq_true_eq] at hn
    obtain ⟨n1, n2, n3, n4, n5, n6⟩ := hn
    refine ⟨_, rfl, _, rfl, _, rfl, b, x, v, lo, hi, rfl, hx, _, rfl, ?_⟩
    refine ⟨_, rfl, _, rfl, _, _, rfl, rfl, n3, _, rfl, lo, rfl, n1, _, _, rfl, rfl, n4, _, _, rfl, rfl, n5, _, rfl, hi, rfl, n2, _, _, rfl, rfl, n6, _, _, rfl, fun hb => ?_, fun hb H' d s' hd => kF (by simpa using hb) H' d s' hd⟩
    have hb : isInt v lo hi = true := by simpa using hb
    have k := kT hb
    cases v with
    | int i =>
      rw [ValAt] at hx
      obtain ⟨a, rfl, ha⟩ := hx
      exact ⟨_, rfl, a, _, _, _, rfl, rfl, ha, at_of (j := 1) rfl rfl, k⟩
    | nothing => cases hb
    | null => cases hb
    | bool _ => cases hb
    | big _ => cases hb
    | text _ => cases hb
    | octets _ => cases hb
    | wide _ => cases hb
    | list _ => cases hb
    | record _ => cases hb

/-- word_of(value, name) -/
def spWordOf (K : PySem.W.Frag) (C : Addr) : Sp := fun vs H Q E => ∃ (x : V) (v : RWire.Value) (nm : Str), vs = [x, .str nm] ∧ ValAt NF K H v x ∧ nm.length + (" must be a text of 0 to 12 letters" : Str).length ≤ sizeLine ∧ 
  (∀ wd, wordV v = some wd → ∀ H' p, Same H H' → PlT H' p (nvs wd) → Q (.ref p) H') ∧ (wordV v = none → ∀ H' d, Same H H' → RefH K H' d 1 (nm ++ (" must be a text of 0 to 12 letters" : Str)) → E (.ref C) (some d) H')
theorem c_word_of (T : Txt K mg A) : Cal P w K mg base (L2N.CX P w) 4 "word_of" (spWordOf K A.refu) := by
  have c_wrong_kind := c_wrong_kind (P := P) (w := w) (base := base) T
  refine calX_of T.d_word_of sc_word_of (fun vs H Q E h => ?_) (fun f cdv A2 outer s H vs Q E hr h => ?_)
  · obtain ⟨_, _, _, rfl, _⟩ := h
    rfl
  · obtain ⟨x, v, nm, rfl, hx, hn, kT, kF⟩ := h
    refine ⟨_, (pss_cons (ps_set (i := 2) sc_word_of.nd rfl (Or.inl rfl) (pe_and (pe_cmpR op_eq (pe_ix (ixt K) (pv 0) pe_int (fun _ _ => rfl)) (pe_gi rfl T.TEXT) (nomark _)) (pe_one (pe_cmpR op_le (pe_callB (lenQ K) rfl T.len PySem.boot_len (pa_cons (pe_ix (ixt K) (pv 0) pe_int (fun _ _ => rfl)) pa_nil)) (pe_gi rfl T.MOST_WORD) (nomark _)))))
      (pss_cons (ps_set (i := 2) sc_word_of.nd rfl (Or.inl rfl) (pe_and (pv 2) (pe_one (pe_callB (cr_all rfl) rfl T.all (by decide +kernel) (pa_cons (pe_lc (own := [("code", 3)]) (g := (gName 3)) (tt := tYes) rfl sc_word_of.nd (pi_tup (pe_ix (ixt K) (pv 0) pe_int (fun _ _ => rfl))) (blkOk_by (own := [("code", 3)]) (N := ["value", "name", "right", "code"]) (sc := defScope s_word_of) (by decide +kernel)) (fun _ _ _ _ _ => pg_name (i := 3) sc_word_of.nd rfl (Or.inl rfl)) (fun _ _ _ _ _ => pts_nil) (fun _ _ _ _ _ => (pe_cmpR (inQ K) (pv 3) (pe_tup (pa_cons (pe_gi rfl T.FIRST) (pa_cons (pe_op op_add (pe_gi rfl T.FIRST) pe_int) pa_nil))) rfl))) pa_nil)))))
      (pss_cons (ps_expr (pe_dX c_wrong_kind hr (L2N.takes_of rfl rfl rfl rfl) rfl (pa_cons (pe_not (pv 2)) (pa_cons (pe_op op_add_str (pv 1) pe_str) pa_nil))))
      (pss_one (ps_ret (pe_callTy call_tupleF rfl T.tuple (by decide +kernel) (pa_cons (pe_lc (own := [("code", 3)]) (g := (gName 3)) (tt := tYes) rfl sc_word_of.nd (pi_tup (pe_ix (ixt K) (pv 0) pe_int (fun _ _ => rfl))) (blkOk_by (own := [("code", 3)]) (N := ["value", "name", "right", "code"]) (sc := defScope s_word_of) (by decide +kernel)) (fun _ _ _ _ _ => pg_name (i := 3) sc_word_of.nd rfl (Or.inl rfl)) (fun _ _ _ _ _ => pts_nil) (fun _ _ _ _ _ => (pe_op op_sub (pv 3) (pe_gi rfl T.FIRST)))) pa_nil))))))), ?_⟩
    cases v with
    | text u =>
      rw [ValAt] at hx
      obtain ⟨a, c, rfl, ha, hc⟩ := hx
      have hc : SqT K H c (u.map ov) := hc.elim id fun z => z.1.elim
      have ew : wordV (.text u) = if (decide (u.length ≤ 12) && u.all isL) = true then some (u.map fun o => o.toNat - 97) else none := rfl
      rw [ew] at kT kF
      refine ⟨_, rfl, a, _, _, _, rfl, rfl, ha, at_of (j := 0) rfl rfl, rfl, _, rfl, iteT ?_⟩
      refine ⟨_, rfl, a, _, _, _, rfl, rfl, ha, at_of (j := 1) rfl rfl, c, _, rfl, .inr hc, _, _, rfl, rfl, ?_⟩
      have el : decide ((((u.map ov).length : Nat) : Int) ≤ 12) = decide (u.length ≤ 12) := by
        rw [List.length_map]
        exact decide_eq_decide.mpr (by omega)
      refine ⟨_, rfl, _, rfl, ?_⟩
      rw [el]
      cases h12 : decide (u.length ≤ 12) with
      | false =>
        refine iteF ?_
        refine ⟨_, rfl, _, rfl, _, rfl, _, _, rfl, rfl, hn, _, _, rfl, fun hb => (by cases hb), fun _ H' d s' hd => kF (by rw [h12]; rfl) H' d s' hd⟩
      | true =>
        rw [h12, Bool.true_and] at kT kF
        have h12' : u.length ≤ 12 := of_decide_eq_true h12
        refine iteT ?_
        refine ⟨_, rfl, a, _, _, _, rfl, rfl, ha, at_of (j := 1) rfl rfl, c, rfl, ⟨_, hc⟩, fun D hD => lc_tup (K := K) (a := c) (xs := u.map ov) (fun i H' => Same H H' ∧ H' D = some (.lst (((u.take i).map isL).map V.bl))) ⟨(Same.refl H).new hD, upd_same⟩ (fun i H' _ q => q.1.tup hc) ?_ ?_⟩
        · rintro i y H2 hy ⟨s2, hD2⟩
          obtain ⟨o, ho, rfl⟩ : ∃ o, u[i]? = some o ∧ y = ov o := by
            rw [List.getElem?_map] at hy
            cases e : u[i]? with
            | none => rw [e] at hy; cases hy
            | some o => rw [e] at hy; exact ⟨o, rfl, (Option.some.inj hy).symm⟩
          have hi : i < u.length := (List.getElem?_eq_some_iff.mp ho).1
          refine ⟨rfl, _, rfl, _, _, rfl, rfl, (by show 2 ≤ sizeLine; decide), fun p hp => ?_⟩
          have st : Same H2 (upd H2 p (.tup [.int 97, .int 98])) := (Same.refl H2).new hp
          refine ⟨p, _, rfl, .inr (SqT.of upd_same), rfl, rfl, ?_⟩
          have e : inV (ov o) [V.int 97, V.int 98] = isL o := by
            have := in_let o
            simpa using this
          have hDt := st _ _ hD2
          show ∃ acc, _
          refine ⟨_, hDt, ?_, (s2.trans st).put hD, ?_⟩
          · rw [List.length_map, List.length_map, List.length_take]
            exact small_lt (by omega)
          · rw [upd_same, take_more ho, List.map_append, List.map_append, List.map_singleton, List.map_singleton]
            show some (HO.lst (_ ++ [V.bl (inV (ov o) [V.int 97, V.int 98])])) = _
            rw [e]
        · rintro H2 ⟨s2, hD2⟩
          have et : u.take (u.map ov).length = u := by rw [List.length_map, List.take_length]
          rw [et] at hD2
          refine ⟨D, u.map isL, rfl, SqL.of hD2, ?_⟩
          have eall : (u.map isL).all id = u.all isL := by
            rw [List.all_map]
            rfl
          rw [eall]
          refine ⟨_, rfl, _, rfl, _, rfl, _, _, rfl, rfl, hn, _, _, rfl, fun hb => ?_, fun hb H' d s' hd => kF ?_ H' d (s2.trans s') hd⟩
          · have hb : u.all isL = true := by simpa using hb
            rw [hb, if_pos rfl] at kT
            have hal := List.all_eq_true.mp hb
            refine ⟨_, rfl, a, _, _, _, rfl, rfl, s2.tup ha, at_of (j := 1) rfl rfl, c, rfl, ⟨_, s2.tup hc⟩, fun D' hD' => lc_tup (K := K) (a := c) (xs := u.map ov) (fun i H' => Same H2 H' ∧ H' D' = some (.lst (nvs ((u.take i).map fun o => o.toNat - 97)))) ⟨(Same.refl H2).new hD', upd_same⟩ (fun i H' _ q => q.1.tup (s2.tup hc)) ?_ ?_⟩
            · rintro i y H3 hy ⟨s3, hD3⟩
              obtain ⟨o, ho, rfl⟩ : ∃ o, u[i]? = some o ∧ y = ov o := by
                rw [List.getElem?_map] at hy
                cases e : u[i]? with
                | none => rw [e] at hy; cases hy
                | some o => rw [e] at hy; exact ⟨o, rfl, (Option.some.inj hy).symm⟩
              have hi : i < u.length := (List.getElem?_eq_some_iff.mp ho).1
              have hl := hal o (List.mem_of_getElem? ho)
              have e1 : V.int ((o.toNat : Int) - 97) = nv (o.toNat - 97) := by
                unfold isL at hl
                rw [Bool.or_eq_true, beq_iff_eq, beq_iff_eq] at hl
                show V.int _ = V.int _
                congr 1
                omega
              refine ⟨rfl, _, rfl, _, _, rfl, rfl, _, hD3, ?_, s3.put hD', ?_⟩
              · rw [nvs_len, List.length_map, List.length_take]
                exact small_lt (by omega)
              · rw [upd_same, take_more ho, List.map_append]
                show some (HO.lst (_ ++ [V.int ((o.toNat : Int) - 97)])) = _
                rw [e1]
                simp [nvs]
            · rintro H3 ⟨s3, hD3⟩
              rw [et] at hD3
              exact ⟨D', _, rfl, SqL.of hD3, fun l ob hl hob => kT _ rfl _ l ((s2.trans s3).new hl) ⟨ob, upd_same, hob⟩⟩
          · have hb : u.all isL = false := by simpa using hb
            rw [hb]
            rfl
    | int _ => obtain ⟨a, xs, rfl, ha⟩ := hx.kind; exact ⟨_, rfl, a, _, _, _, rfl, rfl, ha, at_of (j := 0) rfl rfl, rfl, _, rfl, iteF ⟨_, rfl, _, rfl, iteF ⟨_, rfl, _, rfl, _, rfl, _, _, rfl, rfl, hn, _, _, rfl, fun hb => (by cases hb), fun _ H' d s' hd => kF rfl H' d s' hd⟩⟩⟩
    | nothing => obtain ⟨a, xs, rfl, ha⟩ := hx.kind; exact ⟨_, rfl, a, _, _, _, rfl, rfl, ha, at_of (j := 0) rfl rfl, rfl, _, rfl, iteF ⟨_, rfl, _, rfl, iteF ⟨_, rfl, _, rfl, _, rfl, _, _, rfl, rfl, hn, _, _, rfl, fun hb => (by cases hb), fun _ H' d s' hd => kF rfl H' d s' hd⟩⟩⟩
    | null => obtain ⟨a, xs, rfl, ha⟩ := hx.kind; exact ⟨_, rfl, a, _, _, _, rfl, rfl, ha, at_of (j := 0) rfl rfl, rfl, _, rfl, iteF ⟨_, rfl, _, rfl, iteF ⟨_, rfl, _, rfl, _, rfl, _, _, rfl, rfl, hn, _, _, rfl, fun hb => (by cases hb), fun _ H' d s' hd => kF rfl H' d s' hd⟩⟩⟩
    | bool t => obtain ⟨a, xs, rfl, ha⟩ := hx.kind; cases t <;> exact ⟨_, rfl, a, _, _, _, rfl, rfl, ha, at_of (j := 0) rfl rfl, rfl, _, rfl, iteF ⟨_, rfl, _, rfl, iteF ⟨_, rfl, _, rfl, _, rfl, _, _, rfl, rfl, hn, _, _, rfl, fun hb => (by cases hb), fun _ H' d s' hd => kF rfl H' d s' hd⟩⟩⟩
    | list _ => obtain ⟨a, xs, rfl, ha⟩ := hx.kind; exact ⟨_, rfl, a, _, _, _, rfl, rfl, ha, at_of (j := 0) rfl rfl, rfl, _, rfl, iteF ⟨_, rfl, _, rfl, iteF ⟨_, rfl, _, rfl, _, rfl, _, _, rfl, rfl, hn, _, _, rfl, fun hb => (by cases hb), fun _ H' d s' hd => kF rfl H' d s' hd⟩⟩⟩
    | record _ => obtain ⟨a, xs, rfl, ha⟩ := hx.kind; exact ⟨_, rfl, a, _, _, _, rfl, rfl, ha, at_of (j := 0) rfl rfl, rfl, _, rfl, iteF ⟨_, rfl, _, rfl, iteF ⟨_, rfl, _, rfl, _, rfl, _, _, rfl, rfl, hn, _, _, rfl, fun hb => (by cases hb), fun _ H' d s' hd => kF rfl H' d s' hd⟩⟩⟩
    | big _ => rw [ValAt] at hx; exact hx.elim
    | octets _ => rw [ValAt] at hx; exact hx.elim
    | wide _ => rw [ValAt] at hx; exact hx.elim
end
end Sw
set_option Elab.async false
set_option linter.all false
set_option maxRecDepth 100000
set_option maxHeartbeats 4000000
/-! Separating words: messages; a table as an argument. -/
namespace Sw
open PySem PySem.Spec PyProof.Rows L2

/-! ### messages -/
theorem str_append (s t : String) : (Str.ofString s ++ Str.ofString t : Str) = Str.ofString (s ++ t) := by
  rw [Str.ofString_eq_toList, Str.ofString_eq_toList, Str.ofString_eq_toList, String.toList_append, List.map_append]
  show (⟨_⟩ : Str) = _
  congr 1
  simp
theorem txt_units {s : String} (h : ascii (Str.ofString s) = true) : txt (Str.ofString s) = (R7291g.Spec.units s).map Rust.octetOf := by
  rw [Str.ofString_eq_toList] at h ⊢
  unfold ascii at h
  unfold txt R7291g.Spec.units
  rw [← Array.all_toList] at h
  simp only at h ⊢
  generalize s.toList = l at h ⊢
  induction l with
  | nil => rfl
  | cons c l ih =>
    rw [List.map_cons, List.all_cons, Bool.and_eq_true, decide_eq_true_eq] at h
    rw [List.map_cons, List.map_cons, ih h.2, List.flatMap_cons, List.map_append, if_pos (by omega : c.toNat < 65536)]
    have e : Rust.octetOf (UInt16.ofNat c.toNat) = UInt8.ofNat c.toNat := by
      unfold Rust.octetOf
      congr 1
      simp
      omega
    rw [List.map_singleton, e]
    rfl
/-- m tells what is due -/
def MsgOk (m : Str) (u : R7291g.Spec.Units) : Prop := ascii m = true ∧ m.cps.size ≤ 1000 ∧ txt m = u.map Rust.octetOf
theorem msg_ok {s : String} (h : (ascii (Str.ofString s) && decide ((Str.ofString s).cps.size ≤ 1000)) = true) : MsgOk (Str.ofString s) (R7291g.Spec.units s) := by
  rw [Bool.and_eq_true, decide_eq_true_eq] at h
  exact ⟨h.1, h.2, txt_units h.1⟩
/-- what is promised of a refusal -/
def RefE (K : PySem.W.Frag) (C : Addr) (H : Hp) (E : XK) (e : R7291g.Spec.Err) : Prop := ∀ H' d m, Same H H' → RefH K H' d (Rust.classOf e.cls) m → MsgOk m e.msg → E (.ref C) (some d) H'
theorem RefE.of {K : PySem.W.Frag} {C : Addr} {H H1 : Hp} {E : XK} {e : R7291g.Spec.Err} (s : Same H H1) (h : RefE K C H E e) : RefE K C H1 E e := fun H' d m s' r ok => h H' d m (s.trans s') r ok
def stMsg (i : Nat) : String := "state " ++ toString i ++ " of table is malformed"
theorem stMsg_ok (i : Nat) (h : i < 13) : (ascii (Str.ofString (stMsg i)) && decide ((Str.ofString (stMsg i)).cps.size ≤ 1000)) = true := by
  revert i
  decide +kernel
theorem stMsg_len (i : Nat) (h : i < 13) : ((Str.ofString "state ").length + (Str.ofString (toString (i : Int))).length ≤ sizeLine ∧ ((Str.ofString "state ") ++ (Str.ofString (toString (i : Int))) : Str).length + (Str.ofString " of table is malformed").length ≤ sizeLine) ∧ (i : Int).natAbs.log2 < 1920 := by
  revert i
  decide +kernel

theorem stV_list {n : Nat} {r : List RWire.Value} : stV n (.list r) = match r with
    | [a, b] => if (isInt a 0 ((n : Int) - 1) && isInt b 0 ((n : Int) - 1)) = true then some ((intV a).toNat, (intV b).toNat) else none
    | _ => none := by
  match r with
  | [] => rfl
  | [_] => rfl
  | [_, _] => rfl
  | _ :: _ :: _ :: _ => rfl
def tabLen : RWire.Value → Bool
  | .list l => decide (1 ≤ l.length) && decide (l.length ≤ 13)
  | _ => false
theorem tab_bad {v : RWire.Value} (ok : okV v = true) (hb : tabLen v = false) : R7291g.Spec.readTable (Rust.taken v) = .error (R7291g.Spec.wrong "table must be a list of 1 to 13 states") := by
  unfold R7291g.Spec.readTable
  rw [isArray_taken ok]
  cases v with
  | list l =>
    have e : (R7291g.Spec.elementsOf (Rust.taken (.list l))).length = l.length := by
      rw [Rust.taken]
      show (Rust.takenAll l).length = _
      rw [takenAll_map, List.length_map]
    rw [e]
    have hb : (decide (1 ≤ l.length) && decide (l.length ≤ 13)) = false := hb
    have : decide (1 ≤ l.length ∧ l.length ≤ 13) = false := by
      rw [← hb, Bool.decide_and]
    rw [this]
    rfl
  | _ => rfl
theorem tab_read {l : List RWire.Value} (hg : tabLen (.list l) = true) : R7291g.Spec.readTable (Rust.taken (.list l)) = match R7291g.Spec.readAll (R7291g.Spec.parseState l.length) 0 (l.map Rust.taken) with
    | .error i => .error (R7291g.Spec.beyond (stMsg i))
    | .ok t => .ok t := by
  have e0 : Rust.taken (.list l) = .arr (l.map Rust.taken) := by rw [Rust.taken, takenAll_map]
  rw [e0]
  have hg : (decide (1 ≤ l.length) && decide (l.length ≤ 13)) = true := hg
  unfold R7291g.Spec.readTable
  have : decide (1 ≤ (R7291g.Spec.elementsOf (.arr (l.map Rust.taken))).length ∧ (R7291g.Spec.elementsOf (.arr (l.map Rust.taken))).length ≤ 13) = true := by
    show decide (1 ≤ (l.map Rust.taken).length ∧ (l.map Rust.taken).length ≤ 13) = true
    rw [List.length_map, ← hg, Bool.decide_and]
  rw [this]
  show (match R7291g.Spec.readAll (R7291g.Spec.parseState (l.map Rust.taken).length) 0 (l.map Rust.taken) with | .error i => _ | .ok t => _) = _
  rw [List.length_map]
  rfl
theorem tab_state_bad {l : List RWire.Value} {i : Nat} {v : RWire.Value} {t : List (Nat × Nat)} (hg : tabLen (.list l) = true) (h : RdSo (R7291g.Spec.parseState l.length) ((l.take i).map Rust.taken) t) (hv : l[i]? = some v) (hp : R7291g.Spec.parseState l.length (Rust.taken v) = none) :
    R7291g.Spec.readTable (Rust.taken (.list l)) = .error (R7291g.Spec.beyond (stMsg i)) := by
  rw [tab_read hg]
  have hi : i < l.length := (List.getElem?_eq_some_iff.mp hv).1
  have e : l.map Rust.taken = (l.take i).map Rust.taken ++ Rust.taken v :: (l.drop (i + 1)).map Rust.taken := by
    have e1 : l = l.take i ++ v :: l.drop (i + 1) := by
      have e2 := List.drop_eq_getElem_cons hi
      have e3 : l[i] = v := by
        have := List.getElem?_eq_getElem hi
        rw [hv] at this
        exact (Option.some.inj this).symm
      rw [e3] at e2
      rw [← e2, List.take_append_drop]
    rw (config := { occs := .pos [1] }) [e1]
    rw [List.map_append, List.map_cons]
  rw [e, readAll_fail h hp, List.length_map, List.length_take, Nat.min_eq_left (Nat.le_of_lt hi)]
theorem tab_done {l : List RWire.Value} {t : List (Nat × Nat)} (hg : tabLen (.list l) = true) (h : RdSo (R7291g.Spec.parseState l.length) (l.map Rust.taken) t) : R7291g.Spec.readTable (Rust.taken (.list l)) = .ok t := by
  rw [tab_read hg, readAll_done h]
theorem two_at {α β : Type} {R : α → β → Prop} {x1 x2 : α} {u1 u2 : β} (h1 : R x1 u1) (h2 : R x2 u2) : ∀ (j : Nat) (x : α), ([x1, x2] : List α)[j]? = some x → ∃ u, ([u1, u2] : List β)[j]? = some u ∧ R x u
  | 0, x, h => by
    have e : x1 = x := by simpa using h
    exact ⟨u1, rfl, e ▸ h1⟩
  | 1, x, h => by
    have e : x2 = x := by simpa using h
    exact ⟨u2, rfl, e ▸ h2⟩
  | j + 2, x, h => by simp at h
theorem isInt_pos {v : RWire.Value} {hi : Int} (h : isInt v 0 hi = true) : ∃ k : Nat, v = .int (k : Int) ∧ (intV v).toNat = k := by
  cases v with
  | int i =>
    have h : (decide (0 ≤ i) && decide (i ≤ hi)) = true := h
    rw [Bool.and_eq_true, decide_eq_true_eq, decide_eq_true_eq] at h
    have e : ((i.toNat : Nat) : Int) = i := by omega
    exact ⟨i.toNat, by rw [e], rfl⟩
  | nothing => cases h
  | null => cases h
  | bool _ => cases h
  | big _ => cases h
  | text _ => cases h
  | octets _ => cases h
  | wide _ => cases h
  | list _ => cases h
  | record _ => cases h
section
variable {P : Program} {w : World} {K : PySem.W.Frag} {mg : Str → Option Value} {base : Heap} {A : Ad}
/-- table_of(value) -/
def spTableOf (K : PySem.W.Frag) (C : Addr) : Sp := fun vs H Q E => ∃ (x : V) (v : RWire.Value), vs = [x] ∧ ValAt NF K H v x ∧ okV v = true ∧
  (∀ t, R7291g.Spec.readTable (Rust.taken v) = .ok t → ∀ H' p, Same H H' → TabL K H' p t → Tab t.length t → 1 ≤ t.length → t.length ≤ 13 → Q (.ref p) H') ∧
  (∀ e, R7291g.Spec.readTable (Rust.taken v) = .error e → RefE K C H E e)
theorem c_table_of (T : Txt K mg A) : Cal P w K mg base (L2N.CX P w) 4 "table_of" (spTableOf K A.refu) := by
  have c_wrong_kind := c_wrong_kind (P := P) (w := w) (base := base) T
  have c_out_of_range := c_out_of_range (P := P) (w := w) (base := base) T
  have c_is_integer := c_is_integer (P := P) (w := w) (base := base) T
  refine calX_of T.d_table_of sc_table_of (fun vs H Q E h => ?_) (fun f cdv A2 outer s H vs Q E hr h => ?_)
  · obtain ⟨_, _, rfl, _⟩ := h
    rfl
  · obtain ⟨x, v, rfl, hx, ok, kT, kE⟩ := h
    refine ⟨_, (pss_cons (ps_set (i := 1) sc_table_of.nd rfl (Or.inl rfl) (pe_or (pe_cmpR op_ne (pe_ix (ixt K) (pv 0) pe_int (fun _ _ => rfl)) (pe_gi rfl T.LIST) (nomark _)) (pe_one (pe_not (pe_chain op_le op_le pe_int (pe_callB (lenQ K) rfl T.len PySem.boot_len (pa_cons (pe_ix (ixt K) (pv 0) pe_int (fun _ _ => rfl)) pa_nil)) (pe_gi rfl T.MOST_TABLE))))))
      (pss_cons (ps_expr (pe_dX c_wrong_kind hr (L2N.takes_of rfl rfl rfl rfl) rfl (pa_cons (pv 1) (pa_cons pe_str pa_nil))))
      (pss_cons (ps_set (i := 2) sc_table_of.nd rfl (Or.inr rfl) (pe_op op_sub (pe_callB (lenQ K) rfl T.len PySem.boot_len (pa_cons (pe_ix (ixt K) (pv 0) pe_int (fun _ _ => rfl)) pa_nil)) pe_int))
      (pss_cons (ps_set (i := 3) sc_table_of.nd rfl (Or.inl rfl) (pe_lst pa_nil))
      (pss_cons (ps_for (passes_of rfl) rfl (pi_range1 rfl T.range (pa_cons (pe_callB (lenQ K) rfl T.len PySem.boot_len (pa_cons (pe_ix (ixt K) (pv 0) pe_int (fun _ _ => rfl)) pa_nil)) pa_nil)) (pg_name (i := 4) sc_table_of.nd rfl (Or.inl rfl))
       (pss_cons (ps_set (i := 5) sc_table_of.nd rfl (Or.inl rfl) (pe_ix (ixt K) (pe_ix (ixt K) (pv 0) pe_int (fun _ _ => rfl)) (pv 4) (fun _ _ => rfl)))
        (pss_cons (ps_set (i := 6) sc_table_of.nd rfl (Or.inl rfl) (pe_and (pe_cmpR op_eq (pe_ix (ixt K) (pv 5) pe_int (fun _ _ => rfl)) (pe_gi rfl T.LIST) (nomark _)) (pe_and (pe_cmpR op_eq (pe_callB (lenQ K) rfl T.len PySem.boot_len (pa_cons (pe_ix (ixt K) (pv 5) pe_int (fun _ _ => rfl)) pa_nil)) pe_int (nomark _)) (pe_one (pe_callB (cr_all rfl) rfl T.all (by decide +kernel) (pa_cons (pe_lc (own := [("one", 7)]) (g := (gName 7)) (tt := tYes) rfl sc_table_of.nd (pi_tup (pe_ix (ixt K) (pv 5) pe_int (fun _ _ => rfl))) (blkOk_by (own := [("one", 7)]) (N := ["value", "wrong", "last", "found", "at", "row", "right", "one"]) (sc := defScope s_table_of) (by decide +kernel)) (fun _ _ _ _ _ => pg_name (i := 7) sc_table_of.nd rfl (Or.inl rfl)) (fun _ _ _ _ _ => pts_nil) (fun _ _ _ _ _ => (pe_d c_is_integer hr rfl (pa_cons (pv 7) (pa_cons pe_int (pa_cons (pv 2) pa_nil)))))) pa_nil))))))
        (pss_cons (ps_expr (pe_dX c_out_of_range hr (L2N.takes_of rfl rfl rfl rfl) rfl (pa_cons (pe_not (pv 6)) (pa_cons (pe_op op_add_str (pe_op op_add_str pe_str (pe_callTy call_str_int rfl T.str (by decide +kernel) (pa_cons (pv 4) pa_nil))) pe_str) pa_nil))))
        (pss_one (ps_expr (pe_bm PySem.F.plainAttrs_list PySem.F.slot_list_append PySem.F.type_list_append mt_append (pv 3) (pa_cons (pe_lc (own := [("one", 7)]) (g := (gName 7)) (tt := tYes) rfl sc_table_of.nd (pi_tup (pe_ix (ixt K) (pv 5) pe_int (fun _ _ => rfl))) (blkOk_by (own := [("one", 7)]) (N := ["value", "wrong", "last", "found", "at", "row", "right", "one"]) (sc := defScope s_table_of) (by decide +kernel)) (fun _ _ _ _ _ => pg_name (i := 7) sc_table_of.nd rfl (Or.inl rfl)) (fun _ _ _ _ _ => pts_nil) (fun _ _ _ _ _ => (pe_ix (ixt K) (pv 7) pe_int (fun _ _ => rfl)))) pa_nil))))))))
      (pss_one (ps_ret (pv 3)))))))), ?_⟩
    have bad2 : tabLen v = false → ∀ H' d, Same H H' → RefH K H' d 1 "table must be a list of 1 to 13 states" → E (.ref A.refu) (some d) H' := fun hb H' d s' hd =>
      kE _ (tab_bad ok hb) H' d _ s' hd (msg_ok (by decide +kernel))
    cases v with
    | list l =>
      rw [ValAt] at hx
      obtain ⟨a, c, xs, rfl, ha, hc, hxs⟩ := hx
      have hxl : xs.length = l.length := hxs.length
      refine ⟨_, rfl, a, _, _, _, rfl, rfl, ha, at_of (j := 0) rfl rfl, rfl, _, rfl, iteF ?_⟩
      refine ⟨_, rfl, a, _, _, _, rfl, rfl, ha, at_of (j := 1) rfl rfl, c, _, rfl, .inr hc, _, _, rfl, rfl, ?_⟩
      have e1 : decide ((1 : Int) ≤ (xs.length : Int)) = decide (1 ≤ l.length) := decide_eq_decide.mpr (by omega)
      have e2 : decide ((xs.length : Int) ≤ 13) = decide (l.length ≤ 13) := decide_eq_decide.mpr (by omega)
      refine ⟨_, rfl, ?_⟩
      rw [e1]
      cases h1 : decide (1 ≤ l.length) with
      | false => exact iteF ⟨_, rfl, _, rfl, _, _, rfl, fun hb => (by cases hb), fun _ H' d s' hd => bad2 (by show (decide _ && _) = _; rw [h1]; rfl) H' d s' hd⟩
      | true =>
        refine iteT ⟨_, _, rfl, rfl, _, rfl, _, rfl, _, _, rfl, ?_⟩
        rw [e2]
        cases h2 : decide (l.length ≤ 13) with
        | false => exact ⟨fun hb => (by cases hb), fun _ H' d s' hd => bad2 (by show (decide _ && decide _) = _; rw [h1, h2]; rfl) H' d s' hd⟩
        | true =>
          refine ⟨fun _ => ?_, fun hb => (by cases hb)⟩
          have hg : tabLen (.list l) = true := by show (decide _ && decide _) = _; rw [h1, h2]; rfl
          have h1' := of_decide_eq_true h1
          have h2' := of_decide_eq_true h2
          have hoks := okV_list ok
          refine ⟨_, rfl, a, _, _, _, rfl, rfl, ha, at_of (j := 1) rfl rfl, c, _, rfl, .inr hc, _, _, rfl, rfl, Nat.zero_le _, fun F hF => ?_⟩
          have s1 : Same H (upd H F (.lst [])) := (Same.refl H).new hF
          refine ⟨_, rfl, a, _, _, _, rfl, rfl, s1.tup ha, at_of (j := 1) rfl rfl, c, _, rfl, .inr (s1.tup hc), (xs.length : Int), rfl, by omega, by omega, for_range (lo := 0) (n := (xs.length : Int).toNat) (fun i σ H' => ∃ (y4 y5 y6 y7 : Option V) (rs : List Addr) (t : List (Nat × Nat)),
            σ = [some (.ref a), some (.bl false), some (.int ((xs.length : Int) - 1)), some (.ref F), y4, y5, y6, y7] ∧ Same H H' ∧ H' F = some (.lst (rs.map V.ref)) ∧ Paired (fun r (p : Nat × Nat) => r ≠ F ∧ H' r = some (.lst [nv p.1, nv p.2])) rs t ∧
            RdSo (R7291g.Spec.parseState l.length) ((l.take i).map Rust.taken) t ∧ ∀ p ∈ t, p.1 < l.length ∧ p.2 < l.length) ⟨none, none, none, none, [], [], rfl, s1, upd_same, .nil, by rw [List.take_zero]; exact .nil, fun _ z => nomatch z⟩ ?_ ?_⟩
          · rintro i σ H2 hi ⟨y4, y5, y6, y7, rs, t, rfl, s2, hF2, hrs, hrd, hlt⟩
            have hil : i < l.length := by omega
            have hv : l[i]? = some l[i] := List.getElem?_eq_getElem hil
            obtain ⟨x, hxi, hvx⟩ := hxs.get hv
            have hvx := hvx.same s2
            have okv := okMany_at hoks (List.mem_of_getElem? hv)
            have hst := state_taken okv h1'
            have e0 : (V.int (0 + (i : Int))) = nv i := by show V.int (0 + (i : Int)) = V.int (i : Int); rw [Int.zero_add]
            rw [e0]
            obtain ⟨⟨m1, m2⟩, m3⟩ := stMsg_len i (by omega)
            have bad3 : stV l.length l[i] = none → ∀ H' d, Same H2 H' → RefH K H' d 2 (Str.ofString "state " ++ Str.ofString (toString (i : Int)) ++ Str.ofString " of table is malformed") → E (.ref A.refu) (some d) H' := fun hb H' d s' hd => by
              refine kE _ (tab_state_bad hg hrd hv (by rw [hst, hb])) H' d _ (s2.trans s') hd ?_
              have em : (Str.ofString "state " ++ Str.ofString (toString (i : Int)) ++ Str.ofString " of table is malformed" : Str) = Str.ofString (stMsg i) := by
                rw [str_append, str_append]
                rfl
              rw [em]
              exact msg_ok (stMsg_ok i (by omega))
            refine ⟨_, rfl, a, _, _, _, rfl, rfl, s2.tup ha, at_of (j := 1) rfl rfl, _, rfl, c, _, _, x, rfl, rfl, s2.tup hc, at_of (j := i) rfl hxi, ?_⟩
            generalize hvi : l[i] = v at hv hvx okv hst bad3
            cases v with
            | list r =>
              rw [ValAt] at hvx
              obtain ⟨b, rc, ys, rfl, hb, hrc, hys⟩ := hvx
              have hyl : ys.length = r.length := hys.length
              refine ⟨_, rfl, b, _, _, _, rfl, rfl, hb, at_of (j := 0) rfl rfl, rfl, _, rfl, iteT ?_⟩
              refine ⟨_, rfl, b, _, _, _, rfl, rfl, hb, at_of (j := 1) rfl rfl, rc, _, rfl, .inr hrc, rfl, _, rfl, ?_⟩
              have el : decide (V.int (ys.length : Int) = V.int 2) = decide (r.length = 2) := by
                refine decide_eq_decide.mpr ⟨fun z => ?_, fun z => ?_⟩
                · injection z with z
                  omega
                · rw [hyl, z]
                  rfl
              rw [el]
              cases hr2 : decide (r.length = 2) with
              | false =>
                have hn : stV l.length (.list r) = none := by
                  rw [stV_list]
                  match r, of_decide_eq_false hr2 with
                  | [], _ => rfl
                  | [_], _ => rfl
                  | _ :: _ :: _ :: _, _ => rfl
                exact iteF ⟨_, rfl, _, rfl, _, rfl, (i : Int), rfl, m3, _, _, rfl, rfl, m1, _, _, rfl, rfl, m2, _, _, rfl, fun hb => (by cases hb), fun _ H' d s' hd => bad3 hn H' d s' hd⟩
              | true =>
                have hr2 := of_decide_eq_true hr2
                obtain ⟨p, q, rfl⟩ : ∃ p q, r = [p, q] := by
                  match r, hr2 with
                  | [p, q], _ => exact ⟨p, q, rfl⟩
                rw [ValsAt] at hys
                obtain ⟨x1, ys1, rfl, hx1, hys⟩ := hys
                rw [ValsAt] at hys
                obtain ⟨x2, ys2, rfl, hx2, hys⟩ := hys
                rw [ValsAt] at hys
                subst hys
                have hpos := two_at (R := fun (x : V) (u : RWire.Value) => ValAt NF K H2 u x) hx1 hx2
                have hst2 : stV l.length (.list [p, q]) = if (isInt p 0 ((l.length : Int) - 1) && isInt q 0 ((l.length : Int) - 1)) = true then some ((intV p).toNat, (intV q).toNat) else none := rfl
                have hst2 : stV l.length (.list [p, q]) = if (isInt p 0 ((xs.length : Int) - 1) && isInt q 0 ((xs.length : Int) - 1)) = true then some ((intV p).toNat, (intV q).toNat) else none := by rw [hst2, hxl]
                refine iteT ?_
                refine ⟨_, rfl, b, _, _, _, rfl, rfl, hb, at_of (j := 1) rfl rfl, rc, rfl, ⟨_, hrc⟩, fun D hD => lc_tup (K := K) (a := rc) (xs := [x1, x2]) (fun j H' => Same H2 H' ∧ H' D = some (.lst ((([p, q].take j).map fun u => isInt u 0 ((xs.length : Int) - 1)).map V.bl))) ⟨(Same.refl H2).new hD, upd_same⟩ (fun j H' _ z => z.1.tup hrc) ?_ ?_⟩
                · rintro j y H3 hy ⟨s3, hD3⟩
                  obtain ⟨u, hu, huv⟩ := hpos j y hy
                  have hj2 : j < 2 := (List.getElem?_eq_some_iff.mp hy).1
                  refine ⟨rfl, _, rfl, _, rfl, NF, y, u, 0, _, rfl, huv.same s3, _, hD3, ?_, s3.put hD, ?_⟩
                  · rw [List.length_map, List.length_map, List.length_take]
                    exact small_lt (by show min j 2 ≤ 1000000; omega)
                  · rw [upd_same, take_more hu, List.map_append, List.map_append]
                    rfl
                · rintro H3 ⟨s3, hD3⟩
                  refine ⟨D, _, rfl, SqL.of hD3, ?_⟩
                  have eb : (([p, q].take ([x1, x2] : List V).length).map fun u => isInt u 0 ((xs.length : Int) - 1)).all id = (isInt p 0 ((xs.length : Int) - 1) && isInt q 0 ((xs.length : Int) - 1)) := by
                    show (isInt p 0 _ && (isInt q 0 _ && true)) = _
                    rw [Bool.and_true]
                  rw [eb]
                  cases hgd : (isInt p 0 ((xs.length : Int) - 1) && isInt q 0 ((xs.length : Int) - 1)) with
                  | false =>
                    have hn : stV l.length (.list [p, q]) = none := by rw [hst2, hgd]; rfl
                    exact ⟨_, rfl, _, rfl, _, rfl, (i : Int), rfl, m3, _, _, rfl, rfl, m1, _, _, rfl, rfl, m2, _, _, rfl, fun hb => (by cases hb), fun _ H' d s' hd => bad3 hn H' d (s3.trans s') hd⟩
                  | true =>
                    have hs' : stV l.length (.list [p, q]) = some ((intV p).toNat, (intV q).toNat) := by rw [hst2, hgd]; rfl
                    rw [Bool.and_eq_true] at hgd
                    obtain ⟨k1, ek1, ek1'⟩ := isInt_pos hgd.1
                    obtain ⟨k2, ek2, ek2'⟩ := isInt_pos hgd.2
                    rw [ek1, ValAt] at hx1
                    rw [ek2, ValAt] at hx2
                    have hkk := two_at (R := fun (x : V) (n : Nat) => ∃ z : Addr, x = .ref z ∧ SqT K H2 z [.int 4, nv n]) hx1 hx2
                    have hF3 := s3 _ _ hF2
                    refine ⟨_, rfl, _, rfl, _, rfl, (i : Int), rfl, m3, _, _, rfl, rfl, m1, _, _, rfl, rfl, m2, _, _, rfl, fun _ => ?_, fun hb => (by cases hb)⟩
                    refine ⟨_, rfl, .inl ⟨rfl, _, SqL.of hF3⟩, _, rfl, b, _, _, _, rfl, rfl, s3.tup hb, at_of (j := 1) rfl rfl, rc, rfl, ⟨_, s3.tup hrc⟩, fun D' hD' => lc_tup (K := K) (a := rc) (xs := [x1, x2]) (fun j H' => Same H3 H' ∧ H' D' = some (.lst (nvs ([k1, k2].take j)))) ⟨(Same.refl H3).new hD', upd_same⟩ (fun j H' _ z => z.1.tup (s3.tup hrc)) ?_ ?_⟩
                    · rintro j y H4 hy ⟨s4, hD4⟩
                      obtain ⟨n, hn, z, rfl, hz⟩ := hkk j y hy
                      have hj2 : j < 2 := (List.getElem?_eq_some_iff.mp hn).1
                      refine ⟨rfl, _, rfl, z, _, _, _, rfl, rfl, (s3.trans s4).tup hz, at_of (j := 1) rfl rfl, _, hD4, ?_, s4.put hD', ?_⟩
                      · rw [nvs_len, List.length_take]
                        exact small_lt (by show min j 2 ≤ 1000000; omega)
                      · rw [upd_same, take_more hn]
                        simp [nvs]
                    · rintro H4 ⟨s4, hD4⟩
                      have hD4 : H4 D' = some (.lst [nv k1, nv k2]) := hD4
                      have hF4 := s4 _ _ hF3
                      have nDF : D' ≠ F := fun z => by
                        rw [z, hF3] at hD'
                        cases hD'
                      have hrl : rs.length = i := by
                        have h1 := Paired.length hrs
                        have h2 := hrd.len
                        rw [List.length_map, List.length_take] at h2
                        omega
                      have hlt2 := stV_lt hs'
                      rw [ek1', ek2'] at hs' hlt2
                      refine ⟨F, _, _, rfl, rfl, hF4, by rw [List.length_map, hrl]; exact small_lt (by omega), _, _, _, _, rs ++ [D'], t ++ [(k1, k2)], rfl, (s2.trans (s3.trans s4)).put hF, ?_, ?_, ?_, ?_⟩
                      · rw [upd_same]
                        simp
                      · refine Paired.snoc (Paired.mapP hrs fun _ _ z => ⟨z.1, ?_⟩) ⟨nDF, ?_⟩
                        · rw [upd_ne z.1]
                          exact (s3.trans s4) _ _ z.2
                        · rw [upd_ne nDF]
                          exact hD4
                      · rw [take_more hv, List.map_append, List.map_singleton]
                        exact .snoc hrd (by rw [hst, hs'])
                      · intro z hz
                        rcases List.mem_append.mp hz with hz | hz
                        · exact hlt z hz
                        · have : z = (k1, k2) := by simpa using hz
                          rw [this]
                          exact hlt2
            | int _ => obtain ⟨b, ys, rfl, hb⟩ := hvx.kind; exact ⟨_, rfl, b, _, _, _, rfl, rfl, hb, at_of (j := 0) rfl rfl, rfl, _, rfl, iteF ⟨_, rfl, _, rfl, _, rfl, (i : Int), rfl, m3, _, _, rfl, rfl, m1, _, _, rfl, rfl, m2, _, _, rfl, fun hb => (by cases hb), fun _ H' d s' hd => bad3 rfl H' d s' hd⟩⟩
            | nothing => obtain ⟨b, ys, rfl, hb⟩ := hvx.kind; exact ⟨_, rfl, b, _, _, _, rfl, rfl, hb, at_of (j := 0) rfl rfl, rfl, _, rfl, iteF ⟨_, rfl, _, rfl, _, rfl, (i : Int), rfl, m3, _, _, rfl, rfl, m1, _, _, rfl, rfl, m2, _, _, rfl, fun hb => (by cases hb), fun _ H' d s' hd => bad3 rfl H' d s' hd⟩⟩
            | null => obtain ⟨b, ys, rfl, hb⟩ := hvx.kind; exact ⟨_, rfl, b, _, _, _, rfl, rfl, hb, at_of (j := 0) rfl rfl, rfl, _, rfl, iteF ⟨_, rfl, _, rfl, _, rfl, (i : Int), rfl, m3, _, _, rfl, rfl, m1, _, _, rfl, rfl, m2, _, _, rfl, fun hb => (by cases hb), fun _ H' d s' hd => bad3 rfl H' d s' hd⟩⟩
            | bool t1 => obtain ⟨b, ys, rfl, hb⟩ := hvx.kind; cases t1 <;> exact ⟨_, rfl, b, _, _, _, rfl, rfl, hb, at_of (j := 0) rfl rfl, rfl, _, rfl, iteF ⟨_, rfl, _, rfl, _, rfl, (i : Int), rfl, m3, _, _, rfl, rfl, m1, _, _, rfl, rfl, m2, _, _, rfl, fun hb => (by cases hb), fun _ H' d s' hd => bad3 rfl H' d s' hd⟩⟩
            | text _ => obtain ⟨b, ys, rfl, hb⟩ := hvx.kind; exact ⟨_, rfl, b, _, _, _, rfl, rfl, hb, at_of (j := 0) rfl rfl, rfl, _, rfl, iteF ⟨_, rfl, _, rfl, _, rfl, (i : Int), rfl, m3, _, _, rfl, rfl, m1, _, _, rfl, rfl, m2, _, _, rfl, fun hb => (by cases hb), fun _ H' d s' hd => bad3 rfl H' d s' hd⟩⟩
            | record _ => obtain ⟨b, ys, rfl, hb⟩ := hvx.kind; exact ⟨_, rfl, b, _, _, _, rfl, rfl, hb, at_of (j := 0) rfl rfl, rfl, _, rfl, iteF ⟨_, rfl, _, rfl, _, rfl, (i : Int), rfl, m3, _, _, rfl, rfl, m1, _, _, rfl, rfl, m2, _, _, rfl, fun hb => (by cases hb), fun _ H' d s' hd => bad3 rfl H' d s' hd⟩⟩
            | big _ => rw [ValAt] at hvx; exact hvx.elim
            | octets _ => rw [ValAt] at hvx; exact hvx.elim
            | wide _ => rw [ValAt] at hvx; exact hvx.elim
          · rintro σ H2 ⟨y4, y5, y6, y7, rs, t, rfl, s2, hF2, hrs, hrd, hlt⟩
            have et : l.take (xs.length : Int).toNat = l := List.take_of_length_le (by omega)
            rw [et] at hrd
            have htl : t.length = l.length := by
              have := hrd.len
              rwa [List.length_map] at this
            refine ⟨_, rfl, kT t (tab_done hg hrd) H2 F s2 ⟨rs, SqL.of hF2, Paired.mapP hrs fun _ _ z => SqL.of z.2⟩ ⟨rfl, by rw [htl]; exact hlt⟩ (by omega) (by omega)⟩
    | int _ => obtain ⟨a, xs, rfl, ha⟩ := hx.kind; exact ⟨_, rfl, a, _, _, _, rfl, rfl, ha, at_of (j := 0) rfl rfl, rfl, _, rfl, iteT ⟨_, rfl, _, _, rfl, fun hb => (by cases hb), fun _ H' d s' hd => bad2 rfl H' d s' hd⟩⟩
    | nothing => obtain ⟨a, xs, rfl, ha⟩ := hx.kind; exact ⟨_, rfl, a, _, _, _, rfl, rfl, ha, at_of (j := 0) rfl rfl, rfl, _, rfl, iteT ⟨_, rfl, _, _, rfl, fun hb => (by cases hb), fun _ H' d s' hd => bad2 rfl H' d s' hd⟩⟩
    | null => obtain ⟨a, xs, rfl, ha⟩ := hx.kind; exact ⟨_, rfl, a, _, _, _, rfl, rfl, ha, at_of (j := 0) rfl rfl, rfl, _, rfl, iteT ⟨_, rfl, _, _, rfl, fun hb => (by cases hb), fun _ H' d s' hd => bad2 rfl H' d s' hd⟩⟩
    | bool t => obtain ⟨a, xs, rfl, ha⟩ := hx.kind; cases t <;> exact ⟨_, rfl, a, _, _, _, rfl, rfl, ha, at_of (j := 0) rfl rfl, rfl, _, rfl, iteT ⟨_, rfl, _, _, rfl, fun hb => (by cases hb), fun _ H' d s' hd => bad2 rfl H' d s' hd⟩⟩
    | text _ => obtain ⟨a, xs, rfl, ha⟩ := hx.kind; exact ⟨_, rfl, a, _, _, _, rfl, rfl, ha, at_of (j := 0) rfl rfl, rfl, _, rfl, iteT ⟨_, rfl, _, _, rfl, fun hb => (by cases hb), fun _ H' d s' hd => bad2 rfl H' d s' hd⟩⟩
    | record _ => obtain ⟨a, xs, rfl, ha⟩ := hx.kind; exact ⟨_, rfl, a, _, _, _, rfl, rfl, ha, at_of (j := 0) rfl rfl, rfl, _, rfl, iteT ⟨_, rfl, _, _, rfl, fun hb => (by cases hb), fun _ H' d s' hd => bad2 rfl H' d s' hd⟩⟩
    | big _ => rw [ValAt] at hx; exact hx.elim
    | octets _ => rw [ValAt] at hx; exact hx.elim
    | wide _ => rw [ValAt] at hx; exact hx.elim
end
end Sw
set_option Elab.async false
set_option linter.all false
set_option maxRecDepth 100000
set_option maxHeartbeats 4000000
/-! Separating words: what is told. -/
namespace Sw
open PySem PySem.Spec PyProof.Rows L2
open R7291g.Spec (tableValue orNull letterValue wordValue representativeValue iteratorResult)
open Rust (given)

theorem givenAll_map : ∀ l : List R7291g.Spec.Plain, Rust.givenAll l = l.map given
  | [] => rfl
  | v :: r => by rw [Rust.givenAll, givenAll_map r, List.map_cons]
theorem given_arr (l : List R7291g.Spec.Plain) : given (.arr l) = .list (l.map given) := by rw [given, givenAll_map]
theorem given_nat (n : Nat) : given (R7291g.Spec.nat n) = .int (n : Int) := rfl
theorem given_nats (l : List Nat) : given (R7291g.Spec.nats l) = .list (l.map fun n : Nat => .int (n : Int)) := by
  unfold R7291g.Spec.nats
  rw [given_arr, List.map_map]
  rfl
theorem given_table (t : List (Nat × Nat)) : given (tableValue t) = .list (t.map fun e => .list [.int (e.1 : Int), .int (e.2 : Int)]) := by
  unfold tableValue
  rw [given_arr, List.map_map]
  congr 1
theorem oct_unit {n : Nat} (h : n < 65536) : Rust.octetOf (UInt16.ofNat n) = UInt8.ofNat n := by
  unfold Rust.octetOf
  congr 1
  simp
  omega
theorem given_word {r : List Nat} (h : ∀ l ∈ r, l < 2) : given (wordValue r) = .text (r.map fun l => UInt8.ofNat (97 + l)) := by
  have e : given (wordValue r) = .text ((r.map fun u => UInt16.ofNat (97 + u)).map Rust.octetOf) := rfl
  rw [e, List.map_map]
  congr 1
  refine List.map_congr_left fun l hl => ?_
  have := h l hl
  exact oct_unit (by omega)
theorem given_str (s : String) (h : ascii (Str.ofString s) = true) : given (R7291g.Spec.text s) = .text (txt (Str.ofString s)) := by
  rw [txt_units h]
  rfl
theorem given_record : ∀ fs : List (String × R7291g.Spec.Plain), (∀ f ∈ fs, ascii (Str.ofString f.1) = true) → given (R7291g.Spec.record fs) = .record (fs.map fun f => (txt (Str.ofString f.1), given f.2)) := fun fs h => by
  unfold R7291g.Spec.record
  rw [given]
  congr 1
  induction fs with
  | nil => rfl
  | cons f fs ih =>
    rw [List.map_cons, List.map_cons, Rust.givenFields, ih fun f hf => h f (List.mem_cons_of_mem _ hf), txt_units (h f List.mem_cons_self)]
theorem ov_letter {l : Nat} (h : l < 2) : ov (UInt8.ofNat (97 + l)) = .int (97 + (l : Int)) := by
  rw [ov_small (by omega)]
  rfl
theorem listQ {X : Cx} (K : PySem.W.Frag) (h : X.K = K := by rfl) : CallR X (.type "list") (fun xs H Q => ∃ p ys, xs = [.ref p] ∧ (SqL K H p ys ∨ SqT K H p ys) ∧ ∀ l, H l = none → Q (.ref l) (upd H l (.lst ys))) := by subst h; exact call_list_of
section
variable {P : Program} {w : World} {K : PySem.W.Frag} {mg : Str → Option Value} {base : Heap} {A : Ad}
/-- new in what comes after H -/
abbrev NewIn (H : Hp) : Addr → Prop := fun a => H a = none
/-- told_table(table) -/
def spToldTable (K : PySem.W.Frag) : Sp := fun vs H Q _ => ∃ (x : V) (o : Option (List (Nat × Nat))), vs = [x] ∧ (match o with | none => x = .non | some t => ∃ a, x = .ref a ∧ TabT K H a t ∧ t.length ≤ 1000) ∧
  ∀ H' p, Same H H' → ValAt NF K H' (given (orNull tableValue o)) (.ref p) → Q (.ref p) H'
theorem c_told_table (T : Txt K mg A) : Cal P w K mg base CX0 3 "told_table" (spToldTable K) := by
  have c_listed := c_listed (P := P) (w := w) (base := base) T
  have c_integers := c_integers (P := P) (w := w) (base := base) T
  refine cal_of T.d_told_table sc_told_table (fun vs H Q E h => ?_) (fun f cdv A2 outer s H vs Q E hr h => ?_)
  · obtain ⟨_, _, rfl, _⟩ := h
    rfl
  · obtain ⟨x, o, rfl, ho, k⟩ := h
    refine ⟨_, (pss_one (ps_ret (pe_ifExp (pt_cmpR op_isN (pv 0) pe_non (nomark _)) (pe_gr rfl T.NULL) (pe_d c_listed hr rfl (pa_cons (pe_lc (own := [("row", 1)]) (g := (gName 1)) (tt := tYes) rfl sc_told_table.nd (pi_list (pv 0)) (blkOk_by (own := [("row", 1)]) (N := ["table", "row"]) (sc := defScope s_told_table) (by decide +kernel)) (fun _ _ _ _ _ => pg_name (i := 1) sc_told_table.nd rfl (Or.inl rfl)) (fun _ _ _ _ _ => pts_nil) (fun _ _ _ _ _ => (pe_d c_integers hr rfl (pa_cons (pe_callTy (listQ K) rfl T.list (by decide +kernel) (pa_cons (pv 1) pa_nil)) pa_nil)))) pa_nil))))), ?_⟩
    cases o with
    | none =>
      have ho : x = .non := ho
      subst ho
      refine ⟨_, rfl, rfl, _, rfl, iteT fun p hp => k H p (Same.refl H) ?_⟩
      show ValAt NF K H .null _
      rw [ValAt]
      exact ⟨p, rfl, hp H⟩
    | some t =>
      obtain ⟨a, rfl, ⟨rs, ha, hrs⟩, hl⟩ := ho
      have hlen : rs.length = t.length := Paired.length hrs
      have eg : given (orNull tableValue (some t)) = .list (t.map fun e => .list [.int (e.1 : Int), .int (e.2 : Int)]) := given_table t
      rw [eg] at k
      refine ⟨_, rfl, rfl, _, rfl, iteF ?_⟩
      refine ⟨_, rfl, a, rfl, ⟨_, ha⟩, fun D hD => lc_list (K := K) (a := a) (xs := rs.map V.ref) (fun i H' => Same H H' ∧ ∃ vs, H' D = some (.lst vs) ∧ ValsAt NF K H' ((t.take i).map fun e => .list [.int (e.1 : Int), .int (e.2 : Int)]) vs) ⟨(Same.refl H).new hD, [], upd_same, by rw [List.take_zero, List.map_nil, ValsAt]⟩ (fun i H' _ q => q.1.seq ha) ?_ ?_⟩
      · rintro i x H2 hx ⟨s2, vs, hD2, hvs⟩
        obtain ⟨r, hr1, rfl⟩ : ∃ r, rs[i]? = some r ∧ x = .ref r := by
          rw [List.getElem?_map] at hx
          cases e : rs[i]? with
          | none => rw [e] at hx; cases hx
          | some r => rw [e] at hx; exact ⟨r, rfl, (Option.some.inj hx).symm⟩
        obtain ⟨q, hq, hrow⟩ := paired_get' hrs hr1
        have hi : i < t.length := (List.getElem?_eq_some_iff.mp hq).1
        refine ⟨rfl, _, rfl, r, _, rfl, .inr (s2.tup hrow), fun L hL => ?_⟩
        have s3 : Same H2 (upd H2 L (.lst [nv q.1, nv q.2])) := (Same.refl H2).new hL
        refine ⟨L, [q.1, q.2], rfl, SqL.of upd_same, by show 2 ≤ 100000; decide, fun H4 p s4 hp => ?_⟩
        have s24 := s3.trans s4
        have hD4 := s24 _ _ hD2
        have mv : Moves NF NF K H4 (upd H4 D (.lst (vs ++ [.ref p]))) := Moves.put hD4 fun _ z => z.elim
        refine ⟨_, hD4, ?_, (s2.trans s24).put hD, _, upd_same, ?_⟩
        · rw [hvs.length, List.length_map, List.length_take]
          exact small_lt (by omega)
        · rw [take_more hq, List.map_append, List.map_singleton]
          exact (ValsAt.move mv _ _ (hvs.same s24)).snoc (ValAt.move mv _ _ hp)
      · rintro H2 ⟨s2, vs, hD2, hvs⟩
        rw [List.length_map, hlen, List.take_length] at hvs
        exact ⟨D, vs, NF, _, rfl, SqL.of hD2, hvs, fun H3 p s3 hp => k H3 p (s2.trans s3) hp⟩

/-- told_letter(letter) -/
def spToldLetter (K : PySem.W.Frag) : Sp := fun vs H Q _ => ∃ (l : Nat), vs = [nv l] ∧ l < 2 ∧ ∀ H' p, Same H H' → ValAt (NewIn H) K H' (given (letterValue l)) (.ref p) → Q (.ref p) H'
theorem c_told_letter (T : Txt K mg A) : Cal P w K mg base CX0 1 "told_letter" (spToldLetter K) := by
  refine cal_of T.d_told_letter sc_told_letter (fun vs H Q E h => ?_) (fun f cdv A2 outer s H vs Q E hr h => ?_)
  · obtain ⟨_, rfl, _⟩ := h
    rfl
  · obtain ⟨l, rfl, hl, k⟩ := h
    refine ⟨_, (pss_one (ps_ret (pe_tup (pa_cons (pe_gi rfl T.TEXT) (pa_cons (pe_lst (pa_cons (pe_op op_add (pe_gi rfl T.FIRST) (pv 0)) pa_nil)) pa_nil))))), ?_⟩
    have eg : given (letterValue l) = .text [UInt8.ofNat (97 + l)] := given_word (r := [l]) (fun x hx => (List.mem_singleton.mp hx) ▸ hl)
    rw [eg] at k
    refine ⟨_, rfl, _, _, rfl, rfl, (by show 1 ≤ sizeLine; decide), fun L hL => ⟨(by show 2 ≤ sizeLine; decide), fun p hp => ?_⟩⟩
    have s1 := ((Same.refl H).new hL (o := .lst [.int (97 + (l : Int))]))
    refine k _ p (s1.new hp) ?_
    rw [ValAt]
    refine ⟨p, L, rfl, SqT.of upd_same, .inr ⟨hL, ?_⟩⟩
    rw [upd_ne (ne_of_none upd_same hp), upd_same, List.map_singleton, ov_letter hl]

/-- told_row(row) -/
def spToldRow (K : PySem.W.Frag) : Sp := fun vs H Q _ => ∃ (r b : Addr) (wd : List Nat) (c : Nat), vs = [.ref r] ∧ SqT K H r [.ref b, nv c] ∧ SqT K H b (nvs wd) ∧ (∀ l ∈ wd, l < 2) ∧ wd.length ≤ 1000 ∧ ∀ H' p, Same H H' → ValAt (NewIn H) K H' (given (representativeValue (wd, c))) (.ref p) → Q (.ref p) H'
theorem c_told_row (T : Txt K mg A) : Cal P w K mg base CX0 3 "told_row" (spToldRow K) := by
  have c_record := c_record (P := P) (w := w) (base := base) T
  have c_integer := c_integer (P := P) (w := w) (base := base) T
  refine cal_of T.d_told_row sc_told_row (fun vs H Q E h => ?_) (fun f cdv A2 outer s H vs Q E hr h => ?_)
  · obtain ⟨_, _, _, _, rfl, _⟩ := h
    rfl
  · obtain ⟨r, b, wd, c, rfl, hr1, hb, hl2, hll, k⟩ := h
    refine ⟨_, (pss_cons (ps_asg (pv 0) (pg_tup rfl (pgs_cons (pg_name (i := 1) sc_told_row.nd rfl (Or.inl rfl)) (pgs_cons (pg_name (i := 2) sc_told_row.nd rfl (Or.inl rfl)) pgs_nil))))
      (pss_one (ps_ret (pe_d c_record hr rfl (pa_cons (pe_lst (pa_cons (pe_tup (pa_cons pe_str (pa_cons (pe_tup (pa_cons (pe_gi rfl T.TEXT) (pa_cons (pe_lc (own := [("letter", 3)]) (g := (gName 3)) (tt := tYes) rfl sc_told_row.nd (pi_tup (pv 1)) (blkOk_by (own := [("letter", 3)]) (N := ["row", "word", "count", "letter"]) (sc := defScope s_told_row) (by decide +kernel)) (fun _ _ _ _ _ => pg_name (i := 3) sc_told_row.nd rfl (Or.inl rfl)) (fun _ _ _ _ _ => pts_nil) (fun _ _ _ _ _ => (pe_op op_add (pe_gi rfl T.FIRST) (pv 3)))) pa_nil))) pa_nil))) (pa_cons (pe_tup (pa_cons pe_str (pa_cons (pe_d c_integer hr rfl (pa_cons (pv 2) pa_nil)) pa_nil))) pa_nil))) pa_nil))))), ?_⟩
    have eg : given (representativeValue (wd, c)) = .record [(txt "word", .text (wd.map fun l => UInt8.ofNat (97 + l))), (txt "count", .int (c : Int))] := by
      unfold representativeValue
      rw [given_record _ (fun f hf => by
        rcases List.mem_cons.mp hf with rfl | hf
        · show ascii (Str.ofString "word") = true
          decide +kernel
        · rw [List.mem_singleton.mp hf]
          show ascii (Str.ofString "count") = true
          decide +kernel)]
      show RWire.Value.record [(_, given (wordValue wd)), (_, given (R7291g.Spec.nat c))] = _
      rw [given_word hl2]
      rfl
    rw [eg] at k
    refine ⟨_, rfl, r, _, rfl, hr1, rfl, _, _, rfl, _, _, rfl, rfl, ?_⟩
    refine ⟨_, rfl, b, rfl, ⟨_, hb⟩, fun D hD => lc_tup (K := K) (a := b) (xs := nvs wd) (fun i H' => Same H H' ∧ H' D = some (.lst (((wd.take i).map fun l => UInt8.ofNat (97 + l)).map ov))) ⟨(Same.refl H).new hD, upd_same⟩ (fun i H' _ q => q.1.tup hb) ?_ ?_⟩
    · rintro i x H2 hx ⟨s2, hD2⟩
      obtain ⟨l, hl, rfl⟩ := nvs_get hx
      have hi : i < wd.length := (List.getElem?_eq_some_iff.mp hl).1
      refine ⟨rfl, _, rfl, _, _, rfl, rfl, _, hD2, ?_, s2.put hD, ?_⟩
      · rw [List.length_map, List.length_map, List.length_take]
        exact small_lt (by omega)
      · rw [upd_same, take_more hl, List.map_append, List.map_append, List.map_singleton, List.map_singleton, ov_letter (hl2 l (List.mem_of_getElem? hl))]
    · rintro H2 ⟨s2, hD2⟩
      rw [nvs_len, List.take_length] at hD2
      refine ⟨(by show 2 ≤ sizeLine; decide), fun p hp => ⟨(by show 2 ≤ sizeLine; decide), fun q hq => ?_⟩⟩
      have s3 : Same H2 (upd H2 p (.tup [.int 6, .ref D])) := (Same.refl H2).new hp
      have hp3 : SqT K (upd H2 p (.tup [.int 6, .ref D])) p [.int 6, .ref D] := SqT.of upd_same
      generalize upd H2 p (.tup [.int 6, .ref D]) = H3 at s3 hp3 hq
      have s4 : Same H3 (upd H3 q (.tup [.str "word", .ref p])) := (Same.refl H3).new hq
      have hq4 : SqT K (upd H3 q (.tup [.str "word", .ref p])) q [.str "word", .ref p] := SqT.of upd_same
      generalize upd H3 q (.tup [.str "word", .ref p]) = H4 at s4 hq4
      refine ⟨_, rfl, (c : Int), rfl, fun H5 z s5 hz => ⟨(by show 2 ≤ sizeLine; decide), fun t ht => ?_⟩⟩
      have s6 : Same H5 (upd H5 t (.tup [.str "count", .ref z])) := (Same.refl H5).new ht
      have ht6 : SqT K (upd H5 t (.tup [.str "count", .ref z])) t [.str "count", .ref z] := SqT.of upd_same
      generalize upd H5 t (.tup [.str "count", .ref z]) = H6 at s6 ht6
      refine ⟨(by show 2 ≤ sizeLine; decide), fun L hL => ?_⟩
      have s7 : Same H6 (upd H6 L (.lst [.ref q, .ref t])) := (Same.refl H6).new hL
      refine ⟨L, [q, t], NewIn H, [("word", .text (wd.map fun l => UInt8.ofNat (97 + l))), ("count", .int (c : Int))], rfl, SqL.of upd_same, (by show 2 ≤ 1000; decide), ?_, fun H8 u s8 hu => k H8 u (s2.trans (s3.trans (s4.trans (s5.trans (s6.trans (s7.trans s8)))))) hu⟩
      refine .cons ⟨(by show ascii "word" = true; decide +kernel), (by show ("word" : Str).cps.size ≤ 1000; decide +kernel), .ref p, (s5.trans (s6.trans s7)).tup hq4, ?_⟩ (.cons ⟨(by show ascii "count" = true; decide +kernel), (by show ("count" : Str).cps.size ≤ 1000; decide +kernel), .ref z, s7.tup ht6, (hz.same (s6.trans s7)).any⟩ .nil)
      rw [ValAt]
      exact ⟨p, D, rfl, (s4.trans (s5.trans (s6.trans s7))).tup hp3, .inr ⟨hD, (s3.trans (s4.trans (s5.trans (s6.trans s7)))) _ _ hD2⟩⟩

/-- told_step(value, is_done) -/
def spToldStep (K : PySem.W.Frag) : Sp := fun vs H Q _ => ∃ (b : Addr → Prop) (x : V) (v : RWire.Value) (d : Bool), vs = [x, .bl d] ∧ ValAt b K H v x ∧ ∀ H' p, Same H H' → ValAt b K H' (.record [(txt "value", v), (txt "done", .bool d)]) (.ref p) → Q (.ref p) H'
theorem c_told_step (T : Txt K mg A) : Cal P w K mg base CX0 3 "told_step" (spToldStep K) := by
  have c_record := c_record (P := P) (w := w) (base := base) T
  refine cal_of T.d_told_step sc_told_step (fun vs H Q E h => ?_) (fun f cdv A2 outer s H vs Q E hr h => ?_)
  · obtain ⟨_, _, _, _, rfl, _⟩ := h
    rfl
  · obtain ⟨b, x, v, d, rfl, hx, k⟩ := h
    refine ⟨_, (pss_one (ps_ret (pe_d c_record hr rfl (pa_cons (pe_lst (pa_cons (pe_tup (pa_cons pe_str (pa_cons (pv 0) pa_nil))) (pa_cons (pe_tup (pa_cons pe_str (pa_cons (pe_ifExp (pt_val (pv 1)) (pe_gr rfl T.TRUE) (pe_gr rfl T.FALSE)) pa_nil))) pa_nil))) pa_nil)))), ?_⟩
    refine ⟨_, rfl, (by show 2 ≤ sizeLine; decide), fun p hp => ?_⟩
    have s1 : Same H (upd H p (.tup [.str "value", x])) := (Same.refl H).new hp
    have hp1 : SqT K (upd H p (.tup [.str "value", x])) p [.str "value", x] := SqT.of upd_same
    generalize upd H p (.tup [.str "value", x]) = H1 at s1 hp1
    have fin : ∀ (z : Addr), ValAt NF K H1 (.bool d) (.ref z) → ∀ q, H1 q = none → 2 ≤ sizeLine ∧ ∀ L, upd H1 q (.tup [.str "done", .ref z]) L = none → spRecord K [.ref L] (upd (upd H1 q (.tup [.str "done", .ref z])) L (.lst [.ref p, .ref q])) Q E0 := fun z hz q hq => ⟨by decide, fun L hL => by
      have s2 : Same H1 (upd H1 q (.tup [.str "done", .ref z])) := (Same.refl H1).new hq
      have hq2 : SqT K (upd H1 q (.tup [.str "done", .ref z])) q [.str "done", .ref z] := SqT.of upd_same
      generalize upd H1 q (.tup [.str "done", .ref z]) = H2 at s2 hq2 hL
      have s3 : Same H2 (upd H2 L (.lst [.ref p, .ref q])) := (Same.refl H2).new hL
      refine ⟨L, [p, q], b, [("value", v), ("done", .bool d)], rfl, SqL.of upd_same, (by show 2 ≤ 1000; decide), ?_, fun H8 u s8 hu => k H8 u (s1.trans (s2.trans (s3.trans s8))) hu⟩
      exact .cons ⟨(by show ascii "value" = true; decide +kernel), (by show ("value" : Str).cps.size ≤ 1000; decide +kernel), x, (s2.trans s3).tup hp1, hx.same (s1.trans (s2.trans s3))⟩ (.cons ⟨(by show ascii "done" = true; decide +kernel), (by show ("done" : Str).cps.size ≤ 1000; decide +kernel), .ref z, s3.tup hq2, (hz.same (s2.trans s3)).any⟩ .nil)⟩
    refine ⟨_, rfl, d, rfl, ?_⟩
    cases d with
    | true =>
      refine iteT fun z hz => ⟨(by show 2 ≤ sizeLine; decide), fun q hq => fin z ?_ q hq⟩
      rw [ValAt]
      exact ⟨z, rfl, hz _⟩
    | false =>
      refine iteF fun z hz => ⟨(by show 2 ≤ sizeLine; decide), fun q hq => fin z ?_ q hq⟩
      rw [ValAt]
      exact ⟨z, rfl, hz _⟩

/-- told_thrown(value) -/
def spToldThrown (K : PySem.W.Frag) : Sp := fun vs H Q _ => ∃ (b : Addr → Prop) (x : V) (v : RWire.Value), vs = [x] ∧ ValAt b K H v x ∧ ∀ H' p, Same H H' → ValAt b K H' (.list [.text (txt "thrown"), v]) (.ref p) → Q (.ref p) H'
theorem c_told_thrown (T : Txt K mg A) : Cal P w K mg base CX0 3 "told_thrown" (spToldThrown K) := by
  have c_listed := c_listed (P := P) (w := w) (base := base) T
  have c_text := c_text (P := P) (w := w) (base := base) T
  refine cal_of T.d_told_thrown sc_told_thrown (fun vs H Q E h => ?_) (fun f cdv A2 outer s H vs Q E hr h => ?_)
  · obtain ⟨_, _, _, rfl, _⟩ := h
    rfl
  · obtain ⟨b, x, v, rfl, hx, k⟩ := h
    refine ⟨_, (pss_one (ps_ret (pe_d c_listed hr rfl (pa_cons (pe_lst (pa_cons (pe_d c_text hr rfl (pa_cons pe_str pa_nil)) (pa_cons (pv 0) pa_nil))) pa_nil)))), ?_⟩
    refine ⟨"thrown", rfl, by decide +kernel, by decide +kernel, fun H1 p s1 hp => ⟨_, rfl, (by show 2 ≤ sizeLine; decide), fun L hL => ?_⟩⟩
    have s2 : Same H1 (upd H1 L (.lst [.ref p, x])) := (Same.refl H1).new hL
    refine ⟨L, [.ref p, x], b, [.text (txt "thrown"), v], rfl, SqL.of upd_same, ?_, fun H3 u s3 hu => k H3 u (s1.trans (s2.trans s3)) hu⟩
    rw [ValsAt]
    refine ⟨_, _, rfl, (hp.same s2).any, ?_⟩
    rw [ValsAt]
    refine ⟨_, _, rfl, hx.same (s1.trans s2), ?_⟩
    rw [ValsAt]

/-- told_result(value, is_done) -/
def spToldResult (K : PySem.W.Frag) : Sp := fun vs H Q _ => ∃ (b : Addr → Prop) (x : V) (v : RWire.Value) (d : Bool), vs = [x, .bl d] ∧ ValAt b K H v x ∧ ∀ H' p, Same H H' → ValAt b K H' (.list [.text (txt "result"), v, .bool d]) (.ref p) → Q (.ref p) H'
theorem c_told_result (T : Txt K mg A) : Cal P w K mg base CX0 3 "told_result" (spToldResult K) := by
  have c_listed := c_listed (P := P) (w := w) (base := base) T
  have c_text := c_text (P := P) (w := w) (base := base) T
  refine cal_of T.d_told_result sc_told_result (fun vs H Q E h => ?_) (fun f cdv A2 outer s H vs Q E hr h => ?_)
  · obtain ⟨_, _, _, _, rfl, _⟩ := h
    rfl
  · obtain ⟨b, x, v, d, rfl, hx, k⟩ := h
    refine ⟨_, (pss_one (ps_ret (pe_d c_listed hr rfl (pa_cons (pe_lst (pa_cons (pe_d c_text hr rfl (pa_cons pe_str pa_nil)) (pa_cons (pv 0) (pa_cons (pe_ifExp (pt_val (pv 1)) (pe_gr rfl T.TRUE) (pe_gr rfl T.FALSE)) pa_nil)))) pa_nil)))), ?_⟩
    refine ⟨"result", rfl, by decide +kernel, by decide +kernel, fun H1 p s1 hp => ⟨_, rfl, ?_⟩⟩
    have fin : ∀ (z : Addr), ValAt NF K H1 (.bool d) (.ref z) → 3 ≤ sizeLine ∧ ∀ L, H1 L = none → spListed K [.ref L] (upd H1 L (.lst [.ref p, x, .ref z])) Q E0 := fun z hz => ⟨by decide, fun L hL => by
      have s2 : Same H1 (upd H1 L (.lst [.ref p, x, .ref z])) := (Same.refl H1).new hL
      refine ⟨L, [.ref p, x, .ref z], b, [.text (txt "result"), v, .bool d], rfl, SqL.of upd_same, ?_, fun H3 u s3 hu => k H3 u (s1.trans (s2.trans s3)) hu⟩
      rw [ValsAt]
      refine ⟨_, _, rfl, (hp.same s2).any, ?_⟩
      rw [ValsAt]
      refine ⟨_, _, rfl, hx.same (s1.trans s2), ?_⟩
      rw [ValsAt]
      refine ⟨_, _, rfl, (hz.same s2).any, ?_⟩
      rw [ValsAt]⟩
    refine ⟨_, rfl, d, rfl, ?_⟩
    cases d with
    | true =>
      refine iteT fun z hz => fin z ?_
      rw [ValAt]
      exact ⟨z, rfl, hz _⟩
    | false =>
      refine iteF fun z hz => fin z ?_
      rw [ValAt]
      exact ⟨z, rfl, hz _⟩
end
end Sw
set_option Elab.async false
set_option linter.all false
set_option maxRecDepth 100000
set_option maxHeartbeats 4000000
/-! Separating words: the calls without a slot. -/
namespace Sw
open PySem PySem.Spec PyProof.Rows L2
open Rust (given taken)
def numMsg (nm : String) (lo hi : Nat) : String := nm ++ " must be an integer from " ++ toString lo ++ " to " ++ toString hi
def wordMsg (nm : String) : String := nm ++ " must be a text of 0 to 12 letters"
theorem counting_lt {u v : List Nat} {l p : Nat} (h : R7291g.Spec.countingSeparator u v = some (l, p)) : l < 2 := by
  unfold R7291g.Spec.countingSeparator at h
  split at h
  · split at h <;> (injection h with h; injection h with h1 h2; omega)
  · injection h with h; injection h with h1 h2; omega
  · injection h with h; injection h with h1 h2; omega
  · cases h
theorem num_ok {name : String} {a b : Nat} {v : RWire.Value} (h : isInt v a b = true) : R7291g.Spec.readInteger name a b (taken v) = .ok (intV v).toNat := by
  rw [readInteger_taken, if_pos h]
theorem num_no {name : String} {a b : Nat} {v : RWire.Value} (h : isInt v a b = false) : R7291g.Spec.readInteger name a b (taken v) = .error (R7291g.Spec.beyond (numMsg name a b)) := by
  rw [readInteger_taken, if_neg (by rw [h]; decide)]
  rfl
theorem word_ok {name : String} {v : RWire.Value} {wd : List Nat} (ok : okV v = true) (h : wordV v = some wd) : R7291g.Spec.readWord name (taken v) = .ok wd := by
  rw [word_taken ok, h]
theorem word_no {name : String} {v : RWire.Value} (ok : okV v = true) (h : wordV v = none) : R7291g.Spec.readWord name (taken v) = .error (R7291g.Spec.wrong (wordMsg name)) := by
  rw [word_taken ok, h]
  rfl
theorem num_msg (nm : String) (lo hi : Nat) : ((((Str.ofString nm ++ (" must be an integer from " : Str)) ++ (toString (lo : Int) : Str)) ++ (" to " : Str)) ++ (toString (hi : Int) : Str) : Str) = Str.ofString (numMsg nm lo hi) := by
  rw [str_append, str_append, str_append, str_append]
  rfl
section
variable {K : PySem.W.Frag} {C : Addr} {H : Hp} {E : XK}
theorem num_ref {nm : String} {lo hi : Nat} (hm : (ascii (Str.ofString (numMsg nm lo hi)) && decide ((Str.ofString (numMsg nm lo hi)).cps.size ≤ 1000)) = true) (kE : RefE K C H E (R7291g.Spec.beyond (numMsg nm lo hi))) :
    ∀ H' d, Same H H' → RefH K H' d 2 ((((Str.ofString nm ++ (" must be an integer from " : Str)) ++ (toString (lo : Int) : Str)) ++ (" to " : Str)) ++ (toString (hi : Int) : Str)) → E (.ref C) (some d) H' := fun H' d s hd =>
  kE H' d _ s hd (by rw [num_msg]; exact msg_ok hm)
theorem word_ref {nm : String} (hm : (ascii (Str.ofString (wordMsg nm)) && decide ((Str.ofString (wordMsg nm)).cps.size ≤ 1000)) = true) (kE : RefE K C H E (R7291g.Spec.wrong (wordMsg nm))) :
    ∀ H' d, Same H H' → RefH K H' d 1 (Str.ofString nm ++ (" must be a text of 0 to 12 letters" : Str)) → E (.ref C) (some d) H' := fun H' d s hd =>
  kE H' d _ s hd (by rw [str_append]; exact msg_ok hm)
/-- three values -/
def GivenAt (K : PySem.W.Frag) (H : Hp) (g : Addr) (v0 v1 v2 : RWire.Value) : Prop := ∃ x0 x1 x2, SqL K H g [x0, x1, x2] ∧ (ValAt NF K H v0 x0 ∧ okV v0 = true) ∧ (ValAt NF K H v1 x1 ∧ okV v1 = true) ∧ (ValAt NF K H v2 x2 ∧ okV v2 = true)
/-- what is promised of a value -/
def RetV (K : PySem.W.Frag) (H : Hp) (Q : VK) (v : RWire.Value) : Prop := ∀ H' x N, Same H H' → ValAt N K H' v x → Q x H'
theorem RetV.of {H1 : Hp} {Q : VK} {v : RWire.Value} (s : Same H H1) (h : RetV K H Q v) : RetV K H1 Q v := fun H' x N s' hx => h H' x N (s.trans s') hx
/-- what a door without a slot is due -/
def fnD (d : Nat) (v0 v1 v2 : RWire.Value) : R7291g.Spec.Res R7291g.Spec.Plain := match d with
  | 0 => R7291g.Spec.finalStateFn (taken v0) (taken v1)
  | 1 => R7291g.Spec.reversibleFn (taken v0)
  | 2 => R7291g.Spec.separateFn (taken v0) (taken v1) (taken v2)
  | 3 => R7291g.Spec.separateReversibleFn (taken v0) (taken v1) (taken v2)
  | 4 => R7291g.Spec.fewestFn (taken v0) (taken v1)
  | 5 => R7291g.Spec.fewestReversibleFn (taken v0) (taken v1)
  | 6 => R7291g.Spec.countingFn (taken v0) (taken v1)
  | 7 => R7291g.Spec.counterFn (taken v0) (taken v1)
  | _ => R7291g.Spec.representativesFn (taken v0) (taken v1)
def spFn (K : PySem.W.Frag) (C : Addr) (lo hi : Nat) : Sp := fun vs H Q E => ∃ (d : Nat) (g : Addr) (v0 v1 v2 : RWire.Value), vs = [nv d, .ref g] ∧ lo ≤ d ∧ d ≤ hi ∧ GivenAt K H g v0 v1 v2 ∧
  (∀ p, fnD d v0 v1 v2 = .ok p → RetV K H Q (given p)) ∧ (∀ e, fnD d v0 v1 v2 = .error e → RefE K C H E e)
end
section
variable {P : Program} {w : World} {K : PySem.W.Frag} {mg : Str → Option PySem.Value} {base : Heap} {A : Ad}
theorem c_on_words (T : Txt K mg A) : Cal P w K mg base (L2N.CX P w) 5 "on_words" (spFn K A.refu 2 6) := by
  have c_number_of := c_number_of (P := P) (w := w) (base := base) T
  have c_word_of := c_word_of (P := P) (w := w) (base := base) T
  have c_told_table := c_told_table (P := P) (w := w) (base := base) T
  have c_first_separating := c_first_separating (P := P) (w := w) (base := base) T
  have c_fewest := c_fewest (P := P) (w := w) (base := base) T
  have c_integer := c_integer (P := P) (w := w) (base := base) T
  have c_find_counter := c_find_counter (P := P) (w := w) (base := base) T
  have c_record := c_record (P := P) (w := w) (base := base) T
  have c_told_letter := c_told_letter (P := P) (w := w) (base := base) T
  refine calX_of T.d_on_words sc_on_words (fun vs H Q E h => ?_) (fun f cdv A2 outer s H vs Q E hr h => ?_)
  · obtain ⟨_, _, _, _, _, rfl, _⟩ := h
    rfl
  · obtain ⟨d, g, v0, v1, v2, rfl, hd2, hd6, ⟨x0, x1, x2, hg, ⟨h0, o0⟩, ⟨h1, o1⟩, ⟨h2, o2⟩⟩, kT, kE⟩ := h
    refine ⟨_, (pss_cons (ps_if (pt_cmpR op_lt (pv 0) pe_int (nomark _))
       (pss_cons (ps_set (i := 2) sc_on_words.nd rfl (Or.inl rfl) (pe_dX c_number_of hr (L2N.takes_of rfl rfl rfl rfl) rfl (pa_cons (pe_ix (ixl K) (pv 1) pe_int (fun _ _ => rfl)) (pa_cons pe_str (pa_cons pe_int (pa_cons pe_int pa_nil))))))
        (pss_cons (ps_set (i := 3) sc_on_words.nd rfl (Or.inl rfl) (pe_dX c_word_of hr (L2N.takes_of rfl rfl rfl rfl) rfl (pa_cons (pe_ix (ixl K) (pv 1) pe_int (fun _ _ => rfl)) (pa_cons pe_str pa_nil))))
        (pss_one (ps_ret (pe_d c_told_table hr rfl (pa_cons (pe_d c_first_separating hr rfl (pa_cons (pv 2) (pa_cons (pv 3) (pa_cons (pe_dX c_word_of hr (L2N.takes_of rfl rfl rfl rfl) rfl (pa_cons (pe_ix (ixl K) (pv 1) pe_int (fun _ _ => rfl)) (pa_cons pe_str pa_nil))) (pa_cons (pe_cmpR op_eq (pv 0) pe_int (nomark _)) pa_nil))))) pa_nil))))))
       pss_nil)
      (pss_cons (ps_set (i := 3) sc_on_words.nd rfl (Or.inl rfl) (pe_dX c_word_of hr (L2N.takes_of rfl rfl rfl rfl) rfl (pa_cons (pe_ix (ixl K) (pv 1) pe_int (fun _ _ => rfl)) (pa_cons pe_str pa_nil))))
      (pss_cons (ps_set (i := 4) sc_on_words.nd rfl (Or.inl rfl) (pe_dX c_word_of hr (L2N.takes_of rfl rfl rfl rfl) rfl (pa_cons (pe_ix (ixl K) (pv 1) pe_int (fun _ _ => rfl)) (pa_cons pe_str pa_nil))))
      (pss_cons (ps_if (pt_cmpR op_lt (pv 0) pe_int (nomark _))
       (pss_cons (ps_set (i := 5) sc_on_words.nd rfl (Or.inl rfl) (pe_d c_fewest hr rfl (pa_cons (pv 3) (pa_cons (pv 4) (pa_cons (pe_cmpR op_eq (pv 0) pe_int (nomark _)) pa_nil)))))
        (pss_one (ps_ret (pe_ifExp (pt_cmpR op_isN (pv 5) pe_non (nomark _)) (pe_gr rfl T.NULL) (pe_d c_integer hr rfl (pa_cons (pv 5) pa_nil))))))
       pss_nil)
      (pss_cons (ps_set (i := 6) sc_on_words.nd rfl (Or.inl rfl) (pe_d c_find_counter hr rfl (pa_cons (pv 3) (pa_cons (pv 4) pa_nil))))
      (pss_cons (ps_if (pt_cmpR op_isN (pv 6) pe_non (nomark _))
       (pss_one (ps_ret (pe_gr rfl T.NULL)))
       pss_nil)
      (pss_one (ps_ret (pe_d c_record hr rfl (pa_cons (pe_lst (pa_cons (pe_tup (pa_cons pe_str (pa_cons (pe_d c_told_letter hr rfl (pa_cons (pe_ix (ixt K) (pv 6) pe_int (fun _ _ => rfl)) pa_nil)) pa_nil))) (pa_cons (pe_tup (pa_cons pe_str (pa_cons (pe_d c_integer hr rfl (pa_cons (pe_ix (ixt K) (pv 6) pe_int (fun _ _ => rfl)) pa_nil)) pa_nil))) pa_nil))) pa_nil)))))))))), ?_⟩
    have hd : d = 2 ∨ d = 3 ∨ d = 4 ∨ d = 5 ∨ d = 6 := by omega
    rcases hd with rfl | rfl | rfl | rfl | rfl
    · -- door 2
      refine ⟨_, rfl, _, _, rfl, rfl, _, rfl, iteT ?_⟩
      refine ⟨_, rfl, g, _, _, x0, rfl, rfl, hg, at_of (j := 0) rfl rfl, NF, x0, v0, "stateCount", 1, 4, rfl, h0, by decide +kernel, fun hb => ?_, fun hb => num_ref (lo := 1) (hi := 4) (by decide +kernel) (kE _ ?_)⟩
      · obtain ⟨n, rfl, n1, n4, _⟩ := isInt_nat (a := 1) (b := 4) hb
        refine ⟨_, rfl, g, _, _, x1, rfl, rfl, hg, at_of (j := 1) rfl rfl, x1, v1, "first", rfl, h1, by decide +kernel, fun u hu H1 p1 s1 hp1 => ?_, fun hn => word_ref (by decide +kernel) (kE _ ?_)⟩
        · have lu := wordV_is hu
          refine ⟨_, rfl, _, rfl, _, rfl, g, _, _, x2, rfl, rfl, s1.seq hg, at_of (j := 2) rfl rfl, x2, v2, "second", rfl, h2.same s1, by decide +kernel, fun v hv H2 p2 s2 hp2 => ?_, fun hn => word_ref (by decide +kernel) ((kE _ ?_).of s1)⟩
          · have lv := wordV_is hv
            have e : fnD 2 (.int (n : Int)) v1 v2 = .ok (R7291g.Spec.orNull R7291g.Spec.tableValue (sepT n false u v)) := by
              simp only [fnD, R7291g.Spec.separateFn, R7291g.Spec.withCountAndWords, R7291g.Spec.withWords, R7291g.Spec.andThen, num_ok (name := "stateCount") (a := 1) (b := 4) hb, word_ok o1 hu, word_ok o2 hv]
              rfl
            have k := kT _ e
            refine ⟨_, rfl, rfl, p1, p2, n, u, v, false, rfl, (hp1.same s2).sq, hp2.sq, n1, n4, lu.2, lv.2, fun t ht H3 p s3 _ htab => ?_, fun hn H3 s3 => ?_⟩
            · rw [ht] at k
              exact ⟨_, some t, rfl, ⟨p, rfl, htab, by rw [(sepT_len n1 lu.2 lv.2 ht).1]; omega⟩, fun H4 q s4 hq => k H4 _ NF (s1.trans (s2.trans (s3.trans s4))) hq⟩
            · rw [hn] at k
              exact ⟨_, none, rfl, rfl, fun H4 q s4 hq => k H4 _ NF (s1.trans (s2.trans (s3.trans s4))) hq⟩
          · simp only [fnD, R7291g.Spec.separateFn, R7291g.Spec.withCountAndWords, R7291g.Spec.withWords, R7291g.Spec.andThen, num_ok (name := "stateCount") (a := 1) (b := 4) hb, word_ok o1 hu, word_no o2 hn]
        · simp only [fnD, R7291g.Spec.separateFn, R7291g.Spec.withCountAndWords, R7291g.Spec.withWords, R7291g.Spec.andThen, num_ok (name := "stateCount") (a := 1) (b := 4) hb, word_no o1 hn]
      · simp only [fnD, R7291g.Spec.separateFn, R7291g.Spec.withCountAndWords, R7291g.Spec.withWords, R7291g.Spec.andThen, num_no (name := "stateCount") (a := 1) (b := 4) hb]
    · -- door 3
      refine ⟨_, rfl, _, _, rfl, rfl, _, rfl, iteT ?_⟩
      refine ⟨_, rfl, g, _, _, x0, rfl, rfl, hg, at_of (j := 0) rfl rfl, NF, x0, v0, "stateCount", 1, 4, rfl, h0, by decide +kernel, fun hb => ?_, fun hb => num_ref (lo := 1) (hi := 4) (by decide +kernel) (kE _ ?_)⟩
      · obtain ⟨n, rfl, n1, n4, _⟩ := isInt_nat (a := 1) (b := 4) hb
        refine ⟨_, rfl, g, _, _, x1, rfl, rfl, hg, at_of (j := 1) rfl rfl, x1, v1, "first", rfl, h1, by decide +kernel, fun u hu H1 p1 s1 hp1 => ?_, fun hn => word_ref (by decide +kernel) (kE _ ?_)⟩
        · have lu := wordV_is hu
          refine ⟨_, rfl, _, rfl, _, rfl, g, _, _, x2, rfl, rfl, s1.seq hg, at_of (j := 2) rfl rfl, x2, v2, "second", rfl, h2.same s1, by decide +kernel, fun v hv H2 p2 s2 hp2 => ?_, fun hn => word_ref (by decide +kernel) ((kE _ ?_).of s1)⟩
          · have lv := wordV_is hv
            have e : fnD 3 (.int (n : Int)) v1 v2 = .ok (R7291g.Spec.orNull R7291g.Spec.tableValue (sepT n true u v)) := by
              simp only [fnD, R7291g.Spec.separateReversibleFn, R7291g.Spec.withCountAndWords, R7291g.Spec.withWords, R7291g.Spec.andThen, num_ok (name := "stateCount") (a := 1) (b := 4) hb, word_ok o1 hu, word_ok o2 hv]
              rfl
            have k := kT _ e
            refine ⟨_, rfl, rfl, p1, p2, n, u, v, true, rfl, (hp1.same s2).sq, hp2.sq, n1, n4, lu.2, lv.2, fun t ht H3 p s3 _ htab => ?_, fun hn H3 s3 => ?_⟩
            · rw [ht] at k
              exact ⟨_, some t, rfl, ⟨p, rfl, htab, by rw [(sepT_len n1 lu.2 lv.2 ht).1]; omega⟩, fun H4 q s4 hq => k H4 _ NF (s1.trans (s2.trans (s3.trans s4))) hq⟩
            · rw [hn] at k
              exact ⟨_, none, rfl, rfl, fun H4 q s4 hq => k H4 _ NF (s1.trans (s2.trans (s3.trans s4))) hq⟩
          · simp only [fnD, R7291g.Spec.separateReversibleFn, R7291g.Spec.withCountAndWords, R7291g.Spec.withWords, R7291g.Spec.andThen, num_ok (name := "stateCount") (a := 1) (b := 4) hb, word_ok o1 hu, word_no o2 hn]
        · simp only [fnD, R7291g.Spec.separateReversibleFn, R7291g.Spec.withCountAndWords, R7291g.Spec.withWords, R7291g.Spec.andThen, num_ok (name := "stateCount") (a := 1) (b := 4) hb, word_no o1 hn]
      · simp only [fnD, R7291g.Spec.separateReversibleFn, R7291g.Spec.withCountAndWords, R7291g.Spec.withWords, R7291g.Spec.andThen, num_no (name := "stateCount") (a := 1) (b := 4) hb]
    · -- door 4
      refine ⟨_, rfl, _, _, rfl, rfl, _, rfl, iteF ?_⟩
      refine ⟨_, rfl, g, _, _, x0, rfl, rfl, hg, at_of (j := 0) rfl rfl, x0, v0, "first", rfl, h0, by decide +kernel, fun u hu H1 p1 s1 hp1 => ?_, fun hn => word_ref (by decide +kernel) (kE _ ?_)⟩
      · have lu := wordV_is hu
        refine ⟨_, rfl, g, _, _, x1, rfl, rfl, s1.seq hg, at_of (j := 1) rfl rfl, x1, v1, "second", rfl, h1.same s1, by decide +kernel, fun v hv H2 p2 s2 hp2 => ?_, fun hn => word_ref (by decide +kernel) ((kE _ ?_).of s1)⟩
        · have lv := wordV_is hv
          have hp1' := hp1.same s2
          have e : fnD 4 v0 v1 v2 = .ok (R7291g.Spec.orNull R7291g.Spec.nat (R7291g.Spec.leastCount (fun n => sepT n false u v) 4)) := by
            simp only [fnD, R7291g.Spec.fewestFn, R7291g.Spec.withWords, R7291g.Spec.andThen, word_ok o0 hu, word_ok o1 hv]
            rfl
          have k := kT _ e
          refine ⟨_, rfl, _, _, rfl, rfl, _, rfl, iteT ?_⟩
          refine ⟨_, rfl, _, rfl, _, rfl, rfl, p1, p2, u, v, false, rfl, hp1'.sq, hp2.sq, lu.2, lv.2, fun H3 s3 => ?_⟩
          cases hc : R7291g.Spec.leastCount (fun n => sepT n false u v) 4 with
          | none =>
            rw [hc] at k
            refine ⟨_, rfl, rfl, _, rfl, iteT fun p hp => k H3 _ NF (s1.trans (s2.trans s3)) ?_⟩
            show ValAt NF K H3 .null _
            rw [ValAt]
            exact ⟨p, rfl, hp _⟩
          | some n =>
            rw [hc] at k
            exact ⟨_, rfl, rfl, _, rfl, iteF ⟨_, rfl, (n : Int), rfl, fun H4 q s4 hq => k H4 _ NF (s1.trans (s2.trans (s3.trans s4))) hq⟩⟩
        · simp only [fnD, R7291g.Spec.fewestFn, R7291g.Spec.withWords, R7291g.Spec.andThen, word_ok o0 hu, word_no o1 hn]
      · simp only [fnD, R7291g.Spec.fewestFn, R7291g.Spec.withWords, R7291g.Spec.andThen, word_no o0 hn]
    · -- door 5
      refine ⟨_, rfl, _, _, rfl, rfl, _, rfl, iteF ?_⟩
      refine ⟨_, rfl, g, _, _, x0, rfl, rfl, hg, at_of (j := 0) rfl rfl, x0, v0, "first", rfl, h0, by decide +kernel, fun u hu H1 p1 s1 hp1 => ?_, fun hn => word_ref (by decide +kernel) (kE _ ?_)⟩
      · have lu := wordV_is hu
        refine ⟨_, rfl, g, _, _, x1, rfl, rfl, s1.seq hg, at_of (j := 1) rfl rfl, x1, v1, "second", rfl, h1.same s1, by decide +kernel, fun v hv H2 p2 s2 hp2 => ?_, fun hn => word_ref (by decide +kernel) ((kE _ ?_).of s1)⟩
        · have lv := wordV_is hv
          have hp1' := hp1.same s2
          have e : fnD 5 v0 v1 v2 = .ok (R7291g.Spec.orNull R7291g.Spec.nat (R7291g.Spec.leastCount (fun n => sepT n true u v) 4)) := by
            simp only [fnD, R7291g.Spec.fewestReversibleFn, R7291g.Spec.withWords, R7291g.Spec.andThen, word_ok o0 hu, word_ok o1 hv]
            rfl
          have k := kT _ e
          refine ⟨_, rfl, _, _, rfl, rfl, _, rfl, iteT ?_⟩
          refine ⟨_, rfl, _, rfl, _, rfl, rfl, p1, p2, u, v, true, rfl, hp1'.sq, hp2.sq, lu.2, lv.2, fun H3 s3 => ?_⟩
          cases hc : R7291g.Spec.leastCount (fun n => sepT n true u v) 4 with
          | none =>
            rw [hc] at k
            refine ⟨_, rfl, rfl, _, rfl, iteT fun p hp => k H3 _ NF (s1.trans (s2.trans s3)) ?_⟩
            show ValAt NF K H3 .null _
            rw [ValAt]
            exact ⟨p, rfl, hp _⟩
          | some n =>
            rw [hc] at k
            exact ⟨_, rfl, rfl, _, rfl, iteF ⟨_, rfl, (n : Int), rfl, fun H4 q s4 hq => k H4 _ NF (s1.trans (s2.trans (s3.trans s4))) hq⟩⟩
        · simp only [fnD, R7291g.Spec.fewestReversibleFn, R7291g.Spec.withWords, R7291g.Spec.andThen, word_ok o0 hu, word_no o1 hn]
      · simp only [fnD, R7291g.Spec.fewestReversibleFn, R7291g.Spec.withWords, R7291g.Spec.andThen, word_no o0 hn]
    · -- door 6
      refine ⟨_, rfl, _, _, rfl, rfl, _, rfl, iteF ?_⟩
      refine ⟨_, rfl, g, _, _, x0, rfl, rfl, hg, at_of (j := 0) rfl rfl, x0, v0, "first", rfl, h0, by decide +kernel, fun u hu H1 p1 s1 hp1 => ?_, fun hn => word_ref (by decide +kernel) (kE _ ?_)⟩
      · have lu := wordV_is hu
        refine ⟨_, rfl, g, _, _, x1, rfl, rfl, s1.seq hg, at_of (j := 1) rfl rfl, x1, v1, "second", rfl, h1.same s1, by decide +kernel, fun v hv H2 p2 s2 hp2 => ?_, fun hn => word_ref (by decide +kernel) ((kE _ ?_).of s1)⟩
        · have lv := wordV_is hv
          have hp1' := hp1.same s2
          have e : fnD 6 v0 v1 v2 = .ok (R7291g.Spec.orNull (fun e : Nat × Nat => R7291g.Spec.record [("letter", R7291g.Spec.letterValue e.1), ("stateCount", R7291g.Spec.nat e.2)]) (R7291g.Spec.countingSeparator u v)) := by
            simp only [fnD, R7291g.Spec.countingFn, R7291g.Spec.withWords, R7291g.Spec.andThen, word_ok o0 hu, word_ok o1 hv]
          have k := kT _ e
          refine ⟨_, rfl, _, _, rfl, rfl, _, rfl, iteF ?_⟩
          refine ⟨_, rfl, _, rfl, p1, p2, u, v, rfl, hp1', hp2, by omega, by omega, fun hn H3 s3 => ?_, fun l p hs H3 t s3 ht => ?_⟩
          · rw [hn] at k
            refine ⟨_, rfl, rfl, _, rfl, iteT fun p hp => k H3 _ NF (s1.trans (s2.trans s3)) ?_⟩
            show ValAt NF K H3 .null _
            rw [ValAt]
            exact ⟨p, rfl, hp _⟩
          · rw [hs] at k
            have hl2 := counting_lt hs
            have eg : given (R7291g.Spec.record [("letter", R7291g.Spec.letterValue l), ("stateCount", R7291g.Spec.nat p)]) = .record [(txt "letter", given (R7291g.Spec.letterValue l)), (txt "stateCount", .int (p : Int))] := by
              rw [given_record _ (fun f hf => by
                rcases List.mem_cons.mp hf with rfl | hf
                · show ascii (Str.ofString "letter") = true
                  decide +kernel
                · rw [List.mem_singleton.mp hf]
                  show ascii (Str.ofString "stateCount") = true
                  decide +kernel)]
              rfl
            have k : RetV K H Q (given (R7291g.Spec.record [("letter", R7291g.Spec.letterValue l), ("stateCount", R7291g.Spec.nat p)])) := k
            rw [eg] at k
            refine ⟨_, rfl, rfl, _, rfl, iteF ?_⟩
            refine ⟨_, rfl, t, _, _, _, rfl, rfl, ht, at_of (j := 0) rfl rfl, l, rfl, hl2, fun H4 z s4 hz => ⟨(by show 2 ≤ sizeLine; decide), fun q hq => ?_⟩⟩
            have s5 : Same H4 (upd H4 q (.tup [.str "letter", .ref z])) := (Same.refl H4).new hq
            have hq5 : SqT K (upd H4 q (.tup [.str "letter", .ref z])) q [.str "letter", .ref z] := SqT.of upd_same
            generalize upd H4 q (.tup [.str "letter", .ref z]) = H5 at s5 hq5
            refine ⟨_, rfl, t, _, _, _, rfl, rfl, (s4.trans s5).tup ht, at_of (j := 1) rfl rfl, (p : Int), rfl, fun H6 y s6 hy => ⟨(by show 2 ≤ sizeLine; decide), fun r hr => ?_⟩⟩
            have s7 : Same H6 (upd H6 r (.tup [.str "stateCount", .ref y])) := (Same.refl H6).new hr
            have hr7 : SqT K (upd H6 r (.tup [.str "stateCount", .ref y])) r [.str "stateCount", .ref y] := SqT.of upd_same
            generalize upd H6 r (.tup [.str "stateCount", .ref y]) = H7 at s7 hr7
            refine ⟨(by show 2 ≤ sizeLine; decide), fun L hL => ?_⟩
            have s8 : Same H7 (upd H7 L (.lst [.ref q, .ref r])) := (Same.refl H7).new hL
            refine ⟨L, [q, r], NewIn H3, [("letter", given (R7291g.Spec.letterValue l)), ("stateCount", .int (p : Int))], rfl, SqL.of upd_same, (by show 2 ≤ 1000; decide), ?_, fun H9 u s9 hu => k H9 _ _ (s1.trans (s2.trans (s3.trans (s4.trans (s5.trans (s6.trans (s7.trans (s8.trans s9)))))))) hu⟩
            exact .cons ⟨(by show ascii "letter" = true; decide +kernel), (by show ("letter" : Str).cps.size ≤ 1000; decide +kernel), .ref z, (s6.trans (s7.trans s8)).tup hq5, hz.same (s5.trans (s6.trans (s7.trans s8)))⟩
              (.cons ⟨(by show ascii "stateCount" = true; decide +kernel), (by show ("stateCount" : Str).cps.size ≤ 1000; decide +kernel), .ref y, s8.tup hr7, (hy.same (s7.trans s8)).any⟩ .nil)
        · simp only [fnD, R7291g.Spec.countingFn, R7291g.Spec.withWords, R7291g.Spec.andThen, word_ok o0 hu, word_no o1 hn]
      · simp only [fnD, R7291g.Spec.countingFn, R7291g.Spec.withWords, R7291g.Spec.andThen, word_no o0 hn]
end
end Sw
set_option Elab.async false
set_option linter.all false
set_option maxRecDepth 100000
set_option maxHeartbeats 4000000
/-! Separating words: the calls without a slot. -/
namespace Sw
open PySem PySem.Spec PyProof.Rows L2
open Rust (given taken)
theorem groups_mem {n : Nat} {ws : List (List Nat)} {x : Grp} (h : x ∈ groups n ws) : x.2.1 ∈ ws := by
  unfold groups at h
  have key : ∀ (es : List (List Nat × List Nat)) (l : List Grp), (∀ y ∈ l, y.2.1 ∈ ws) → (∀ e ∈ es, e.2 ∈ ws) → ∀ y ∈ es.foldl R7291g.Spec.addToGroup l, y.2.1 ∈ ws := by
    intro es
    induction es with
    | nil => exact fun l hl _ => hl
    | cons e es ih =>
      intro l hl he
      refine ih _ (fun y hy => ?_) fun e' he' => he e' (List.mem_cons_of_mem _ he')
      cases hc : l.any fun x => x.1 == e.1 with
      | true =>
        rw [add_old hc] at hy
        obtain ⟨z, hz, rfl⟩ := List.mem_map.mp hy
        by_cases q : (z.1 == e.1) = true
        · rw [if_pos q]; exact hl z hz
        · rw [if_neg q]; exact hl z hz
      | false =>
        rw [add_new hc] at hy
        rcases List.mem_append.mp hy with hy | hy
        · exact hl y hy
        · rw [List.mem_singleton.mp hy]
          exact he e List.mem_cons_self
  refine key _ [] (fun _ z => nomatch z) (fun e he => ?_) x h
  obtain ⟨r, hr, rfl⟩ := List.mem_map.mp he
  exact hr
theorem reps_words {n k : Nat} {e : List Nat × Nat} (h : e ∈ R7291g.Spec.representativesOf n k) : e.1.length ≤ k ∧ ∀ l ∈ e.1, l < 2 := by
  rw [groups_reps] at h
  obtain ⟨x, hx, rfl⟩ := List.mem_map.mp h
  exact mem_upTo (groups_mem hx)
theorem reps_len {n k : Nat} (hk : k ≤ 5) : (R7291g.Spec.representativesOf n k).length ≤ 63 := by
  rw [groups_reps, List.length_map]
  exact Nat.le_trans (groups_len n _) (upTo_small hk)
/-- two numbers, for representatives -/
def rowsV (v0 v1 : RWire.Value) : R7291g.Spec.Res (Nat × Nat) := R7291g.Spec.andThen (R7291g.Spec.readInteger "stateCount" 1 3 (taken v0)) fun n => R7291g.Spec.andThen (R7291g.Spec.readInteger "maxLength" 0 5 (taken v1)) fun k => .ok (n, k)
theorem reps_fn {v0 v1 v2 : RWire.Value} {n k : Nat} (h : rowsV v0 v1 = .ok (n, k)) : fnD 8 v0 v1 v2 = .ok (.arr ((R7291g.Spec.representativesOf n k).map R7291g.Spec.representativeValue)) := by
  show R7291g.Spec.representativesFn (taken v0) (taken v1) = _
  unfold rowsV at h
  unfold R7291g.Spec.representativesFn
  cases h1 : R7291g.Spec.readInteger "stateCount" 1 3 (taken v0) with
  | error e => rw [h1] at h; cases h
  | ok a =>
    rw [h1] at h
    cases h2 : R7291g.Spec.readInteger "maxLength" 0 5 (taken v1) with
    | error e => rw [h2] at h; cases h
    | ok b =>
      rw [h2] at h
      have h : (Except.ok (a, b) : R7291g.Spec.Res (Nat × Nat)) = .ok (n, k) := h
      injection h with h
      injection h with h3 h4
      subst h3 h4
      rfl
theorem reps_fn_no {v0 v1 v2 : RWire.Value} {e : R7291g.Spec.Err} (h : rowsV v0 v1 = .error e) : fnD 8 v0 v1 v2 = .error e := by
  show R7291g.Spec.representativesFn (taken v0) (taken v1) = _
  unfold rowsV at h
  unfold R7291g.Spec.representativesFn
  cases h1 : R7291g.Spec.readInteger "stateCount" 1 3 (taken v0) with
  | error e => rw [h1] at h; injection h with h; subst h; rfl
  | ok a =>
    rw [h1] at h
    cases h2 : R7291g.Spec.readInteger "maxLength" 0 5 (taken v1) with
    | error e => rw [h2] at h; injection h with h; subst h; rfl
    | ok b => rw [h2] at h; cases h
theorem letV_lt {v : RWire.Value} {l : Nat} (h : letV v = some l) : l < 2 := by
  unfold letV at h
  split at h
  · rename_i o
    by_cases hc : isL o = true
    · rw [if_pos hc] at h
      injection h with h
      unfold isL at hc
      rw [Bool.or_eq_true, beq_iff_eq, beq_iff_eq] at hc
      omega
    · rw [if_neg hc] at h; cases h
  · cases h
section
variable {P : Program} {w : World} {K : PySem.W.Frag} {mg : Str → Option PySem.Value} {base : Heap} {A : Ad}
/-- rows_of(first, second) -/
def spRowsOf (K : PySem.W.Frag) (C : Addr) : Sp := fun vs H Q E => ∃ (x0 x1 : V) (v0 v1 : RWire.Value), vs = [x0, x1] ∧ ValAt NF K H v0 x0 ∧ ValAt NF K H v1 x1 ∧
  (∀ n k, rowsV v0 v1 = .ok (n, k) → 1 ≤ n → n ≤ 3 → k ≤ 5 → ∀ H' p, Same H H' → RepL K H' p (R7291g.Spec.representativesOf n k) → Q (.ref p) H') ∧ (∀ e, rowsV v0 v1 = .error e → RefE K C H E e)
theorem c_rows_of (T : Txt K mg A) : Cal P w K mg base (L2N.CX P w) 5 "rows_of" (spRowsOf K A.refu) := by
  have c_number_of := c_number_of (P := P) (w := w) (base := base) T
  have c_representatives := c_representatives (P := P) (w := w) (base := base) T
  refine calX_of T.d_rows_of sc_rows_of (fun vs H Q E h => ?_) (fun f cdv A2 outer s H vs Q E hr h => ?_)
  · obtain ⟨_, _, _, _, rfl, _⟩ := h
    rfl
  · obtain ⟨x0, x1, v0, v1, rfl, h0, h1, kT, kE⟩ := h
    refine ⟨_, (pss_cons (ps_set (i := 2) sc_rows_of.nd rfl (Or.inl rfl) (pe_dX c_number_of hr (L2N.takes_of rfl rfl rfl rfl) rfl (pa_cons (pv 0) (pa_cons pe_str (pa_cons pe_int (pa_cons pe_int pa_nil))))))
      (pss_one (ps_ret (pe_d c_representatives hr rfl (pa_cons (pv 2) (pa_cons (pe_dX c_number_of hr (L2N.takes_of rfl rfl rfl rfl) rfl (pa_cons (pv 1) (pa_cons pe_str (pa_cons pe_int (pa_cons (pe_gi rfl T.MOST_LENGTH) pa_nil))))) pa_nil)))))), ?_⟩
    refine ⟨_, rfl, NF, x0, v0, "stateCount", 1, 3, rfl, h0, by decide +kernel, fun hb => ?_, fun hb => num_ref (lo := 1) (hi := 3) (by decide +kernel) (kE _ ?_)⟩
    · obtain ⟨n, rfl, n1, n3, _⟩ := isInt_nat (a := 1) (b := 3) hb
      refine ⟨_, rfl, _, rfl, NF, x1, v1, "maxLength", 0, 5, rfl, h1, by decide +kernel, fun hb2 => ?_, fun hb2 => num_ref (lo := 0) (hi := 5) (by decide +kernel) (kE _ ?_)⟩
      · obtain ⟨k, rfl, _, k5, _⟩ := isInt_nat (a := 0) (b := 5) hb2
        refine ⟨n, k, rfl, n1, n3, k5, kT n k ?_ n1 n3 k5⟩
        unfold rowsV
        rw [num_ok (name := "stateCount") (a := 1) (b := 3) hb, num_ok (name := "maxLength") (a := 0) (b := 5) hb2]
        rfl
      · unfold rowsV
        rw [num_ok (name := "stateCount") (a := 1) (b := 3) hb, num_no (name := "maxLength") (a := 0) (b := 5) hb2]
        rfl
    · unfold rowsV
      rw [num_no (name := "stateCount") (a := 1) (b := 3) hb]
      rfl
theorem c_on_tables (T : Txt K mg A) : Cal P w K mg base (L2N.CX P w) 6 "on_tables" (spFn K A.refu 0 8) := by
  have c_number_of := c_number_of (P := P) (w := w) (base := base) T
  have c_word_of := c_word_of (P := P) (w := w) (base := base) T
  have c_table_of := c_table_of (P := P) (w := w) (base := base) T
  have c_letter_of := c_letter_of (P := P) (w := w) (base := base) T
  have c_wrong_kind := c_wrong_kind (P := P) (w := w) (base := base) T
  have c_told_table := c_told_table (P := P) (w := w) (base := base) T
  have c_counter := c_counter (P := P) (w := w) (base := base) T
  have c_on_words := c_on_words (P := P) (w := w) (base := base) T
  have c_truth := c_truth (P := P) (w := w) (base := base) T
  have c_is_reversible := c_is_reversible (P := P) (w := w) (base := base) T
  have c_integer := c_integer (P := P) (w := w) (base := base) T
  have c_end_of := c_end_of (P := P) (w := w) (base := base) T
  have c_rows_of := c_rows_of (P := P) (w := w) (base := base) T
  have c_told_row := c_told_row (P := P) (w := w) (base := base) T
  have c_listed := c_listed (P := P) (w := w) (base := base) T
  refine calX_of T.d_on_tables sc_on_tables (fun vs H Q E h => ?_) (fun f cdv A2 outer s H vs Q E hr h => ?_)
  · obtain ⟨_, _, _, _, _, rfl, _⟩ := h
    rfl
  · obtain ⟨d, g, v0, v1, v2, rfl, hd0, hd8, hgiv, kT, kE⟩ := h
    refine ⟨_, (pss_cons (ps_if (pt_cmpR op_lt (pv 0) pe_int (nomark _))
       (pss_cons (ps_set (i := 2) sc_on_tables.nd rfl (Or.inl rfl) (pe_dX c_table_of hr (L2N.takes_of rfl rfl rfl rfl) rfl (pa_cons (pe_ix (ixl K) (pv 1) pe_int (fun _ _ => rfl)) pa_nil)))
        (pss_one (ps_ret (pe_ifExp (pt_cmpR op_eq (pv 0) pe_int (nomark _)) (pe_d c_truth hr rfl (pa_cons (pe_d c_is_reversible hr rfl (pa_cons (pv 2) pa_nil)) pa_nil)) (pe_d c_integer hr rfl (pa_cons (pe_d c_end_of hr rfl (pa_cons (pv 2) (pa_cons (pe_dX c_word_of hr (L2N.takes_of rfl rfl rfl rfl) rfl (pa_cons (pe_ix (ixl K) (pv 1) pe_int (fun _ _ => rfl)) (pa_cons pe_str pa_nil))) pa_nil))) pa_nil))))))
       pss_nil)
      (pss_cons (ps_if (pt_cmpR op_lt (pv 0) pe_int (nomark _))
       (pss_one (ps_ret (pe_dX c_on_words hr (L2N.takes_of rfl rfl rfl rfl) rfl (pa_cons (pv 0) (pa_cons (pv 1) pa_nil)))))
       pss_nil)
      (pss_cons (ps_if (pt_cmpR op_eq (pv 0) pe_int (nomark _))
       (pss_cons (ps_set (i := 3) sc_on_tables.nd rfl (Or.inl rfl) (pe_d c_letter_of hr rfl (pa_cons (pe_ix (ixl K) (pv 1) pe_int (fun _ _ => rfl)) pa_nil)))
        (pss_cons (ps_expr (pe_dX c_wrong_kind hr (L2N.takes_of rfl rfl rfl rfl) rfl (pa_cons (pe_cmpR op_lt (pv 3) pe_int (nomark _)) (pa_cons pe_str pa_nil))))
        (pss_one (ps_ret (pe_d c_told_table hr rfl (pa_cons (pe_d c_counter hr rfl (pa_cons (pv 3) (pa_cons (pe_dX c_number_of hr (L2N.takes_of rfl rfl rfl rfl) rfl (pa_cons (pe_ix (ixl K) (pv 1) pe_int (fun _ _ => rfl)) (pa_cons pe_str (pa_cons pe_int (pa_cons (pe_gi rfl T.MOST_TABLE) pa_nil))))) pa_nil))) pa_nil))))))
       pss_nil)
      (pss_one (ps_ret (pe_d c_listed hr rfl (pa_cons (pe_lc (own := [("row", 4)]) (g := (gName 4)) (tt := tYes) rfl sc_on_tables.nd (pi_list (pe_dX c_rows_of hr (L2N.takes_of rfl rfl rfl rfl) rfl (pa_cons (pe_ix (ixl K) (pv 1) pe_int (fun _ _ => rfl)) (pa_cons (pe_ix (ixl K) (pv 1) pe_int (fun _ _ => rfl)) pa_nil)))) (blkOk_by (own := [("row", 4)]) (N := ["door", "given", "table", "letter", "row"]) (sc := defScope s_on_tables) (by decide +kernel)) (fun _ _ _ _ _ => pg_name (i := 4) sc_on_tables.nd rfl (Or.inl rfl)) (fun _ _ _ _ _ => pts_nil) (fun _ _ _ _ _ => (pe_d c_told_row hr rfl (pa_cons (pv 4) pa_nil)))) pa_nil))))))), ?_⟩
    by_cases hw : 2 ≤ d ∧ d ≤ 6
    · have e1 : decide ((d : Int) < 2) = false := decide_eq_false (by omega)
      have e2 : decide ((d : Int) < 7) = true := decide_eq_true (by omega)
      refine ⟨_, rfl, _, _, rfl, rfl, _, rfl, ?_⟩
      rw [e1]
      refine iteF ⟨_, rfl, _, _, rfl, rfl, _, rfl, ?_⟩
      rw [e2]
      exact iteT ⟨_, rfl, _, rfl, d, g, v0, v1, v2, rfl, hw.1, hw.2, hgiv, kT, kE⟩
    obtain ⟨x0, x1, x2, hg, ⟨h0, o0⟩, ⟨h1, o1⟩, ⟨h2, o2⟩⟩ := hgiv
    have hd : d = 0 ∨ d = 1 ∨ d = 7 ∨ d = 8 := by omega
    rcases hd with rfl | rfl | rfl | rfl
    · -- door 0
      refine ⟨_, rfl, _, _, rfl, rfl, _, rfl, iteT ?_⟩
      refine ⟨_, rfl, g, _, _, x0, rfl, rfl, hg, at_of (j := 0) rfl rfl, x0, v0, rfl, h0, o0, fun t ht H1 p s1 htab htt t1 t13 => ?_, fun e he => kE e ?_⟩
      · refine ⟨_, rfl, rfl, _, rfl, iteF ?_⟩
        refine ⟨_, rfl, _, rfl, g, _, _, x1, rfl, rfl, s1.seq hg, at_of (j := 1) rfl rfl, x1, v1, "word", rfl, h1.same s1, by decide +kernel, fun u hu H2 q s2 hq => ?_, fun hn => word_ref (by decide +kernel) ((kE _ ?_).of s1)⟩
        · have lu := wordV_is hu
          have e : fnD 0 v0 v1 v2 = .ok (R7291g.Spec.nat (R7291g.Spec.finalStateOf t u)) := by
            simp only [fnD, R7291g.Spec.finalStateFn, R7291g.Spec.andThen, ht, word_ok o1 hu]
          exact ⟨p, q, t, u, rfl, htab.same s2, hq.sq, htt, t1, lu.2, _, rfl, fun H3 z s3 hz => kT _ e H3 _ NF (s1.trans (s2.trans s3)) hz⟩
        · simp only [fnD, R7291g.Spec.finalStateFn, R7291g.Spec.andThen, ht, word_no o1 hn]
      · simp only [fnD, R7291g.Spec.finalStateFn, R7291g.Spec.andThen, he]
    · -- door 1
      refine ⟨_, rfl, _, _, rfl, rfl, _, rfl, iteT ?_⟩
      refine ⟨_, rfl, g, _, _, x0, rfl, rfl, hg, at_of (j := 0) rfl rfl, x0, v0, rfl, h0, o0, fun t ht H1 p s1 htab htt t1 t13 => ?_, fun e he => kE e ?_⟩
      · have e : fnD 1 v0 v1 v2 = .ok (.bool (R7291g.Spec.isReversibleTable t)) := by
          simp only [fnD, R7291g.Spec.reversibleFn, R7291g.Spec.andThen, ht]
        exact ⟨_, rfl, rfl, _, rfl, iteT ⟨_, rfl, p, t, rfl, htab, by omega, fun H2 s2 => ⟨_, rfl, fun z hz => kT _ e H2 _ NF (s1.trans s2) hz⟩⟩⟩
      · simp only [fnD, R7291g.Spec.reversibleFn, R7291g.Spec.andThen, he]
    · -- door 7
      refine ⟨_, rfl, _, _, rfl, rfl, _, rfl, iteF ⟨_, rfl, _, _, rfl, rfl, _, rfl, iteF ⟨_, rfl, rfl, _, rfl, iteT ?_⟩⟩⟩
      refine ⟨_, rfl, g, _, _, x0, rfl, rfl, hg, at_of (j := 0) rfl rfl, x0, v0, rfl, h0, fun H1 s1 => ?_⟩
      refine ⟨_, rfl, _, _, rfl, rfl, _, _, rfl, ?_⟩
      cases hl : letV v0 with
      | none =>
        refine ⟨fun hb => (by cases hb), fun _ H' d s' hd => ?_⟩
        refine kE (R7291g.Spec.wrong "letter must be a or b") ?_ H' d _ (s1.trans s') hd (msg_ok (by decide +kernel))
        simp only [fnD, R7291g.Spec.counterFn, R7291g.Spec.readLetter, R7291g.Spec.andThen, letter_taken o0, hl]
        rfl
      | some l =>
        have hl2 := letV_lt hl
        have el : decide (kInt (some l) < 0) = false := decide_eq_false (by show ¬ ((l : Int) < 0); omega)
        rw [el]
        refine ⟨fun _ => ?_, fun hb => (by cases hb)⟩
        refine ⟨_, rfl, _, rfl, g, _, _, x1, rfl, rfl, s1.seq hg, at_of (j := 1) rfl rfl, NF, x1, v1, "stateCount", 1, 13, rfl, h1.same s1, by decide +kernel, fun hb => ?_, fun hb => num_ref (lo := 1) (hi := 13) (by decide +kernel) ((kE _ ?_).of s1)⟩
        · obtain ⟨n, rfl, n1, n13, _⟩ := isInt_nat (a := 1) (b := 13) hb
          have e : fnD 7 v0 (.int (n : Int)) v2 = .ok (R7291g.Spec.tableValue (R7291g.Spec.counterTable l n)) := by
            simp only [fnD, R7291g.Spec.counterFn, R7291g.Spec.readLetter, R7291g.Spec.andThen, letter_taken o0, hl, num_ok (name := "stateCount") (a := 1) (b := 13) hb]
            rfl
          refine ⟨l, n, rfl, hl2, n1, by omega, fun H2 p s2 _ htab => ⟨.ref p, some (R7291g.Spec.counterTable l n), rfl, ⟨p, rfl, htab, ?_⟩, fun H3 z s3 hz => kT _ e H3 _ NF (s1.trans (s2.trans s3)) hz⟩⟩
          unfold R7291g.Spec.counterTable
          rw [List.length_map, List.length_range]
          omega
        · simp only [fnD, R7291g.Spec.counterFn, R7291g.Spec.readLetter, R7291g.Spec.andThen, letter_taken o0, hl, num_no (name := "stateCount") (a := 1) (b := 13) hb]
    · -- door 8
      refine ⟨_, rfl, _, _, rfl, rfl, _, rfl, iteF ⟨_, rfl, _, _, rfl, rfl, _, rfl, iteF ⟨_, rfl, rfl, _, rfl, iteF ?_⟩⟩⟩
      refine ⟨_, rfl, g, _, _, x0, rfl, rfl, hg, at_of (j := 0) rfl rfl, _, rfl, g, _, _, x1, rfl, rfl, hg, at_of (j := 1) rfl rfl, x0, x1, v0, v1, rfl, h0, h1, fun n k hk n1 n3 k5 H1 p s1 hrep => ?_, fun e he => kE e ?_⟩
      · obtain ⟨ps, hp, hps⟩ := hrep
        have hpl : ps.length = (R7291g.Spec.representativesOf n k).length := Paired.length hps
        have hrl := reps_len (n := n) k5
        have e : fnD 8 v0 v1 v2 = .ok (.arr ((R7291g.Spec.representativesOf n k).map R7291g.Spec.representativeValue)) := reps_fn hk
        have eg : given (.arr ((R7291g.Spec.representativesOf n k).map R7291g.Spec.representativeValue)) = .list ((R7291g.Spec.representativesOf n k).map fun e => given (R7291g.Spec.representativeValue e)) := by
          rw [given_arr, List.map_map]
          rfl
        have kk := kT _ e
        rw [eg] at kk
        refine ⟨p, rfl, ⟨_, SqL.of hp⟩, fun D hD => lc_list (K := K) (a := p) (xs := ps.map V.ref) (fun i H' => Same H1 H' ∧ ∃ vs, H' D = some (.lst vs) ∧ ValsAt (fun a => a ≠ D) K H' (((R7291g.Spec.representativesOf n k).take i).map fun e => given (R7291g.Spec.representativeValue e)) vs)
          ⟨(Same.refl H1).new hD, [], upd_same, by rw [List.take_zero, List.map_nil, ValsAt]⟩ (fun i H' _ q => q.1.seq (SqL.of hp)) ?_ ?_⟩
        · rintro i x H2 hx ⟨s2, vs, hD2, hvs⟩
          obtain ⟨r, hr1, rfl⟩ : ∃ r, ps[i]? = some r ∧ x = .ref r := by
            rw [List.getElem?_map] at hx
            cases e : ps[i]? with
            | none => rw [e] at hx; cases hx
            | some r => rw [e] at hx; exact ⟨r, rfl, (Option.some.inj hx).symm⟩
          obtain ⟨⟨wd, c⟩, hq, b, hrow, hb⟩ := paired_get' hps hr1
          have hi := (List.getElem?_eq_some_iff.mp hq).1
          have hwd := reps_words (List.mem_of_getElem? hq)
          refine ⟨rfl, _, rfl, r, b, wd, c, rfl, s2.tup hrow, s2.tup hb, hwd.2, Nat.le_trans hwd.1 (by omega), fun H3 z s3 hz => ?_⟩
          have hD3 := s3 _ _ hD2
          have hz : ValAt (fun a => a ≠ D) K H3 (given (R7291g.Spec.representativeValue (wd, c))) (.ref z) := hz.mono fun a ha e => by
            have ha : H2 a = none := ha
            rw [e, hD2] at ha
            cases ha
          have mv : Moves (fun a => a ≠ D) (fun a => a ≠ D) K H3 (upd H3 D (.lst (vs ++ [.ref z]))) := Moves.put hD3 fun _ z => z
          refine ⟨_, hD3, ?_, (s2.trans s3).put hD, _, upd_same, ?_⟩
          · rw [hvs.length, List.length_map, List.length_take]
            exact small_lt (by omega)
          · rw [take_more hq, List.map_append, List.map_singleton]
            exact (ValsAt.move mv _ _ (hvs.same s3)).snoc (ValAt.move mv _ _ hz)
        · rintro H2 ⟨s2, vs, hD2, hvs⟩
          rw [List.length_map, hpl, List.take_length] at hvs
          exact ⟨D, vs, _, _, rfl, SqL.of hD2, hvs, fun H3 z s3 hz => kk H3 _ _ (s1.trans (s2.trans s3)) hz⟩
      · exact reps_fn_no he
end
end Sw
set_option Elab.async false
set_option linter.all false
set_option maxRecDepth 100000
set_option maxHeartbeats 4000000
/-! Separating words: runs. -/
namespace Sw
open PySem PySem.Spec PyProof.Rows L2
open Rust (given taken)

/-! ### plain -/
/-- the states so far, the last one first -/
def vis (t : List (Nat × Nat)) (ls : List Nat) : List Nat := ls.foldl (fun l u => R7291g.Spec.transition t (l.headD 0) u :: l) [0]
theorem vis_snoc (t : List (Nat × Nat)) (ls : List Nat) (u : Nat) : vis t (ls ++ [u]) = R7291g.Spec.transition t ((vis t ls).headD 0) u :: vis t ls := by
  unfold vis
  rw [List.foldl_append]
  rfl
theorem vis_head (t : List (Nat × Nat)) (ls : List Nat) : (vis t ls).headD 0 = R7291g.Spec.run t 0 ls := by
  have key : ∀ (ls : List Nat) (l : List Nat), (ls.foldl (fun l u => R7291g.Spec.transition t (l.headD 0) u :: l) l).headD 0 = R7291g.Spec.run t (l.headD 0) ls := by
    intro ls
    induction ls with
    | nil => exact fun _ => rfl
    | cons u r ih => exact fun l => ih _
  exact key ls [0]
theorem vis_len (t : List (Nat × Nat)) (ls : List Nat) : (vis t ls).length = ls.length + 1 := by
  have key : ∀ (ls : List Nat) (l : List Nat), (ls.foldl (fun l u => R7291g.Spec.transition t (l.headD 0) u :: l) l).length = l.length + ls.length := by
    intro ls
    induction ls with
    | nil => exact fun _ => rfl
    | cons u r ih =>
      intro l
      rw [List.foldl_cons, ih, List.length_cons, List.length_cons]
      omega
  rw [vis, key]
  show 1 + _ = _
  omega
theorem distinct_is (l : List Nat) : (R7291g.Spec.distinct l).Nodup ∧ ∀ x, x ∈ R7291g.Spec.distinct l ↔ x ∈ l := by
  have key : ∀ (l a : List Nat), a.Nodup → (l.foldl (fun a x => if a.contains x then a else a ++ [x]) a).Nodup ∧ ∀ x, x ∈ l.foldl (fun a x => if a.contains x then a else a ++ [x]) a ↔ x ∈ a ∨ x ∈ l := by
    intro l
    induction l with
    | nil => exact fun a h => ⟨h, fun x => by simp⟩
    | cons y l ih =>
      intro a h
      rw [List.foldl_cons]
      by_cases hy : y ∈ a
      · rw [if_pos (List.contains_iff_mem.mpr hy)]
        obtain ⟨h1, h2⟩ := ih a h
        refine ⟨h1, fun x => ?_⟩
        rw [h2, List.mem_cons]
        constructor
        · rintro (h | h)
          · exact .inl h
          · exact .inr (.inr h)
        · rintro (h | h | h)
          · exact .inl h
          · exact .inl (h ▸ hy)
          · exact .inr h
      · rw [if_neg (fun z => hy (List.contains_iff_mem.mp z))]
        obtain ⟨h1, h2⟩ := ih (a ++ [y]) (nodup_snoc h hy)
        refine ⟨h1, fun x => ?_⟩
        rw [h2]
        simp [or_assoc]
  obtain ⟨h1, h2⟩ := key l [] List.nodup_nil
  exact ⟨h1, fun x => by rw [R7291g.Spec.distinct, h2]; simp⟩
theorem distinct_len {l ks : List Nat} (nd : ks.Nodup) (h : ∀ x, x ∈ ks ↔ x ∈ l) : (R7291g.Spec.distinct l).length = ks.length := by
  obtain ⟨h1, h2⟩ := distinct_is l
  refine Nat.le_antisymm (List.Nodup.length_le_of_subset h1 fun x hx => ?_) (List.Nodup.length_le_of_subset nd fun x hx => ?_)
  · exact (h x).mpr ((h2 x).mp hx)
  · exact (h2 x).mpr ((h x).mp hx)
def seenK (ks : List Nat) : List (Key × V) := ks.map fun n : Nat => ((Sum.inl (n : Int) : Key), V.bl true)
theorem seen_val (ks : List Nat) (x : Nat) : (valV (seenK ks) (.inl (x : Int))).isSome = ks.contains x := by
  rw [← valV_any]
  unfold seenK
  rw [List.any_map]
  induction ks with
  | nil => rfl
  | cons a ks ih =>
    rw [List.any_cons, ih, List.contains_cons]
    congr 1
    show decide ((Sum.inl (a : Int) : Key) = Sum.inl (x : Int)) = (x == a)
    by_cases e : a = x
    · subst e; simp
    · have e1 : ¬ (Sum.inl (a : Int) : Key) = Sum.inl (x : Int) := fun z => by
        injection z with z
        exact e (by omega)
      have e2 : ¬ x = a := fun z => e z.symm
      rw [decide_eq_false e1, beq_eq_false_iff_ne.mpr e2]
theorem seen_put (ks : List Nat) (x : Nat) : putK (seenK ks) (.inl (x : Int)) (.bl true) = seenK (if ks.contains x then ks else ks ++ [x]) := by
  have h := seen_val ks x
  cases hc : ks.contains x with
  | true =>
    rw [hc] at h
    obtain ⟨v, hv⟩ := Option.isSome_iff_exists.mp h
    have e : putK (seenK ks) (.inl (x : Int)) (.bl true) = (seenK ks).map fun kv => if kv.1 = (.inl (x : Int)) then (kv.1, V.bl true) else kv := by
      unfold putK
      rw [if_pos]
      rw [valV_any, hv]
      rfl
    rw [e, if_pos rfl]
    unfold seenK
    rw [List.map_map]
    refine List.map_congr_left fun n _ => ?_
    show (if ((Sum.inl (n : Int) : Key)) = Sum.inl (x : Int) then _ else _) = _
    split <;> rfl
  | false =>
    rw [hc] at h
    have hn : valV (seenK ks) (.inl (x : Int)) = none := by
      cases q : valV (seenK ks) (.inl (x : Int)) with
      | none => rfl
      | some v => rw [q] at h; cases h
    rw [L2.putK_new _ hn, if_neg (by decide)]
    unfold seenK
    rw [List.map_append]
    rfl
theorem cut_last (xs : List V) : cutV xs none (some (-1)) = xs.dropLast := by
  unfold cutV
  have e1 : HT.sIx xs.length 0 none = 0 := rfl
  have e2 : HT.sIx xs.length xs.length (some (-1)) = xs.length - 1 := by
    show (if (-1 : Int) < 0 then ((-1 : Int) + (xs.length : Int)).toNat else min (-1 : Int).toNat xs.length) = _
    rw [if_pos (by decide)]
    omega
  rw [e1, e2, List.drop_zero, List.dropLast_eq_take, Nat.sub_zero]
/-- what a run's fields say -/
def RunRel (t : List (Nat × Nat)) (st ov : Bool) (ls : List Nat) : R7291g.Spec.GeneratorState (List Nat) → Prop
  | .notStarted => st = false ∧ ov = false ∧ ls = []
  | .running l => st = true ∧ ov = false ∧ l = vis t ls
  | .finished => ov = true

section
variable {P : Program} {w : World} {K : PySem.W.Frag} {mg : Str → Option PySem.Value} {base : Heap} {A : Ad}
abbrev runF (ta la : Addr) (st ov : Bool) : List (Str × V) := [("table", .ref ta), ("letters", .ref la), ("is_started", .bl st), ("is_over", .bl ov)]
/-- a run -/
def RunAt (K : PySem.W.Frag) (A : Ad) (H : Hp) (r : Addr) (R : R7291g.Spec.Run) : Prop := ∃ (dx ta la : Addr) (st ov : Bool) (ls : List Nat), H r = some (.ins A.run dx (runF ta la st ov)) ∧ TabL K H ta R.table ∧ Tab R.table.length R.table ∧ 1 ≤ R.table.length ∧
  H la = some (.lst (nvs ls)) ∧ (∀ l ∈ ls, l < 2) ∧ ls.length ≤ 30 ∧ RunRel R.table st ov ls R.state
theorem TabL.but {H H' : Hp} {r C dx a : Addr} {fs : List (Str × V)} {t : List (Nat × Nat)} (b : But r H H') (hr : H r = some (.ins C dx fs)) (h : TabL K H a t) : TabL K H' a t := let ⟨rs, h1, h2⟩ := h; ⟨rs, b.sqL hr h1, Paired.mapP h2 fun _ _ h => b.sqL hr h⟩
/-- Run(table) -/
def spRun (C : Addr) : Sp := fun vs H Q _ => ∃ (r ta dx : Addr), vs = [.ref r, .ref ta] ∧ H r = some (.ins C dx []) ∧ ∀ H' la, But r H H' → H la = none → la ≠ r → H' la = some (.lst []) → H' r = some (.ins C dx (runF ta la false false)) → Q .non H'
theorem C_Run (T : Txt K mg A) : Mak P w K mg base 1 "Run" A.run (spRun A.run) := by
  refine mak_of T.d_Run sc_Run_init (fun vs H Q E h => ?_) (fun f cdv A2 outer s H vs Q E hr h => ?_)
  · obtain ⟨r, ta, dx, rfl, _⟩ := h
    rfl
  · obtain ⟨r, ta, dx, rfl, h0, k⟩ := h
    refine ⟨_, (pss_cons (ps_fld (pv 0) (pv 1) rfl)
      (pss_cons (ps_fld (pv 0) (pe_lst pa_nil) rfl)
      (pss_cons (ps_fld (pv 0) pe_bl rfl)
      (pss_one (ps_fld (pv 0) pe_bl rfl))))), ?_⟩
    refine ⟨_, rfl, _, rfl, r, A.run, dx, [], rfl, h0, T.d_Run.cl, T.n_Run_table, by decide, ?_⟩
    refine ⟨Nat.zero_le _, fun la hla => ?_⟩
    have nlr : la ≠ r := fun z => by
      rw [z, upd_same] at hla
      cases hla
    have hla0 : H la = none := by rw [upd_ne nlr] at hla; exact hla
    refine ⟨_, rfl, r, A.run, dx, _, rfl, (by rw [upd_ne (fun z => nlr z.symm)]; exact upd_same), T.d_Run.cl, T.n_Run_letters, (by show 1 < 1000; decide), ?_⟩
    refine ⟨_, rfl, r, A.run, dx, _, rfl, upd_same, T.d_Run.cl, T.n_Run_is_started, (by show 2 < 1000; decide), ?_⟩
    refine ⟨_, rfl, r, A.run, dx, _, rfl, upd_same, T.d_Run.cl, T.n_Run_is_over, (by show 3 < 1000; decide), ?_⟩
    refine k _ la ?_ hla0 nlr ?_ ?_
    · exact ((((But.refl r H).put.new hla).put).put).put
    · rw [upd_ne nlr, upd_ne nlr, upd_ne nlr, upd_same]
    · rw [upd_same]
      rfl

/-- run.told() -/
def spTold (K : PySem.W.Frag) (C : Addr) : Sp := fun vs H Q _ => ∃ (r dx ta la : Addr) (st ov : Bool) (t : List (Nat × Nat)) (ls : List Nat), vs = [.ref r] ∧ H r = some (.ins C dx (runF ta la st ov)) ∧ TabL K H ta t ∧ Tab t.length t ∧ 1 ≤ t.length ∧ SqL K H la (nvs ls) ∧ (∀ l ∈ ls, l < 2) ∧ ls.length ≤ 30 ∧
  ∀ H' p, Same H H' → SqT K H' p [nv ls.length, nv (R7291g.Spec.run t 0 ls), nv (R7291g.Spec.distinct (vis t ls)).length] → Q (.ref p) H'
theorem m_Run_told (T : Txt K mg A) : Met P w K mg base CX0 1 A.run "told" (spTold K A.run) := by
  refine met_of T.d_Run.cl T.d_Run_told sc_Run_told (fun vs H Q E h => ?_) (fun f cdv A2 outer s H vs Q E hr h => ?_)
  · obtain ⟨r, dx, ta, la, st, ov, t, ls, rfl, _⟩ := h
    rfl
  · obtain ⟨r, dx, ta, la, st, ov, t, ls, rfl, h0, ⟨rs, hta, hrs⟩, htt, t1, hla, hl2, h30, k⟩ := h
    refine ⟨_, (pss_cons (ps_set (i := 1) sc_Run_told.nd rfl (Or.inl rfl) pe_int)
      (pss_cons (ps_set (i := 2) sc_Run_told.nd rfl (Or.inl rfl) (pe_disp (pps_cons pe_int pe_bl pps_nil) (by rfl) (by rfl) (fun z => by cases z) (by decide)))
      (pss_cons (ps_for PassesOwn.never rfl (pi_list (pe_fldK K (pv 0) rfl)) (pg_name (i := 3) sc_Run_told.nd rfl (Or.inl rfl))
       (pss_cons (ps_set (i := 1) sc_Run_told.nd rfl (Or.inl rfl) (pe_ix (ixl K) (pe_ix (ixl K) (pe_fldK K (pv 0) rfl) (pv 1) (fun _ _ => rfl)) (pv 3) (fun _ _ => rfl)))
        (pss_one (ps_dput (hu_of hr) (pv 2) (pv 1) pe_bl rfl))))
      (pss_one (ps_ret (pe_tup (pa_cons (pe_callB (lenQ K) rfl T.len PySem.boot_len (pa_cons (pe_fldK K (pv 0) rfl) pa_nil)) (pa_cons (pv 1) (pa_cons (pe_callB call_lenD rfl T.len PySem.boot_len (pa_cons (pv 2) pa_nil)) pa_nil))))))))), ?_⟩
    refine fun sd hsd => ⟨upd_same, [(.inl 0, .bl true)], rfl, by decide, ?_⟩
    have s1 : Same H (upd (upd H sd (.dK [])) sd (.dK (mergeK [] [(.inl 0, .bl true)]))) := ((Same.refl H).new hsd).put hsd
    have hsd1 : (upd (upd H sd (.dK [])) sd (.dK (mergeK [] [(.inl 0, .bl true)]))) sd = some (.dK (seenK [0])) := upd_same
    generalize upd (upd H sd (.dK [])) sd (.dK (mergeK [] [(.inl 0, .bl true)])) = H1 at s1 hsd1
    refine ⟨_, rfl, r, A.run, dx, _, _, rfl, s1 _ _ h0, T.d_Run.cl, T.n_Run_letters, rfl, la, rfl, ⟨_, s1.seq hla⟩, for_list (K := K) (a := la) (xs := nvs ls) (fun i σ H' => ∃ (y : Option V) (ks : List Nat), σ = [some (.ref r), some (nv (R7291g.Spec.run t 0 (ls.take i))), some (.ref sd), y] ∧ Same H H' ∧ H' sd = some (.dK (seenK ks)) ∧
        ks.Nodup ∧ (∀ x, x ∈ ks ↔ x ∈ vis t (ls.take i)) ∧ ks.length ≤ i + 1) ⟨none, [0], rfl, s1, hsd1, by simp, fun x => Iff.rfl, Nat.le_refl _⟩ (fun i σ H' _ ⟨_, _, _, q, _⟩ => q.seq hla) ?_ ?_⟩
    · rintro i x σ H2 hx ⟨y, ks, rfl, s2, hs2, nd, hks, hkl⟩
      obtain ⟨l, hl, rfl⟩ := nvs_get hx
      have hll := hl2 l (List.mem_of_getElem? hl)
      have hp := run_lt htt (ls.take i) 0 t1
      obtain ⟨row, hr1, hr2⟩ := paired_get hrs (List.getElem?_eq_getElem hp)
      have hi : i < ls.length := (List.getElem?_eq_some_iff.mp hl).1
      have hrun : R7291g.Spec.run t 0 (ls.take (i + 1)) = R7291g.Spec.transition t (R7291g.Spec.run t 0 (ls.take i)) l := by rw [take_more hl, run_snoc]
      refine ⟨_, rfl, r, A.run, dx, _, _, rfl, s2 _ _ h0, T.d_Run.cl, T.n_Run_table, rfl, _, rfl, ta, _, _, .ref row, rfl, rfl, s2.seq hta, at_of rfl (refs_at hr1), _, rfl, row, _, _, _, rfl, rfl, s2.seq hr2, at_of rfl (pair_at (List.getElem?_eq_getElem hp) hll), ?_⟩
      rw [← hrun]
      refine ⟨_, rfl, _, rfl, sd, _, rfl, DPut.k (k := .inl ((R7291g.Spec.run t 0 (ls.take (i + 1)) : Nat) : Int)) hs2 ?_, _, if ks.contains (R7291g.Spec.run t 0 (ls.take (i + 1))) then ks else ks ++ [R7291g.Spec.run t 0 (ls.take (i + 1))], rfl, s2.put hsd, ?_, ?_, ?_, ?_⟩
      · unfold seenK
        rw [List.length_map]
        exact small_lt (by omega)
      · rw [upd_same, seen_put]
      · split
        · exact nd
        · rename_i hc
          exact nodup_snoc nd fun z => hc (List.contains_iff_mem.mpr z)
      · intro x
        rw [take_more hl, vis_snoc, vis_head, ← run_snoc, ← take_more hl, List.mem_cons, ← hks x]
        split
        · rename_i hc
          have hc := List.contains_iff_mem.mp hc
          constructor
          · exact fun h => .inr h
          · rintro (h | h)
            · exact h ▸ hc
            · exact h
        · rw [List.mem_append, List.mem_singleton]
          exact or_comm
      · split
        · omega
        · rw [List.length_append, List.length_singleton]; omega
    · rintro σ H2 ⟨y, ks, rfl, s2, hs2, nd, hks, hkl⟩
      rw [nvs_len, List.take_length] at hks ⊢
      refine ⟨_, rfl, r, A.run, dx, _, _, rfl, s2 _ _ h0, T.d_Run.cl, T.n_Run_letters, rfl, la, _, rfl, .inl (s2.seq hla), _, rfl, _, rfl, sd, _, rfl, hs2, (by show 3 ≤ sizeLine; decide), fun p hp => k _ p (s2.new hp) (SqT.of ?_)⟩
      rw [upd_same, nvs_len, distinct_len nd hks]
      unfold seenK
      rw [List.length_map]

/-- run.undo() -/
def spUndo (K : PySem.W.Frag) (C : Addr) : Sp := fun vs H Q _ => ∃ (r dx ta la : Addr) (st ov : Bool) (ls : List Nat), vs = [.ref r] ∧ H r = some (.ins C dx (runF ta la st ov)) ∧ SqL K H la (nvs ls) ∧
  ∀ H' lb, But r H H' → H' r = some (.ins C dx (runF ta lb st ov)) → H' lb = some (.lst (nvs ls.dropLast)) → Q .non H'
theorem m_Run_undo (T : Txt K mg A) : Met P w K mg base CX0 1 A.run "undo" (spUndo K A.run) := by
  refine met_of T.d_Run.cl T.d_Run_undo sc_Run_undo (fun vs H Q E h => ?_) (fun f cdv A2 outer s H vs Q E hr h => ?_)
  · obtain ⟨r, dx, ta, la, st, ov, ls, rfl, _⟩ := h
    rfl
  · obtain ⟨r, dx, ta, la, st, ov, ls, rfl, h0, hla, k⟩ := h
    refine ⟨_, (pss_one (ps_fld (pv 0) (pe_slice sl_list (pe_fldK K (pv 0) rfl) po_none (po_some (pe_un un_neg pe_int))) rfl)), ?_⟩
    refine ⟨_, rfl, r, A.run, dx, _, _, rfl, h0, T.d_Run.cl, T.n_Run_letters, rfl, _, rfl, _, rfl, la, _, rfl, hla, fun p hp => ?_⟩
    have s1 : Same H (upd H p (.lst (cutV (nvs ls) none (some (-1))))) := (Same.refl H).new hp
    have npr : p ≠ r := fun z => by
      rw [z, h0] at hp
      cases hp
    refine ⟨_, rfl, r, A.run, dx, _, rfl, s1 _ _ h0, T.d_Run.cl, T.n_Run_letters, (by show 4 < 1000; decide), k _ p ((But.refl r H).new hp).put ?_ ?_⟩
    · rw [upd_same]
      rfl
    · rw [upd_ne npr, upd_same, cut_last]
      congr 2
      exact (List.map_dropLast ..).symm
end
end Sw
set_option Elab.async false
set_option linter.all false
set_option maxRecDepth 100000
set_option maxHeartbeats 4000000
/-! Separating words: calls on runs. -/
namespace Sw
open PySem PySem.Spec PyProof.Rows L2
open Rust (given taken)

/-! ### what is handed in is handed out -/
theorem oct_of_unit (o : UInt8) : Rust.octetOf (Rust.unitOf o) = o := by
  unfold Rust.octetOf
  rw [unit_nat]
  simp
theorem octs_units (u : List UInt8) : (u.map Rust.unitOf).map Rust.octetOf = u := by
  rw [List.map_map]
  conv => rhs; rw [← List.map_id u]
  exact List.map_congr_left fun o _ => oct_of_unit o
mutual
theorem given_taken : ∀ v : RWire.Value, okV v = true → given (taken v) = v
  | .nothing, _ => rfl
  | .null, _ => rfl
  | .bool _, _ => rfl
  | .int _, _ => rfl
  | .text u, _ => by
    rw [taken]
    show RWire.Value.text ((u.map Rust.unitOf).map Rust.octetOf) = _
    rw [octs_units]
  | .list l, ok => by
    rw [taken, given, givenAll_taken l (okV_list ok)]
  | .record l, ok => by
    rw [taken, given, givenFields_taken l (okV_record ok)]
  | .big _, ok => by
    unfold okV at ok
    rw [RWire.noBig] at ok
    cases ok
  | .octets _, ok => by
    unfold okV at ok
    rw [RWire.noBig, RWire.noOctets] at ok
    cases ok
  | .wide _, ok => by
    unfold okV at ok
    rw [RWire.noBig, RWire.noOctets, RWire.noWide] at ok
    cases ok
theorem givenAll_taken : ∀ l : List RWire.Value, okMany l = true → Rust.givenAll (Rust.takenAll l) = l
  | [], _ => by rw [Rust.takenAll, Rust.givenAll]
  | v :: r, ok => by
    have h1 : okV v = true := okMany_at ok List.mem_cons_self
    have h2 : okMany r = true := by
      unfold okMany at ok ⊢
      rw [RWire.noBigMany, RWire.noOctetsMany, RWire.noWideMany] at ok
      simp only [Bool.and_eq_true] at ok ⊢
      exact ⟨ok.1.2, ok.2.1.2, ok.2.2.2⟩
    rw [Rust.takenAll, Rust.givenAll, given_taken v h1, givenAll_taken r h2]
theorem givenFields_taken : ∀ l : List (RWire.Text × RWire.Value), okEnts l = true → Rust.givenFields (Rust.takenFields l) = l
  | [], _ => by rw [Rust.takenFields, Rust.givenFields]
  | (n, v) :: r, ok => by
    have h1 : okV v = true := okEnts_at (e := (n, v)) ok List.mem_cons_self
    have h2 : okEnts r = true := by
      unfold okEnts at ok ⊢
      rw [RWire.noBigEntries, RWire.noOctetsEntries, RWire.noWideEntries] at ok
      simp only [Bool.and_eq_true] at ok ⊢
      exact ⟨ok.1.2, ok.2.1.2, ok.2.2.2⟩
    rw [Rust.takenFields, Rust.givenFields, given_taken v h1, givenFields_taken r h2, octs_units]
end
theorem given_iter (p : R7291g.Spec.Plain) (d : Bool) : given (R7291g.Spec.iteratorResult p d) = .record [(txt "value", given p), (txt "done", .bool d)] := by
  unfold R7291g.Spec.iteratorResult
  rw [given_record _ (fun f hf => by
    rcases List.mem_cons.mp hf with rfl | hf
    · show ascii (Str.ofString "value") = true
      decide +kernel
    · rw [List.mem_singleton.mp hf]
      show ascii (Str.ofString "done") = true
      decide +kernel)]
  rfl
theorem given_thrown (p : R7291g.Spec.Plain) : given (.arr [R7291g.Spec.text "thrown", p]) = .list [.text (txt "thrown"), given p] := by
  rw [given_arr]
  show RWire.Value.list [given (R7291g.Spec.text "thrown"), given p] = _
  rw [given_str "thrown" (by decide +kernel)]
theorem given_result (p : R7291g.Spec.Plain) (d : Bool) : given (.arr [R7291g.Spec.text "result", p, .bool d]) = .list [.text (txt "result"), given p, .bool d] := by
  rw [given_arr]
  show RWire.Value.list [given (R7291g.Spec.text "result"), given p, .bool d] = _
  rw [given_str "result" (by decide +kernel)]
/-- a request to a run or an enumerator, by its door: 0 next, 1 throw, 2 return -/
def reqD (d : Nat) (v : RWire.Value) : R7291g.Spec.Request := match d with
  | 0 => .next (taken v)
  | 1 => .throw (taken v)
  | _ => .ret (taken v)
/-- the text "undo" -/
def isUndoV (v : RWire.Value) : Bool := match v with
  | .text u => u == txt "undo"
  | _ => false
theorem undo_taken {v : RWire.Value} (ok : okV v = true) : R7291g.Spec.isUndoRequest (taken v) = isUndoV v := by
  cases v with
  | text u =>
    rw [taken]
    show (u.map Rust.unitOf == R7291g.Spec.units "undo") = (u == txt "undo")
    have e1 : R7291g.Spec.units "undo" = (txt "undo").map Rust.unitOf := by decide +kernel
    rw [e1, Bool.eq_iff_iff, beq_iff_eq, beq_iff_eq]
    constructor
    · intro h
      have := congrArg (List.map Rust.octetOf) h
      rwa [octs_units, octs_units] at this
    · exact fun h => by rw [h]
  | wide u =>
    unfold okV at ok
    rw [RWire.noBig, RWire.noOctets, RWire.noWide] at ok
    cases ok
  | nothing => rw [taken]; rfl
  | null => rw [taken]; rfl
  | bool _ => rw [taken]; rfl
  | big _ => rw [taken]; rfl
  | int _ => rw [taken]; rfl
  | octets _ => rw [taken]; rfl
  | list _ => rw [taken]; rfl
  | record _ => rw [taken]; rfl
/-! ### octets compared -/
def octD (u : List UInt8) : List PyData := (u.map fun o : UInt8 => (o.toNat : Int)).map PyData.int
theorem octD_eqv : ∀ u v : List UInt8, PyData.eqvAll (octD u) (octD v) = (u == v)
  | [], [] => rfl
  | [], _ :: _ => rfl
  | _ :: _, [] => rfl
  | a :: u, b :: v => by
    show (((a.toNat : Int) == (b.toNat : Int)) && PyData.eqvAll (octD u) (octD v)) = (a :: u == b :: v)
    rw [octD_eqv u v, List.cons_beq_cons]
    congr 1
    rw [Bool.eq_iff_iff, beq_iff_eq, beq_iff_eq]
    constructor
    · intro h
      have h : a.toNat = b.toNat := by omega
      exact UInt8.toNat_inj.mp h
    · exact fun h => by rw [h]
theorem depth_ints : ∀ ns : List Int, PyData.depthAll (ns.map PyData.int) = 0
  | [] => by rw [List.map_nil, PyData.depthAll]
  | n :: ns => by rw [List.map_cons, PyData.depthAll, depth_ints ns, PyData.depth]; rfl
theorem octD_shaped (u : List UInt8) : SeqAt.shaped (.tuple (octD u)) = true := by
  show (PyData.canLay0 (.tuple (octD u)) && decide (PyData.depth (.tuple (octD u)) ≤ 64)) = true
  rw [PyData.canLay0, PyData.depth]
  unfold octD
  rw [PyProof.Rows.canLayAll_ints, depth_ints]
  rfl
theorem octD_dp {K : PySem.W.Frag} {H : Hp} : ∀ u : List UInt8, DpAll K H (u.map ov) (octD u)
  | [] => .nil
  | a :: u => .cons (.int _) (octD_dp u)

section
variable {P : Program} {w : World} {K : PySem.W.Frag} {mg : Str → Option PySem.Value} {base : Heap} {A : Ad}
/-- what a run tells -/
def tellV (t : List (Nat × Nat)) (ls : List Nat) : RWire.Value := .record [(txt "length", .int (ls.length : Int)), (txt "state", .int (R7291g.Spec.run t 0 ls : Nat)), (txt "visited", .int ((R7291g.Spec.distinct (vis t ls)).length : Nat))]
theorem given_tell (t : List (Nat × Nat)) (ls : List Nat) : given (R7291g.Spec.record [("length", R7291g.Spec.nat ((vis t ls).length - 1)), ("state", R7291g.Spec.nat ((vis t ls).headD 0)), ("visited", R7291g.Spec.nat (R7291g.Spec.distinct (vis t ls)).length)]) = tellV t ls := by
  rw [given_record _ (fun f hf => by
    rcases List.mem_cons.mp hf with rfl | hf
    · show ascii (Str.ofString "length") = true
      decide +kernel
    · rcases List.mem_cons.mp hf with rfl | hf
      · show ascii (Str.ofString "state") = true
        decide +kernel
      · rw [List.mem_singleton.mp hf]
        show ascii (Str.ofString "visited") = true
        decide +kernel)]
  rw [vis_len, vis_head]
  rfl
/-- told_run(run) -/
def spToldRun (K : PySem.W.Frag) (C : Addr) : Sp := fun vs H Q _ => ∃ (r dx ta la : Addr) (st ov : Bool) (t : List (Nat × Nat)) (ls : List Nat), vs = [.ref r] ∧ H r = some (.ins C dx (runF ta la st ov)) ∧ TabL K H ta t ∧ Tab t.length t ∧ 1 ≤ t.length ∧ SqL K H la (nvs ls) ∧ (∀ l ∈ ls, l < 2) ∧ ls.length ≤ 30 ∧
  ∀ H' p, Same H H' → ValAt NF K H' (tellV t ls) (.ref p) → Q (.ref p) H'
theorem c_told_run (T : Txt K mg A) : Cal P w K mg base CX0 3 "told_run" (spToldRun K A.run) := by
  have m_Run_told := m_Run_told (P := P) (w := w) (base := base) T
  have c_record := c_record (P := P) (w := w) (base := base) T
  have c_integer := c_integer (P := P) (w := w) (base := base) T
  refine cal_of T.d_told_run sc_told_run (fun vs H Q E h => ?_) (fun f cdv A2 outer s H vs Q E hr h => ?_)
  · obtain ⟨_, _, _, _, _, _, _, _, rfl, _⟩ := h
    rfl
  · obtain ⟨r, dx, ta, la, st, ov, t, ls, rfl, h0, hta, htt, t1, hla, hl2, h30, k⟩ := h
    refine ⟨_, (pss_cons (ps_asg (pe_m0 m_Run_told hr (pv 0)) (pg_tup rfl (pgs_cons (pg_name (i := 1) sc_told_run.nd rfl (Or.inl rfl)) (pgs_cons (pg_name (i := 2) sc_told_run.nd rfl (Or.inl rfl)) (pgs_cons (pg_name (i := 3) sc_told_run.nd rfl (Or.inl rfl)) pgs_nil)))))
      (pss_one (ps_ret (pe_d c_record hr rfl (pa_cons (pe_lst (pa_cons (pe_tup (pa_cons pe_str (pa_cons (pe_d c_integer hr rfl (pa_cons (pv 1) pa_nil)) pa_nil))) (pa_cons (pe_tup (pa_cons pe_str (pa_cons (pe_d c_integer hr rfl (pa_cons (pv 2) pa_nil)) pa_nil))) (pa_cons (pe_tup (pa_cons pe_str (pa_cons (pe_d c_integer hr rfl (pa_cons (pv 3) pa_nil)) pa_nil))) pa_nil)))) pa_nil))))), ?_⟩
    refine ⟨_, rfl, r, dx, _, rfl, h0, rfl, r, dx, ta, la, st, ov, t, ls, rfl, h0, hta, htt, t1, hla, hl2, h30, fun H1 p s1 hp => ?_⟩
    refine ⟨p, _, rfl, hp, rfl, _, _, rfl, _, _, rfl, _, _, rfl, rfl, ?_⟩
    refine ⟨_, rfl, _, rfl, fun H2 z1 s2 hz1 => ⟨(by show 2 ≤ sizeLine; decide), fun q1 hq1 => ?_⟩⟩
    have s3 : Same H2 (upd H2 q1 (.tup [.str "length", .ref z1])) := (Same.refl H2).new hq1
    have h3 : SqT K (upd H2 q1 (.tup [.str "length", .ref z1])) q1 [.str "length", .ref z1] := SqT.of upd_same
    generalize upd H2 q1 (.tup [.str "length", .ref z1]) = H3 at s3 h3
    refine ⟨_, rfl, _, rfl, fun H4 z2 s4 hz2 => ⟨(by show 2 ≤ sizeLine; decide), fun q2 hq2 => ?_⟩⟩
    have s5 : Same H4 (upd H4 q2 (.tup [.str "state", .ref z2])) := (Same.refl H4).new hq2
    have h5 : SqT K (upd H4 q2 (.tup [.str "state", .ref z2])) q2 [.str "state", .ref z2] := SqT.of upd_same
    generalize upd H4 q2 (.tup [.str "state", .ref z2]) = H5 at s5 h5
    refine ⟨_, rfl, _, rfl, fun H6 z3 s6 hz3 => ⟨(by show 2 ≤ sizeLine; decide), fun q3 hq3 => ?_⟩⟩
    have s7 : Same H6 (upd H6 q3 (.tup [.str "visited", .ref z3])) := (Same.refl H6).new hq3
    have h7 : SqT K (upd H6 q3 (.tup [.str "visited", .ref z3])) q3 [.str "visited", .ref z3] := SqT.of upd_same
    generalize upd H6 q3 (.tup [.str "visited", .ref z3]) = H7 at s7 h7
    refine ⟨(by show 3 ≤ sizeLine; decide), fun L hL => ?_⟩
    have s8 : Same H7 (upd H7 L (.lst [.ref q1, .ref q2, .ref q3])) := (Same.refl H7).new hL
    refine ⟨L, [q1, q2, q3], NF, [("length", .int (ls.length : Int)), ("state", .int (R7291g.Spec.run t 0 ls : Nat)), ("visited", .int ((R7291g.Spec.distinct (vis t ls)).length : Nat))], rfl, SqL.of upd_same, (by show 3 ≤ 1000; decide), ?_, fun H9 u s9 hu => k H9 u (s1.trans (s2.trans (s3.trans (s4.trans (s5.trans (s6.trans (s7.trans (s8.trans s9)))))))) hu⟩
    exact .cons ⟨(by show ascii "length" = true; decide +kernel), (by show ("length" : Str).cps.size ≤ 1000; decide +kernel), .ref z1, (s4.trans (s5.trans (s6.trans (s7.trans s8)))).tup h3, hz1.same (s3.trans (s4.trans (s5.trans (s6.trans (s7.trans s8)))))⟩
      (.cons ⟨(by show ascii "state" = true; decide +kernel), (by show ("state" : Str).cps.size ≤ 1000; decide +kernel), .ref z2, (s6.trans (s7.trans s8)).tup h5, hz2.same (s5.trans (s6.trans (s7.trans s8)))⟩
      (.cons ⟨(by show ascii "visited" = true; decide +kernel), (by show ("visited" : Str).cps.size ≤ 1000; decide +kernel), .ref z3, s8.tup h7, hz3.same (s7.trans s8)⟩ .nil))

/-- on_run(run, door, value) -/
def spOnRun (K : PySem.W.Frag) (A : Ad) : Sp := fun vs H Q _ => ∃ (r : Addr) (d : Nat) (x : V) (v : RWire.Value) (R : R7291g.Spec.Run), vs = [.ref r, nv (10 + d), x] ∧ d ≤ 2 ∧ RunAt K A H r R ∧ ValAt NF K H v x ∧ okV v = true ∧
  ∀ H' x' N, But r H H' → RunAt K A H' r (R7291g.Spec.runRequest R (reqD d v)).1 → ValAt N K H' (given (R7291g.Spec.outcomeValue (reqD d v) (R7291g.Spec.runRequest R (reqD d v)).2)) x' → Q x' H'
theorem c_on_run (T : Txt K mg A) : Cal P w K mg base CX0 4 "on_run" (spOnRun K A) := by
  have c_told_step := c_told_step (P := P) (w := w) (base := base) T
  have c_codes_of := c_codes_of (P := P) (w := w) (base := base) T
  have c_told_thrown := c_told_thrown (P := P) (w := w) (base := base) T
  have c_told_result := c_told_result (P := P) (w := w) (base := base) T
  have c_told_run := c_told_run (P := P) (w := w) (base := base) T
  have m_Run_undo := m_Run_undo (P := P) (w := w) (base := base) T
  have c_letter_of := c_letter_of (P := P) (w := w) (base := base) T
  have c_text := c_text (P := P) (w := w) (base := base) T
  refine cal_of T.d_on_run sc_on_run (fun vs H Q E h => ?_) (fun f cdv A2 outer s H vs Q E hr h => ?_)
  · obtain ⟨_, _, _, _, _, rfl, _⟩ := h
    rfl
  · obtain ⟨r, d, x, v, R, rfl, hd2, ⟨dx, ta, la, st, ov, ls, h0, hta, htt, t1, hla, hl2, h30, rel⟩, hx, ok, k⟩ := h
    refine ⟨_, (pss_cons (ps_if (pt_cmpR op_eq (pv 1) pe_int (nomark _))
       (pss_cons (ps_fld (pv 0) pe_bl rfl)
        (pss_one (ps_ret (pe_d c_told_step hr rfl (pa_cons (pv 2) (pa_cons pe_bl pa_nil))))))
       pss_nil)
      (pss_cons (ps_if (pt_cmpR op_eq (pv 1) pe_int (nomark _))
       (pss_cons (ps_set (i := 3) sc_on_run.nd rfl (Or.inl rfl) (pe_and (pe_cmpR op_eq (pe_ix (ixt K) (pv 2) pe_int (fun _ _ => rfl)) (pe_gi rfl T.TEXT) (nomark _)) (pe_one (pe_cmpR (op_eqD hr.units) (pe_callTy call_tuple_of rfl T.tuple (by decide +kernel) (pa_cons (pe_ix (ixt K) (pv 2) pe_int (fun _ _ => rfl)) pa_nil)) (pe_d c_codes_of hr rfl (pa_cons pe_str pa_nil)) (nomark _)))))
        (pss_cons (ps_if (PW.pt (pw_or (pt_val (pe_fldK K (pv 0) rfl)) (pw_or (pt_not (pt_val (pe_fldK K (pv 0) rfl))) (pw_or (pt_cmpR op_eq (pe_callB (lenQ K) rfl T.len PySem.boot_len (pa_cons (pe_fldK K (pv 0) rfl) pa_nil)) pe_int (nomark _)) (pw_or1 (pt_not (pt_val (pv 3))))))))
         (pss_cons (ps_fld (pv 0) pe_bl rfl)
          (pss_one (ps_ret (pe_d c_told_thrown hr rfl (pa_cons (pv 2) pa_nil)))))
         pss_nil)
        (pss_cons (ps_expr (pe_m0 m_Run_undo hr (pv 0)))
        (pss_one (ps_ret (pe_d c_told_result hr rfl (pa_cons (pe_d c_told_run hr rfl (pa_cons (pv 0) pa_nil)) (pa_cons pe_bl pa_nil))))))))
       pss_nil)
      (pss_cons (ps_if (pt_val (pe_fldK K (pv 0) rfl))
       (pss_one (ps_ret (pe_d c_told_step hr rfl (pa_cons (pe_gr rfl T.NOTHING) (pa_cons pe_bl pa_nil)))))
       pss_nil)
      (pss_cons (ps_set (i := 4) sc_on_run.nd rfl (Or.inl rfl) (pe_d c_letter_of hr rfl (pa_cons (pv 2) pa_nil)))
      (pss_cons (ps_if (PW.pt (pw_and (pt_val (pe_fldK K (pv 0) rfl)) (pw_and1 (pt_cmpR op_ge (pv 4) pe_int (nomark _)))))
       (pss_cons (ps_if (pt_cmpR op_eq (pe_callB (lenQ K) rfl T.len PySem.boot_len (pa_cons (pe_fldK K (pv 0) rfl) pa_nil)) (pe_gi rfl T.MOST_READ) (nomark _))
         (pss_cons (ps_fld (pv 0) pe_bl rfl)
          (pss_one (ps_ret (pe_d c_told_step hr rfl (pa_cons (pe_d c_text hr rfl (pa_cons pe_str pa_nil)) (pa_cons pe_bl pa_nil))))))
         pss_nil)
        (pss_one (ps_fld (pv 0) (pe_op op_cat (pe_fldK K (pv 0) rfl) (pe_lst (pa_cons (pv 4) pa_nil))) rfl)))
       pss_nil)
      (pss_cons (ps_fld (pv 0) pe_bl rfl)
      (pss_one (ps_ret (pe_d c_told_step hr rfl (pa_cons (pe_d c_told_run hr rfl (pa_cons (pv 0) pa_nil)) (pa_cons pe_bl pa_nil))))))))))), ?_⟩
    have cl := T.d_Run.cl
    have mk : ∀ (H1 : Hp) (la' : Addr) (st' ov' : Bool) (ls' : List Nat) (S : R7291g.Spec.GeneratorState (List Nat)), But r H H1 → H1 r = some (.ins A.run dx (runF ta la' st' ov')) → H1 la' = some (.lst (nvs ls')) → (∀ l ∈ ls', l < 2) → ls'.length ≤ 30 → RunRel R.table st' ov' ls' S → RunAt K A H1 r ⟨R.table, S⟩ :=
      fun H1 la' st' ov' ls' S b h1 h2 h3 h4 h5 => ⟨dx, ta, la', st', ov', ls', h1, hta.but b h0, htt, t1, h2, h3, h4, h5⟩
    have nlr : la ≠ r := fun z => by
      rw [z, h0] at hla
      cases hla
    have bhx : ∀ {H1 : Hp}, But r H H1 → ValAt NF K H1 v x := fun b => ValAt.move (b.moves h0) _ _ hx
    -- it is over from now on
    have over : ∀ (H1 : Hp) (st' : Bool), Same H H1 → H1 r = some (.ins A.run dx (runF ta la st' ov)) → But r H (upd H1 r (.ins A.run dx (putF "is_over" (.bl true) (runF ta la st' ov)))) ∧ ∀ H2, Same (upd H1 r (.ins A.run dx (putF "is_over" (.bl true) (runF ta la st' ov)))) H2 → RunAt K A H2 r ⟨R.table, .finished⟩ := fun H1 st' s1 h1 => by
      have b : But r H (upd H1 r (.ins A.run dx (putF "is_over" (.bl true) (runF ta la st' ov)))) := (But.of s1).put
      refine ⟨b, fun H2 s2 => mk H2 la st' true ls _ (b.trans (But.of s2)) (s2 _ _ ?_) (s2 _ _ ?_) hl2 h30 rfl⟩
      · rw [upd_same]
        rfl
      · rw [upd_ne nlr]
        exact s1 _ _ hla
    -- it tells
    have tail : ∀ (H1 : Hp) (la' : Addr) (ls' : List Nat), But r H H1 → H1 r = some (.ins A.run dx (runF ta la' true false)) → H1 la' = some (.lst (nvs ls')) → (∀ l ∈ ls', l < 2) → ls'.length ≤ 30 → d = 0 → R7291g.Spec.runNext R (taken v) = R7291g.Spec.yieldRun R (vis R.table ls') →
        spToldRun K A.run [.ref r] H1 (fun x H2 => spToldStep K [x, .bl false] H2 Q E0) E0 := fun H1 la' ls' b h1 h2 h3 h4 ed e => by
      subst ed
      refine ⟨r, dx, ta, la', true, false, R.table, ls', rfl, h1, hta.but b h0, htt, t1, SqL.of h2, h3, h4, fun H2 p s2 hp => ⟨NF, .ref p, _, false, rfl, hp, fun H3 q s3 hq => k H3 _ NF (b.trans (But.of (s2.trans s3))) ?_ ?_⟩⟩
      · show RunAt K A H3 r (R7291g.Spec.runNext R (taken v)).1
        rw [e]
        exact mk H3 la' true false ls' _ (b.trans (But.of (s2.trans s3))) ((s2.trans s3) _ _ h1) ((s2.trans s3) _ _ h2) h3 h4 ⟨rfl, rfl, rfl⟩
      · show ValAt NF K H3 (given (R7291g.Spec.outcomeValue (.next (taken v)) (R7291g.Spec.runNext R (taken v)).2)) (.ref q)
        rw [e]
        show ValAt NF K H3 (given (R7291g.Spec.iteratorResult (R7291g.Spec.record [("length", R7291g.Spec.nat ((vis R.table ls').length - 1)), ("state", R7291g.Spec.nat ((vis R.table ls').headD 0)), ("visited", R7291g.Spec.nat (R7291g.Spec.distinct (vis R.table ls')).length)]) false)) (.ref q)
        rw [given_iter, given_tell]
        exact hq
    have hd : d = 0 ∨ d = 1 ∨ d = 2 := by omega
    rcases hd with rfl | rfl | rfl
    · -- next
      have k : ∀ H' x' N, But r H H' → RunAt K A H' r (R7291g.Spec.runNext R (taken v)).1 → ValAt N K H' (given (R7291g.Spec.outcomeValue (.next (taken v)) (R7291g.Spec.runNext R (taken v)).2)) x' → Q x' H' := k
      refine ⟨_, rfl, rfl, _, rfl, iteF ⟨_, rfl, rfl, _, rfl, iteF ?_⟩⟩
      refine ⟨_, rfl, r, A.run, dx, _, _, rfl, h0, cl, T.n_Run_is_over, rfl, ov, rfl, ?_⟩
      cases hs : R.state with
      | finished =>
        rw [hs] at rel
        have rel : ov = true := rel
        subst rel
        refine iteT fun a ha => ⟨NF, .ref a, .nothing, true, rfl, ?_, fun H1 p s1 hp => k H1 _ NF (But.of s1) ?_ ?_⟩
        · rw [ValAt]
          exact ⟨a, rfl, ha _⟩
        · have e : (R7291g.Spec.runNext R (taken v)).1 = ⟨R.table, .finished⟩ := by
            unfold R7291g.Spec.runNext
            rw [hs]
            show R = _
            rw [← hs]
          rw [e]
          exact mk H1 la st true ls _ (But.of s1) (s1 _ _ h0) (s1 _ _ hla) hl2 h30 rfl
        · have e : (R7291g.Spec.runNext R (taken v)).2 = .result .undef true := by
            unfold R7291g.Spec.runNext
            rw [hs]
          rw [e]
          show ValAt NF K H1 (given (R7291g.Spec.iteratorResult .undef true)) (.ref p)
          rw [given_iter]
          exact hp
      | notStarted =>
        rw [hs] at rel
        obtain ⟨rfl, rfl, rfl⟩ := (rel : st = false ∧ ov = false ∧ ls = [])
        refine iteF ⟨_, rfl, x, v, rfl, hx, fun H1 s1 => ?_⟩
        refine ⟨_, rfl, r, A.run, dx, _, _, rfl, s1 _ _ h0, cl, T.n_Run_is_started, rfl, false, rfl, iteF (iteF ?_)⟩
        refine ⟨_, rfl, r, A.run, dx, _, rfl, s1 _ _ h0, cl, T.n_Run_is_started, (by show 4 < 1000; decide), ?_⟩
        refine ⟨_, rfl, tail _ la [] (But.of s1).put (by rw [upd_same]; rfl) (by rw [upd_ne nlr]; exact s1 _ _ hla) hl2 h30 rfl ?_⟩
        unfold R7291g.Spec.runNext
        rw [hs]
        rfl
      | running l =>
        rw [hs] at rel
        obtain ⟨rfl, rfl, rfl⟩ := (rel : st = true ∧ ov = false ∧ l = vis R.table ls)
        refine iteF ⟨_, rfl, x, v, rfl, hx, fun H1 s1 => ?_⟩
        refine ⟨_, rfl, r, A.run, dx, _, _, rfl, s1 _ _ h0, cl, T.n_Run_is_started, rfl, true, rfl, iteT ?_⟩
        refine ⟨_, rfl, _, _, rfl, rfl, _, rfl, ?_⟩
        have hpl := letter_taken ok
        cases hl : letV v with
        | none =>
          rw [hl] at hpl
          refine iteF ?_
          refine ⟨_, rfl, r, A.run, dx, _, rfl, s1 _ _ h0, cl, T.n_Run_is_started, (by show 4 < 1000; decide), ?_⟩
          refine ⟨_, rfl, tail _ la ls (But.of s1).put (by rw [upd_same]; rfl) (by rw [upd_ne nlr]; exact s1 _ _ hla) hl2 h30 rfl ?_⟩
          unfold R7291g.Spec.runNext
          rw [hs]
          simp only [hpl]
        | some u =>
          rw [hl] at hpl
          have hu2 := letV_lt hl
          have e0 : decide ((0 : Int) ≤ kInt (some u)) = true := decide_eq_true (by show (0 : Int) ≤ (u : Int); omega)
          rw [e0]
          refine iteT ?_
          refine ⟨_, rfl, r, A.run, dx, _, _, rfl, s1 _ _ h0, cl, T.n_Run_letters, rfl, la, _, rfl, .inl (SqL.of (s1 _ _ hla)), rfl, _, rfl, ?_⟩
          have e30 : decide (V.int ((nvs ls).length : Int) = V.int 30) = decide (ls.length = 30) := by
            refine decide_eq_decide.mpr ⟨fun z => ?_, fun z => ?_⟩
            · injection z with z
              rw [nvs_len] at z
              omega
            · rw [nvs_len, z]
              rfl
          rw [e30]
          refine ite2 (fun hc => ?_) (fun hc => ?_)
          · have hc := of_decide_eq_true hc
            have e : R7291g.Spec.runNext R (taken v) = (⟨R.table, .finished⟩, .result (R7291g.Spec.text "complete") true) := by
              unfold R7291g.Spec.runNext
              rw [hs]
              simp only [hpl]
              rw [if_neg (by rw [vis_len, hc]; decide)]
            rw [e] at k
            obtain ⟨b2, at2⟩ := over H1 true s1 (s1 _ _ h0)
            refine ⟨_, rfl, r, A.run, dx, _, rfl, s1 _ _ h0, cl, T.n_Run_is_over, (by show 4 < 1000; decide), ?_⟩
            refine ⟨"complete", rfl, by decide +kernel, by decide +kernel, fun H2 p s2 hp => ⟨NF, .ref p, _, true, rfl, hp, fun H3 q s3 hq => k H3 _ NF (b2.trans (But.of (s2.trans s3))) (at2 _ (s2.trans s3)) ?_⟩⟩
            show ValAt NF K H3 (given (R7291g.Spec.iteratorResult (R7291g.Spec.text "complete") true)) (.ref q)
            rw [given_iter, given_str "complete" (by decide +kernel)]
            exact hq
          · have hc := of_decide_eq_false (Bool.eq_false_iff.mpr hc)
            have e : R7291g.Spec.runNext R (taken v) = R7291g.Spec.yieldRun R (vis R.table (ls ++ [u])) := by
              unfold R7291g.Spec.runNext
              rw [hs]
              simp only [hpl]
              rw [if_pos (by rw [vis_len]; show ls.length + 1 ≤ 30; omega), vis_snoc]
            refine ⟨_, rfl, r, A.run, dx, _, _, rfl, s1 _ _ h0, cl, T.n_Run_letters, rfl, _, rfl, (by show 1 ≤ sizeLine; decide), fun q hq => ?_⟩
            have s2 : Same H (upd H1 q (.lst [nv u])) := s1.new hq
            have hq2 : (upd H1 q (.lst [nv u])) q = some (.lst [nv u]) := upd_same
            have hla2 := s2 _ _ hla
            refine ⟨la, q, _, _, rfl, rfl, hla2, hq2, (by rw [nvs_len]; show ls.length + 1 ≤ sizeLine; exact small_line (by omega)), fun lb hlb => ?_⟩
            have s3 : Same H (upd (upd H1 q (.lst [nv u])) lb (.lst (nvs ls ++ [nv u]))) := s2.new hlb
            have nbr : lb ≠ r := fun z => by
              have hlb' : (upd H1 q (.lst [nv u])) lb = none := hlb
              rw [z, s2 _ _ h0] at hlb'
              cases hlb'
            refine ⟨_, rfl, r, A.run, dx, _, rfl, s3 _ _ h0, cl, T.n_Run_letters, (by show 4 < 1000; decide), ?_⟩
            refine ⟨_, rfl, r, A.run, dx, _, rfl, upd_same, cl, T.n_Run_is_started, (by show 4 < 1000; decide), ?_⟩
            refine ⟨_, rfl, tail _ lb (ls ++ [u]) (But.of s3).put.put (by rw [upd_same]; rfl) ?_ ?_ ?_ rfl e⟩
            · rw [upd_ne nbr, upd_ne nbr, upd_same]
              simp [nvs]
            · intro z hz
              rcases List.mem_append.mp hz with hz | hz
              · exact hl2 z hz
              · rw [List.mem_singleton.mp hz]
                exact hu2
            · rw [List.length_append, List.length_singleton]
              omega
    · -- throw
      have k : ∀ H' x' N, But r H H' → RunAt K A H' r (R7291g.Spec.runThrow R (taken v)).1 → ValAt N K H' (given (R7291g.Spec.settledValue (R7291g.Spec.runThrow R (taken v)).2)) x' → Q x' H' := k
      have gone : ∀ H1, Same H H1 → R7291g.Spec.runThrow R (taken v) = (⟨R.table, .finished⟩, .thrown (taken v)) → spToldThrown K [x] (upd H1 r (.ins A.run dx (putF "is_over" (.bl true) (runF ta la st ov)))) Q E0 := fun H1 s1 e => by
        obtain ⟨b2, at2⟩ := over H1 st s1 (s1 _ _ h0)
        rw [e] at k
        refine ⟨NF, x, v, rfl, bhx b2, fun H3 q s3 hq => k H3 _ NF (b2.trans (But.of s3)) (at2 _ s3) ?_⟩
        show ValAt NF K H3 (given (.arr [R7291g.Spec.text "thrown", taken v])) (.ref q)
        rw [given_thrown, given_taken v ok]
        exact hq
      refine ⟨_, rfl, rfl, _, rfl, iteF ⟨_, rfl, rfl, _, rfl, iteT ?_⟩⟩
      by_cases hk : kindV v = 6
      · obtain ⟨u, ev⟩ : ∃ u, v = .text u := by
          cases v with
          | text u => exact ⟨u, rfl⟩
          | bool t => cases t <;> cases hk
          | nothing => cases hk
          | null => cases hk
          | int _ => cases hk
          | list _ => cases hk
          | record _ => cases hk
          | big _ => cases hk
          | octets _ => cases hk
          | wide _ => cases hk
        have hx' := hx
        rw [ev, ValAt] at hx'
        obtain ⟨a, c, ex, ha, hc⟩ := hx'
        have hc : SqT K H c (u.map Sw.ov) := hc.elim id fun z => z.1.elim
        refine ⟨_, rfl, a, _, _, _, ex, rfl, ha, at_of (j := 0) rfl rfl, rfl, _, rfl, iteT ?_⟩
        refine ⟨_, rfl, a, _, _, _, ex, rfl, ha, at_of (j := 1) rfl rfl, c, _, rfl, .inr ⟨hc, "undo", rfl, by decide +kernel, by decide +kernel, fun H1 q s1 hq => ?_⟩⟩
        refine ⟨.tuple (octD u), .tuple (octD (txt "undo")), Dp.tup (s1.tup hc) (octD_dp u), Dp.tup hq (octD_dp _), octD_shaped u, octD_shaped _, ?_⟩
        have eu : PyData.eqv (.tuple (octD u)) (.tuple (octD (txt "undo"))) = isUndoV v := by
          rw [ev]
          exact octD_eqv u (txt "undo")
        rw [eu]
        cases hs : R.state with
        | finished =>
          rw [hs] at rel
          have rel : ov = true := rel
          subst rel
          exact ⟨_, rfl, r, A.run, dx, _, _, rfl, s1 _ _ h0, cl, T.n_Run_is_over, rfl, true, rfl, iteT (iteT ⟨_, rfl, r, A.run, dx, _, rfl, s1 _ _ h0, cl, T.n_Run_is_over, (by show 4 < 1000; decide), _, rfl, gone H1 s1 (by simp only [R7291g.Spec.runThrow, hs])⟩)⟩
        | notStarted =>
          rw [hs] at rel
          obtain ⟨rfl, rfl, rfl⟩ := (rel : st = false ∧ ov = false ∧ ls = [])
          exact ⟨_, rfl, r, A.run, dx, _, _, rfl, s1 _ _ h0, cl, T.n_Run_is_over, rfl, false, rfl, iteF ⟨_, rfl, r, A.run, dx, _, _, rfl, s1 _ _ h0, cl, T.n_Run_is_started, rfl, false, rfl, iteT (iteT ⟨_, rfl, r, A.run, dx, _, rfl, s1 _ _ h0, cl, T.n_Run_is_over, (by show 4 < 1000; decide), _, rfl, gone H1 s1 (by simp only [R7291g.Spec.runThrow, hs])⟩)⟩⟩
        | running l =>
          rw [hs] at rel
          obtain ⟨rfl, rfl, rfl⟩ := (rel : st = true ∧ ov = false ∧ l = vis R.table ls)
          refine ⟨_, rfl, r, A.run, dx, _, _, rfl, s1 _ _ h0, cl, T.n_Run_is_over, rfl, false, rfl, iteF ⟨_, rfl, r, A.run, dx, _, _, rfl, s1 _ _ h0, cl, T.n_Run_is_started, rfl, true, rfl, iteF ⟨_, rfl, r, A.run, dx, _, _, rfl, s1 _ _ h0, cl, T.n_Run_letters, rfl, la, _, rfl, .inl (SqL.of (s1 _ _ hla)), rfl, _, rfl, ?_⟩⟩⟩
          rcases List.eq_nil_or_concat ls with rfl | ⟨ls', u', rfl⟩
          · exact iteT (iteT ⟨_, rfl, r, A.run, dx, _, rfl, s1 _ _ h0, cl, T.n_Run_is_over, (by show 4 < 1000; decide), _, rfl, gone H1 s1 (by simp only [R7291g.Spec.runThrow, hs]; rfl)⟩)
          · rw [List.concat_eq_append] at hla hl2 h30 hs ⊢
            have e0 : decide (V.int ((nvs (ls' ++ [u'])).length : Int) = V.int 0) = false := by
              refine decide_eq_false fun z => ?_
              injection z with z
              rw [nvs_len, List.length_append, List.length_singleton] at z
              omega
            rw [e0]
            refine iteF ⟨_, rfl, isUndoV v, rfl, ?_⟩
            obtain ⟨p, q, epq⟩ : ∃ p q, vis R.table ls' = p :: q := by
              cases h : vis R.table ls' with
              | nil =>
                have := vis_len R.table ls'
                rw [h] at this
                simp at this
              | cons p q => exact ⟨p, q, rfl⟩
            have hs' : R.state = .running (R7291g.Spec.transition R.table ((vis R.table ls').headD 0) u' :: p :: q) := by rw [hs, vis_snoc, epq]
            cases hub : isUndoV v with
            | false => exact iteT ⟨_, rfl, r, A.run, dx, _, rfl, s1 _ _ h0, cl, T.n_Run_is_over, (by show 4 < 1000; decide), _, rfl, gone H1 s1 (by simp only [R7291g.Spec.runThrow, hs', undo_taken ok, hub]; rfl)⟩
            | true =>
              refine iteF ?_
              have e : R7291g.Spec.runThrow R (taken v) = R7291g.Spec.yieldRun R (vis R.table ls') := by
                simp only [R7291g.Spec.runThrow, hs', undo_taken ok, hub, epq]
                rfl
              rw [e] at k
              have hl2' : ∀ l ∈ ls', l < 2 := fun l hl => hl2 l (List.mem_append_left _ hl)
              have h30' : ls'.length ≤ 30 := by
                rw [List.length_append, List.length_singleton] at h30
                omega
              refine ⟨_, rfl, r, dx, _, rfl, s1 _ _ h0, rfl, r, dx, ta, la, true, false, ls' ++ [u'], rfl, s1 _ _ h0, SqL.of (s1 _ _ hla), fun H2 lb b2 h2 hlb => ?_⟩
              rw [List.dropLast_concat] at hlb
              have b02 : But r H H2 := (But.of s1).trans b2
              refine ⟨_, rfl, r, dx, ta, lb, true, false, R.table, ls', rfl, h2, hta.but b02 h0, htt, t1, SqL.of hlb, hl2', h30', fun H3 p3 s3 hp3 => ⟨NF, .ref p3, _, false, rfl, hp3, fun H4 q4 s4 hq4 => k H4 _ NF (b02.trans (But.of (s3.trans s4))) ?_ ?_⟩⟩
              · exact mk H4 lb true false ls' _ (b02.trans (But.of (s3.trans s4))) ((s3.trans s4) _ _ h2) ((s3.trans s4) _ _ hlb) hl2' h30' ⟨rfl, rfl, rfl⟩
              · show ValAt NF K H4 (given (.arr [R7291g.Spec.text "result", R7291g.Spec.record [("length", R7291g.Spec.nat ((vis R.table ls').length - 1)), ("state", R7291g.Spec.nat ((vis R.table ls').headD 0)), ("visited", R7291g.Spec.nat (R7291g.Spec.distinct (vis R.table ls')).length)], .bool false])) (.ref q4)
                rw [given_result, given_tell]
                exact hq4
      · obtain ⟨a, xs, ex, ha⟩ := hx.kind
        have hub : isUndoV v = false := by
          cases v with
          | text u => exact absurd rfl hk
          | _ => rfl
        have e6 : decide (V.int (kindV v) = V.int 6) = false := decide_eq_false fun z => by
          injection z with z
          exact hk z
        refine ⟨_, rfl, a, _, _, _, ex, rfl, ha, at_of (j := 0) rfl rfl, rfl, _, rfl, ?_⟩
        rw [e6]
        refine iteF ?_
        have s1 : Same H H := Same.refl H
        have gone : ∀ (H1 : Hp), H1 = H → R7291g.Spec.runThrow R (taken v) = (⟨R.table, .finished⟩, .thrown (taken v)) → spToldThrown K [x] (upd H1 r (.ins A.run dx (putF "is_over" (.bl true) (runF ta la st ov)))) Q E0 := fun H1 e => by
          subst e
          exact gone _ (Same.refl _)
        cases hs : R.state with
        | finished =>
          rw [hs] at rel
          have rel : ov = true := rel
          subst rel
          exact ⟨_, rfl, r, A.run, dx, _, _, rfl, s1 _ _ h0, cl, T.n_Run_is_over, rfl, true, rfl, iteT (iteT ⟨_, rfl, r, A.run, dx, _, rfl, s1 _ _ h0, cl, T.n_Run_is_over, (by show 4 < 1000; decide), _, rfl, gone _ rfl (by simp only [R7291g.Spec.runThrow, hs])⟩)⟩
        | notStarted =>
          rw [hs] at rel
          obtain ⟨rfl, rfl, rfl⟩ := (rel : st = false ∧ ov = false ∧ ls = [])
          exact ⟨_, rfl, r, A.run, dx, _, _, rfl, s1 _ _ h0, cl, T.n_Run_is_over, rfl, false, rfl, iteF ⟨_, rfl, r, A.run, dx, _, _, rfl, s1 _ _ h0, cl, T.n_Run_is_started, rfl, false, rfl, iteT (iteT ⟨_, rfl, r, A.run, dx, _, rfl, s1 _ _ h0, cl, T.n_Run_is_over, (by show 4 < 1000; decide), _, rfl, gone _ rfl (by simp only [R7291g.Spec.runThrow, hs])⟩)⟩⟩
        | running l =>
          rw [hs] at rel
          obtain ⟨rfl, rfl, rfl⟩ := (rel : st = true ∧ ov = false ∧ l = vis R.table ls)
          refine ⟨_, rfl, r, A.run, dx, _, _, rfl, s1 _ _ h0, cl, T.n_Run_is_over, rfl, false, rfl, iteF ⟨_, rfl, r, A.run, dx, _, _, rfl, s1 _ _ h0, cl, T.n_Run_is_started, rfl, true, rfl, iteF ⟨_, rfl, r, A.run, dx, _, _, rfl, s1 _ _ h0, cl, T.n_Run_letters, rfl, la, _, rfl, .inl (SqL.of (s1 _ _ hla)), rfl, _, rfl, ?_⟩⟩⟩
          rcases List.eq_nil_or_concat ls with rfl | ⟨ls', u', rfl⟩
          · exact iteT (iteT ⟨_, rfl, r, A.run, dx, _, rfl, s1 _ _ h0, cl, T.n_Run_is_over, (by show 4 < 1000; decide), _, rfl, gone _ rfl (by simp only [R7291g.Spec.runThrow, hs]; rfl)⟩)
          · rw [List.concat_eq_append] at hla hl2 h30 hs ⊢
            have e0 : decide (V.int ((nvs (ls' ++ [u'])).length : Int) = V.int 0) = false := by
              refine decide_eq_false fun z => ?_
              injection z with z
              rw [nvs_len, List.length_append, List.length_singleton] at z
              omega
            rw [e0]
            refine iteF ⟨_, rfl, false, rfl, ?_⟩
            obtain ⟨p, q, epq⟩ : ∃ p q, vis R.table ls' = p :: q := by
              cases h : vis R.table ls' with
              | nil =>
                have := vis_len R.table ls'
                rw [h] at this
                simp at this
              | cons p q => exact ⟨p, q, rfl⟩
            have hs' : R.state = .running (R7291g.Spec.transition R.table ((vis R.table ls').headD 0) u' :: p :: q) := by rw [hs, vis_snoc, epq]
            exact iteT ⟨_, rfl, r, A.run, dx, _, rfl, s1 _ _ h0, cl, T.n_Run_is_over, (by show 4 < 1000; decide), _, rfl, gone _ rfl (by simp only [R7291g.Spec.runThrow, hs', undo_taken ok, hub]; rfl)⟩
    · -- return
      have k : ∀ H' x' N, But r H H' → RunAt K A H' r ⟨R.table, .finished⟩ → ValAt N K H' (given (R7291g.Spec.iteratorResult (taken v) true)) x' → Q x' H' := k
      rw [given_iter, given_taken v ok] at k
      obtain ⟨b2, at2⟩ := over H st (Same.refl H) h0
      refine ⟨_, rfl, rfl, _, rfl, iteT ?_⟩
      refine ⟨_, rfl, r, A.run, dx, _, rfl, h0, cl, T.n_Run_is_over, (by show 4 < 1000; decide), ?_⟩
      exact ⟨_, rfl, NF, x, v, true, rfl, bhx b2, fun H3 q s3 hq => k H3 _ NF (b2.trans (But.of s3)) (at2 _ s3) hq⟩
end
end Sw
set_option Elab.async false
set_option linter.all false
set_option maxRecDepth 100000
set_option maxHeartbeats 4000000
/-! Separating words: enumerators. -/
namespace Sw
open PySem PySem.Spec PyProof.Rows L2
open Rust (given taken)

section
variable {P : Program} {w : World} {K : PySem.W.Frag} {mg : Str → Option PySem.Value} {base : Heap} {A : Ad}
abbrev enuF (ra : Addr) (c : Nat) (lv : V) (ov : Bool) : List (Str × V) := [("rows", .ref ra), ("count", nv c), ("last", lv), ("is_over", .bl ov)]
/-- words of representatives -/
def RepOk (rs : List (List Nat × Nat)) : Prop := rs.length ≤ 63 ∧ ∀ e ∈ rs, e.1.length ≤ 5 ∧ ∀ l ∈ e.1, l < 2
/-- what an enumerator's fields say -/
def EnuRel (K : PySem.W.Frag) (H : Hp) (S : R7291g.Spec.Enumerator) (lv : V) (ov : Bool) : R7291g.Spec.GeneratorState Unit → Prop
  | .notStarted => lv = .non ∧ ov = false
  | .running _ => (∃ (la : Addr) (wd : List Nat), lv = .ref la ∧ SqT K H la (nvs wd) ∧ wd.length = S.lastLength) ∧ ov = false
  | .finished => ov = true
/-- an enumerator -/
def EnuAtR (K : PySem.W.Frag) (A : Ad) (H : Hp) (r : Addr) (S : R7291g.Spec.Enumerator) (ra : Addr) : Prop := ∃ (dx : Addr) (lv : V) (ov : Bool), H r = some (.ins A.enu dx (enuF ra S.yielded lv ov)) ∧ RepL K H ra S.remaining ∧ RepOk S.remaining ∧ EnuRel K H S lv ov S.state
def EnuAt (K : PySem.W.Frag) (A : Ad) (H : Hp) (r : Addr) (S : R7291g.Spec.Enumerator) : Prop := ∃ ra, EnuAtR K A H r S ra
theorem RepL.but {H H' : Hp} {r C dx a : Addr} {fs : List (Str × V)} {t : List (List Nat × Nat)} (b : But r H H') (hr : H r = some (.ins C dx fs)) (h : RepL K H a t) : RepL K H' a t :=
  let ⟨ps, h1, h2⟩ := h
  ⟨ps, b _ _ h1 (ne_of h1 hr (fun z => by cases z)), Paired.mapP h2 fun _ _ ⟨q, x, y⟩ => ⟨q, b.sqT hr x, b.sqT hr y⟩⟩
/-- Enumerator(rows) -/
def spEnu (C : Addr) : Sp := fun vs H Q _ => ∃ (r ra dx : Addr), vs = [.ref r, .ref ra] ∧ H r = some (.ins C dx []) ∧ ∀ H', But r H H' → H' r = some (.ins C dx (enuF ra 0 .non false)) → Q .non H'
theorem C_Enumerator (T : Txt K mg A) : Mak P w K mg base 1 "Enumerator" A.enu (spEnu A.enu) := by
  refine mak_of T.d_Enumerator sc_Enumerator_init (fun vs H Q E h => ?_) (fun f cdv A2 outer s H vs Q E hr h => ?_)
  · obtain ⟨r, ra, dx, rfl, _⟩ := h
    rfl
  · obtain ⟨r, ra, dx, rfl, h0, k⟩ := h
    refine ⟨_, (pss_cons (ps_fld (pv 0) (pv 1) rfl)
      (pss_cons (ps_fld (pv 0) pe_int rfl)
      (pss_cons (ps_fld (pv 0) pe_non rfl)
      (pss_one (ps_fld (pv 0) pe_bl rfl))))), ?_⟩
    refine ⟨_, rfl, _, rfl, r, A.enu, dx, [], rfl, h0, T.d_Enumerator.cl, T.n_Enumerator_rows, by decide, ?_⟩
    refine ⟨_, rfl, r, A.enu, dx, _, rfl, upd_same, T.d_Enumerator.cl, T.n_Enumerator_count, (by show 1 < 1000; decide), ?_⟩
    refine ⟨_, rfl, r, A.enu, dx, _, rfl, upd_same, T.d_Enumerator.cl, T.n_Enumerator_last, (by show 2 < 1000; decide), ?_⟩
    refine ⟨_, rfl, r, A.enu, dx, _, rfl, upd_same, T.d_Enumerator.cl, T.n_Enumerator_is_over, (by show 3 < 1000; decide), ?_⟩
    refine k _ ((((But.refl r H).put).put).put).put ?_
    rw [upd_same]
    rfl

theorem cut_one (x : V) (xs : List V) : cutV (x :: xs) (some 1) none = xs := by
  unfold cutV
  have e1 : HT.sIx (x :: xs).length 0 (some 1) = 1 := by
    show (if (1 : Int) < 0 then ((1 : Int) + ((x :: xs).length : Int)).toNat else min (1 : Int).toNat (x :: xs).length) = 1
    rw [if_neg (by decide), List.length_cons]
    show min 1 _ = 1
    omega
  have e2 : HT.sIx (x :: xs).length (x :: xs).length none = (x :: xs).length := rfl
  rw [e1, e2]
  show List.take _ xs = xs
  exact List.take_of_length_le (by rw [List.length_cons]; omega)
/-- own.take() -/
def spTake (K : PySem.W.Frag) (C : Addr) : Sp := fun vs H Q _ => ∃ (r dx ra : Addr) (c : Nat) (lv : V) (ov : Bool) (rs : List (List Nat × Nat)), vs = [.ref r] ∧ H r = some (.ins C dx (enuF ra c lv ov)) ∧ RepL K H ra rs ∧ rs.length ≤ 63 ∧
  (rs = [] → ∀ H', But r H H' → H' r = some (.ins C dx (enuF ra c lv true)) → Q .non H') ∧
  ∀ e m, rs = e :: m → ∀ H' p b ra', But r H H' → H ra' = none → H' r = some (.ins C dx (enuF ra' (c + 1) (.ref b) ov)) → RepL K H' ra' m → SqT K H' p [.ref b, nv e.2] → SqT K H' b (nvs e.1) → Q (.ref p) H'
theorem m_Enumerator_take (T : Txt K mg A) : Met P w K mg base CX0 1 A.enu "take" (spTake K A.enu) := by
  refine met_of T.d_Enumerator.cl T.d_Enumerator_take sc_Enumerator_take (fun vs H Q E h => ?_) (fun f cdv A2 outer s H vs Q E hr h => ?_)
  · obtain ⟨_, _, _, _, _, _, _, rfl, _⟩ := h
    rfl
  · obtain ⟨r, dx, ra, c, lv, ov, rs, rfl, h0, hra, hl, kN, kS⟩ := h
    refine ⟨_, (pss_cons (ps_if (pt_cmpR op_eq (pe_callB (lenQ K) rfl T.len PySem.boot_len (pa_cons (pe_fldK K (pv 0) rfl) pa_nil)) pe_int (nomark _))
       (pss_cons (ps_fld (pv 0) pe_bl rfl)
        (pss_one (ps_ret pe_non)))
       pss_nil)
      (pss_cons (ps_set (i := 1) sc_Enumerator_take.nd rfl (Or.inl rfl) (pe_ix (ixl K) (pe_fldK K (pv 0) rfl) pe_int (fun _ _ => rfl)))
      (pss_cons (ps_fld (pv 0) (pe_slice sl_list (pe_fldK K (pv 0) rfl) (po_some pe_int) po_none) rfl)
      (pss_cons (ps_fldaug (pv 0) pe_int in_add)
      (pss_cons (ps_fld (pv 0) (pe_ix (ixt K) (pv 1) pe_int (fun _ _ => rfl)) rfl)
      (pss_one (ps_ret (pv 1)))))))), ?_⟩
    have cl := T.d_Enumerator.cl
    obtain ⟨ps, hp, hps⟩ := hra
    refine ⟨_, rfl, r, A.enu, dx, _, _, rfl, h0, cl, T.n_Enumerator_rows, rfl, ra, _, rfl, .inl (SqL.of hp), rfl, _, rfl, ?_⟩
    cases hps with
    | nil =>
      refine iteT ⟨_, rfl, r, A.enu, dx, _, rfl, h0, cl, T.n_Enumerator_is_over, (by show 4 < 1000; decide), kN rfl _ (But.refl r H).put ?_⟩
      rw [upd_same]
      rfl
    | @cons p0 e ps' m hrow t =>
      obtain ⟨b, hx, hb⟩ := hrow
      have e0 : decide (V.int ((((p0 :: ps').map V.ref).length : Nat) : Int) = V.int 0) = false := by
        refine decide_eq_false fun z => ?_
        injection z with z
        rw [List.length_map, List.length_cons] at z
        omega
      rw [e0]
      refine iteF ?_
      refine ⟨_, rfl, r, A.enu, dx, _, _, rfl, h0, cl, T.n_Enumerator_rows, rfl, ra, _, _, .ref p0, rfl, rfl, SqL.of hp, at_of (j := 0) rfl rfl, ?_⟩
      refine ⟨_, rfl, r, A.enu, dx, _, _, rfl, h0, cl, T.n_Enumerator_rows, rfl, _, rfl, ra, _, rfl, SqL.of hp, fun q hq => ?_⟩
      have s1 : Same H (upd H q (.lst (cutV ((p0 :: ps').map V.ref) (some 1) none))) := (Same.refl H).new hq
      have nqr : q ≠ r := fun z => by
        rw [z, h0] at hq
        cases hq
      refine ⟨_, rfl, r, A.enu, dx, _, rfl, s1 _ _ h0, cl, T.n_Enumerator_rows, (by show 4 < 1000; decide), ?_⟩
      refine ⟨_, rfl, r, A.enu, dx, _, _, rfl, upd_same, cl, T.n_Enumerator_count, rfl, _, _, rfl, rfl, dx, _, upd_same, (by show 4 < 1000; decide), ?_⟩
      refine ⟨_, rfl, p0, _, _, _, rfl, rfl, (But.of s1).put.put.sqT h0 hx, at_of (j := 0) rfl rfl, _, rfl, r, A.enu, dx, _, rfl, upd_same, cl, T.n_Enumerator_last, (by show 4 < 1000; decide), ?_⟩
      have b4 := (((But.of (a := r) s1).put (o := .ins A.enu dx (putF "rows" (.ref q) (enuF ra c lv ov)))).put (o := .ins A.enu dx (putF "count" (.int ((c : Int) + 1)) (putF "rows" (.ref q) (enuF ra c lv ov))))).put (o := .ins A.enu dx (putF "last" (.ref b) (putF "count" (.int ((c : Int) + 1)) (putF "rows" (.ref q) (enuF ra c lv ov)))))
      refine ⟨_, rfl, kS e m rfl _ p0 b q b4 hq ?_ ⟨ps', ?_, Paired.mapP t fun _ _ ⟨z, x, y⟩ => ⟨z, b4.sqT h0 x, b4.sqT h0 y⟩⟩ (b4.sqT h0 hx) (b4.sqT h0 hb)⟩
      · rw [upd_same]
        rfl
      · rw [upd_ne nqr, upd_ne nqr, upd_ne nqr, upd_same]
        congr 2
        exact cut_one _ _

/-- own.skip(length) -/
def spSkip (K : PySem.W.Frag) (C : Addr) : Sp := fun vs H Q _ => ∃ (r dx ra : Addr) (c d : Nat) (lv : V) (ov : Bool) (rs : List (List Nat × Nat)), vs = [.ref r, nv d] ∧ H r = some (.ins C dx (enuF ra c lv ov)) ∧ RepL K H ra rs ∧ rs.length ≤ 63 ∧
  ∀ H' ra', But r H H' → H ra' = none → H' r = some (.ins C dx (enuF ra' c lv ov)) → RepL K H' ra' (rs.filter fun r => decide (d ≤ r.1.length)) → Q .non H'
theorem m_Enumerator_skip (T : Txt K mg A) : Met P w K mg base CX0 1 A.enu "skip" (spSkip K A.enu) := by
  refine met_of T.d_Enumerator.cl T.d_Enumerator_skip sc_Enumerator_skip (fun vs H Q E h => ?_) (fun f cdv A2 outer s H vs Q E hr h => ?_)
  · obtain ⟨_, _, _, _, _, _, _, _, rfl, _⟩ := h
    rfl
  · obtain ⟨r, dx, ra, c, d, lv, ov, rs, rfl, h0, hra, hl, k⟩ := h
    refine ⟨_, (pss_one (ps_fld (pv 0) (pe_lc (own := [("row", 2)]) (g := (gName 2)) rfl sc_Enumerator_skip.nd (pi_list (pe_fldK K (pv 0) rfl)) (blkOk_by (own := [("row", 2)]) (N := ["self", "length", "row"]) (sc := defScope s_Enumerator_skip) (by decide +kernel)) (fun _ _ _ _ _ => pg_name (i := 2) sc_Enumerator_skip.nd rfl (Or.inl rfl)) (fun _ _ _ _ _ => pts_one (pt_cmpR op_ge (pe_callB (lenQ K) rfl T.len PySem.boot_len (pa_cons (pe_ix (ixt K) (pv 2) pe_int (fun _ _ => rfl)) pa_nil)) (pv 1) (nomark _))) (fun _ _ _ _ _ => (pv 2))) rfl)), ?_⟩
    have cl := T.d_Enumerator.cl
    obtain ⟨ps, hp, hps⟩ := hra
    have hpl : ps.length = rs.length := Paired.length hps
    refine ⟨_, rfl, r, A.enu, dx, _, _, rfl, h0, cl, T.n_Enumerator_rows, rfl, ra, rfl, ⟨_, SqL.of hp⟩, fun D hD => lc_list (K := K) (a := ra) (xs := ps.map V.ref) (fun i H' => Same H H' ∧ ∃ qs : List Addr, H' D = some (.lst (qs.map V.ref)) ∧ qs.length ≤ i ∧
      Paired (fun p (e : List Nat × Nat) => ∃ b, SqT K H p [.ref b, nv e.2] ∧ SqT K H b (nvs e.1)) qs ((rs.take i).filter fun r => decide (d ≤ r.1.length))) ⟨(Same.refl H).new hD, [], upd_same, Nat.le_refl _, .nil⟩ (fun i H' _ q => q.1.seq (SqL.of hp)) ?_ ?_⟩
    · rintro i x H2 hx ⟨s2, qs, hD2, hql, hqs⟩
      obtain ⟨p0, hp0, rfl⟩ : ∃ r, ps[i]? = some r ∧ x = .ref r := by
        rw [List.getElem?_map] at hx
        cases e : ps[i]? with
        | none => rw [e] at hx; cases hx
        | some r => rw [e] at hx; exact ⟨r, rfl, (Option.some.inj hx).symm⟩
      obtain ⟨e, he, b, hrow, hb⟩ := paired_get' hps hp0
      have hi := (List.getElem?_eq_some_iff.mp he).1
      refine ⟨rfl, _, rfl, p0, _, _, _, rfl, rfl, s2.tup hrow, at_of (j := 0) rfl rfl, b, _, rfl, .inr (s2.tup hb), _, rfl, _, _, rfl, rfl, _, rfl, ?_⟩
      have ec : decide ((d : Int) ≤ ((nvs e.1).length : Int)) = decide (d ≤ e.1.length) := by
        rw [nvs_len]
        exact decide_eq_decide.mpr (by omega)
      rw [ec]
      refine ite2 (fun hc => ?_) (fun hc => ?_)
      · refine ⟨_, rfl, _, hD2, by rw [List.length_map]; exact small_lt (by omega), s2.put hD, qs ++ [p0], ?_, by rw [List.length_append, List.length_singleton]; omega, ?_⟩
        · rw [upd_same]
          simp
        · rw [take_more he, List.filter_append, List.filter_cons, if_pos hc]
          exact Paired.snoc hqs ⟨b, hrow, hb⟩
      · refine ⟨s2, qs, hD2, by omega, ?_⟩
        rw [take_more he, List.filter_append, List.filter_cons, if_neg hc]
        show Paired _ qs (_ ++ [])
        rw [List.append_nil]
        exact hqs
    · rintro H2 ⟨s2, qs, hD2, hql, hqs⟩
      rw [List.length_map, hpl, List.take_length] at hqs
      have nDr : D ≠ r := fun z => by
        rw [z, h0] at hD
        cases hD
      refine ⟨_, rfl, r, A.enu, dx, _, rfl, s2 _ _ h0, cl, T.n_Enumerator_rows, (by show 4 < 1000; decide), k _ D (But.of s2).put hD ?_ ⟨qs, ?_, Paired.mapP hqs fun _ _ ⟨z, x, y⟩ => ⟨z, (But.of s2).put.sqT h0 x, (But.of s2).put.sqT h0 y⟩⟩⟩
      · rw [upd_same]
        rfl
      · rw [upd_ne nDr]
        exact hD2
end
end Sw
set_option Elab.async false
set_option linter.all false
set_option maxRecDepth 100000
set_option maxHeartbeats 4000000
/-! Separating words: calls on enumerators. -/
namespace Sw
open PySem PySem.Spec PyProof.Rows L2
open Rust (given taken)

theorem drain_over (k : Nat) {S : R7291g.Spec.Enumerator} (h : S.state = .finished) : R7291g.Spec.drainEnumerator k S = (S, []) := by
  cases k with
  | zero => rfl
  | succ k =>
    have e : R7291g.Spec.enumeratorNext S = (S, .result .undef true) := by
      unfold R7291g.Spec.enumeratorNext
      rw [h]
    show (match R7291g.Spec.enumeratorNext S with | (z, .result v false) => ((R7291g.Spec.drainEnumerator k z).1, v :: (R7291g.Spec.drainEnumerator k z).2) | (z, _) => (z, [])) = _
    rw [e]
theorem drain_next (k : Nat) {S : R7291g.Spec.Enumerator} (h : S.state ≠ .finished) : R7291g.Spec.drainEnumerator (k + 1) S = match R7291g.Spec.yieldNext S S.remaining with | (z, .result v false) => ((R7291g.Spec.drainEnumerator k z).1, v :: (R7291g.Spec.drainEnumerator k z).2) | (z, _) => (z, []) := by
  have e : R7291g.Spec.enumeratorNext S = R7291g.Spec.yieldNext S S.remaining := by
    unfold R7291g.Spec.enumeratorNext
    cases hs : S.state with
    | finished => exact absurd hs h
    | notStarted => rfl
    | running _ => rfl
  show (match R7291g.Spec.enumeratorNext S with | (z, .result v false) => ((R7291g.Spec.drainEnumerator k z).1, v :: (R7291g.Spec.drainEnumerator k z).2) | (z, _) => (z, [])) = _
  rw [e]
def fin01 : R7291g.Spec.GeneratorState Unit → Nat
  | .finished => 0
  | _ => 1
/-- a call on an enumerator -/
def enuD (d : Nat) (v : RWire.Value) (S : R7291g.Spec.Enumerator) : R7291g.Spec.Enumerator × R7291g.Spec.Plain := match d with
  | 3 => ((R7291g.Spec.drainEnumerator 70 S).1, .arr (R7291g.Spec.drainEnumerator 70 S).2)
  | d => ((R7291g.Spec.enumeratorRequest S (reqD d v)).1, R7291g.Spec.outcomeValue (reqD d v) (R7291g.Spec.enumeratorRequest S (reqD d v)).2)
section
variable {P : Program} {w : World} {K : PySem.W.Frag} {mg : Str → Option PySem.Value} {base : Heap} {A : Ad}
theorem EnuAtR.same {H H' : Hp} {r ra : Addr} {S : R7291g.Spec.Enumerator} (s : Same H H') (h : EnuAtR K A H r S ra) : EnuAtR K A H' r S ra := by
  obtain ⟨dx, lv, ov, h1, h2, h3, h4⟩ := h
  refine ⟨dx, lv, ov, s _ _ h1, h2.same s, h3, ?_⟩
  cases hs : S.state with
  | finished => rw [hs] at h4; exact h4
  | notStarted => rw [hs] at h4; exact h4
  | running u =>
    rw [hs] at h4
    obtain ⟨⟨la, wd, e, hl, hw⟩, ho⟩ := h4
    exact ⟨⟨la, wd, e, s.tup hl, hw⟩, ho⟩
theorem EnuAtR.put {H : Hp} {r ra F : Addr} {S : R7291g.Spec.Enumerator} {ys : List V} {o : HO} (hF : H F = some (.lst ys)) (ne : ra ≠ F) (h : EnuAtR K A H r S ra) : EnuAtR K A (upd H F o) r S ra := by
  obtain ⟨dx, lv, ov, h1, ⟨ps, hp, hps⟩, h3, h4⟩ := h
  refine ⟨dx, lv, ov, by rw [upd_ne (ne_of h1 hF (fun z => by cases z))]; exact h1, ⟨ps, by rw [upd_ne ne]; exact hp, Paired.mapP hps fun _ _ ⟨b, x, y⟩ => ⟨b, sqT_put hF x, sqT_put hF y⟩⟩, h3, ?_⟩
  cases hs : S.state with
  | finished => rw [hs] at h4; exact h4
  | notStarted => rw [hs] at h4; exact h4
  | running u =>
    rw [hs] at h4
    obtain ⟨⟨la, wd, e, hl, hw⟩, ho⟩ := h4
    exact ⟨⟨la, wd, e, sqT_put hF hl, hw⟩, ho⟩
/-- continued(enumerator) -/
def spCont (K : PySem.W.Frag) (A : Ad) : Sp := fun vs H Q _ => ∃ (r dx ra : Addr) (lv : V) (S : R7291g.Spec.Enumerator) (rs : List (List Nat × Nat)), vs = [.ref r] ∧ H r = some (.ins A.enu dx (enuF ra S.yielded lv false)) ∧ RepL K H ra rs ∧ RepOk rs ∧
  ∀ H' p x v b ra', But r H H' → EnuAtR K A H' r (R7291g.Spec.yieldNext S rs).1 ra' → (ra' = ra ∨ H ra' = none) → (R7291g.Spec.yieldNext S rs).2 = .result v b → SqT K H' p [x, .bl b] → ValAt (NewIn H) K H' (given v) x → Q (.ref p) H'
theorem c_continued (T : Txt K mg A) : Cal P w K mg base CX0 4 "continued" (spCont K A) := by
  have m_Enumerator_take := m_Enumerator_take (P := P) (w := w) (base := base) T
  have c_integer := c_integer (P := P) (w := w) (base := base) T
  have c_told_row := c_told_row (P := P) (w := w) (base := base) T
  refine cal_of T.d_continued sc_continued (fun vs H Q E h => ?_) (fun f cdv A2 outer s H vs Q E hr h => ?_)
  · obtain ⟨_, _, _, _, _, _, rfl, _⟩ := h
    rfl
  · obtain ⟨r, dx, ra, lv, S, rs, rfl, h0, hra, hok, k⟩ := h
    refine ⟨_, (pss_cons (ps_set (i := 1) sc_continued.nd rfl (Or.inl rfl) (pe_m0 m_Enumerator_take hr (pv 0)))
      (pss_one (ps_ret (pe_ifExp (pt_cmpR op_isN (pv 1) pe_non (nomark _)) (pe_tup (pa_cons (pe_d c_integer hr rfl (pa_cons (pe_fldK K (pv 0) rfl) pa_nil)) (pa_cons pe_bl pa_nil))) (pe_tup (pa_cons (pe_d c_told_row hr rfl (pa_cons (pv 1) pa_nil)) (pa_cons pe_bl pa_nil))))))), ?_⟩
    have cl := T.d_Enumerator.cl
    refine ⟨_, rfl, r, dx, _, rfl, h0, rfl, r, dx, ra, S.yielded, lv, false, rs, rfl, h0, hra, hok.1, fun e H1 b1 h1 => ?_, fun e m em H1 p b ra' b1 hn h1 hra1 hp hb => ?_⟩
    · subst e
      refine ⟨_, rfl, rfl, _, rfl, iteT ?_⟩
      refine ⟨_, rfl, r, A.enu, dx, _, _, rfl, h1, cl, T.n_Enumerator_count, rfl, (S.yielded : Int), rfl, fun H2 z s2 hz => ⟨(by show 2 ≤ sizeLine; decide), fun t ht => ?_⟩⟩
      have s3 := s2.new ht (o := .tup [.ref z, .bl true])
      refine k _ t (.ref z) (R7291g.Spec.nat S.yielded) true ra (b1.trans (But.of s3)) ⟨dx, lv, true, s3 _ _ h1, (hra.but b1 h0).same s3, hok, rfl⟩ (.inl rfl) rfl (SqT.of upd_same) ?_
      exact (hz.same ((Same.refl H2).new ht)).any
    · subst em
      have he := hok.2 e List.mem_cons_self
      refine ⟨_, rfl, rfl, _, rfl, iteF ?_⟩
      refine ⟨_, rfl, p, b, e.1, e.2, rfl, hp, hb, he.2, by omega, fun H2 z s2 hz => ⟨(by show 2 ≤ sizeLine; decide), fun t ht => ?_⟩⟩
      have s3 := s2.new ht (o := .tup [.ref z, .bl false])
      refine k _ t (.ref z) (R7291g.Spec.representativeValue e) false ra' (b1.trans (But.of s3)) ⟨dx, .ref b, false, s3 _ _ h1, hra1.same s3, ⟨by have := hok.1; rw [List.length_cons] at this; show m.length ≤ 63; omega, fun e' he' => hok.2 e' (List.mem_cons_of_mem _ he')⟩, ⟨⟨b, e.1, rfl, s3.tup hb, rfl⟩, rfl⟩⟩ (.inr hn) rfl (SqT.of upd_same) ?_
      refine (hz.same ((Same.refl H2).new ht)).mono fun a ha => ?_
      have ha : H1 a = none := ha
      show H a = none
      cases q : H a with
      | none => rfl
      | some o =>
        by_cases e : a = r
        · rw [e, h1] at ha; cases ha
        · rw [b1 _ _ q e] at ha; cases ha

/-- on_enumerator(own, door, value) -/
def spOnEnu (K : PySem.W.Frag) (A : Ad) : Sp := fun vs H Q _ => ∃ (r : Addr) (d : Nat) (x : V) (v : RWire.Value) (S : R7291g.Spec.Enumerator), vs = [.ref r, nv (14 + d), x] ∧ d ≤ 3 ∧ EnuAt K A H r S ∧ ValAt NF K H v x ∧ okV v = true ∧
  ∀ H' x' N, But r H H' → EnuAt K A H' r (enuD d v S).1 → ValAt N K H' (given (enuD d v S).2) x' → Q x' H'
theorem c_on_enumerator (T : Txt K mg A) : Cal P w K mg base CX0 5 "on_enumerator" (spOnEnu K A) := by
  have c_told_step := c_told_step (P := P) (w := w) (base := base) T
  have c_told_thrown := c_told_thrown (P := P) (w := w) (base := base) T
  have c_told_result := c_told_result (P := P) (w := w) (base := base) T
  have c_is_integer := c_is_integer (P := P) (w := w) (base := base) T
  have m_Enumerator_skip := m_Enumerator_skip (P := P) (w := w) (base := base) T
  have c_continued := c_continued (P := P) (w := w) (base := base) T
  have c_listed := c_listed (P := P) (w := w) (base := base) T
  refine cal_of T.d_on_enumerator sc_on_enumerator (fun vs H Q E h => ?_) (fun f cdv A2 outer s H vs Q E hr h => ?_)
  · obtain ⟨_, _, _, _, _, rfl, _⟩ := h
    rfl
  · obtain ⟨r, d, x, v, S, rfl, hd3, ⟨ra, dx, lv, ov, h0, hra, hok, rel⟩, hx, ok, k⟩ := h
    refine ⟨_, (pss_cons (ps_if (pt_cmpR op_eq (pv 1) pe_int (nomark _))
       (pss_cons (ps_fld (pv 0) pe_bl rfl)
        (pss_one (ps_ret (pe_d c_told_step hr rfl (pa_cons (pv 2) (pa_cons pe_bl pa_nil))))))
       pss_nil)
      (pss_cons (ps_if (pt_cmpR op_eq (pv 1) pe_int (nomark _))
       (pss_cons (ps_if (PW.pt (pw_or (pt_val (pe_fldK K (pv 0) rfl)) (pw_or (pt_cmpR op_isN (pe_fldK K (pv 0) rfl) pe_non (nomark _)) (pw_or1 (pt_not (pt_val (pe_d c_is_integer hr rfl (pa_cons (pv 2) (pa_cons (pe_op op_add (pe_callB (lenQ K) rfl T.len PySem.boot_len (pa_cons (pe_fldK K (pv 0) rfl) pa_nil)) pe_int) (pa_cons (pe_gi rfl T.MOST_LENGTH) pa_nil))))))))))
         (pss_cons (ps_fld (pv 0) pe_bl rfl)
          (pss_one (ps_ret (pe_d c_told_thrown hr rfl (pa_cons (pv 2) pa_nil)))))
         pss_nil)
        (pss_cons (ps_expr (pe_m m_Enumerator_skip hr (pv 0) (pa_cons (pe_ix (ixt K) (pv 2) pe_int (fun _ _ => rfl)) pa_nil)))
        (pss_cons (ps_asg (pe_d c_continued hr rfl (pa_cons (pv 0) pa_nil)) (pg_tup rfl (pgs_cons (pg_name (i := 3) sc_on_enumerator.nd rfl (Or.inl rfl)) (pgs_cons (pg_name (i := 4) sc_on_enumerator.nd rfl (Or.inl rfl)) pgs_nil))))
        (pss_one (ps_ret (pe_d c_told_result hr rfl (pa_cons (pv 3) (pa_cons (pv 4) pa_nil))))))))
       pss_nil)
      (pss_cons (ps_if (pt_cmpR op_eq (pv 1) pe_int (nomark _))
       (pss_cons (ps_if (pt_val (pe_fldK K (pv 0) rfl))
         (pss_one (ps_ret (pe_d c_told_step hr rfl (pa_cons (pe_gr rfl T.NOTHING) (pa_cons pe_bl pa_nil)))))
         pss_nil)
        (pss_cons (ps_asg (pe_d c_continued hr rfl (pa_cons (pv 0) pa_nil)) (pg_tup rfl (pgs_cons (pg_name (i := 3) sc_on_enumerator.nd rfl (Or.inl rfl)) (pgs_cons (pg_name (i := 4) sc_on_enumerator.nd rfl (Or.inl rfl)) pgs_nil))))
        (pss_one (ps_ret (pe_d c_told_step hr rfl (pa_cons (pv 3) (pa_cons (pv 4) pa_nil)))))))
       pss_nil)
      (pss_cons (ps_set (i := 5) sc_on_enumerator.nd rfl (Or.inl rfl) (pe_lst pa_nil))
      (pss_cons (ps_while PassesOwn.never (pt_not (pt_val (pe_fldK K (pv 0) rfl)))
       (pss_cons (ps_asg (pe_d c_continued hr rfl (pa_cons (pv 0) pa_nil)) (pg_tup rfl (pgs_cons (pg_name (i := 3) sc_on_enumerator.nd rfl (Or.inl rfl)) (pgs_cons (pg_name (i := 4) sc_on_enumerator.nd rfl (Or.inl rfl)) pgs_nil))))
        (pss_one (ps_if (pt_not (pt_val (pv 4)))
         (pss_one (ps_expr (pe_bm PySem.F.plainAttrs_list PySem.F.slot_list_append PySem.F.type_list_append mt_append (pv 5) (pa_cons (pv 3) pa_nil))))
         pss_nil))))
      (pss_one (ps_ret (pe_d c_listed hr rfl (pa_cons (pv 5) pa_nil))))))))), ?_⟩
    have cl := T.d_Enumerator.cl
    have bhx : ∀ {H1 : Hp}, But r H H1 → ValAt NF K H1 v x := fun b => ValAt.move (b.moves h0) _ _ hx
    have over : But r H (upd H r (.ins A.enu dx (putF "is_over" (.bl true) (enuF ra S.yielded lv ov)))) ∧ ∀ H2, Same (upd H r (.ins A.enu dx (putF "is_over" (.bl true) (enuF ra S.yielded lv ov)))) H2 → EnuAt K A H2 r ⟨S.remaining, S.lastLength, S.yielded, .finished⟩ := by
      have b : But r H (upd H r (.ins A.enu dx (putF "is_over" (.bl true) (enuF ra S.yielded lv ov)))) := (But.refl r H).put
      refine ⟨b, fun H2 s2 => ⟨ra, dx, lv, true, s2 _ _ ?_, (hra.but b h0).same s2, hok, rfl⟩⟩
      rw [upd_same]
      rfl
    have same : ∀ H2, Same H H2 → EnuAt K A H2 r S := fun H2 s2 => ⟨ra, EnuAtR.same s2 ⟨dx, lv, ov, h0, hra, hok, rel⟩⟩
    have hd : d = 0 ∨ d = 1 ∨ d = 2 ∨ d = 3 := by omega
    rcases hd with rfl | rfl | rfl | rfl
    · -- next
      have k : ∀ H' x' N, But r H H' → EnuAt K A H' r (R7291g.Spec.enumeratorNext S).1 → ValAt N K H' (given (R7291g.Spec.outcomeValue (.next (taken v)) (R7291g.Spec.enumeratorNext S).2)) x' → Q x' H' := k
      refine ⟨_, rfl, rfl, _, rfl, iteF ⟨_, rfl, rfl, _, rfl, iteF ⟨_, rfl, rfl, _, rfl, iteT ?_⟩⟩⟩
      refine ⟨_, rfl, r, A.enu, dx, _, _, rfl, h0, cl, T.n_Enumerator_is_over, rfl, ov, rfl, ?_⟩
      have go : S.state ≠ .finished → ov = false → (spCont K A [.ref r] H (fun p H2 => gTup K 2 (gCons (gName 3) (gCons (gName 4) gNil)) p [some (.ref r), some (nv 14), some x, none, none, none] H2 fun σ H3 => tRet (tCl (spToldStep K) (tCons (tVar 3) (tCons (tVar 4) tNil))) { nx := fun _ H' => Q .non H', rt := Q } σ H3) E0) := fun hne eo => by
        subst eo
        have e : R7291g.Spec.enumeratorNext S = R7291g.Spec.yieldNext S S.remaining := by
          unfold R7291g.Spec.enumeratorNext
          cases hs : S.state with
          | finished => exact absurd hs hne
          | notStarted => rfl
          | running _ => rfl
        rw [e] at k
        refine ⟨r, dx, ra, lv, S, S.remaining, rfl, h0, hra, hok, fun H2 p y w b ra' b2 he _ hy hp hv => ⟨p, _, rfl, hp, rfl, _, _, rfl, _, _, rfl, rfl, ?_⟩⟩
        rw [hy] at k
        refine ⟨_, rfl, _, rfl, NewIn H, y, given w, b, rfl, hv, fun H3 q s3 hq => k H3 _ (NewIn H) (b2.trans (But.of s3)) ⟨ra', EnuAtR.same s3 he⟩ ?_⟩
        show ValAt (NewIn H) K H3 (given (R7291g.Spec.iteratorResult w b)) (.ref q)
        rw [given_iter]
        exact hq
      cases hs : S.state with
      | finished =>
        have rel' := rel
        rw [hs] at rel'
        have rel' : ov = true := rel'
        have e : R7291g.Spec.enumeratorNext S = (S, .result .undef true) := by
          unfold R7291g.Spec.enumeratorNext
          rw [hs]
        rw [e] at k
        rw [rel']
        refine iteT fun a ha => ⟨NF, .ref a, .nothing, true, rfl, ?_, fun H1 p s1 hp => k H1 _ NF (But.of s1) (same H1 s1) ?_⟩
        · rw [ValAt]
          exact ⟨a, rfl, ha _⟩
        · show ValAt NF K H1 (given (R7291g.Spec.iteratorResult .undef true)) (.ref p)
          rw [given_iter]
          exact hp
      | notStarted =>
        have rel' := rel
        rw [hs] at rel'
        have eo : ov = false := rel'.2
        rw [eo]
        exact iteF ⟨_, rfl, go (by rw [hs]; exact fun z => by cases z) eo⟩
      | running u =>
        have rel' := rel
        rw [hs] at rel'
        have eo : ov = false := rel'.2
        rw [eo]
        exact iteF ⟨_, rfl, go (by rw [hs]; exact fun z => by cases z) eo⟩
    · -- throw
      have k : ∀ H' x' N, But r H H' → EnuAt K A H' r (R7291g.Spec.enumeratorThrow S (taken v)).1 → ValAt N K H' (given (R7291g.Spec.settledValue (R7291g.Spec.enumeratorThrow S (taken v)).2)) x' → Q x' H' := k
      have gone : R7291g.Spec.enumeratorThrow S (taken v) = (⟨S.remaining, S.lastLength, S.yielded, .finished⟩, .thrown (taken v)) → spToldThrown K [x] (upd H r (.ins A.enu dx (putF "is_over" (.bl true) (enuF ra S.yielded lv ov)))) Q E0 := fun e => by
        obtain ⟨b2, at2⟩ := over
        rw [e] at k
        refine ⟨NF, x, v, rfl, bhx b2, fun H3 q s3 hq => k H3 _ NF (b2.trans (But.of s3)) (at2 _ s3) ?_⟩
        show ValAt NF K H3 (given (.arr [R7291g.Spec.text "thrown", taken v])) (.ref q)
        rw [given_thrown, given_taken v ok]
        exact hq
      refine ⟨_, rfl, rfl, _, rfl, iteF ⟨_, rfl, rfl, _, rfl, iteT ?_⟩⟩
      refine ⟨_, rfl, r, A.enu, dx, _, _, rfl, h0, cl, T.n_Enumerator_is_over, rfl, ov, rfl, ?_⟩
      cases hs : S.state with
      | finished =>
        rw [hs] at rel
        have rel : ov = true := rel
        subst rel
        exact iteT (iteT ⟨_, rfl, r, A.enu, dx, _, rfl, h0, cl, T.n_Enumerator_is_over, (by show 4 < 1000; decide), _, rfl, gone (by simp only [R7291g.Spec.enumeratorThrow, hs])⟩)
      | notStarted =>
        rw [hs] at rel
        obtain ⟨rfl, rfl⟩ := (rel : lv = .non ∧ ov = false)
        exact iteF ⟨_, rfl, r, A.enu, dx, _, _, rfl, h0, cl, T.n_Enumerator_last, rfl, rfl, _, rfl, iteT (iteT ⟨_, rfl, r, A.enu, dx, _, rfl, h0, cl, T.n_Enumerator_is_over, (by show 4 < 1000; decide), _, rfl, gone (by simp only [R7291g.Spec.enumeratorThrow, hs])⟩)⟩
      | running u =>
        rw [hs] at rel
        obtain ⟨⟨la, wd, rfl, hla, hwl⟩, rfl⟩ := (rel : (∃ (la : Addr) (wd : List Nat), lv = .ref la ∧ SqT K H la (nvs wd) ∧ wd.length = S.lastLength) ∧ ov = false)
        refine iteF ⟨_, rfl, r, A.enu, dx, _, _, rfl, h0, cl, T.n_Enumerator_last, rfl, rfl, _, rfl, iteF ?_⟩
        refine ⟨_, rfl, _, rfl, r, A.enu, dx, _, _, rfl, h0, cl, T.n_Enumerator_last, rfl, la, _, rfl, .inr hla, _, _, rfl, rfl, NF, x, v, _, 5, rfl, hx, _, rfl, ?_⟩
        have ei : isInt v (((nvs wd).length : Int) + 1) 5 = isInt v ((S.lastLength + 1 : Nat) : Int) ((5 : Nat) : Int) := by
          rw [nvs_len, hwl]
          rfl
        rw [ei]
        have er := inRange_taken v (S.lastLength + 1) 5
        cases hi : isInt v ((S.lastLength + 1 : Nat) : Int) ((5 : Nat) : Int) with
        | false =>
          rw [hi] at er
          refine iteT ⟨_, rfl, r, A.enu, dx, _, rfl, h0, cl, T.n_Enumerator_is_over, (by show 4 < 1000; decide), _, rfl, gone ?_⟩
          simp only [R7291g.Spec.enumeratorThrow, hs, er]
          rfl
        | true =>
          rw [hi, if_pos rfl] at er
          obtain ⟨n, rfl, n1, n5, en⟩ := isInt_nat hi
          rw [en] at er
          have e : R7291g.Spec.enumeratorThrow S (taken (.int (n : Int))) = R7291g.Spec.yieldNext S (S.remaining.filter fun r => decide (n ≤ r.1.length)) := by
            simp only [R7291g.Spec.enumeratorThrow, hs, er]
          rw [e] at k
          rw [ValAt] at hx
          obtain ⟨a, ex, ha⟩ := hx
          refine iteF ?_
          refine ⟨_, rfl, r, dx, _, rfl, h0, rfl, _, rfl, a, _, _, _, ex, rfl, ha, at_of (j := 1) rfl rfl, r, dx, ra, S.yielded, n, .ref la, false, S.remaining, rfl, h0, hra, hok.1, fun H1 ra1 b1 hn1 h1 hra1 => ?_⟩
          refine ⟨_, rfl, r, dx, ra1, .ref la, S, _, rfl, h1, hra1, ⟨Nat.le_trans (List.length_filter_le _ _) hok.1, fun e he => hok.2 e (List.mem_filter.mp he).1⟩, fun H2 p y w b ra' b2 he _ hy hp hv => ⟨p, _, rfl, hp, rfl, _, _, rfl, _, _, rfl, rfl, ?_⟩⟩
          rw [hy] at k
          refine ⟨_, rfl, _, rfl, NewIn H1, y, given w, b, rfl, hv, fun H3 q s3 hq => k H3 _ (NewIn H1) ((b1.trans b2).trans (But.of s3)) ⟨ra', EnuAtR.same s3 he⟩ ?_⟩
          show ValAt (NewIn H1) K H3 (given (.arr [R7291g.Spec.text "result", w, .bool b])) (.ref q)
          rw [given_result]
          exact hq
    · -- return
      have k : ∀ H' x' N, But r H H' → EnuAt K A H' r ⟨S.remaining, S.lastLength, S.yielded, .finished⟩ → ValAt N K H' (given (R7291g.Spec.iteratorResult (taken v) true)) x' → Q x' H' := k
      rw [given_iter, given_taken v ok] at k
      obtain ⟨b2, at2⟩ := over
      refine ⟨_, rfl, rfl, _, rfl, iteT ?_⟩
      refine ⟨_, rfl, r, A.enu, dx, _, rfl, h0, cl, T.n_Enumerator_is_over, (by show 4 < 1000; decide), ?_⟩
      exact ⟨_, rfl, NF, x, v, true, rfl, bhx b2, fun H3 q s3 hq => k H3 _ NF (b2.trans (But.of s3)) (at2 _ s3) hq⟩
    · -- all that remain
      have k : ∀ H' x' N, But r H H' → EnuAt K A H' r (R7291g.Spec.drainEnumerator 70 S).1 → ValAt N K H' (given (.arr (R7291g.Spec.drainEnumerator 70 S).2)) x' → Q x' H' := k
      refine ⟨_, rfl, rfl, _, rfl, iteF ⟨_, rfl, rfl, _, rfl, iteF ⟨_, rfl, rfl, _, rfl, iteF ⟨Nat.zero_le _, fun F hF => ?_⟩⟩⟩⟩
      have s1 : Same H (upd H F (.lst [])) := (Same.refl H).new hF
      have nFr : F ≠ r := fun z => by
        rw [z, h0] at hF
        cases hF
      have nra : ra ≠ F := fun z => by
        obtain ⟨ps, hp, _⟩ := hra
        rw [z, hF] at hp
        cases hp
      refine while_of (fun m σ H' => ∃ (y3 y4 : Option V) (Sx : R7291g.Spec.Enumerator) (rax : Addr) (ps : List R7291g.Spec.Plain) (vs : List V) (n : Nat), σ = [some (.ref r), some (nv 17), some x, y3, y4, some (.ref F)] ∧ But r H H' ∧ EnuAtR K A H' r Sx rax ∧ rax ≠ F ∧ H' F = some (.lst vs) ∧
          ValsAt (fun a => a ≠ F) K H' (ps.map given) vs ∧ R7291g.Spec.drainEnumerator 70 S = ((R7291g.Spec.drainEnumerator n Sx).1, ps ++ (R7291g.Spec.drainEnumerator n Sx).2) ∧ ps.length + Sx.remaining.length ≤ 63 ∧ (Sx.state ≠ .finished → n + ps.length = 70) ∧ m = Sx.remaining.length + fin01 Sx.state)
        (S.remaining.length + fin01 S.state) ⟨none, none, S, ra, [], [], 70, rfl, But.of s1, EnuAtR.same s1 ⟨dx, lv, ov, h0, hra, hok, rel⟩, nra, upd_same, by rw [List.map_nil, ValsAt], by rw [List.nil_append], by have := hok.1; show 0 + _ ≤ 63; omega, fun _ => rfl, rfl⟩ ?_ ?_
      · rintro m σ H1 ⟨y3, y4, Sx, rax, ps, vs, n, rfl, b1, hSx, nrx, hF1, hvs, hdr, hlen, hn, rfl⟩
        obtain ⟨dx1, lv1, ov1, h1, hra1, hok1, rel1⟩ := id hSx
        have hvl : vs.length = ps.length := by rw [hvs.length, List.length_map]
        refine ⟨_, rfl, r, A.enu, dx1, _, _, rfl, h1, cl, T.n_Enumerator_is_over, rfl, ov1, rfl, ?_⟩
        by_cases hfin : Sx.state = .finished
        · have eo : ov1 = true := by
            rw [hfin] at rel1
            exact rel1
          rw [eo]
          refine iteF ?_
          rw [drain_over n hfin, List.append_nil] at hdr
          rw [hdr] at k
          exact ⟨_, rfl, F, vs, _, _, rfl, SqL.of hF1, hvs, fun H3 p s3 hp => k H3 _ _ (b1.trans (But.of s3)) ⟨rax, EnuAtR.same s3 hSx⟩ (by rw [given_arr]; exact hp)⟩
        · have eo : ov1 = false := by
            cases hs : Sx.state with
            | finished => exact absurd hs hfin
            | notStarted => rw [hs] at rel1; exact rel1.2
            | running _ => rw [hs] at rel1; exact rel1.2
          have f1 : fin01 Sx.state = 1 := by
            cases hs : Sx.state with
            | finished => exact absurd hs hfin
            | notStarted => rfl
            | running _ => rfl
          subst eo
          refine iteT ?_
          obtain ⟨n', rfl⟩ : ∃ n', n = n' + 1 := ⟨n - 1, by have := hn hfin; omega⟩
          have hn7 := hn hfin
          rw [drain_next n' hfin] at hdr
          refine ⟨_, rfl, r, dx1, rax, lv1, Sx, Sx.remaining, rfl, h1, hra1, hok1, fun H2 p y w b ra' b2 he hra' hy hp hv => ⟨p, _, rfl, hp, rfl, _, _, rfl, _, _, rfl, rfl, ?_⟩⟩
          have hF2 := b2 _ _ hF1 nFr
          have nrx' : ra' ≠ F := fun z => by
            rcases hra' with h | h
            · exact nrx (h ▸ z)
            · rw [z, hF1] at h
              cases h
          have hvs2 : ValsAt (fun a => a ≠ F) K H2 (ps.map given) vs := ValsAt.move (b2.moves h1) _ _ hvs
          cases hrm : Sx.remaining with
          | nil =>
            rw [hrm] at hy he hdr
            have hy : R7291g.Spec.Outcome.result (R7291g.Spec.nat Sx.yielded) true = .result w b := hy
            injection hy with e1 e2
            subst e2
            refine ⟨_, rfl, _, rfl, iteF ⟨_, ?_, _, _, _, ra', ps, vs, n', rfl, b1.trans b2, he, nrx', hF2, hvs2, ?_, ?_, fun z => absurd rfl z, rfl⟩⟩
            · rw [f1]
              show 0 + 0 < 0 + 1
              decide
            · rw [drain_over n' rfl, List.append_nil]
              have hdr : R7291g.Spec.drainEnumerator 70 S = (_, ps ++ []) := hdr
              rw [List.append_nil] at hdr
              exact hdr
            · show ps.length + 0 ≤ 63
              omega
          | cons e m =>
            rw [hrm] at hy he hdr
            have hy : R7291g.Spec.Outcome.result (R7291g.Spec.representativeValue e) false = .result w b := hy
            injection hy with e1 e2
            subst e1 e2
            have hv2 : ValAt (fun a => a ≠ F) K H2 (given (R7291g.Spec.representativeValue e)) y := hv.mono fun a ha z => by
              have ha : H1 a = none := ha
              rw [z, hF1] at ha
              cases ha
            have mv : Moves (fun a => a ≠ F) (fun a => a ≠ F) K H2 (upd H2 F (.lst (vs ++ [y]))) := Moves.put hF2 fun _ z => z
            refine ⟨_, rfl, _, rfl, iteT ⟨_, rfl, .inl ⟨rfl, _, SqL.of hF2⟩, _, rfl, F, vs, y, rfl, rfl, hF2, small_lt (by omega), _, ?_, _, _, _, ra', ps ++ [R7291g.Spec.representativeValue e], vs ++ [y], n', rfl, (b1.trans b2).put2 hF, EnuAtR.put hF2 nrx' he, nrx', upd_same, ?_, ?_, ?_, ?_, rfl⟩⟩
            · rw [f1, List.length_cons]
              show m.length + 1 < m.length + 1 + 1
              omega
            · rw [List.map_append, List.map_singleton]
              exact (ValsAt.move mv _ _ hvs2).snoc (ValAt.move mv _ _ hv2)
            · rw [List.append_assoc]
              exact hdr
            · rw [List.length_append, List.length_singleton]
              rw [hrm, List.length_cons] at hlen
              show ps.length + 1 + m.length ≤ 63
              omega
            · intro _
              rw [List.length_append, List.length_singleton]
              omega
      · rintro σ H1 Q1 Q2 f ⟨v1, e1, a, C, dx1, fs, v2, e2, h1, h2, h3, h4, b, e5, q⟩
        exact ⟨v1, e1, a, C, dx1, fs, v2, e2, h1, h2, h3, h4, b, e5, f _ _ q⟩
end
end Sw
set_option Elab.async false
set_option linter.all false
set_option maxRecDepth 100000
set_option maxHeartbeats 4000000
/-! Separating words: which call a request is: plain. -/
namespace Sw
open Rust (given taken)

/-- the i-th argument -/
abbrev argV (l : List RWire.Value) (i : Nat) : RWire.Value := l.getD i .nothing
theorem arg_taken (l : List RWire.Value) (i : Nat) : Rust.argAt (Rust.takenAll l) i = taken (argV l i) := by
  rw [takenAll_map]
  unfold Rust.argAt argV
  rw [List.getD_eq_getElem?_getD, List.getD_eq_getElem?_getD, List.getElem?_map]
  cases l[i]? <;> rfl
theorem arg_ok {l : List RWire.Value} (ok : okMany l = true) (i : Nat) : okV (argV l i) = true := by
  unfold argV
  rw [List.getD_eq_getElem?_getD]
  cases h : l[i]? with
  | none => rfl
  | some v => exact okMany_at ok (List.mem_of_getElem? h)
theorem slot_taken {v : RWire.Value} {s : Nat} (h : Rust.slotOf 2 (taken v) = some s) : v = .int (s : Int) ∧ s ≤ 2 := by
  cases v with
  | int i =>
    have h : (if (some i : Option Int) == (none : Option Int) then (none : Option Nat) else (some ((some i : Option Int).getD 0) : Option Int).bind fun k => if decide (0 ≤ k) && Nat.ble k.toNat 2 then some k.toNat else none) = some s := h
    have h : (if decide (0 ≤ i) && Nat.ble i.toNat 2 then some i.toNat else none) = some s := h
    by_cases hc : (decide (0 ≤ i) && Nat.ble i.toNat 2) = true
    · rw [if_pos hc] at h
      injection h with h
      rw [Bool.and_eq_true, decide_eq_true_eq] at hc
      have h2 := Nat.le_of_ble_eq_true hc.2
      subst h
      refine ⟨?_, h2⟩
      congr 1
      omega
    · rw [if_neg hc] at h
      cases h
  | nothing => rw [taken] at h; cases h
  | null => rw [taken] at h; cases h
  | bool _ => rw [taken] at h; cases h
  | big _ => rw [taken] at h; cases h
  | text _ => rw [taken] at h; cases h
  | octets _ => rw [taken] at h; cases h
  | wide _ => rw [taken] at h; cases h
  | list _ => rw [taken] at h; cases h
  | record _ => rw [taken] at h; cases h
/-- the calls -/
inductive CallD (v0 v1 v2 : RWire.Value) : Nat → R7291g.Spec.Call → Prop
  | fn {d : Nat} {f : R7291g.Spec.Fn} : d ≤ 8 → R7291g.Spec.fnOf f = fnD d v0 v1 v2 → CallD v0 v1 v2 d (.fn f)
  | newRun {s : Nat} : v0 = .int (s : Int) → s ≤ 2 → CallD v0 v1 v2 9 (.storeRun s (taken v1))
  | run {s : Nat} (j : Nat) : v0 = .int (s : Int) → s ≤ 2 → j ≤ 2 → CallD v0 v1 v2 (10 + j) (.runRequest s (reqD j v1))
  | newEnu {s : Nat} : v0 = .int (s : Int) → s ≤ 2 → CallD v0 v1 v2 13 (.storeEnumerator s (taken v1) (taken v2))
  | enu {s : Nat} (j : Nat) : v0 = .int (s : Int) → s ≤ 2 → j ≤ 2 → CallD v0 v1 v2 (14 + j) (.enumeratorRequest s (reqD j v1))
  | all {s : Nat} : v0 = .int (s : Int) → s ≤ 2 → CallD v0 v1 v2 17 (.collect s)
theorem taking_some {n : Nat} {l : List R7291g.Spec.Plain} {c : Option R7291g.Spec.Call} {c' : R7291g.Spec.Call} (h : Rust.taking n l c = some c') : l.length ≤ n ∧ c = some c' := by
  unfold Rust.taking at h
  by_cases hc : Nat.ble l.length n = true
  · rw [if_pos hc] at h
    exact ⟨Nat.le_of_ble_eq_true hc, h⟩
  · rw [if_neg hc] at h
    cases h
theorem slot_some {l : List RWire.Value} {f : Nat → Option R7291g.Spec.Call} {c : R7291g.Spec.Call} (h : (Rust.slotAt (Rust.takenAll l) 0 2).bind f = some c) : ∃ s : Nat, argV l 0 = .int (s : Int) ∧ s ≤ 2 ∧ f s = some c := by
  unfold Rust.slotAt at h
  rw [arg_taken] at h
  cases q : Rust.slotOf 2 (taken (argV l 0)) with
  | none => rw [q] at h; cases h
  | some s =>
    rw [q] at h
    obtain ⟨h1, h2⟩ := slot_taken q
    exact ⟨s, h1, h2, h⟩
theorem callD_of {d : Nat} {l : List RWire.Value} {c : R7291g.Spec.Call} (h : Rust.callOf d (Rust.takenAll l) = some c) : CallD (argV l 0) (argV l 1) (argV l 2) d c ∧ l.length ≤ 3 ∧ d ≤ 17 := by
  have len : (Rust.takenAll l).length = l.length := by rw [takenAll_map, List.length_map]
  have a0 := arg_taken l 0
  have a1 := arg_taken l 1
  have a2 := arg_taken l 2
  by_cases hd : d < 18
  · have cases18 : d = 0 ∨ d = 1 ∨ d = 2 ∨ d = 3 ∨ d = 4 ∨ d = 5 ∨ d = 6 ∨ d = 7 ∨ d = 8 ∨ d = 9 ∨ d = 10 ∨ d = 11 ∨ d = 12 ∨ d = 13 ∨ d = 14 ∨ d = 15 ∨ d = 16 ∨ d = 17 := by omega
    rcases cases18 with rfl | rfl | rfl | rfl | rfl | rfl | rfl | rfl | rfl | rfl | rfl | rfl | rfl | rfl | rfl | rfl | rfl | rfl
    · obtain ⟨h1, h2⟩ := taking_some (n := 2) (c := some (.fn (.finalState (Rust.argAt (Rust.takenAll l) 0) (Rust.argAt (Rust.takenAll l) 1)))) h
      injection h2 with h2; subst h2
      exact ⟨.fn (by decide) (by show R7291g.Spec.finalStateFn _ _ = _; rw [a0, a1]; rfl), by omega, by decide⟩
    · obtain ⟨h1, h2⟩ := taking_some (n := 1) (c := some (.fn (.isReversible (Rust.argAt (Rust.takenAll l) 0)))) h
      injection h2 with h2; subst h2
      exact ⟨.fn (by decide) (by show R7291g.Spec.reversibleFn _ = _; rw [a0]; rfl), by omega, by decide⟩
    · obtain ⟨h1, h2⟩ := taking_some (n := 3) (c := some (.fn (.separate (Rust.argAt (Rust.takenAll l) 0) (Rust.argAt (Rust.takenAll l) 1) (Rust.argAt (Rust.takenAll l) 2)))) h
      injection h2 with h2; subst h2
      exact ⟨.fn (by decide) (by show R7291g.Spec.separateFn _ _ _ = _; rw [a0, a1, a2]; rfl), by omega, by decide⟩
    · obtain ⟨h1, h2⟩ := taking_some (n := 3) (c := some (.fn (.separateReversible (Rust.argAt (Rust.takenAll l) 0) (Rust.argAt (Rust.takenAll l) 1) (Rust.argAt (Rust.takenAll l) 2)))) h
      injection h2 with h2; subst h2
      exact ⟨.fn (by decide) (by show R7291g.Spec.separateReversibleFn _ _ _ = _; rw [a0, a1, a2]; rfl), by omega, by decide⟩
    · obtain ⟨h1, h2⟩ := taking_some (n := 2) (c := some (.fn (.fewestStates (Rust.argAt (Rust.takenAll l) 0) (Rust.argAt (Rust.takenAll l) 1)))) h
      injection h2 with h2; subst h2
      exact ⟨.fn (by decide) (by show R7291g.Spec.fewestFn _ _ = _; rw [a0, a1]; rfl), by omega, by decide⟩
    · obtain ⟨h1, h2⟩ := taking_some (n := 2) (c := some (.fn (.fewestReversibleStates (Rust.argAt (Rust.takenAll l) 0) (Rust.argAt (Rust.takenAll l) 1)))) h
      injection h2 with h2; subst h2
      exact ⟨.fn (by decide) (by show R7291g.Spec.fewestReversibleFn _ _ = _; rw [a0, a1]; rfl), by omega, by decide⟩
    · obtain ⟨h1, h2⟩ := taking_some (n := 2) (c := some (.fn (.findCounter (Rust.argAt (Rust.takenAll l) 0) (Rust.argAt (Rust.takenAll l) 1)))) h
      injection h2 with h2; subst h2
      exact ⟨.fn (by decide) (by show R7291g.Spec.countingFn _ _ = _; rw [a0, a1]; rfl), by omega, by decide⟩
    · obtain ⟨h1, h2⟩ := taking_some (n := 2) (c := some (.fn (.counter (Rust.argAt (Rust.takenAll l) 0) (Rust.argAt (Rust.takenAll l) 1)))) h
      injection h2 with h2; subst h2
      exact ⟨.fn (by decide) (by show R7291g.Spec.counterFn _ _ = _; rw [a0, a1]; rfl), by omega, by decide⟩
    · obtain ⟨h1, h2⟩ := taking_some (n := 2) (c := some (.fn (.representatives (Rust.argAt (Rust.takenAll l) 0) (Rust.argAt (Rust.takenAll l) 1)))) h
      injection h2 with h2; subst h2
      exact ⟨.fn (by decide) (by show R7291g.Spec.representativesFn _ _ = _; rw [a0, a1]; rfl), by omega, by decide⟩
    · obtain ⟨h1, h2⟩ := taking_some (n := 2) (c := (Rust.slotAt (Rust.takenAll l) 0 2).bind fun s0 => some (.storeRun s0 (Rust.argAt (Rust.takenAll l) 1))) h
      obtain ⟨s, e, hs, h3⟩ := slot_some h2
      injection h3 with h3; subst h3
      rw [a1]
      exact ⟨.newRun e hs, by omega, by decide⟩
    · obtain ⟨h1, h2⟩ := taking_some (n := 2) (c := (Rust.slotAt (Rust.takenAll l) 0 2).bind fun s0 => some (.runRequest s0 (.next (Rust.argAt (Rust.takenAll l) 1)))) h
      obtain ⟨s, e, hs, h3⟩ := slot_some h2
      injection h3 with h3; subst h3
      rw [a1]
      exact ⟨.run 0 e hs (by decide), by omega, by decide⟩
    · obtain ⟨h1, h2⟩ := taking_some (n := 2) (c := (Rust.slotAt (Rust.takenAll l) 0 2).bind fun s0 => some (.runRequest s0 (.throw (Rust.argAt (Rust.takenAll l) 1)))) h
      obtain ⟨s, e, hs, h3⟩ := slot_some h2
      injection h3 with h3; subst h3
      rw [a1]
      exact ⟨.run 1 e hs (by decide), by omega, by decide⟩
    · obtain ⟨h1, h2⟩ := taking_some (n := 2) (c := (Rust.slotAt (Rust.takenAll l) 0 2).bind fun s0 => some (.runRequest s0 (.ret (Rust.argAt (Rust.takenAll l) 1)))) h
      obtain ⟨s, e, hs, h3⟩ := slot_some h2
      injection h3 with h3; subst h3
      rw [a1]
      exact ⟨.run 2 e hs (by decide), by omega, by decide⟩
    · obtain ⟨h1, h2⟩ := taking_some (n := 3) (c := (Rust.slotAt (Rust.takenAll l) 0 2).bind fun s0 => some (.storeEnumerator s0 (Rust.argAt (Rust.takenAll l) 1) (Rust.argAt (Rust.takenAll l) 2))) h
      obtain ⟨s, e, hs, h3⟩ := slot_some h2
      injection h3 with h3; subst h3
      rw [a1, a2]
      exact ⟨.newEnu e hs, by omega, by decide⟩
    · obtain ⟨h1, h2⟩ := taking_some (n := 2) (c := (Rust.slotAt (Rust.takenAll l) 0 2).bind fun s0 => some (.enumeratorRequest s0 (.next (Rust.argAt (Rust.takenAll l) 1)))) h
      obtain ⟨s, e, hs, h3⟩ := slot_some h2
      injection h3 with h3; subst h3
      rw [a1]
      exact ⟨.enu 0 e hs (by decide), by omega, by decide⟩
    · obtain ⟨h1, h2⟩ := taking_some (n := 2) (c := (Rust.slotAt (Rust.takenAll l) 0 2).bind fun s0 => some (.enumeratorRequest s0 (.throw (Rust.argAt (Rust.takenAll l) 1)))) h
      obtain ⟨s, e, hs, h3⟩ := slot_some h2
      injection h3 with h3; subst h3
      rw [a1]
      exact ⟨.enu 1 e hs (by decide), by omega, by decide⟩
    · obtain ⟨h1, h2⟩ := taking_some (n := 2) (c := (Rust.slotAt (Rust.takenAll l) 0 2).bind fun s0 => some (.enumeratorRequest s0 (.ret (Rust.argAt (Rust.takenAll l) 1)))) h
      obtain ⟨s, e, hs, h3⟩ := slot_some h2
      injection h3 with h3; subst h3
      rw [a1]
      exact ⟨.enu 2 e hs (by decide), by omega, by decide⟩
    · obtain ⟨h1, h2⟩ := taking_some (n := 1) (c := (Rust.slotAt (Rust.takenAll l) 0 2).bind fun s0 => some (.collect s0)) h
      obtain ⟨s, e, hs, h3⟩ := slot_some h2
      injection h3 with h3; subst h3
      exact ⟨.all e hs, by omega, by decide⟩
  · exfalso
    unfold Rust.callOf at h
    split at h
    · rename_i e
      omega
    · rename_i e
      unfold Rust.calls1 at h
      split at h
      · omega
      · omega
      · cases h
    · cases h
end Sw
set_option Elab.async false
set_option linter.all false
set_option maxRecDepth 100000
set_option maxHeartbeats 4000000
/-! Separating words: the library's one object. -/
namespace Sw
open PySem PySem.Spec PyProof.Rows L2
open Rust (given taken)

section
variable {P : Program} {w : World} {K : PySem.W.Frag} {mg : Str → Option PySem.Value} {base : Heap} {A : Ad}
theorem RunAt.same {H H' : Hp} {r : Addr} {R : R7291g.Spec.Run} (s : Same H H') (h : RunAt K A H r R) : RunAt K A H' r R := by
  obtain ⟨dx, ta, la, st, ov, ls, h0, hta, htt, t1, hla, hl2, h30, rel⟩ := h
  exact ⟨dx, ta, la, st, ov, ls, s _ _ h0, hta.same s, htt, t1, s _ _ hla, hl2, h30, rel⟩
theorem RunAt.but {H H' : Hp} {r q C dx : Addr} {fs : List (Str × V)} {R : R7291g.Spec.Run} (b : But q H H') (hq : H q = some (.ins C dx fs)) (ne : r ≠ q) (h : RunAt K A H r R) : RunAt K A H' r R := by
  obtain ⟨dx, ta, la, st, ov, ls, h0, hta, htt, t1, hla, hl2, h30, rel⟩ := h
  exact ⟨dx, ta, la, st, ov, ls, b _ _ h0 ne, hta.but b hq, htt, t1, b _ _ hla (ne_of hla hq (fun z => by cases z)), hl2, h30, rel⟩
theorem EnuAt.same {H H' : Hp} {r : Addr} {S : R7291g.Spec.Enumerator} (s : Same H H') (h : EnuAt K A H r S) : EnuAt K A H' r S := let ⟨ra, h⟩ := h; ⟨ra, h.same s⟩
theorem EnuAt.but {H H' : Hp} {r q C dx : Addr} {fs : List (Str × V)} {S : R7291g.Spec.Enumerator} (b : But q H H') (hq : H q = some (.ins C dx fs)) (ne : r ≠ q) (h : EnuAt K A H r S) : EnuAt K A H' r S := by
  obtain ⟨ra, dx, lv, ov, h1, h2, h3, h4⟩ := h
  refine ⟨ra, dx, lv, ov, b _ _ h1 ne, h2.but b hq, h3, ?_⟩
  cases hs : S.state with
  | finished => rw [hs] at h4; exact h4
  | notStarted => rw [hs] at h4; exact h4
  | running u =>
    rw [hs] at h4
    obtain ⟨⟨la, wd, e, hl, hw⟩, ho⟩ := h4
    exact ⟨⟨la, wd, e, b.sqT hq hl, hw⟩, ho⟩
/-- moves where dicts are written -/
theorem RunAt.putK {H : Hp} {r p : Addr} {R : R7291g.Spec.Run} {kvs : List (Key × V)} {o : HO} (hp : H p = some (.dK kvs)) (h : RunAt K A H r R) : RunAt K A (upd H p o) r R := by
  obtain ⟨dx, ta, la, st, ov, ls, h0, ⟨rs, g1, g2⟩, htt, t1, hla, hl2, h30, rel⟩ := h
  have sq : ∀ {a : Addr} {xs : List V}, SqL K H a xs → SqL K (upd H p o) a xs := fun h => sqL_putU hp (fun _ z => by cases z) (fun _ _ z => by cases z) h
  exact ⟨dx, ta, la, st, ov, ls, by rw [upd_ne (ne_of h0 hp (fun z => by cases z))]; exact h0, ⟨rs, sq g1, Paired.mapP g2 fun _ _ z => sq z⟩, htt, t1, by rw [upd_ne (ne_of hla hp (fun z => by cases z))]; exact hla, hl2, h30, rel⟩
theorem EnuAt.putK {H : Hp} {r p : Addr} {S : R7291g.Spec.Enumerator} {kvs : List (Key × V)} {o : HO} (hp : H p = some (.dK kvs)) (h : EnuAt K A H r S) : EnuAt K A (upd H p o) r S := by
  obtain ⟨ra, dx, lv, ov, h1, ⟨ps, g1, g2⟩, h3, h4⟩ := h
  have sq : ∀ {a : Addr} {xs : List V}, SqT K H a xs → SqT K (upd H p o) a xs := fun h => sqT_putU hp (fun _ z => by cases z) (fun _ _ z => by cases z) h
  refine ⟨ra, dx, lv, ov, by rw [upd_ne (ne_of h1 hp (fun z => by cases z))]; exact h1, ⟨ps, by rw [upd_ne (ne_of g1 hp (fun z => by cases z))]; exact g1, Paired.mapP g2 fun _ _ ⟨b, x, y⟩ => ⟨b, sq x, sq y⟩⟩, h3, ?_⟩
  cases hs : S.state with
  | finished => rw [hs] at h4; exact h4
  | notStarted => rw [hs] at h4; exact h4
  | running u =>
    rw [hs] at h4
    obtain ⟨⟨la, wd, e, hl, hw⟩, ho⟩ := h4
    exact ⟨⟨la, wd, e, sq hl, hw⟩, ho⟩
/-- slots and what is in them -/
structure Slots {α : Type} (at_ : Addr → α → Prop) (kvs : List (Key × V)) (l : List (Option α)) : Prop where
  get : ∀ (p : Nat) (x : α), l.getD p none = some x → ∃ r : Addr, valV kvs (.inl (p : Int)) = some (.ref r) ∧ at_ r x
  inj : ∀ (p q : Nat) (r : Addr), valV kvs (.inl (p : Int)) = some (.ref r) → valV kvs (.inl (q : Int)) = some (.ref r) → p = q
  old : ∀ (p : Nat) (v : V), valV kvs (.inl (p : Int)) = some v → ∃ (r : Addr) (x : α), v = .ref r ∧ l.getD p none = some x
  len : l.length = 3
theorem Slots.mono {α : Type} {f g : Addr → α → Prop} {kvs : List (Key × V)} {l : List (Option α)} (h : Slots f kvs l) (m : ∀ r x, f r x → g r x) : Slots g kvs l :=
  ⟨fun p x e => let ⟨r, h1, h2⟩ := h.get p x e; ⟨r, h1, m r x h2⟩, h.inj, h.old, h.len⟩
theorem getD_set {α : Type} (l : List (Option α)) (p q : Nat) (x : Option α) : (l.set p x).getD q none = if p = q ∧ q < l.length then x else l.getD q none := by
  rw [List.getD_eq_getElem?_getD, List.getD_eq_getElem?_getD, List.getElem?_set]
  by_cases h : p = q
  · subst h
    rw [if_pos rfl]
    by_cases h2 : p < l.length
    · rw [if_pos h2, if_pos ⟨rfl, h2⟩]
      rfl
    · rw [if_neg h2, if_neg (fun z => h2 z.2), List.getElem?_eq_none (by omega)]
  · rw [if_neg h, if_neg (fun z => h z.1)]
/-- one that is in a slot is changed, and nothing else -/
theorem Slots.change {α : Type} {f g : Addr → α → Prop} {kvs : List (Key × V)} {l : List (Option α)} {p : Nat} {r : Addr} {x : α} (h : Slots f kvs l) (hp : p < 3) (hr : valV kvs (.inl (p : Int)) = some (.ref r)) (hx : g r x) (m : ∀ q y, q ≠ r → f q y → g q y) : Slots g kvs (l.set p (some x)) := by
  refine ⟨fun q y e => ?_, h.inj, fun q v e => ?_, by rw [List.length_set]; exact h.len⟩
  · rw [getD_set] at e
    by_cases hc : p = q ∧ q < l.length
    · rw [if_pos hc] at e
      injection e with e
      subst e
      rw [← hc.1]
      exact ⟨r, hr, hx⟩
    · rw [if_neg hc] at e
      obtain ⟨r', h1, h2⟩ := h.get q y e
      refine ⟨r', h1, m r' y (fun z => ?_) h2⟩
      rw [z] at h1
      have := h.inj p q r hr h1
      exact hc ⟨this, by rw [h.len]; omega⟩
  · obtain ⟨r', y, e1, e2⟩ := h.old q v e
    by_cases hc : p = q ∧ q < l.length
    · exact ⟨r', x, e1, by rw [getD_set, if_pos hc]⟩
    · exact ⟨r', y, e1, by rw [getD_set, if_neg hc]; exact e2⟩
/-- a new one is put into a slot -/
theorem Slots.put {α : Type} {f g : Addr → α → Prop} {kvs : List (Key × V)} {l : List (Option α)} {p : Nat} {r : Addr} {x : α} (h : Slots f kvs l) (hp : p < 3) (hx : g r x) (m : ∀ q y, f q y → g q y ∧ q ≠ r) : Slots g (putK kvs (.inl (p : Int)) (.ref r)) (l.set p (some x)) := by
  have inl_inj : ∀ {a b : Nat}, (Sum.inl (a : Int) : Key) = Sum.inl (b : Int) → a = b := fun e => by
    injection e with e
    omega
  have fresh : ∀ q : Nat, valV kvs (.inl (q : Int)) ≠ some (.ref r) := fun q e => by
    obtain ⟨r', y, e1, e2⟩ := h.old q _ e
    obtain ⟨r2, h1, h2⟩ := h.get q y e2
    rw [e] at h1
    injection h1 with h1
    injection h1 with h1
    exact (m r2 y h2).2 h1.symm
  refine ⟨fun q y e => ?_, fun a b r' ha hb => ?_, fun q v e => ?_, by rw [List.length_set]; exact h.len⟩
  · rw [getD_set] at e
    rw [valV_put]
    by_cases hc : p = q ∧ q < l.length
    · rw [if_pos hc] at e
      injection e with e
      subst e
      rw [if_pos (by rw [hc.1])]
      exact ⟨r, rfl, hx⟩
    · rw [if_neg hc] at e
      obtain ⟨r', h1, h2⟩ := h.get q y e
      by_cases hpq : (Sum.inl (q : Int) : Key) = Sum.inl (p : Int)
      · exfalso
        have hqp := inl_inj hpq
        refine hc ⟨hqp.symm, ?_⟩
        rw [h.len]
        omega
      · rw [if_neg hpq]
        exact ⟨r', h1, (m r' y h2).1⟩
  · rw [valV_put] at ha hb
    by_cases h1 : (Sum.inl (a : Int) : Key) = Sum.inl (p : Int) <;> by_cases h2 : (Sum.inl (b : Int) : Key) = Sum.inl (p : Int)
    · rw [inl_inj h1, inl_inj h2]
    · rw [if_pos h1] at ha
      rw [if_neg h2] at hb
      injection ha with ha
      injection ha with ha
      rw [← ha] at hb
      exact absurd hb (fresh b)
    · rw [if_neg h1] at ha
      rw [if_pos h2] at hb
      injection hb with hb
      injection hb with hb
      rw [← hb] at ha
      exact absurd ha (fresh a)
    · rw [if_neg h1] at ha
      rw [if_neg h2] at hb
      exact h.inj a b r' ha hb
  · rw [valV_put] at e
    by_cases h1 : (Sum.inl (q : Int) : Key) = Sum.inl (p : Int)
    · rw [if_pos h1] at e
      injection e with e
      have hq := inl_inj h1
      exact ⟨r, x, e.symm, by rw [getD_set, if_pos ⟨hq.symm, by rw [h.len]; omega⟩]⟩
    · rw [if_neg h1] at e
      obtain ⟨r', y, e1, e2⟩ := h.old q v e
      refine ⟨r', y, e1, ?_⟩
      rw [getD_set, if_neg fun z => h1 (by rw [z.1])]
      exact e2
/-- the object -/
def LibAt (K : PySem.W.Frag) (A : Ad) (H : Hp) (lb : Addr) (W : R7291g.Spec.World) : Prop := ∃ (dx ra ea : Addr) (Rk Ek : List (Key × V)), H lb = some (.ins A.lib dx [("runs", .ref ra), ("enumerators", .ref ea)]) ∧ ra ≠ ea ∧ H ra = some (.dK Rk) ∧ H ea = some (.dK Ek) ∧
  Slots (RunAt K A H) Rk W.runs ∧ Slots (EnuAt K A H) Ek W.enumerators ∧ Rk.length ≤ W.calls ∧ Ek.length ≤ W.calls
theorem LibAt.same {H H' : Hp} {lb : Addr} {W : R7291g.Spec.World} (s : Same H H') (h : LibAt K A H lb W) : LibAt K A H' lb W := by
  obtain ⟨dx, ra, ea, Rk, Ek, h1, h2, h3, h4, h5, h6, h7, h8⟩ := h
  exact ⟨dx, ra, ea, Rk, Ek, s _ _ h1, h2, s _ _ h3, s _ _ h4, h5.mono fun _ _ z => z.same s, h6.mono fun _ _ z => z.same s, h7, h8⟩
/-- what is no instance and no dict stays -/
def Keep (H H' : Hp) : Prop := ∀ b o, H b = some o → (∀ C dx fs, o ≠ .ins C dx fs) → (∀ kvs, o ≠ .dK kvs) → H' b = some o
theorem Keep.of {H H' : Hp} (s : Same H H') : Keep H H' := fun b o e _ _ => s b o e
theorem Keep.trans {H H1 H2 : Hp} (x : Keep H H1) (y : Keep H1 H2) : Keep H H2 := fun b o e h1 h2 => y b o (x b o e h1 h2) h1 h2
theorem Keep.but {H H' : Hp} {r C dx : Addr} {fs : List (Str × V)} (b : But r H H') (hr : H r = some (.ins C dx fs)) : Keep H H' := fun a o e h1 _ => b a o e fun z => by
  rw [z, hr] at e
  injection e with e
  exact h1 _ _ _ e.symm
theorem Keep.putK {H : Hp} {p : Addr} {kvs : List (Key × V)} {o : HO} (hp : H p = some (.dK kvs)) : Keep H (upd H p o) := fun b u e _ h2 => by
  rw [upd_ne fun z => ?_]
  · exact e
  · rw [z, hp] at e
    injection e with e
    exact h2 _ e.symm
/-- Library() -/
def spLib (C : Addr) : Sp := fun vs H Q _ => ∃ (lb dx : Addr), vs = [.ref lb] ∧ H lb = some (.ins C dx []) ∧ ∀ H' ra ea, But lb H H' → H' lb = some (.ins C dx [("runs", .ref ra), ("enumerators", .ref ea)]) → H ra = none → H ea = none → ra ≠ ea → H' ra = some (.dK []) → H' ea = some (.dK []) → Q .non H'
theorem C_Library (T : Txt K mg A) : Mak P w K mg base 1 "Library" A.lib (spLib A.lib) := by
  refine mak_of T.d_Library sc_Library_init (fun vs H Q E h => ?_) (fun f cdv A2 outer s H vs Q E hr h => ?_)
  · obtain ⟨lb, dx, rfl, _⟩ := h
    rfl
  · obtain ⟨lb, dx, rfl, h0, k⟩ := h
    refine ⟨_, (pss_cons (ps_fld (pv 0) pe_dnewK rfl)
      (pss_one (ps_fld (pv 0) pe_dnewK rfl))), ?_⟩
    refine fun ra hra => ?_
    have n1 : ra ≠ lb := fun z => by
      rw [z, h0] at hra
      cases hra
    refine ⟨_, rfl, lb, A.lib, dx, _, rfl, (by rw [upd_ne (fun z => n1 z.symm)]; exact h0), T.d_Library.cl, T.n_Library_runs, (by show 0 < 1000; decide), ?_⟩
    refine fun ea hea => ?_
    have n2 : ea ≠ lb := fun z => by
      rw [z, upd_same] at hea
      cases hea
    have hea' : (upd H ra (.dK [])) ea = none := by
      rw [upd_ne n2] at hea
      exact hea
    have n3 : ea ≠ ra := fun z => by
      rw [z, upd_same] at hea'
      cases hea'
    refine ⟨_, rfl, lb, A.lib, dx, _, rfl, (by rw [upd_ne (fun z => n2 z.symm)]; exact upd_same), T.d_Library.cl, T.n_Library_enumerators, (by show 1 < 1000; decide), ?_⟩
    refine k _ ra ea ((((But.refl lb H).new hra).put).new hea).put ?_ hra (by rw [upd_ne n3] at hea'; exact hea') (fun z => n3 z.symm) ?_ ?_
    · rw [upd_same]
      rfl
    · rw [upd_ne n1, upd_ne (fun z => n3 z.symm), upd_ne n1, upd_same]
    · rw [upd_ne n2, upd_same]
end
end Sw
set_option Elab.async false
set_option linter.all false
set_option maxRecDepth 100000
set_option maxHeartbeats 4000000
/-! Separating words: a call on the library's object. -/
namespace Sw
open PySem PySem.Spec PyProof.Rows L2
open Rust (given taken)

theorem enu_made {v0 v1 : RWire.Value} {n k : Nat} (h : rowsV v0 v1 = .ok (n, k)) : R7291g.Spec.createEnumerator (taken v0) (taken v1) = .ok (R7291g.Spec.newEnumerator n k) := by
  unfold rowsV at h
  unfold R7291g.Spec.createEnumerator
  cases h1 : R7291g.Spec.readInteger "stateCount" 1 3 (taken v0) with
  | error e => rw [h1] at h; cases h
  | ok a =>
    rw [h1] at h
    cases h2 : R7291g.Spec.readInteger "maxLength" 0 5 (taken v1) with
    | error e => rw [h2] at h; cases h
    | ok b =>
      rw [h2] at h
      have h : (Except.ok (a, b) : R7291g.Spec.Res (Nat × Nat)) = .ok (n, k) := h
      injection h with h
      injection h with h3 h4
      subst h3 h4
      rfl
theorem enu_not {v0 v1 : RWire.Value} {e : R7291g.Spec.Err} (h : rowsV v0 v1 = .error e) : R7291g.Spec.createEnumerator (taken v0) (taken v1) = .error e := by
  unfold rowsV at h
  unfold R7291g.Spec.createEnumerator
  cases h1 : R7291g.Spec.readInteger "stateCount" 1 3 (taken v0) with
  | error e => rw [h1] at h; injection h with h; subst h; rfl
  | ok a =>
    rw [h1] at h
    cases h2 : R7291g.Spec.readInteger "maxLength" 0 5 (taken v1) with
    | error e => rw [h2] at h; injection h with h; subst h; rfl
    | ok b => rw [h2] at h; cases h
section
variable {P : Program} {w : World} {K : PySem.W.Frag} {mg : Str → Option PySem.Value} {base : Heap} {A : Ad}
/-- library.call(door, given) -/
def spCall (K : PySem.W.Frag) (A : Ad) : Sp := fun vs H Q E => ∃ (lb g : Addr) (d : Nat) (v0 v1 v2 : RWire.Value) (W : R7291g.Spec.World) (c : R7291g.Spec.Call), vs = [.ref lb, nv d, .ref g] ∧ LibAt K A H lb W ∧ GivenAt K H g v0 v1 v2 ∧ CallD v0 v1 v2 d c ∧ R7291g.Spec.within W c = true ∧
  (∀ p, (R7291g.Spec.step W c).2 = .ret p → ∀ H' x N, Keep H H' → LibAt K A H' lb (R7291g.Spec.step W c).1 → ValAt N K H' (given p) x → Q x H') ∧
  (∀ e, (R7291g.Spec.step W c).2 = .fail e → (R7291g.Spec.step W c).1 = { W with calls := W.calls + 1 } → RefE K A.refu H E e)
theorem m_Library_call (T : Txt K mg A) : Met P w K mg base (L2N.CX P w) 7 A.lib "call" (spCall K A) := by
  have c_on_tables := c_on_tables (P := P) (w := w) (base := base) T
  have c_table_of := c_table_of (P := P) (w := w) (base := base) T
  have C_Run := C_Run (P := P) (w := w) (base := base) T
  have c_on_run := c_on_run (P := P) (w := w) (base := base) T
  have C_Enumerator := C_Enumerator (P := P) (w := w) (base := base) T
  have c_rows_of := c_rows_of (P := P) (w := w) (base := base) T
  have c_on_enumerator := c_on_enumerator (P := P) (w := w) (base := base) T
  refine metX_of T.d_Library.cl T.d_Library_call sc_Library_call (fun vs H Q E h => ?_) (fun f cdv A2 outer s H vs Q E hr h => ?_)
  · obtain ⟨_, _, _, _, _, _, _, _, rfl, _⟩ := h
    rfl
  · obtain ⟨lb, g, d, v0, v1, v2, W, c, rfl, hlib, hgiv, hcall, hwith, kT, kE⟩ := h
    refine ⟨_, (pss_cons (ps_if (pt_cmpR op_lt (pv 1) pe_int (nomark _))
       (pss_one (ps_ret (pe_dX c_on_tables hr (L2N.takes_of rfl rfl rfl rfl) rfl (pa_cons (pv 1) (pa_cons (pv 2) pa_nil)))))
       pss_nil)
      (pss_cons (ps_set (i := 3) sc_Library_call.nd rfl (Or.inl rfl) (pe_ix (ixt K) (pe_ix (ixl K) (pv 2) pe_int (fun _ _ => rfl)) pe_int (fun _ _ => rfl)))
      (pss_cons (ps_if (pt_cmpR op_eq (pv 1) pe_int (nomark _))
       (pss_cons (ps_dput (hu_of hr) (pe_fldK K (pv 0) rfl) (pv 3) (pe_mk C_Run hr rfl (pa_cons (pe_dX c_table_of hr (L2N.takes_of rfl rfl rfl rfl) rfl (pa_cons (pe_ix (ixl K) (pv 2) pe_int (fun _ _ => rfl)) pa_nil)) pa_nil)) rfl)
        (pss_one (ps_ret (pe_gr rfl T.NOTHING))))
       pss_nil)
      (pss_cons (ps_if (pt_cmpR op_lt (pv 1) pe_int (nomark _))
       (pss_one (ps_ret (pe_d c_on_run hr rfl (pa_cons (pe_dget (hu_of hr) (pe_fldK K (pv 0) rfl) (pv 3) (fun _ _ => rfl)) (pa_cons (pv 1) (pa_cons (pe_ix (ixl K) (pv 2) pe_int (fun _ _ => rfl)) pa_nil))))))
       pss_nil)
      (pss_cons (ps_if (pt_cmpR op_eq (pv 1) pe_int (nomark _))
       (pss_cons (ps_dput (hu_of hr) (pe_fldK K (pv 0) rfl) (pv 3) (pe_mk C_Enumerator hr rfl (pa_cons (pe_dX c_rows_of hr (L2N.takes_of rfl rfl rfl rfl) rfl (pa_cons (pe_ix (ixl K) (pv 2) pe_int (fun _ _ => rfl)) (pa_cons (pe_ix (ixl K) (pv 2) pe_int (fun _ _ => rfl)) pa_nil))) pa_nil)) rfl)
        (pss_one (ps_ret (pe_gr rfl T.NOTHING))))
       pss_nil)
      (pss_one (ps_ret (pe_d c_on_enumerator hr rfl (pa_cons (pe_dget (hu_of hr) (pe_fldK K (pv 0) rfl) (pv 3) (fun _ _ => rfl)) (pa_cons (pv 1) (pa_cons (pe_ix (ixl K) (pv 2) pe_int (fun _ _ => rfl)) pa_nil))))))))))), ?_⟩
    obtain ⟨dx, ra, ea, Rk, Ek, h0, nre, hra, hea, hR, hE, hRl, hEl⟩ := id hlib
    obtain ⟨x0, x1, x2, hg, ⟨g0, o0⟩, ⟨g1, o1⟩, ⟨g2, o2⟩⟩ := id hgiv
    have cl := T.d_Library.cl
    have more : ∀ {H1 : Hp} {W1 : R7291g.Spec.World}, LibAt K A H1 lb W1 → LibAt K A H1 lb { W1 with calls := W1.calls + 1 } := fun h => by
      obtain ⟨dx, ra, ea, Rk, Ek, h1, h2, h3, h4, h5, h6, h7, h8⟩ := h
      exact ⟨dx, ra, ea, Rk, Ek, h1, h2, h3, h4, h5, h6, Nat.le_succ_of_le h7, Nat.le_succ_of_le h8⟩
    have hcalls : W.calls < 100000 := by
      unfold R7291g.Spec.within at hwith
      rw [Bool.and_eq_true, decide_eq_true_eq] at hwith
      exact hwith.2
    have hin : R7291g.Spec.inputFits W c = true := by
      unfold R7291g.Spec.within at hwith
      rw [Bool.and_eq_true] at hwith
      exact hwith.1
    have nlr : ∀ {H1 : Hp} {r : Addr} {R : R7291g.Spec.Run}, H1 lb = some (.ins A.lib dx [("runs", .ref ra), ("enumerators", .ref ea)]) → RunAt K A H1 r R → lb ≠ r := fun hl h z => by
      obtain ⟨dr, ta, la, st, ov, ls, hr, _⟩ := h
      rw [z, hr] at hl
      injection hl with hl
      injection hl with _ _ hl
      injection hl with hl
      injection hl with hl
      exact absurd hl (by decide +kernel)
    have nle : ∀ {H1 : Hp} {r : Addr} {S : R7291g.Spec.Enumerator}, H1 lb = some (.ins A.lib dx [("runs", .ref ra), ("enumerators", .ref ea)]) → EnuAt K A H1 r S → lb ≠ r := fun hl h z => by
      obtain ⟨rr, dr, lv, ov, hr, _⟩ := h
      rw [z, hr] at hl
      injection hl with hl
      injection hl with _ _ hl
      injection hl with hl
      injection hl with hl
      exact absurd hl (by decide +kernel)
    have nre2 : ∀ {H1 : Hp} {r q : Addr} {R : R7291g.Spec.Run} {S : R7291g.Spec.Enumerator}, RunAt K A H1 r R → EnuAt K A H1 q S → r ≠ q := fun h1 h2 z => by
      obtain ⟨dr, ta, la, st, ov, ls, hr, _⟩ := h1
      obtain ⟨rr, dq, lv, ov2, hq, _⟩ := h2
      rw [z, hq] at hr
      injection hr with hr
      injection hr with _ _ hr
      injection hr with hr
      injection hr with hr
      exact absurd hr (by decide +kernel)
    cases hcall with
    | @fn d f hd hf =>
      have e9 : decide ((d : Int) < 9) = true := decide_eq_true (by omega)
      refine ⟨_, rfl, _, _, rfl, rfl, _, rfl, ?_⟩
      rw [e9]
      refine iteT ⟨_, rfl, _, rfl, d, g, v0, v1, v2, rfl, Nat.zero_le _, hd, hgiv, fun p hp => ?_, fun e he => ?_⟩
      · exact fun H' x N s' hx => kT p (by show R7291g.Spec.answer id (R7291g.Spec.fnOf f) = _; rw [hf, hp]; rfl) H' x N (Keep.of s') (more (hlib.same s')) hx
      · exact kE e (by show R7291g.Spec.answer id (R7291g.Spec.fnOf f) = _; rw [hf, he]; rfl) rfl
    | @newRun s e hs =>
      subst e
      rw [ValAt] at g0
      obtain ⟨a, rfl, ha⟩ := g0
      refine ⟨_, rfl, _, _, rfl, rfl, _, rfl, iteF ?_⟩
      refine ⟨_, rfl, g, _, _, .ref a, rfl, rfl, hg, at_of (j := 0) rfl rfl, a, _, _, _, rfl, rfl, ha, at_of (j := 1) rfl rfl, ?_⟩
      refine ⟨_, rfl, rfl, _, rfl, iteT ?_⟩
      refine ⟨_, rfl, g, _, _, x1, rfl, rfl, hg, at_of (j := 1) rfl rfl, x1, v1, rfl, g1, o1, fun t ht H1 p s1 htab htt t1 t13 => ?_, fun e he => ?_⟩
      · intro r dr hr1 hdr ne
        have s1' : Same H1 (upd (upd H1 dr (.own r)) r (.ins A.run dr [])) := fun b o e => by
          rw [upd_ne (ne_of_none e hr1), upd_ne (ne_of_none e hdr)]
          exact e
        refine ⟨r, p, dr, rfl, upd_same, fun H2 la b2 hla nlr2 hla2 h2 => ⟨rfl, ?_⟩⟩
        have s12 : Same H1 H2 := fun b o e => b2 _ _ (s1' b o e) (ne_of_none e hr1)
        have s2 : Same H H2 := s1.trans s12
        have hr0 : H r = none := s1.free hr1
        have hra2 := s2 _ _ hra
        have hrun2 : RunAt K A H2 r (R7291g.Spec.newRun t) := ⟨dr, p, la, false, false, [], h2, htab.same s12, htt, t1, hla2, (fun _ z => by cases z), (by show 0 ≤ 30; decide), ⟨rfl, rfl, rfl⟩⟩
        refine ⟨_, rfl, lb, A.lib, dx, _, _, rfl, s2 _ _ h0, cl, T.n_Library_runs, rfl, _, rfl, ra, _, rfl, DPut.k (k := .inl (s : Int)) hra2 (small_lt (by omega)), fun z hz => ?_⟩
        have ec : R7291g.Spec.step W (.storeRun s (taken v1)) = ({ R7291g.Spec.setRun W s (R7291g.Spec.newRun t) with calls := W.calls + 1 }, .ret .undef) := by
          have e1 : R7291g.Spec.createRun (taken v1) = .ok (R7291g.Spec.newRun t) := by
            unfold R7291g.Spec.createRun
            rw [ht]
            rfl
          unfold R7291g.Spec.step R7291g.Spec.stepUncounted
          simp only [e1]
        rw [ec] at kT
        refine kT .undef rfl _ _ NF ((Keep.of s2).trans (Keep.putK hra2)) ⟨dx, ra, ea, _, Ek, ?_, nre, upd_same, ?_, ?_, ?_, ?_, ?_⟩ ?_
        · rw [upd_ne (ne_of (s2 _ _ h0) hra2 (fun z => by cases z))]
          exact s2 _ _ h0
        · rw [upd_ne (fun z => nre z.symm)]
          exact s2 _ _ hea
        · exact hR.put (by omega) (hrun2.putK hra2) fun q y hq => ⟨(hq.same s2).putK hra2, fun z => by
            obtain ⟨_, _, _, _, _, _, hqq, _⟩ := hq
            rw [z, hr0] at hqq
            cases hqq⟩
        · exact hE.mono fun q y hq => (hq.same s2).putK hra2
        · exact Nat.le_trans (length_putK _ _ _) (Nat.succ_le_succ hRl)
        · exact Nat.le_succ_of_le hEl
        · show ValAt NF K _ .nothing _
          rw [ValAt]
          exact ⟨z, rfl, hz _⟩
      · have e1 : R7291g.Spec.createRun (taken v1) = .error e := by
          unfold R7291g.Spec.createRun
          rw [he]
          rfl
        have ec : R7291g.Spec.step W (.storeRun s (taken v1)) = ({ W with calls := W.calls + 1 }, .fail e) := by
          unfold R7291g.Spec.step R7291g.Spec.stepUncounted
          simp only [e1]
        rw [ec] at kE
        exact kE e rfl rfl
    | @run s j e hs hj =>
      subst e
      rw [ValAt] at g0
      obtain ⟨a, rfl, ha⟩ := g0
      have hin : (R7291g.Spec.hasRun W s && R7291g.Spec.requestFits (reqD j v1)) = true := hin
      rw [Bool.and_eq_true] at hin
      have hin := hin.1
      unfold R7291g.Spec.hasRun at hin
      rw [Bool.and_eq_true] at hin
      obtain ⟨R, hRs⟩ := Option.isSome_iff_exists.mp hin.2
      obtain ⟨r, hval, hrun⟩ := hR.get s R hRs
      have ec : R7291g.Spec.step W (.runRequest s (reqD j v1)) = ({ R7291g.Spec.setRun W s (R7291g.Spec.runRequest R (reqD j v1)).1 with calls := W.calls + 1 }, .ret (R7291g.Spec.outcomeValue (reqD j v1) (R7291g.Spec.runRequest R (reqD j v1)).2)) := by
        unfold R7291g.Spec.step R7291g.Spec.stepUncounted R7291g.Spec.withRun
        simp only [hRs]
      rw [ec] at kT
      have fin : spOnRun K A [.ref r, nv (10 + j), x1] H Q E0 := by
        refine ⟨r, j, x1, v1, R, rfl, hj, hrun, g1, o1, fun H' x' N b hrun' hv => ?_⟩
        obtain ⟨dr, ta, la, st, ov, ls, hrr, _⟩ := id hrun
        refine kT _ rfl H' x' N (Keep.but b hrr) ⟨dx, ra, ea, Rk, Ek, b _ _ h0 (nlr h0 hrun), nre, b _ _ hra (ne_of hra hrr (fun z => by cases z)), b _ _ hea (ne_of hea hrr (fun z => by cases z)), ?_, ?_, Nat.le_succ_of_le hRl, Nat.le_succ_of_le hEl⟩ hv
        · exact hR.change (by omega) hval hrun' fun q y ne hq => hq.but b hrr ne
        · exact hE.mono fun q y hq => hq.but b hrr fun z => nre2 hrun hq z.symm
      have hj3 : j = 0 ∨ j = 1 ∨ j = 2 := by omega
      rcases hj3 with rfl | rfl | rfl
      all_goals
        refine ⟨_, rfl, _, _, rfl, rfl, _, rfl, iteF ?_⟩
        refine ⟨_, rfl, g, _, _, .ref a, rfl, rfl, hg, at_of (j := 0) rfl rfl, a, _, _, _, rfl, rfl, ha, at_of (j := 1) rfl rfl, ?_⟩
        refine ⟨_, rfl, rfl, _, rfl, iteF ?_⟩
        refine ⟨_, rfl, _, _, rfl, rfl, _, rfl, iteT ?_⟩
        exact ⟨_, rfl, lb, A.lib, dx, _, _, rfl, h0, cl, T.n_Library_runs, rfl, _, rfl, ra, _, rfl, .inl ⟨Rk, .inl (s : Int), .inl hra, rfl, hval.symm⟩, _, rfl, _, rfl, g, _, _, x1, rfl, rfl, hg, at_of (j := 1) rfl rfl, fin⟩
    | @newEnu s e hs =>
      subst e
      rw [ValAt] at g0
      obtain ⟨a, rfl, ha⟩ := g0
      refine ⟨_, rfl, _, _, rfl, rfl, _, rfl, iteF ?_⟩
      refine ⟨_, rfl, g, _, _, .ref a, rfl, rfl, hg, at_of (j := 0) rfl rfl, a, _, _, _, rfl, rfl, ha, at_of (j := 1) rfl rfl, ?_⟩
      refine ⟨_, rfl, rfl, _, rfl, iteF ?_⟩
      refine ⟨_, rfl, _, _, rfl, rfl, _, rfl, iteF ?_⟩
      refine ⟨_, rfl, rfl, _, rfl, iteT ?_⟩
      refine ⟨_, rfl, g, _, _, x1, rfl, rfl, hg, at_of (j := 1) rfl rfl, _, rfl, g, _, _, x2, rfl, rfl, hg, at_of (j := 2) rfl rfl, x1, x2, v1, v2, rfl, g1, g2, fun n k hnk n1 n3 k5 H1 p s1 hrep => ?_, fun e he => ?_⟩
      · intro r dr hr1 hdr ne
        have s1' : Same H1 (upd (upd H1 dr (.own r)) r (.ins A.enu dr [])) := fun b o e => by
          rw [upd_ne (ne_of_none e hr1), upd_ne (ne_of_none e hdr)]
          exact e
        refine ⟨r, p, dr, rfl, upd_same, fun H2 b2 h2 => ⟨rfl, ?_⟩⟩
        have s12 : Same H1 H2 := fun b o e => b2 _ _ (s1' b o e) (ne_of_none e hr1)
        have s2 : Same H H2 := s1.trans s12
        have hr0 : H r = none := s1.free hr1
        have hea2 := s2 _ _ hea
        have hok : RepOk (R7291g.Spec.representativesOf n k) := ⟨reps_len k5, fun e he => let z := reps_words he; ⟨Nat.le_trans z.1 k5, z.2⟩⟩
        have henu2 : EnuAt K A H2 r (R7291g.Spec.newEnumerator n k) := ⟨p, dr, .non, false, h2, hrep.same s12, hok, ⟨rfl, rfl⟩⟩
        refine ⟨_, rfl, lb, A.lib, dx, _, _, rfl, s2 _ _ h0, cl, T.n_Library_enumerators, rfl, _, rfl, ea, _, rfl, DPut.k (k := .inl (s : Int)) hea2 (small_lt (by omega)), fun z hz => ?_⟩
        have e1 : R7291g.Spec.createEnumerator (taken v1) (taken v2) = .ok (R7291g.Spec.newEnumerator n k) := enu_made hnk
        have ec : R7291g.Spec.step W (.storeEnumerator s (taken v1) (taken v2)) = ({ R7291g.Spec.setEnumerator W s (R7291g.Spec.newEnumerator n k) with calls := W.calls + 1 }, .ret .undef) := by
          unfold R7291g.Spec.step R7291g.Spec.stepUncounted
          simp only [e1]
        rw [ec] at kT
        refine kT .undef rfl _ _ NF ((Keep.of s2).trans (Keep.putK hea2)) ⟨dx, ra, ea, Rk, _, ?_, nre, ?_, upd_same, ?_, ?_, ?_, ?_⟩ ?_
        · rw [upd_ne (ne_of (s2 _ _ h0) hea2 (fun z => by cases z))]
          exact s2 _ _ h0
        · rw [upd_ne nre]
          exact s2 _ _ hra
        · exact hR.mono fun q y hq => (hq.same s2).putK hea2
        · exact hE.put (by omega) (henu2.putK hea2) fun q y hq => ⟨(hq.same s2).putK hea2, fun z => by
            obtain ⟨_, _, _, _, hqq, _⟩ := hq
            rw [z, hr0] at hqq
            cases hqq⟩
        · exact Nat.le_succ_of_le hRl
        · exact Nat.le_trans (length_putK _ _ _) (Nat.succ_le_succ hEl)
        · show ValAt NF K _ .nothing _
          rw [ValAt]
          exact ⟨z, rfl, hz _⟩
      · have e1 : R7291g.Spec.createEnumerator (taken v1) (taken v2) = .error e := enu_not he
        have ec : R7291g.Spec.step W (.storeEnumerator s (taken v1) (taken v2)) = ({ W with calls := W.calls + 1 }, .fail e) := by
          unfold R7291g.Spec.step R7291g.Spec.stepUncounted
          simp only [e1]
        rw [ec] at kE
        exact kE e rfl rfl
    | @enu s j e hs hj =>
      subst e
      rw [ValAt] at g0
      obtain ⟨a, rfl, ha⟩ := g0
      have hin : (R7291g.Spec.hasEnumerator W s && R7291g.Spec.requestFits (reqD j v1)) = true := hin
      rw [Bool.and_eq_true] at hin
      have hin := hin.1
      unfold R7291g.Spec.hasEnumerator at hin
      rw [Bool.and_eq_true] at hin
      obtain ⟨S, hSs⟩ := Option.isSome_iff_exists.mp hin.2
      obtain ⟨r, hval, henu⟩ := hE.get s S hSs
      have ec : R7291g.Spec.step W (.enumeratorRequest s (reqD j v1)) = ({ R7291g.Spec.setEnumerator W s (R7291g.Spec.enumeratorRequest S (reqD j v1)).1 with calls := W.calls + 1 }, .ret (R7291g.Spec.outcomeValue (reqD j v1) (R7291g.Spec.enumeratorRequest S (reqD j v1)).2)) := by
        unfold R7291g.Spec.step R7291g.Spec.stepUncounted R7291g.Spec.withEnumerator
        simp only [hSs]
      rw [ec] at kT
      have ed : enuD j v1 S = ((R7291g.Spec.enumeratorRequest S (reqD j v1)).1, R7291g.Spec.outcomeValue (reqD j v1) (R7291g.Spec.enumeratorRequest S (reqD j v1)).2) := by
        have hj3 : j = 0 ∨ j = 1 ∨ j = 2 := by omega
        rcases hj3 with rfl | rfl | rfl <;> rfl
      have fin : spOnEnu K A [.ref r, nv (14 + j), x1] H Q E0 := by
        refine ⟨r, j, x1, v1, S, rfl, by omega, henu, g1, o1, fun H' x' N b henu' hv => ?_⟩
        rw [ed] at henu' hv
        obtain ⟨rr, dr, lv, ov, hrr, _⟩ := id henu
        refine kT _ rfl H' x' N (Keep.but b hrr) ⟨dx, ra, ea, Rk, Ek, b _ _ h0 (nle h0 henu), nre, b _ _ hra (ne_of hra hrr (fun z => by cases z)), b _ _ hea (ne_of hea hrr (fun z => by cases z)), ?_, ?_, Nat.le_succ_of_le hRl, Nat.le_succ_of_le hEl⟩ hv
        · exact hR.mono fun q y hq => hq.but b hrr fun z => nre2 hq henu z
        · exact hE.change (by omega) hval henu' fun q y ne hq => hq.but b hrr ne
      have hj3 : j = 0 ∨ j = 1 ∨ j = 2 := by omega
      rcases hj3 with rfl | rfl | rfl
      all_goals
        refine ⟨_, rfl, _, _, rfl, rfl, _, rfl, iteF ?_⟩
        refine ⟨_, rfl, g, _, _, .ref a, rfl, rfl, hg, at_of (j := 0) rfl rfl, a, _, _, _, rfl, rfl, ha, at_of (j := 1) rfl rfl, ?_⟩
        refine ⟨_, rfl, rfl, _, rfl, iteF ?_⟩
        refine ⟨_, rfl, _, _, rfl, rfl, _, rfl, iteF ?_⟩
        refine ⟨_, rfl, rfl, _, rfl, iteF ?_⟩
        exact ⟨_, rfl, lb, A.lib, dx, _, _, rfl, h0, cl, T.n_Library_enumerators, rfl, _, rfl, ea, _, rfl, .inl ⟨Ek, .inl (s : Int), .inl hea, rfl, hval.symm⟩, _, rfl, _, rfl, g, _, _, x1, rfl, rfl, hg, at_of (j := 1) rfl rfl, fin⟩
    | @all s e hs =>
      subst e
      rw [ValAt] at g0
      obtain ⟨a, rfl, ha⟩ := g0
      have hin : R7291g.Spec.hasEnumerator W s = true := hin
      unfold R7291g.Spec.hasEnumerator at hin
      rw [Bool.and_eq_true] at hin
      obtain ⟨S, hSs⟩ := Option.isSome_iff_exists.mp hin.2
      obtain ⟨r, hval, henu⟩ := hE.get s S hSs
      have ec : R7291g.Spec.step W (.collect s) = ({ R7291g.Spec.setEnumerator W s (R7291g.Spec.drainEnumerator 70 S).1 with calls := W.calls + 1 }, .ret (.arr (R7291g.Spec.drainEnumerator 70 S).2)) := by
        unfold R7291g.Spec.step R7291g.Spec.stepUncounted R7291g.Spec.withEnumerator
        simp only [hSs]
        rfl
      rw [ec] at kT
      refine ⟨_, rfl, _, _, rfl, rfl, _, rfl, iteF ?_⟩
      refine ⟨_, rfl, g, _, _, .ref a, rfl, rfl, hg, at_of (j := 0) rfl rfl, a, _, _, _, rfl, rfl, ha, at_of (j := 1) rfl rfl, ?_⟩
      refine ⟨_, rfl, rfl, _, rfl, iteF ?_⟩
      refine ⟨_, rfl, _, _, rfl, rfl, _, rfl, iteF ?_⟩
      refine ⟨_, rfl, rfl, _, rfl, iteF ?_⟩
      refine ⟨_, rfl, lb, A.lib, dx, _, _, rfl, h0, cl, T.n_Library_enumerators, rfl, _, rfl, ea, _, rfl, .inl ⟨Ek, .inl (s : Int), .inl hea, rfl, hval.symm⟩, _, rfl, _, rfl, g, _, _, x1, rfl, rfl, hg, at_of (j := 1) rfl rfl, r, 3, x1, v1, S, rfl, by decide, henu, g1, o1, fun H' x' N b henu' hv => ?_⟩
      obtain ⟨rr, dr, lv, ov, hrr, _⟩ := id henu
      refine kT _ rfl H' x' N (Keep.but b hrr) ⟨dx, ra, ea, Rk, Ek, b _ _ h0 (nle h0 henu), nre, b _ _ hra (ne_of hra hrr (fun z => by cases z)), b _ _ hea (ne_of hea hrr (fun z => by cases z)), ?_, ?_, Nat.le_succ_of_le hRl, Nat.le_succ_of_le hEl⟩ hv
      · exact hR.mono fun q y hq => hq.but b hrr fun z => nre2 hq henu z
      · exact hE.change (by omega) hval henu' fun q y ne hq => hq.but b hrr ne
end
end Sw
set_option Elab.async false
set_option linter.all false
set_option maxRecDepth 100000
set_option maxHeartbeats 4000000
/-! Separating words: defs that are called while an exception is handled. -/
namespace Sw
open PySem PySem.Spec PyProof.Rows L2
section
variable {P : Program} {w : World} {K : PySem.W.Frag} {mg : Str → Option PySem.Value} {base : Heap} {A : Ad}
theorem H_codes_of (T : Txt K mg A) : CalH P w K mg base CX0 1 "codes_of" (spCodes K) := by
  refine calH_of T.d_codes_of sc_codes_of (fun vs H Q E h => ?_) (fun f cdv A2 outer s H vs Q E pe hot hrH h => ?_)
  · obtain ⟨x, rfl, _⟩ := h
    rfl
  · obtain ⟨x, rfl, ha, hz, k⟩ := h
    refine ⟨_, (pss_one (ps_ret (pe_callTy call_tuple_of rfl T.tuple (by decide +kernel) (pa_cons (pe_lcH (own := [("sign", 1)]) (g := (gName 1)) hot sc_codes_of.nd (pi_strH (pv 0)) (blkOk_by (own := [("sign", 1)]) (N := ["text", "sign"]) (sc := defScope s_codes_of) (by decide +kernel)) (fun _ _ _ _ _ => pg_name (i := 1) sc_codes_of.nd rfl (Or.inl rfl)) (fun _ _ _ _ _ => (pe_callB call_ord rfl T.ord (by decide +kernel) (pa_cons (pv 1) pa_nil)))) pa_nil)))), ?_⟩
    refine ⟨_, rfl, x, rfl, ha, fun D hD => lc_str (fun i H' => Same H H' ∧ H' D = some (.lst (((txt x).take i).map ov))) ⟨(Same.refl H).new hD, upd_same⟩ ?_ ?_⟩
    · rintro i c H2 hc ⟨s2, hD2⟩
      have hi : (txt x)[i]? = some (UInt8.ofNat c) := by
        unfold txt
        rw [List.getElem?_map, hc]
        rfl
      refine ⟨rfl, _, rfl, _, rfl, rfl, ?_⟩
      refine ⟨_, hD2, ?_, s2.put hD, ?_⟩
      · rw [List.length_map, List.length_take]
        unfold txt
        rw [List.length_map, Array.length_toList]
        exact small_lt (by omega)
      · rw [upd_same, take_more hi, List.map_append, List.map_singleton, ov_small (ascii_at ha hc)]
        rfl
    · rintro H2 ⟨s2, hD2⟩
      have e : (txt x).take x.cps.toList.length = txt x := List.take_of_length_le (by unfold txt; rw [List.length_map]; exact Nat.le_refl _)
      rw [e] at hD2
      exact ⟨D, _, rfl, .inl ⟨SqL.of hD2, fun p hp => k _ p (s2.new hp) (SqT.of upd_same)⟩⟩
theorem H_low_first (T : Txt K mg A) : CalH P w K mg base CX0 1 "low_first" (spLow K) := by
  refine calH_of T.d_low_first sc_low_first (fun vs H Q E h => ?_) (fun f cdv A2 outer s H vs Q E pe hot hrH h => ?_)
  · obtain ⟨x, _, rfl, _⟩ := h
    rfl
  · obtain ⟨n, m, rfl, hm, k⟩ := h
    refine ⟨_, (pss_cons (ps_set (i := 2) sc_low_first.nd rfl (Or.inl rfl) (pe_lst pa_nil))
      (pss_cons (L2H.ps_forH (passes_of rfl) hot (L2H.pi_range1H rfl T.range (pa_cons (pv 1) pa_nil)) (pg_name (i := 3) sc_low_first.nd rfl (Or.inl rfl))
       (pss_cons (ps_expr (pe_bm PySem.F.plainAttrs_list PySem.F.slot_list_append PySem.F.type_list_append mt_append (pv 2) (pa_cons (pe_op op_mod (pv 0) pe_int) pa_nil)))
        (pss_one (ps_set (i := 0) sc_low_first.nd rfl (Or.inl rfl) (pe_op op_fdiv (pv 0) pe_int)))))
      (pss_one (ps_ret (pv 2))))), ?_⟩
    refine ⟨Nat.zero_le _, fun D hD => ?_⟩
    refine ⟨_, rfl, (m : Int), rfl, by omega, by omega, for_range (lo := 0) (n := (m : Int).toNat) (fun i σ H' => ∃ (j : Nat) (y : Option V), σ = [some (nv j), some (nv m), some (.ref D), y] ∧ Same H H' ∧ ∃ ls, H' D = some (.lst (ls.map ov)) ∧ ls.length = i ∧ ls ++ RWire.low (m - i) j = RWire.low m n) ⟨n, none, rfl, (Same.refl H).new hD, [], upd_same, rfl, rfl⟩ ?_ ?_⟩
    · rintro i σ H2 hi ⟨j, y, rfl, s2, ls, hD2, hll, hls⟩
      have hmi : m - i = (m - (i + 1)) + 1 := by omega
      rw [hmi] at hls
      have hls : ls ++ (UInt8.ofNat j :: RWire.low (m - (i + 1)) (j / 256)) = RWire.low m n := hls
      have e1 : ov (UInt8.ofNat j) = .int ((j : Int) % 256) := by
        unfold ov
        congr 1
      refine ⟨_, rfl, .inl ⟨rfl, _, SqL.of hD2⟩, _, rfl, _, _, rfl, rfl, (by show (0 : Int) < 256; decide), D, _, _, rfl, rfl, hD2, by rw [List.length_map, hll]; exact small_lt (by omega), ?_⟩
      refine ⟨_, rfl, _, _, rfl, rfl, ?_, j / 256, _, rfl, s2.put hD, ls ++ [UInt8.ofNat j], ?_, ?_, ?_⟩
      · exact ⟨by decide, by decide⟩
      · rw [upd_same, List.map_append, List.map_singleton, e1]
      · rw [List.length_append, List.length_singleton, hll]
      · exact (List.append_assoc ..).trans hls
    · rintro σ H2 ⟨j, y, rfl, s2, ls, hD2, hll, hls⟩
      have e0 : m - (m : Int).toNat = 0 := by omega
      rw [e0] at hls
      have hls : ls ++ [] = RWire.low m n := hls
      rw [List.append_nil] at hls
      rw [hls] at hD2
      exact ⟨_, rfl, k H2 D s2 hD hD2⟩
end
end Sw
set_option Elab.async false
set_option linter.all false
set_option maxRecDepth 100000
set_option maxHeartbeats 4000000
/-! Separating words: a request is answered. -/
namespace Sw
open PySem PySem.Spec PyProof.Rows L2
open Rust (given taken)
theorem ofKinds_ok {l : List RWire.Value} (h : Rust.ofKinds l = true) : okMany l = true := by
  unfold Rust.ofKinds at h
  have h : ((false || RWire.noBigMany l) && (false || RWire.noOctetsMany l) && (false || RWire.noWideMany l)) = true := h
  simp only [Bool.false_or, Bool.and_eq_true] at h
  unfold okMany
  simp only [Bool.and_eq_true]
  exact ⟨h.1.1, h.1.2, h.2⟩
theorem asked_is {B : List UInt8} {c : R7291g.Spec.Call} (h : Rust.asked B = some c) : ∃ d l, RWire.readRequest B = some (d, l) ∧ okMany l = true ∧ CallD (argV l 0) (argV l 1) (argV l 2) d c ∧ l.length ≤ 3 := by
  unfold Rust.asked at h
  split at h
  · rename_i d l e
    by_cases hk : Rust.ofKinds l = true
    · rw [if_pos hk] at h
      obtain ⟨h1, h2, _⟩ := callD_of h
      exact ⟨d, l, e, ofKinds_ok hk, h1, h2⟩
    · rw [if_neg hk] at h
      cases h
  · cases h
theorem flat_one (n : Nat) (v : V) : (List.replicate n [v]).flatten = List.replicate n v := by
  induction n with
  | zero => rfl
  | succ n ih => rw [List.replicate_succ, List.replicate_succ, List.flatten_cons, ih]; rfl
theorem cls_small (e : R7291g.Spec.Err) : Rust.classOf e.cls < 128 := by
  cases e.cls <;> decide
/-- three values, the last ones nothing -/
theorem padded {K : PySem.W.Frag} {H : Hp} : ∀ {l : List RWire.Value} {vs : List V} {a : Addr}, ValsAt NF K H l vs → okMany l = true → l.length ≤ 3 → SqT K H a [.int 0] → ∃ x0 x1 x2, vs ++ List.replicate (3 - l.length) (.ref a) = [x0, x1, x2] ∧ (ValAt NF K H (argV l 0) x0 ∧ okV (argV l 0) = true) ∧ (ValAt NF K H (argV l 1) x1 ∧ okV (argV l 1) = true) ∧ (ValAt NF K H (argV l 2) x2 ∧ okV (argV l 2) = true) := by
  intro l vs a h ok hl ha
  have hn : ValAt NF K H .nothing (.ref a) := by
    rw [ValAt]
    exact ⟨a, rfl, ha⟩
  match l, h, hl with
  | [], h, _ =>
    rw [ValsAt] at h
    subst h
    exact ⟨_, _, _, rfl, ⟨hn, arg_ok ok 0⟩, ⟨hn, arg_ok ok 1⟩, ⟨hn, arg_ok ok 2⟩⟩
  | [u], h, _ =>
    rw [ValsAt] at h
    obtain ⟨x, ys, rfl, hx, h⟩ := h
    rw [ValsAt] at h
    subst h
    exact ⟨_, _, _, rfl, ⟨hx, arg_ok ok 0⟩, ⟨hn, arg_ok ok 1⟩, ⟨hn, arg_ok ok 2⟩⟩
  | [u, v], h, _ =>
    rw [ValsAt] at h
    obtain ⟨x, ys, rfl, hx, h⟩ := h
    rw [ValsAt] at h
    obtain ⟨y, zs, rfl, hy, h⟩ := h
    rw [ValsAt] at h
    subst h
    exact ⟨_, _, _, rfl, ⟨hx, arg_ok ok 0⟩, ⟨hy, arg_ok ok 1⟩, ⟨hn, arg_ok ok 2⟩⟩
  | [u, v, z], h, _ =>
    rw [ValsAt] at h
    obtain ⟨x, ys, rfl, hx, h⟩ := h
    rw [ValsAt] at h
    obtain ⟨y, zs, rfl, hy, h⟩ := h
    rw [ValsAt] at h
    obtain ⟨q, rs, rfl, hq, h⟩ := h
    rw [ValsAt] at h
    subst h
    exact ⟨_, _, _, rfl, ⟨hx, arg_ok ok 0⟩, ⟨hy, arg_ok ok 1⟩, ⟨hq, arg_ok ok 2⟩⟩
  | _ :: _ :: _ :: _ :: _, _, hl => simp at hl
section
variable {P : Program} {w : World} {K : PySem.W.Frag} {mg : Str → Option PySem.Value} {base : Heap} {A : Ad}
/-- answered(library, octets) -/
def spAnswered (K : PySem.W.Frag) (A : Ad) : Sp := fun vs H Q _ => ∃ (lb oc : Addr) (B : List UInt8) (W : R7291g.Spec.World) (c : R7291g.Spec.Call), vs = [.ref lb, .ref oc] ∧ LibAt K A H lb W ∧ SqL K H oc (B.map ov) ∧ B.length ≤ 100000 ∧
  Rust.asked B = some c ∧ Rust.canBe W c = true ∧ Rust.tellable (R7291g.Spec.step W c).2 = true ∧ (RWire.writeAnswer (Rust.answerOf (R7291g.Spec.step W c).2)).length ≤ 100000 ∧
  ∀ H' p, Keep H H' → (∀ a xs, H a = some (.lst xs) → p ≠ a) → LibAt K A H' lb (R7291g.Spec.step W c).1 → H' p = some (.lst ((RWire.writeAnswer (Rust.answerOf (R7291g.Spec.step W c).2)).map ov)) → Q (.ref p) H'
theorem c_answered (T : Txt K mg A) : Cal P w K mg base CX0 38 "answered" (spAnswered K A) := by
  have C_Request := C_Request (P := P) (w := w) (base := base) T
  have m_Request_whole := m_Request_whole (P := P) (w := w) (base := base) T
  have c_octets_of := c_octets_of (P := P) (w := w) (base := base) T 32
  have m_Library_call := m_Library_call (P := P) (w := w) (base := base) T
  have H_codes_of := H_codes_of (P := P) (w := w) (base := base) T
  have H_low_first := H_low_first (P := P) (w := w) (base := base) T
  refine cal_of T.d_answered sc_answered (fun vs H Q E h => ?_) (fun f cdv A2 outer s H vs Q E hr h => ?_)
  · obtain ⟨_, _, _, _, _, rfl, _⟩ := h
    rfl
  · obtain ⟨lb, oc, B, W, c, rfl, hlib, hoc, hB, hask, hcan, htell, hlen, k⟩ := h
    refine ⟨_, (pss_cons (ps_asg (pe_m0 m_Request_whole hr (pe_mk C_Request hr rfl (pa_cons (pv 1) pa_nil))) (pg_tup rfl (pgs_cons (pg_name (i := 2) sc_answered.nd rfl (Or.inl rfl)) (pgs_cons (pg_name (i := 3) sc_answered.nd rfl (Or.inl rfl)) pgs_nil))))
      (pss_cons (ps_expr (pe_bm PySem.F.plainAttrs_list PySem.F.slot_list_extend PySem.F.type_list_extend mt_extend (pv 3) (pa_cons (pe_op op_rep (pe_lst (pa_cons (pe_gr rfl T.NOTHING) pa_nil)) (pe_op op_sub (pe_gi rfl T.MOST_ARGUMENTS) (pe_callB (lenQ K) rfl T.len PySem.boot_len (pa_cons (pv 3) pa_nil)))) pa_nil)))
      (pss_one (L2N.ps_try_as (i := 4) rfl rfl sc_answered.nd rfl rfl ⟨rfl, by decide, .inl T.Refused.gm⟩ takesN0
       (fun W pn xe tk _ => (pss_one (ps_ret (pe_op op_cat (pe_lst (pa_cons pe_int pa_nil)) (pe_d c_octets_of hr rfl (pa_cons (pe_mX m_Library_call hr tk (pv 0) (pa_cons (pv 2) (pa_cons (pv 3) pa_nil))) pa_nil))))))
       (fun a oe cls d pn hz hf => have hrH := L2H.roomH_mark hr (some (.ref a)); have hot : L2H.HotC _ := hot_of hz hf; (pss_cons (ps_set (i := 5) sc_answered.nd rfl (Or.inl rfl) (pe_op op_cat (pe_callTy (listQ K) rfl T.list (by decide +kernel) (pa_cons (pe_dH H_codes_of hrH hot rfl (pa_cons (pe_xf T.Refused.xf T.Refused.n_message hz.zc hf (pv 4)) pa_nil)) pa_nil)) (pe_callTy (listQ K) rfl T.list (by decide +kernel) (pa_cons (pe_xf T.Refused.xf T.Refused.n_further hz.zc hf (pv 4)) pa_nil))))
        (pss_one (ps_ret (pe_op op_cat (pe_op op_cat (pe_lst (pa_cons pe_int (pa_cons (pe_xf T.Refused.xf T.Refused.n_order hz.zc hf (pv 4)) pa_nil))) (pe_dH H_low_first hrH hot rfl (pa_cons (pe_callB (lenQ K) rfl T.len PySem.boot_len (pa_cons (pv 5) pa_nil)) (pa_cons pe_int pa_nil)))) (pv 5)))))))))), ?_⟩
    obtain ⟨d, l, hread, okl, hcall, hl3⟩ := asked_is hask
    have hwith : R7291g.Spec.within W c = true := by
      unfold Rust.canBe at hcan
      rw [Bool.and_eq_true] at hcan
      exact hcan.1
    refine ⟨_, rfl, fun r dr hr1 hdr ne => ⟨r, oc, dr, rfl, upd_same, fun H1 b1 h1 => ⟨rfl, ?_⟩⟩⟩
    have s1 : Same H H1 := fun b o e => b1 _ _ (by rw [upd_ne (ne_of_none e hr1), upd_ne (ne_of_none e hdr)]; exact e) (ne_of_none e hr1)
    refine ⟨r, dr, _, rfl, h1, rfl, r, oc, B, d, l, rfl, ⟨dr, h1, s1.seq hoc⟩, hB, hread, okl, fun H2 t D vs b2 ht hD hDv hvs => ?_⟩
    have s2 : Same H H2 := fun b o e => b2 _ _ (s1 b o e) (ne_of_none e hr1)
    have hD0 : H D = none := s1.free hD
    have hvl : vs.length = l.length := hvs.length
    refine ⟨t, _, rfl, ht, rfl, _, _, rfl, _, _, rfl, rfl, ?_⟩
    refine ⟨_, rfl, .inl ⟨rfl, _, SqL.of hDv⟩, fun a ha => ⟨(by show 1 ≤ sizeLine; decide), fun q hq => ?_⟩⟩
    have s3 : Same H2 (upd H2 q (.lst [.ref a])) := (Same.refl H2).new hq
    have hq3 : (upd H2 q (.lst [.ref a])) q = some (.lst [.ref a]) := upd_same
    generalize upd H2 q (.lst [.ref a]) = H3 at s3 hq3
    refine ⟨_, rfl, D, _, rfl, .inl (SqL.of (s3 _ _ hDv)), _, _, rfl, rfl, ?_⟩
    refine ⟨q, 3 - (vs.length : Int), [.ref a], rfl, rfl, hq3, by omega, by omega, ?_, fun w3 hw3 => ?_⟩
    · show 1 * (3 - (vs.length : Int)).toNat ≤ sizeLine
      exact small_line (by omega)
    have ek : (List.replicate (3 - (vs.length : Int)).toNat [V.ref a]).flatten = List.replicate (3 - l.length) (V.ref a) := by
      rw [flat_one]
      congr 1
      omega
    rw [ek]
    have s4 : Same H3 (upd H3 w3 (.lst (List.replicate (3 - l.length) (V.ref a)))) := (Same.refl H3).new hw3
    have hw4 : (upd H3 w3 (.lst (List.replicate (3 - l.length) (V.ref a)))) w3 = some (.lst (List.replicate (3 - l.length) (V.ref a))) := upd_same
    generalize upd H3 w3 (.lst (List.replicate (3 - l.length) (V.ref a))) = H4 at s4 hw4
    have hD4 : H4 D = some (.lst vs) := s4 _ _ (s3 _ _ hDv)
    refine ⟨D, w3, vs, _, rfl, rfl, hD4, hw4, by rw [List.length_replicate]; exact small_line (by omega), ?_⟩
    have s5 : Same H (upd H4 D (.lst (vs ++ List.replicate (3 - l.length) (V.ref a)))) := (s2.trans (s3.trans s4)).put hD0
    have mv : Moves NF NF K H4 (upd H4 D (.lst (vs ++ List.replicate (3 - l.length) (V.ref a)))) := Moves.put hD4 fun _ z => z.elim
    obtain ⟨x0, x1, x2, ex, g0, g1, g2⟩ := padded (ValsAt.move mv _ _ (hvs.same (s3.trans s4))) okl hl3 (ha _)
    have hgiv : GivenAt K (upd H4 D (.lst (vs ++ List.replicate (3 - l.length) (V.ref a)))) D (argV l 0) (argV l 1) (argV l 2) := ⟨x0, x1, x2, SqL.of (by rw [upd_same, ex]), g0, g1, g2⟩
    generalize upd H4 D (.lst (vs ++ List.replicate (3 - l.length) (V.ref a))) = H5 at s5 hgiv
    refine ⟨(by show 1 ≤ sizeLine; decide), fun z hz => ?_⟩
    have s6 : Same H5 (upd H5 z (.lst [.int 0])) := (Same.refl H5).new hz
    have hz6 : (upd H5 z (.lst [.int 0])) z = some (.lst [.int 0]) := upd_same
    generalize upd H5 z (.lst [.int 0]) = H6 at s6 hz6
    have s06 : Same H H6 := s5.trans s6
    have hlib6 := hlib.same s06
    obtain ⟨x0, x1, x2, hg5, g0, g1, g2⟩ := hgiv
    obtain ⟨dxl, _, _, _, _, hl6, _⟩ := id hlib6
    refine ⟨_, rfl, lb, dxl, _, rfl, hl6, rfl, _, rfl, _, rfl, lb, D, d, _, _, _, W, c, rfl, hlib6, ⟨x0, x1, x2, s6.seq hg5, ⟨g0.1.same s6, g0.2⟩, ⟨g1.1.same s6, g1.2⟩, ⟨g2.1.same s6, g2.2⟩⟩, hcall, hwith, fun p hp H7 x N keep hlib7 hx => ?_, fun e he hst => ?_⟩
    · rw [hp] at htell hlen k
      have htell : (Rust.narrow p && RWire.writable (given p)) = true := htell
      rw [Bool.and_eq_true] at htell
      have hw := htell.2
      unfold RWire.writable at hw
      rw [Bool.and_eq_true, decide_eq_true_eq] at hw
      have hlen : (0 :: RWire.write (given p)).length ≤ 100000 := hlen
      rw [List.length_cons] at hlen
      refine ⟨N, x, given p, rfl, hx, hw.2, hw.1, by omega, fun H8 y s8 _ hy => ?_⟩
      have hz7 := keep z _ hz6 (fun _ _ _ z => by cases z) (fun _ z => by cases z)
      refine ⟨z, y, _, _, rfl, rfl, s8 _ _ hz7, hy, ?_, fun u hu => ?_⟩
      · rw [List.length_map]
        show 1 + _ ≤ sizeLine
        exact small_line (by omega)
      have s9 := s8.new hu (o := .lst ([.int 0] ++ (RWire.write (given p)).map ov))
      refine k _ u ((Keep.of s06).trans (keep.trans (Keep.of s9))) (fun b xs hb e => ?_) (hlib7.same s9) ?_
      · have := s8 _ _ (keep b _ (s06 _ _ hb) (fun _ _ _ z => by cases z) (fun _ z => by cases z))
        rw [← e, hu] at this
        cases this
      · rw [upd_same]
        rfl
    · rw [he] at htell hlen k
      rw [hst] at k
      intro H7 dd m s7 hd7 hm
      refine ⟨true, T.Refused.te, fun _ ex hex => ?_, fun hb => by cases hb⟩
      obtain ⟨hma, hms, hmt⟩ := hm
      obtain ⟨fu, hxd, hfu⟩ := hd7
      have htl : (txt m).length ≤ 1000 := by
        unfold txt
        rw [List.length_map, Array.length_toList]
        exact hms
      refine ⟨_, rfl, rfl, rfl, dd, _, _, rfl, hxd, rfl, m, rfl, hma, hms, fun H8 p8 s8 h8 => ⟨p8, _, rfl, .inr h8, fun l1 hl1 => ?_⟩⟩
      have s9 : Same H8 (upd H8 l1 (.lst ((txt m).map ov))) := (Same.refl H8).new hl1
      have h9 : (upd H8 l1 (.lst ((txt m).map ov))) l1 = some (.lst ((txt m).map ov)) := upd_same
      generalize upd H8 l1 (.lst ((txt m).map ov)) = H9 at s9 h9
      have s79 : Same H7 H9 := s8.trans s9
      refine ⟨_, rfl, rfl, rfl, dd, _, _, rfl, s79 _ _ hxd, rfl, fu, _, rfl, .inr (s79.tup hfu), fun l2 hl2 => ?_⟩
      have s10 : Same H9 (upd H9 l2 (.lst [])) := (Same.refl H9).new hl2
      refine ⟨l1, l2, _, _, rfl, rfl, s10 _ _ h9, upd_same, ?_, fun msg hmsg => ?_⟩
      · rw [List.length_map]
        exact small_line (by show (txt m).length + 0 ≤ _; omega)
      rw [List.append_nil]
      have s11 : Same H9 (upd (upd H9 l2 (.lst [])) msg (.lst ((txt m).map ov))) := s10.new hmsg
      have h11 : (upd (upd H9 l2 (.lst [])) msg (.lst ((txt m).map ov))) msg = some (.lst ((txt m).map ov)) := upd_same
      generalize upd (upd H9 l2 (.lst [])) msg (.lst ((txt m).map ov)) = H11 at s11 h11
      refine ⟨_, rfl, rfl, rfl, dd, _, _, rfl, (s79.trans s11) _ _ hxd, rfl, (by show 2 ≤ sizeLine; decide), fun u hu => ?_⟩
      have s12 : Same H11 (upd H11 u (.lst [.int 1, .int (Rust.classOf e.cls : Nat)])) := (Same.refl H11).new hu
      have h12 : (upd H11 u (.lst [.int 1, .int (Rust.classOf e.cls : Nat)])) u = some (.lst [.int 1, .int (Rust.classOf e.cls : Nat)]) := upd_same
      generalize upd H11 u (.lst [.int 1, .int (Rust.classOf e.cls : Nat)]) = H12 at s12 h12
      refine ⟨_, rfl, msg, _, rfl, .inl (SqL.of (s12 _ _ h11)), ((txt m).map ov).length, 4, rfl, by decide, fun H13 y s13 _ hy => ?_⟩
      rw [List.length_map] at hy
      refine ⟨u, y, _, _, rfl, rfl, s13 _ _ h12, hy, ?_, fun w2 hw2 => ?_⟩
      · rw [List.length_map, low_len]
        show 2 + 4 ≤ sizeLine
        decide
      have s14 := s13.new hw2 (o := .lst ([.int 1, .int (Rust.classOf e.cls : Nat)] ++ (RWire.low 4 (txt m).length).map ov))
      refine ⟨_, rfl, w2, msg, _, _, rfl, rfl, upd_same, (s12.trans s14) _ _ h11, ?_, fun z2 hz2 => ?_⟩
      · rw [List.length_append, List.length_map, List.length_map, low_len]
        exact small_line (by show 2 + 4 + (txt m).length ≤ _; omega)
      have s15 := s14.new hz2 (o := .lst ([.int 1, .int (Rust.classOf e.cls : Nat)] ++ (RWire.low 4 (txt m).length).map ov ++ (txt m).map ov))
      have sfin : Same H (upd _ z2 (.lst ([.int 1, .int (Rust.classOf e.cls : Nat)] ++ (RWire.low 4 (txt m).length).map ov ++ (txt m).map ov))) := s06.trans (s7.trans (s79.trans (s11.trans (s12.trans s15))))
      refine k _ z2 (Keep.of sfin) (fun b xs hb e => ?_) ?_ ?_
      · have := (s06.trans (s7.trans (s79.trans (s11.trans (s12.trans s14))))) _ _ hb
        rw [← e, hz2] at this
        cases this
      · obtain ⟨dx, ra, ea, Rk, Ek, h1, h2, h3, h4, h5, h6, h7, h8⟩ := hlib.same sfin
        exact ⟨dx, ra, ea, Rk, Ek, h1, h2, h3, h4, h5, h6, Nat.le_succ_of_le h7, Nat.le_succ_of_le h8⟩
      · rw [upd_same]
        show _ = some (HO.lst ((1 :: UInt8.ofNat (Rust.classOf e.cls) :: (RWire.low 4 (e.msg.map Rust.octetOf).length ++ e.msg.map Rust.octetOf)).map ov))
        rw [← hmt, List.map_cons, List.map_cons, ov_small (cls_small e), List.map_append]
        rfl
end
end Sw
set_option Elab.async false
set_option linter.all false
set_option maxRecDepth 100000
set_option maxHeartbeats 4000000
/-! Separating words: calls in one list: plain lists alone. -/
namespace Sw
/-- a list reads as these calls -/
def Reads : List Int → List (List Int) → Prop
  | l, [] => l = []
  | l, x :: xs => ∃ r, l = 0 :: (x.length : Int) :: (x ++ r) ∧ Reads r xs
theorem row_some {l : List Int} {p : List Int × List Int} (h : PyFlat.row l = some p) : l = (p.1.length : Int) :: (p.1 ++ p.2) := by
  unfold PyFlat.row at h
  split at h
  · cases h
  · rename_i n r
    by_cases c : 0 ≤ n ∧ n.toNat ≤ r.length
    · rw [if_pos c] at h
      injection h with h
      subst h
      have e : (r.take n.toNat).length = n.toNat := by
        rw [List.length_take]
        omega
      show n :: r = ((r.take n.toNat).length : Int) :: (r.take n.toNat ++ r.drop n.toNat)
      rw [e, List.take_append_drop]
      congr 1
      omega
    · rw [if_neg c] at h
      cases h
theorem call_some {l : List Int} {p : List (List Int) × List Int} (h : PyFlat.call PyZr13.shape l = some p) : ∃ x, p.1 = [[0], x] ∧ l = 0 :: (x.length : Int) :: (x ++ p.2) := by
  unfold PyFlat.call at h
  split at h
  · cases h
  · rename_i n r
    unfold PyZr13.shape at h
    by_cases c : n = 0
    · rw [if_pos c] at h
      subst c
      simp only [Nat.not_lt_zero, if_false, List.drop_zero, List.take_zero] at h
      unfold PyFlat.rows at h
      cases e : PyFlat.row r with
      | none => rw [e] at h; cases h
      | some q =>
        rw [e] at h
        simp only [PyFlat.rows] at h
        injection h with h
        subst h
        exact ⟨q.1, rfl, by rw [← row_some e]⟩
    · rw [if_neg c] at h
      cases h
theorem calls_some : ∀ {f : Nat} {l : List Int} {cs : List (List (List Int))}, PyFlat.calls PyZr13.shape f l = some cs → ∃ xs, cs = xs.map (fun x => [[0], x]) ∧ Reads l xs
  | f, [], cs, h => by
    unfold PyFlat.calls at h
    injection h with h
    exact ⟨[], h.symm, rfl⟩
  | 0, _ :: _, cs, h => by
    unfold PyFlat.calls at h
    cases h
  | f + 1, n :: r, cs, h => by
    unfold PyFlat.calls at h
    cases e : PyFlat.call PyZr13.shape (n :: r) with
    | none => rw [e] at h; cases h
    | some q =>
      rw [e] at h
      simp only [] at h
      cases e2 : PyFlat.calls PyZr13.shape f q.2 with
      | none => rw [e2] at h; cases h
      | some q2 =>
        rw [e2] at h
        injection h with h
        obtain ⟨xs, h1, h2⟩ := calls_some e2
        obtain ⟨x, h3, h4⟩ := call_some e
        exact ⟨x :: xs, by rw [← h, h1, h3]; rfl, _, h4, h2⟩
/-- what is told of these calls -/
def flat (W : R7291g.Spec.World) (xs : List (List Int)) : List Int := PyFlat.told (PyFlat.played (fun s c => Zr13Neutral.step s (c.headD [])) W (xs.map fun x => [x]))
theorem flat_nil (W : R7291g.Spec.World) : flat W [] = [] := rfl
theorem flat_cons (W : R7291g.Spec.World) (x : List Int) (xs : List (List Int)) : flat W (x :: xs) = ((Rust.step W (Zr13Neutral.bytesOf x)).2.length : Int) :: (Zr13Neutral.numbersOf (Rust.step W (Zr13Neutral.bytesOf x)).2 ++ flat (Rust.step W (Zr13Neutral.bytesOf x)).1 xs) := by
  have e : ((Zr13Neutral.numbersOf (Rust.step W (Zr13Neutral.bytesOf x)).2).length : Int) = ((Rust.step W (Zr13Neutral.bytesOf x)).2.length : Int) := by
    rw [Zr13Neutral.numbersOf, List.length_map]
  rw [← e]
  rfl
/-- the bytes of a call are its numbers -/
theorem bytes_ov {x : List Int} (h : NeutralIO.bytes x = true) : (Zr13Neutral.bytesOf x).map ov = x.map L2.V.int := by
  unfold Zr13Neutral.bytesOf
  rw [List.map_map]
  refine List.map_congr_left fun n hn => ?_
  have := List.all_eq_true.mp h n hn
  rw [Bool.and_eq_true, decide_eq_true_eq, decide_eq_true_eq] at this
  show ov (UInt8.ofNat n.toNat) = _
  show L2.V.int (((UInt8.ofNat n.toNat).toNat : Nat) : Int) = _
  congr 1
  rw [UInt8.toNat_ofNat', Nat.mod_eq_of_lt (by omega)]
  omega
theorem numbers_ov (l : List UInt8) : (Zr13Neutral.numbersOf l).map L2.V.int = l.map ov := by
  unfold Zr13Neutral.numbersOf
  rw [List.map_map]
  rfl
/-- calls that go -/
structure Goes (W : R7291g.Spec.World) (left : Nat) (xs : List (List Int)) : Prop where
  go : Rust.goes W left (xs.map Zr13Neutral.bytesOf) = true
  by_ : ∀ x ∈ xs, NeutralIO.bytes x = true
  le : ∀ x ∈ xs, x.length ≤ 60000
theorem Goes.cons {W : R7291g.Spec.World} {left : Nat} {x : List Int} {xs : List (List Int)} (h : Goes W left (x :: xs)) : ∃ (c : R7291g.Spec.Call), Rust.asked (Zr13Neutral.bytesOf x) = some c ∧ Rust.canBe W c = true ∧ Rust.tellable (R7291g.Spec.step W c).2 = true ∧
    Rust.step W (Zr13Neutral.bytesOf x) = ((R7291g.Spec.step W c).1, RWire.writeAnswer (Rust.answerOf (R7291g.Spec.step W c).2)) ∧
    (RWire.writeAnswer (Rust.answerOf (R7291g.Spec.step W c).2)).length ≤ 65536 ∧ (RWire.writeAnswer (Rust.answerOf (R7291g.Spec.step W c).2)).length ≤ left ∧
    Goes (R7291g.Spec.step W c).1 (left - (RWire.writeAnswer (Rust.answerOf (R7291g.Spec.step W c).2)).length) xs := by
  have g := h.go
  rw [List.map_cons] at g
  unfold Rust.goes at g
  cases e : Rust.asked (Zr13Neutral.bytesOf x) with
  | none => rw [e] at g; cases g
  | some c =>
    rw [e] at g
    have g : (Rust.canBe W c && Rust.tellable (R7291g.Spec.step W c).2 && Nat.ble (Rust.step W (Zr13Neutral.bytesOf x)).2.length Rust.A && Nat.ble (Rust.step W (Zr13Neutral.bytesOf x)).2.length left && Rust.goes (R7291g.Spec.step W c).1 (left - (Rust.step W (Zr13Neutral.bytesOf x)).2.length) (xs.map Zr13Neutral.bytesOf)) = true := g
    simp only [Bool.and_eq_true] at g
    obtain ⟨⟨⟨⟨g1, g2⟩, g3⟩, g4⟩, g5⟩ := g
    have es : Rust.step W (Zr13Neutral.bytesOf x) = ((R7291g.Spec.step W c).1, RWire.writeAnswer (Rust.answerOf (R7291g.Spec.step W c).2)) := by
      unfold Rust.step
      rw [e]
      show (if Rust.canBe W c then _ else _) = _
      rw [if_pos g1]
    rw [es] at g3 g4 g5
    exact ⟨c, rfl, g1, g2, es, Nat.le_of_ble_eq_true g3, Nat.le_of_ble_eq_true g4, g5, fun y hy => h.by_ y (List.mem_cons_of_mem _ hy), fun y hy => h.le y (List.mem_cons_of_mem _ hy)⟩
/-- what is asked -/
theorem answers_are {ns : List Int} (h : PyZr13.answers_asked ns = true) : ∃ xs, Reads ns xs ∧ xs.length ≤ 200 ∧ Goes R7291g.Spec.World.start 4000000 xs ∧ PyZr13.answers ns = flat R7291g.Spec.World.start xs := by
  unfold PyZr13.answers_asked at h
  cases e : PyZr13.calls ns with
  | none => rw [e] at h; cases h
  | some cs =>
    rw [e] at h
    have h : (PyFlat.atMost 200 cs && Zr13Neutral.asked (cs.map fun c => c.headD []) && PyFlat.short 10000000 (PyZr13.answers ns)) = true := h
    rw [Bool.and_eq_true, Bool.and_eq_true] at h
    obtain ⟨⟨h1, h2⟩, _⟩ := h
    have e' := e
    unfold PyZr13.calls at e'
    cases e2 : PyFlat.calls PyZr13.shape ns.length ns with
    | none => rw [e2] at e'; cases e'
    | some cs' =>
      rw [e2] at e'
      injection e' with e'
      obtain ⟨xs, h3, h4⟩ := calls_some e2
      have hcs : cs = xs.map fun x => [x] := by
        rw [← e', h3, List.map_map]
        rfl
      have hh : (cs.map fun c => c.headD []) = xs := by
        rw [hcs, List.map_map]
        exact (List.map_congr_left fun _ _ => rfl).trans (List.map_id _)
      rw [hh] at h2
      unfold Zr13Neutral.asked at h2
      rw [Bool.and_eq_true, Bool.and_eq_true] at h2
      obtain ⟨h5, _, h6⟩ := h2
      unfold Rust.fits at h6
      simp only [Bool.and_eq_true] at h6
      obtain ⟨⟨⟨h7, h8⟩, _⟩, h9⟩ := h6
      refine ⟨xs, h4, ?_, ⟨h9, fun x hx => List.all_eq_true.mp h5 x hx, fun x hx => ?_⟩, ?_⟩
      · have := Nat.le_of_ble_eq_true h7
        rw [List.length_map] at this
        exact this
      · have := Nat.le_of_ble_eq_true (List.all_eq_true.mp h8 _ (List.mem_map_of_mem hx))
        rw [Zr13Neutral.bytesOf, List.length_map] at this
        exact this
      · unfold PyZr13.answers
        rw [e, hcs]
        rfl
end Sw
set_option Elab.async false
set_option linter.all false
set_option maxRecDepth 100000
set_option maxHeartbeats 4000000
/-! Separating words: the calls, one by one. -/
namespace Sw
open PySem PySem.Spec PyProof.Rows L2
section
variable {P : Program} {w : World} {K : PySem.W.Frag} {mg : Str → Option PySem.Value} {base : Heap} {A : Ad}
theorem slots_none {α : Type} (f : Addr → α → Prop) : Slots f [] (List.replicate 3 none) :=
  { get := fun p x e => by
      rw [List.getD_eq_getElem?_getD, List.getElem?_replicate] at e
      split at e <;> cases e
    inj := fun p q r e _ => by cases e
    old := fun p v e => by cases e
    len := rfl }
theorem rdKeep {H H' : Hp} {a : Addr} {xs : List V} (k : Keep H H') (h : Rd H a (.lst xs)) : Rd H' a (.lst xs) := by
  rcases h with h | ⟨o, h⟩
  · exact .inl (k _ _ h (fun _ _ _ z => by cases z) fun _ z => by cases z)
  · exact .inr ⟨o, k _ _ h (fun _ _ _ z => by cases z) fun _ z => by cases z⟩
theorem rdPut {H : Hp} {a F : Addr} {xs : List V} {o : HO} (n : a ≠ F) (h : Rd H a (.lst xs)) : Rd (upd H F o) a (.lst xs) := by
  rcases h with h | ⟨o, h⟩
  · exact .inl (by rw [upd_ne n]; exact h)
  · exact .inr ⟨o, by rw [upd_ne n]; exact h⟩
theorem rdNe {H : Hp} {a F : Addr} {xs : List V} (h : Rd H a (.lst xs)) (hF : H F = none) : a ≠ F := by
  rcases h with h | ⟨o, h⟩ <;> exact ne_of_none h hF
/-- the heap without what stands at F -/
def cutH (H : Hp) (F : Addr) : Hp := fun b => if b = F then none else H b
theorem cutH_ne {H : Hp} {F b : Addr} (h : b ≠ F) : cutH H F b = H b := if_neg h
theorem cutH_same {H : Hp} {F : Addr} {o : HO} : Same (cutH H F) (upd H F o) := fun b u e => by
  by_cases h : b = F
  · rw [cutH, if_pos h] at e
    cases e
  · rw [cutH_ne h] at e
    rw [upd_ne h]
    exact e
theorem cutH_sqL {H : Hp} {F a : Addr} {od : Obj} {xs ds : List V} (hF : H F = some (.frz od (.lst ds))) (hx : xs ≠ ds) (h : SqL K H a xs) : SqL K (cutH H F) a xs := by
  rcases h with (h | ⟨o, h⟩) | h
  · exact .inl (.inl (by rw [cutH_ne (ne_of h hF (fun z => by cases z))]; exact h))
  · refine .inl (.inr ⟨o, ?_⟩)
    rw [cutH_ne fun z => ?_]
    · exact h
    · rw [z, hF] at h
      injection h with h
      injection h with h1 h2
      injection h2 with h2
      exact hx h2.symm
  · exact .inr h
theorem cutH_sqT {H : Hp} {F a : Addr} {od : Obj} {xs ds : List V} (hF : H F = some (.frz od (.lst ds))) (h : SqT K H a xs) : SqT K (cutH H F) a xs := by
  rcases h with (h | ⟨o, h⟩) | h
  · exact .inl (.inl (by rw [cutH_ne (ne_of h hF (fun z => by cases z))]; exact h))
  · exact .inl (.inr ⟨o, by rw [cutH_ne (ne_of h hF (fun z => by cases z))]; exact h⟩)
  · exact .inr h
theorem cutH_run {H : Hp} {F r : Addr} {od : Obj} {ns : List Int} {R : R7291g.Spec.Run} (hF : H F = some (.frz od (.lst (ns.map V.int)))) (hn : ns.length ≠ 2) (h : RunAt K A H r R) : RunAt K A (cutH H F) r R := by
  obtain ⟨dx, ta, la, st, ov, ls, h0, ⟨rs, g1, g2⟩, htt, t1, hla, hl2, h30, rel⟩ := h
  refine ⟨dx, ta, la, st, ov, ls, by rw [cutH_ne (ne_of h0 hF (fun z => by cases z))]; exact h0, ⟨rs, cutH_sqL hF (fun z => ?_) g1, Paired.mapP g2 fun _ _ g => cutH_sqL hF (fun z => ?_) g⟩, htt, t1, by rw [cutH_ne (ne_of hla hF (fun z => by cases z))]; exact hla, hl2, h30, rel⟩
  · have := Paired.length g2
    cases rs with
    | nil => simp at this; omega
    | cons q qs =>
      cases ns with
      | nil => cases z
      | cons n m => cases z
  · have := congrArg List.length z
    rw [List.length_map] at this
    exact hn this.symm
theorem cutH_enu {H : Hp} {F r : Addr} {od : Obj} {ds : List V} {S : R7291g.Spec.Enumerator} (hF : H F = some (.frz od (.lst ds))) (h : EnuAt K A H r S) : EnuAt K A (cutH H F) r S := by
  obtain ⟨ra, dx, lv, ov, h1, ⟨ps, g1, g2⟩, h3, h4⟩ := h
  refine ⟨ra, dx, lv, ov, by rw [cutH_ne (ne_of h1 hF (fun z => by cases z))]; exact h1, ⟨ps, by rw [cutH_ne (ne_of g1 hF (fun z => by cases z))]; exact g1, Paired.mapP g2 fun _ _ ⟨b, x, y⟩ => ⟨b, cutH_sqT hF x, cutH_sqT hF y⟩⟩, h3, ?_⟩
  cases hs : S.state with
  | finished => rw [hs] at h4; exact h4
  | notStarted => rw [hs] at h4; exact h4
  | running u =>
    rw [hs] at h4
    obtain ⟨⟨la, wd, e, hl, hw⟩, ho⟩ := h4
    exact ⟨⟨la, wd, e, cutH_sqT hF hl, hw⟩, ho⟩
theorem cutH_lib {H : Hp} {F lb : Addr} {od : Obj} {ns : List Int} {W : R7291g.Spec.World} (hF : H F = some (.frz od (.lst (ns.map V.int)))) (hn : ns.length ≠ 2) (h : LibAt K A H lb W) : LibAt K A (cutH H F) lb W := by
  obtain ⟨dx, ra, ea, Rk, Ek, h1, h2, h3, h4, h5, h6, h7, h8⟩ := h
  exact ⟨dx, ra, ea, Rk, Ek, by rw [cutH_ne (ne_of h1 hF (fun z => by cases z))]; exact h1, h2, by rw [cutH_ne (ne_of h3 hF (fun z => by cases z))]; exact h3, by rw [cutH_ne (ne_of h4 hF (fun z => by cases z))]; exact h4,
    h5.mono fun _ _ z => cutH_run hF hn z, h6.mono fun _ _ z => cutH_enu hF z, h7, h8⟩
theorem write_ne (v : RWire.Value) : 1 ≤ (RWire.write v).length := by
  cases v <;> (unfold RWire.write; simp)
theorem answer_len (e : R7291g.Spec.Ans) : 2 ≤ (RWire.writeAnswer (Rust.answerOf e)).length := by
  cases e with
  | ret p =>
    show 2 ≤ (0 :: RWire.write (Rust.given p)).length
    have := write_ne (Rust.given p)
    rw [List.length_cons]
    omega
  | fail e =>
    show 2 ≤ (1 :: UInt8.ofNat (Rust.classOf e.cls) :: RWire.writeText (e.msg.map Rust.octetOf)).length
    rw [List.length_cons, List.length_cons]
    omega
/-- answers(calls) -/
def spAns (K : PySem.W.Frag) : Sp := fun vs H Q _ => ∃ (a : Addr) (ns : List Int), vs = [.ref a] ∧ SqL K H a (ns.map V.int) ∧ PyZr13.answers_asked ns = true ∧ ns.length ≤ 61000 ∧
  ∀ H' p, H' p = some (.lst ((PyZr13.answers ns).map V.int)) → Q (.ref p) H'
theorem ok_answers (T : Txt K mg A) {f : Addr} {fd : FuncData} (F : Fun K "answers" "answers" s_answers f fd) : FnOk P w K mg base CX0 39 f fd ["calls"] (spAns K) := by
  have C_Library := C_Library (P := P) (w := w) (base := base) T
  have c_answered := c_answered (P := P) (w := w) (base := base) T
  refine F.ok sc_answers (fun vs H Q E h => ?_) (fun cdv A2 outer s H vs Q E hr h => ?_)
  · obtain ⟨_, _, rfl, _⟩ := h
    rfl
  · obtain ⟨a, ns, rfl, ha, hask, hlen, k⟩ := h
    refine ⟨_, (pss_cons (ps_set (i := 1) sc_answers.nd rfl (Or.inl rfl) (pe_mk0 C_Library hr rfl))
      (pss_cons (ps_set (i := 2) sc_answers.nd rfl (Or.inl rfl) (pe_lst pa_nil))
      (pss_cons (ps_set (i := 3) sc_answers.nd rfl (Or.inl rfl) pe_int)
      (pss_cons (ps_while PassesOwn.never (pt_cmpR op_lt (pv 3) (pe_callB (lenQ K) rfl T.len PySem.boot_len (pa_cons (pv 0) pa_nil)) (nomark _))
       (pss_cons (ps_set (i := 4) sc_answers.nd rfl (Or.inl rfl) (pe_ix (ixl K) (pv 0) (pe_op op_add (pv 3) pe_int) (fun _ _ => rfl)))
        (pss_cons (ps_lock (ps_set (i := 5) sc_answers.nd rfl (Or.inl rfl) (pe_d c_answered hr rfl (pa_cons (pv 1) (pa_cons (pe_callTy call_list_of rfl T.list (by decide +kernel) (pa_cons (pe_slice sl_list (pv 0) (po_some (pe_op op_add (pv 3) pe_int)) (po_some (pe_op op_add (pe_op op_add (pv 3) pe_int) (pv 4)))) pa_nil)) pa_nil)))))
        (pss_cons (ps_aug (i := 3) sc_answers.nd rfl (Or.inl rfl) (pe_op op_add pe_int (pv 4)) ip_add)
        (pss_cons (ps_expr (pe_bm PySem.F.plainAttrs_list PySem.F.slot_list_append PySem.F.type_list_append mt_append (pv 2) (pa_cons (pe_callB (lenQ K) rfl T.len PySem.boot_len (pa_cons (pv 5) pa_nil)) pa_nil)))
        (pss_one (ps_expr (pe_bm PySem.F.plainAttrs_list PySem.F.slot_list_extend PySem.F.type_list_extend mt_extend (pv 2) (pa_cons (pv 5) pa_nil)))))))))
      (pss_one (ps_ret (pv 2))))))), ?_⟩
    obtain ⟨xs, hreads, hxs, hgoes, hans⟩ := answers_are hask
    refine fun lb dx h1 hdx ne => ⟨lb, dx, rfl, upd_same, fun H2 ra ea b2 hl2 hra hea nre hra2 hea2 => ?_⟩
    have hC : ∃ C : Prop, (∀ H', C → SqL K H' a (ns.map V.int)) ∧ (C ∨ Rd H a (.lst (ns.map V.int))) := by
      rcases ha with h | h
      · exact ⟨False, fun _ z => z.elim, .inr h⟩
      · exact ⟨True, fun _ _ => .inr h, .inl trivial⟩
    obtain ⟨C, hC, hA⟩ := hC
    refine ⟨rfl, Nat.zero_le _, fun F hF => ?_⟩
    have n1 : lb ≠ F := fun z => by rw [← z, hl2] at hF; cases hF
    have n2 : ra ≠ F := fun z => by rw [← z, hra2] at hF; cases hF
    have n3 : ea ≠ F := fun z => by rw [← z, hea2] at hF; cases hF
    have hA3 : C ∨ (Rd (upd H2 F (.lst [])) a (.lst (ns.map V.int)) ∧ a ≠ F) := by
      rcases hA with h | h
      · exact .inl h
      · have h2 : Rd H2 a (.lst (ns.map V.int)) := rdKeep (fun b o e _ _ => b2 _ _ (by rw [upd_ne (ne_of_none e h1), upd_ne (ne_of_none e hdx)]; exact e) (ne_of_none e h1)) h
        have nF := rdNe h2 hF
        exact .inr ⟨rdPut nF h2, nF⟩
    have cut2 : cutH (upd H2 F (.lst [])) F = cutH H2 F := by
      funext b
      by_cases h : b = F
      · rw [h, cutH, cutH, if_pos rfl, if_pos rfl]
      · rw [cutH_ne h, cutH_ne h, upd_ne h]
    refine while_of (fun m σ H' => ∃ (y4 y5 : Option V) (at_ : Nat) (xs : List (List Int)) (W : R7291g.Spec.World) (left : Nat) (done : List Int), σ = [some (.ref a), some (.ref lb), some (.ref F), some (nv at_), y4, y5] ∧ Reads (ns.drop at_) xs ∧ at_ ≤ ns.length ∧ Goes W left xs ∧ LibAt K A (cutH H' F) lb W ∧
      (C ∨ (Rd H' a (.lst (ns.map V.int)) ∧ a ≠ F)) ∧ H' F = some (.lst (done.map V.int)) ∧ done.length ≠ 2 ∧ PyZr13.answers ns = done ++ flat W xs ∧ done.length + left + xs.length ≤ 4000200 ∧ m = xs.length)
      xs.length ⟨none, none, 0, xs, _, 4000000, [], rfl, hreads, Nat.zero_le _, hgoes, (by rw [cut2]; exact ⟨dx, ra, ea, [], [], (by rw [cutH_ne n1]; exact hl2), nre, (by rw [cutH_ne n2]; exact hra2), (by rw [cutH_ne n3]; exact hea2), slots_none _, slots_none _, Nat.le_refl _, Nat.le_refl _⟩), hA3, upd_same, by decide, hans, by show 0 + 4000000 + _ ≤ _; omega, rfl⟩ ?_ ?_
    · rintro m σ H1 ⟨y4, y5, at_, xs, W, left, done, rfl, hr, hat, hg, hlib, hA1, hF1, hd2, hd, hl, rfl⟩
      have hS : SqL K H1 a (ns.map V.int) := hA1.elim (hC _) fun z => .inl z.1
      refine ⟨_, rfl, _, rfl, a, _, rfl, .inl hS, _, _, rfl, rfl, _, rfl, ?_⟩
      rw [List.length_map]
      cases xs with
      | nil =>
        have hr : ns.drop at_ = [] := hr
        have : ¬ at_ < ns.length := by
          have := congrArg List.length hr
          rw [List.length_drop] at this
          simp at this
          omega
        rw [decide_eq_false (by omega)]
        refine iteF ⟨_, rfl, k _ F ?_⟩
        rw [hF1, hd, flat_nil, List.append_nil]
      | cons x xs =>
        obtain ⟨r, hr1, hr2⟩ := (show ∃ r, ns.drop at_ = 0 :: (x.length : Int) :: (x ++ r) ∧ Reads r xs from hr)
        have hlt : at_ + 2 + x.length + r.length = ns.length := by
          have := congrArg List.length hr1
          rw [List.length_drop] at this
          simp at this
          omega
        have g1 : ns[at_ + 1]? = some (x.length : Int) := by
          rw [← List.getElem?_drop, hr1]
          rfl
        have e1 : (ns.drop (at_ + 2)).take x.length = x := by
          rw [← List.drop_drop, hr1]
          show (x ++ r).take x.length = x
          rw [List.take_left]
        have e2 : ns.drop (at_ + 2 + x.length) = r := by
          rw [← List.drop_drop, ← List.drop_drop, hr1]
          show (x ++ r).drop x.length = r
          rw [List.drop_left]
        rw [decide_eq_true (by omega)]
        refine iteT ?_
        obtain ⟨c, hasked, hcan, htell, hst, hA, hleft, hg2⟩ := hg.cons
        refine ⟨_, rfl, _, rfl, _, _, rfl, rfl, a, _, _, _, rfl, rfl, hS, at_of (j := at_ + 1) rfl (by rw [List.getElem?_map, g1]; rfl), ?_⟩
        refine ⟨F, _, hF1, trivial, fun od => ?_⟩
        have hLF : (upd H1 F (.frz od (.lst (done.map V.int)))) F = some (.frz od (.lst (done.map V.int))) := upd_same
        have hLlib : LibAt K A (upd H1 F (.frz od (.lst (done.map V.int)))) lb W := hlib.same cutH_same
        have hLA : C ∨ (Rd (upd H1 F (.frz od (.lst (done.map V.int)))) a (.lst (ns.map V.int)) ∧ a ≠ F) := hA1.imp id fun z => ⟨rdPut z.2 z.1, z.2⟩
        have hLe : ∀ q u, (upd H1 F (.frz od (.lst (done.map V.int)))) q = some u → q ≠ F → H1 q = some u := fun q u e n => by
          rw [upd_ne n] at e
          exact e
        generalize upd H1 F (.frz od (.lst (done.map V.int))) = HL at hLF hLlib hLA hLe
        have hLS : SqL K HL a (ns.map V.int) := hLA.elim (hC _) fun z => .inl z.1
        have ec : cutV (ns.map V.int) (some ((at_ : Int) + 2)) (some ((at_ : Int) + 2 + (x.length : Int))) = x.map V.int := by
          have a1 : (at_ : Int) + 2 = ((at_ + 2 : Nat) : Int) := by omega
          have a2 : (at_ : Int) + 2 + (x.length : Int) = ((at_ + 2 + x.length : Nat) : Int) := by omega
          rw [a2, a1, cutV_nat, ← List.map_drop, ← List.map_take]
          have a3 : at_ + 2 + x.length - (at_ + 2) = x.length := by omega
          rw [a3, e1]
        refine ⟨_, rfl, _, rfl, _, rfl, _, _, rfl, rfl, _, rfl, _, rfl, _, _, rfl, rfl, _, rfl, _, _, rfl, rfl, _, rfl, a, _, rfl, hLS, fun q hq => ⟨q, _, rfl, .inl (SqL.of upd_same), fun oc hoc => ?_⟩⟩
        have ec : cutV (ns.map V.int) (some ((at_ : Int) + 2)) (some ((at_ : Int) + 2 + (x.length : Int))) = x.map V.int := ec
        rw [ec] at hoc ⊢
        have sL := ((Same.refl HL).new hq (o := .lst (x.map V.int))).new hoc (o := .lst (x.map V.int))
        have hx60 : (Zr13Neutral.bytesOf x).length ≤ 100000 := by
          have := hg.le x (List.mem_cons_self ..)
          rw [Zr13Neutral.bytesOf, List.length_map]
          omega
        refine ⟨lb, oc, Zr13Neutral.bytesOf x, W, c, rfl, hLlib.same sL, SqL.of (by rw [upd_same, bytes_ov (hg.by_ x (List.mem_cons_self ..))]), hx60, hasked, hcan, htell, by omega, fun H3 p keep hp hlib3 hp3 => ?_⟩
        have hF3 : H3 F = some (.frz od (.lst (done.map V.int))) := keep _ _ (sL _ _ hLF) (fun _ _ _ z => by cases z) fun _ z => by cases z
        have npF : p ≠ F := ne_of hp3 hF3 (fun z => by cases z)
        have keepL : Keep HL H3 := (Keep.of sL).trans keep
        have hA3 : C ∨ (Rd H3 a (.lst (ns.map V.int)) ∧ a ≠ F) := hLA.imp id fun z => ⟨rdKeep keepL z.1, z.2⟩
        refine ⟨hF3, ?_⟩
        have ea : ((RWire.writeAnswer (Rust.answerOf (R7291g.Spec.step W c).2)).map ov) = (Zr13Neutral.numbersOf (Rust.step W (Zr13Neutral.bytesOf x)).2).map V.int := by
          rw [numbers_ov, hst]
        have hla : ((Zr13Neutral.numbersOf (Rust.step W (Zr13Neutral.bytesOf x)).2).map V.int).length = (RWire.writeAnswer (Rust.answerOf (R7291g.Spec.step W c).2)).length := by
          rw [← ea, List.length_map]
        have h2a := answer_len (R7291g.Spec.step W c).2
        rw [flat_cons] at hd
        rw [ea] at hp3
        have hp4 : (upd H3 F (.lst (done.map V.int))) p = some (.lst ((Zr13Neutral.numbersOf (Rust.step W (Zr13Neutral.bytesOf x)).2).map V.int)) := by
          rw [upd_ne npF]
          exact hp3
        have hl' : (x :: xs).length = xs.length + 1 := List.length_cons
        refine ⟨_, rfl, _, rfl, _, _, rfl, rfl, _, _, rfl, rfl, ?_⟩
        refine ⟨_, rfl, .inl ⟨rfl, _, SqL.of upd_same⟩, _, rfl, p, _, rfl, .inl (SqL.of hp4), F, _, _, rfl, rfl, upd_same, ?_, ?_⟩
        · rw [List.length_map, sizeLine_eq]
          omega
        refine ⟨_, rfl, .inl ⟨rfl, _, SqL.of upd_same⟩, _, rfl, F, p, _, _, rfl, rfl, upd_same, by rw [upd_ne npF]; exact hp4, ?_, ?_⟩
        · rw [hla, List.length_append, List.length_map, List.length_singleton, sizeLine_eq]
          omega
        rw [upd_upd, upd_upd]
        have eF : done.map V.int ++ [V.int ((((Zr13Neutral.numbersOf (Rust.step W (Zr13Neutral.bytesOf x)).2).map V.int).length : Nat) : Int)] ++ (Zr13Neutral.numbersOf (Rust.step W (Zr13Neutral.bytesOf x)).2).map V.int = (done ++ (((Rust.step W (Zr13Neutral.bytesOf x)).2.length : Int) :: Zr13Neutral.numbersOf (Rust.step W (Zr13Neutral.bytesOf x)).2)).map V.int := by
          rw [List.map_append, List.map_cons, List.append_assoc, List.length_map, Zr13Neutral.numbersOf, List.length_map]
          rfl
        rw [eF]
        refine ⟨_, (by show xs.length < (x :: xs).length; omega), some (nv x.length), some (.ref p), at_ + 2 + x.length, xs, (R7291g.Spec.step W c).1, left - (RWire.writeAnswer (Rust.answerOf (R7291g.Spec.step W c).2)).length, done ++ (((Rust.step W (Zr13Neutral.bytesOf x)).2.length : Int) :: Zr13Neutral.numbersOf (Rust.step W (Zr13Neutral.bytesOf x)).2), ?_, by rw [e2]; exact hr2, by omega, hg2, ?_, hA3.imp id (fun z => ⟨rdPut z.2 z.1, z.2⟩), upd_same, ?_, ?_, ?_, rfl⟩
        · have : V.int ((at_ : Int) + (2 + (x.length : Int))) = nv (at_ + 2 + x.length) := by
            show V.int _ = V.int _
            congr 1
            omega
          show [some (V.ref a), some (V.ref lb), some (V.ref F), some (V.int ((at_ : Int) + (2 + (x.length : Int)))), some (V.int (x.length : Int)), some (V.ref p)] = _
          rw [this]
        · have cut3 : ∀ o, cutH (upd H3 F o) F = cutH H3 F := fun o => by
            funext b
            by_cases h : b = F
            · rw [h, cutH, cutH, if_pos rfl, if_pos rfl]
            · rw [cutH_ne h, cutH_ne h, upd_ne h]
          rw [cut3]
          exact cutH_lib hF3 hd2 hlib3
        · rw [List.length_append, List.length_cons, Zr13Neutral.numbersOf, List.length_map, hst]
          show done.length + ((RWire.writeAnswer (Rust.answerOf (R7291g.Spec.step W c).2)).length + 1) ≠ 2
          omega
        · rw [hd, List.append_assoc, List.cons_append, hst]
        · rw [List.length_append, List.length_cons, Zr13Neutral.numbersOf, List.length_map, hst]
          show done.length + ((RWire.writeAnswer (Rust.answerOf (R7291g.Spec.step W c).2)).length + 1) + (left - (RWire.writeAnswer (Rust.answerOf (R7291g.Spec.step W c).2)).length) + xs.length ≤ 4000200
          omega
    · rintro σ H1 Q1 Q2 f ⟨v1, e1, v2, e2, b, ys, e3, h1, i, j, e4, e5, k2, e6, q⟩
      exact ⟨v1, e1, v2, e2, b, ys, e3, h1, i, j, e4, e5, k2, e6, f _ _ q⟩
end
end Sw
set_option Elab.async false
set_option linter.all false
set_option maxRecDepth 100000
set_option maxHeartbeats 4000000
/-! Separating words: the end: what the top has written, each a fact that k_is finds. -/
namespace Sw
open PySem PySem.Spec PyProof.Rows L2
/-- an error of the class at S is what its own except clause names -/
theorem exm_self {K : PySem.W.Frag} {S : Addr} (h1 : PySem.W.subIn K (.ref S) (.type "BaseException") = some true) (h2 : PySem.W.isClsIn K S = true) (h3 : PySem.W.typeIn K (.ref S) = some (.type "type")) (h4 : PySem.W.subIn K (.ref S) (.ref S) = some true) :
    PySem.W.exmOne K (.ref S) (.ref S) = some true := by
  have a1 : (PySem.W.subIn K (.ref S) (.type "BaseException") == some true) = true := by rw [h1]; rfl
  have h2' : (PySem.W.clsIn K S).isSome = true := h2
  have a2 : ((PySem.W.clsIn K S).isSome && PySem.W.typeIn K (.ref S) == some (.type "type")) = true := by rw [h2', h3]; rfl
  unfold PySem.W.exmOne PySem.W.kitCls
  simp only [a1, a2, if_true]
  exact h4
section
variable {K : PySem.W.Frag} {h : Heap} {mg : Str → Option Value} {f C : Addr} {x m qual : Str} {st : Stmt} {ps : List Str} {oc kV dc pm cd ct : Value} {od an : Option Addr} {sl : Array (Option Value)}
theorem int_mk {n : Int} {t : Nat} (X : K.In h) (G : h.Ns mainGlobals mg) (e : PySem.W.nsIn K mainGlobals x = some (some (.int n t))) : ∃ t, mg x = some (.int n t) := ⟨t, PySem.W.mg_of X G e⟩
theorem na_mk (e : PySem.W.findIn K (.ref C) m = some none) : NoAttr K C m := e
theorem tup_mk {a : Addr} {n : Int} {t k : Nat} (X : K.In h) (G : h.Ns mainGlobals mg) (e : PySem.W.nsIn K mainGlobals x = some (some (.ref a))) (l : K.lookup a = some ⟨.type "tuple", od, .seq #[.int n t] k, sl⟩) :
    ∃ a, mg x = some (.ref a) ∧ ∀ H' : Hp, SqT K H' a [.int n] :=
  ⟨a, PySem.W.mg_of X G e, fun _ => .inr ⟨_, _, _, l, rfl, rfl, by show 1 ≤ sizeLine; decide, .cons ⟨t, rfl⟩ .nil⟩⟩
theorem def_mk (X : K.In h) (G : h.Ns mainGlobals mg) (e : PySem.W.nsIn K mainGlobals x = some (some (.ref f)))
    (l : K.lookup f = some ⟨oc, od, .func (PySem.W.fnOf x x (defArgs st) (defBody st) (defScope st) .none kV dc pm an cd ct), sl⟩) (c : PySem.W.codeIn K cd x = true) (k : PySem.W.keepIn K (.ref f) = true)
    (b : Fun K x x st f (PySem.W.fnOf x x (defArgs st) (defBody st) (defScope st) .none kV dc pm an cd ct) → Binds K (PySem.W.fnOf x x (defArgs st) (defBody st) (defScope st) .none kV dc pm an cd ct) ps []) : DefT K mg x st ps :=
  ⟨_, _, fun_mk l c k, PySem.W.mg_of X G e, b (fun_mk l c k)⟩
theorem met_mk (e : PySem.W.findIn K (.ref C) m = some (some (.ref f))) (i : PySem.W.isFn K (.ref f) = true)
    (l : K.lookup f = some ⟨oc, od, .func (PySem.W.fnOf m qual (defArgs st) (defBody st) (defScope st) .none kV dc pm an cd ct), sl⟩) (c : PySem.W.codeIn K cd qual = true) (k : PySem.W.keepIn K (.ref f) = true)
    (b : Fun K m qual st f (PySem.W.fnOf m qual (defArgs st) (defBody st) (defScope st) .none kV dc pm an cd ct) → Binds K (PySem.W.fnOf m qual (defArgs st) (defBody st) (defScope st) .none kV dc pm an cd ct) ps []) : MetT K C m qual st ps :=
  ⟨_, _, fun_mk l c k, ⟨e, i, k⟩, b (fun_mk l c k)⟩
theorem mak_mk (pg : PySem.W.plainGet K C Str.empty = true) (hd : PySem.W.hasDictIn K C = true) (po : PySem.W.plainOver K C = true) (sa : PySem.W.findIn K (.ref C) "__setattr__" = some (some (.builtin "object.__setattr__"))) (mk : PySem.W.makesIn K C = true) (kc : PySem.W.keepIn K (.ref C) = true)
    (g : mg x = some (.ref C)) (e : PySem.W.findIn K (.ref C) "__init__" = some (some (.ref f))) (i : PySem.W.isFn K (.ref f) = true)
    (l : K.lookup f = some ⟨oc, od, .func (PySem.W.fnOf "__init__" qual (defArgs st) (defBody st) (defScope st) .none kV dc pm an cd ct), sl⟩) (c : PySem.W.codeIn K cd qual = true) (k : PySem.W.keepIn K (.ref f) = true)
    (b : Fun K "__init__" qual st f (PySem.W.fnOf "__init__" qual (defArgs st) (defBody st) (defScope st) .none kV dc pm an cd ct) → Binds K (PySem.W.fnOf "__init__" qual (defArgs st) (defBody st) (defScope st) .none kV dc pm an cd ct) ps []) : MakT K mg x C qual st ps :=
  ⟨⟨_, _, fun_mk l c k, ⟨mk, e, i, kc⟩, b (fun_mk l c k)⟩, ⟨pg, hd, po, sa⟩, g⟩
theorem ref_mk {nm q : Str} {N : Addr} {bs : List Value} {sn : List Str} {sub : List Value} {ab : Bool} {col : Option Bool} {dd : Option Addr} {m0 m1 m2 m3 m5 : Option Value}
    (xL : K.lookup C = some (excClassObj nm q C N bs [.type "ValueError", .type "Exception", .type "BaseException", .type "object"] true sn sub ab col dd m0 m1 m2 m3 m5 "ValueError.__new__"))
    (sa : PySem.W.findIn K (.ref C) "__setattr__" = some (some (.builtin "object.__setattr__"))) (ga : PySem.W.findIn K (.ref C) "__getattribute__" = some (some (.builtin "BaseException.__getattribute__"))) (gg : PySem.W.findIn K (.ref C) "__getattr__" = some none)
    (t1 : PySem.W.typeIn K (.ref f) = some (.type "function")) (kC : PySem.W.keepIn K (.ref C) = true) (eC : PySem.W.subIn K (.ref C) (.type "BaseException") = some true) (tC : PySem.W.typeIn K (.ref C) = some (.type "type")) (hC : PySem.W.hasDictIn K C = true) (iC : PySem.W.isClsIn K C = true) (sC : PySem.W.subIn K (.ref C) (.ref C) = some true)
    (g : mg "Refused" = some (.ref C)) (n1 : PySem.W.findIn K (.ref C) "order" = some none) (n2 : PySem.W.findIn K (.ref C) "message" = some none) (n3 : PySem.W.findIn K (.ref C) "further" = some none)
    (a1 : PySem.W.findIn K (.ref C) "__init__" = some (some (.ref f)))
    (l : K.lookup f = some ⟨oc, od, .func (PySem.W.fnOf "__init__" "Refused.__init__" (defArgs s_Refused_init) (defBody s_Refused_init) (defScope s_Refused_init) .none kV dc pm an cd ct), sl⟩) (c : PySem.W.codeIn K cd "Refused.__init__" = true) (k : PySem.W.keepIn K (.ref f) = true)
    (b : Fun K "__init__" "Refused.__init__" s_Refused_init f (PySem.W.fnOf "__init__" "Refused.__init__" (defArgs s_Refused_init) (defBody s_Refused_init) (defScope s_Refused_init) .none kV dc pm an cd ct) → Binds K (PySem.W.fnOf "__init__" "Refused.__init__" (defArgs s_Refused_init) (defBody s_Refused_init) (defScope s_Refused_init) .none kV dc pm an cd ct) ["self", "order", "message", "further"] []) : RefT K mg C where
  oex := ⟨⟨nm, q, N, bs, _, sn, sub, ab, col, dd, m0, m1, m2, m3, m5, xL, by decide +kernel⟩, sa, eC, tC, kC⟩
  ini := ⟨_, _, fun_mk l c k, a1, t1, b (fun_mk l c k)⟩
  gm := g
  xf := ⟨ga, gg, eC, hC⟩
  n_order := n1
  n_message := n2
  n_further := n3
  te := exm_self eC iC tC sC
theorem all_mk {P : Program} {w : World} {run enu req refu lib fa : Addr} (X : K.In h) (G : h.Ns mainGlobals mg) (hfa : mg "answers" = some (.ref fa))
    (T : Txt K mg ⟨run, enu, req, refu, lib⟩)
    (e : PySem.W.nsIn K mainGlobals "answers" = some (some (.ref f)))
    (l : K.lookup f = some ⟨oc, od, .func (PySem.W.fnOf "answers" "answers" (defArgs s_answers) (defBody s_answers) (defScope s_answers) .none kV dc pm an cd ct), sl⟩) (c : PySem.W.codeIn K cd "answers" = true) (k : PySem.W.keepIn K (.ref f) = true) :
    ∃ fd : FuncData, (∀ (s : Shared) (us : List Value), us.length = (["calls"] : List Str).length → BindsTo s fd ⟨us, []⟩ ((["calls"] : List Str).zip us)) ∧ ∀ base : Heap, K.In base → base.Ns mainGlobals mg → FnOk P w K mg base CX0 39 fa fd ["calls"] (spAns K) := by
  have e2 := hfa.symm.trans (PySem.W.mg_of X G e)
  cases e2
  exact ⟨PySem.W.fnOf "answers" "answers" (defArgs s_answers) (defBody s_answers) (defScope s_answers) .none kV dc pm an cd ct, fun s us hu => match us, hu with | [_], _ => .of_eq rfl, fun base _ _ => ok_answers T (fun_mk (st := s_answers) l c k)⟩
end
end Sw
open PySem PySem.W PyProof.Rows
set_option maxRecDepth 100000 in
set_option maxHeartbeats 0 in
theorem PySem.Challenge.cw_separatedwords_s01_answers_holds : PySem.Challenge.rw_separatedwords_s01_answers.Holds := by
  w_on; k_headS; (case hw => exact ⟨[.list [.int 0,.int 3,.int 1,.int 0,.int 0]], by decide +kernel, by decide +kernel⟩)
  k_fillS
  refine L2.walk_specK (r := PySem.Challenge.rw_separatedwords_s01_answers) (k := 39) (CX := L2.CX0) (ps := ["calls"]) (sp := Sw.spAns) (by decide +kernel) rfl rfl ⟨rfl, by decide, by decide⟩ (fun w h Y => PySem.W.kIn_of Y) ?F ?S (fun _ _ _ _ z => z)
  case F =>
    intro w mg fa h Y KX G hmg
    refine' Sw.all_mk KX G hmg ?T ?ea ?la ?ca ?ka
    case T =>
      refine' {
        LETTERS := Sw.int_mk KX G ?LETTERS,
        MOST_STATES := Sw.int_mk KX G ?MOST_STATES,
        NOTHING := Sw.tup_mk KX G ?a_NOTHING ?l_NOTHING,
        NULL := Sw.tup_mk KX G ?a_NULL ?l_NULL,
        FALSE := Sw.tup_mk KX G ?a_FALSE ?l_FALSE,
        TRUE := Sw.tup_mk KX G ?a_TRUE ?l_TRUE,
        INTEGER := Sw.int_mk KX G ?INTEGER,
        TEXT := Sw.int_mk KX G ?TEXT,
        LIST := Sw.int_mk KX G ?LIST,
        RECORD := Sw.int_mk KX G ?RECORD,
        OCTETS := Sw.int_mk KX G ?OCTETS,
        WORD := Sw.int_mk KX G ?WORD,
        HALF := Sw.int_mk KX G ?HALF,
        MOST_ARGUMENTS := Sw.int_mk KX G ?MOST_ARGUMENTS,
        MOST_TABLE := Sw.int_mk KX G ?MOST_TABLE,
        MOST_WORD := Sw.int_mk KX G ?MOST_WORD,
        MOST_READ := Sw.int_mk KX G ?MOST_READ,
        MOST_LENGTH := Sw.int_mk KX G ?MOST_LENGTH,
        FIRST := Sw.int_mk KX G ?FIRST,
        len := PySem.W.mg_none_of KX G ?z_len,
        range := PySem.W.mg_none_of KX G ?z_range,
        list := PySem.W.mg_none_of KX G ?z_list,
        tuple := PySem.W.mg_none_of KX G ?z_tuple,
        str := PySem.W.mg_none_of KX G ?z_str,
        abs := PySem.W.mg_none_of KX G ?z_abs,
        ord := PySem.W.mg_none_of KX G ?z_ord,
        all := PySem.W.mg_none_of KX G ?z_all,
        set := PySem.W.mg_none_of KX G ?z_set,
        d_end_of := Sw.def_mk (st := Sw.s_end_of) KX G ?a_end_of ?l_end_of ?c_end_of ?k_end_of fun F => F.binds (ps := ["table", "word"]) fun _ _ _ _ _ _ us hl => match us, hl with | [_, _], _ => rfl,
        d_is_reversible := Sw.def_mk (st := Sw.s_is_reversible) KX G ?a_is_reversible ?l_is_reversible ?c_is_reversible ?k_is_reversible fun F => F.binds (ps := ["table"]) fun _ _ _ _ _ _ us hl => match us, hl with | [_], _ => rfl,
        d_known_end := Sw.def_mk (st := Sw.s_known_end) KX G ?a_known_end ?l_known_end ?c_known_end ?k_known_end fun F => F.binds (ps := ["entries", "word"]) fun _ _ _ _ _ _ us hl => match us, hl with | [_, _], _ => rfl,
        d_choices := Sw.def_mk (st := Sw.s_choices) KX G ?a_choices ?l_choices ?c_choices ?k_choices fun F => F.binds (ps := ["states", "entries", "is_both_ways"]) fun _ _ _ _ _ _ us hl => match us, hl with | [_, _, _], _ => rfl,
        d_filled := Sw.def_mk (st := Sw.s_filled) KX G ?a_filled ?l_filled ?c_filled ?k_filled fun F => F.binds (ps := ["states", "entries", "is_both_ways"]) fun _ _ _ _ _ _ us hl => match us, hl with | [_, _, _], _ => rfl,
        d_first_separating := Sw.def_mk (st := Sw.s_first_separating) KX G ?a_first_separating ?l_first_separating ?c_first_separating ?k_first_separating fun F => F.binds (ps := ["states", "first", "second", "is_both_ways"]) fun _ _ _ _ _ _ us hl => match us, hl with | [_, _, _, _], _ => rfl,
        d_fewest := Sw.def_mk (st := Sw.s_fewest) KX G ?a_fewest ?l_fewest ?c_fewest ?k_fewest fun F => F.binds (ps := ["first", "second", "is_both_ways"]) fun _ _ _ _ _ _ us hl => match us, hl with | [_, _, _], _ => rfl,
        d_difference := Sw.def_mk (st := Sw.s_difference) KX G ?a_difference ?l_difference ?c_difference ?k_difference fun F => F.binds (ps := ["first", "second", "letter"]) fun _ _ _ _ _ _ us hl => match us, hl with | [_, _, _], _ => rfl,
        d_find_counter := Sw.def_mk (st := Sw.s_find_counter) KX G ?a_find_counter ?l_find_counter ?c_find_counter ?k_find_counter fun F => F.binds (ps := ["first", "second"]) fun _ _ _ _ _ _ us hl => match us, hl with | [_, _], _ => rfl,
        d_counter := Sw.def_mk (st := Sw.s_counter) KX G ?a_counter ?l_counter ?c_counter ?k_counter fun F => F.binds (ps := ["letter", "states"]) fun _ _ _ _ _ _ us hl => match us, hl with | [_, _], _ => rfl,
        d_all_tables := Sw.def_mk (st := Sw.s_all_tables) KX G ?a_all_tables ?l_all_tables ?c_all_tables ?k_all_tables fun F => F.binds (ps := ["states"]) fun _ _ _ _ _ _ us hl => match us, hl with | [_], _ => rfl,
        d_all_words := Sw.def_mk (st := Sw.s_all_words) KX G ?a_all_words ?l_all_words ?c_all_words ?k_all_words fun F => F.binds (ps := ["longest"]) fun _ _ _ _ _ _ us hl => match us, hl with | [_], _ => rfl,
        d_representatives := Sw.def_mk (st := Sw.s_representatives) KX G ?a_representatives ?l_representatives ?c_representatives ?k_representatives fun F => F.binds (ps := ["states", "longest"]) fun _ _ _ _ _ _ us hl => match us, hl with | [_, _], _ => rfl,
        d_Run := Sw.mak_mk (st := Sw.s_Run_init) ?pg_Run ?hd_Run ?po_Run ?sa_Run ?mk_Run ?kc_Run (PySem.W.mg_of KX G ?aC_Run) ?a_I_Run ?i_I_Run ?l_I_Run ?c_I_Run ?k_I_Run fun F => F.binds (ps := ["self", "table"]) fun _ _ _ _ _ _ us hl => match us, hl with | [_, _], _ => rfl,
        n_Run_table := Sw.na_mk ?n_Run_table,
        n_Run_letters := Sw.na_mk ?n_Run_letters,
        n_Run_is_started := Sw.na_mk ?n_Run_is_started,
        n_Run_is_over := Sw.na_mk ?n_Run_is_over,
        d_Run_told := Sw.met_mk (st := Sw.s_Run_told) ?a_M_Run_told ?i_M_Run_told ?l_M_Run_told ?c_M_Run_told ?k_M_Run_told fun F => F.binds (ps := ["self"]) fun _ _ _ _ _ _ us hl => match us, hl with | [_], _ => rfl,
        d_Run_undo := Sw.met_mk (st := Sw.s_Run_undo) ?a_M_Run_undo ?i_M_Run_undo ?l_M_Run_undo ?c_M_Run_undo ?k_M_Run_undo fun F => F.binds (ps := ["self"]) fun _ _ _ _ _ _ us hl => match us, hl with | [_], _ => rfl,
        d_Enumerator := Sw.mak_mk (st := Sw.s_Enumerator_init) ?pg_Enumerator ?hd_Enumerator ?po_Enumerator ?sa_Enumerator ?mk_Enumerator ?kc_Enumerator (PySem.W.mg_of KX G ?aC_Enumerator) ?a_I_Enumerator ?i_I_Enumerator ?l_I_Enumerator ?c_I_Enumerator ?k_I_Enumerator fun F => F.binds (ps := ["self", "rows"]) fun _ _ _ _ _ _ us hl => match us, hl with | [_, _], _ => rfl,
        n_Enumerator_rows := Sw.na_mk ?n_Enumerator_rows,
        n_Enumerator_count := Sw.na_mk ?n_Enumerator_count,
        n_Enumerator_last := Sw.na_mk ?n_Enumerator_last,
        n_Enumerator_is_over := Sw.na_mk ?n_Enumerator_is_over,
        d_Enumerator_take := Sw.met_mk (st := Sw.s_Enumerator_take) ?a_M_Enumerator_take ?i_M_Enumerator_take ?l_M_Enumerator_take ?c_M_Enumerator_take ?k_M_Enumerator_take fun F => F.binds (ps := ["self"]) fun _ _ _ _ _ _ us hl => match us, hl with | [_], _ => rfl,
        d_Enumerator_skip := Sw.met_mk (st := Sw.s_Enumerator_skip) ?a_M_Enumerator_skip ?i_M_Enumerator_skip ?l_M_Enumerator_skip ?c_M_Enumerator_skip ?k_M_Enumerator_skip fun F => F.binds (ps := ["self", "length"]) fun _ _ _ _ _ _ us hl => match us, hl with | [_, _], _ => rfl,
        d_codes_of := Sw.def_mk (st := Sw.s_codes_of) KX G ?a_codes_of ?l_codes_of ?c_codes_of ?k_codes_of fun F => F.binds (ps := ["text"]) fun _ _ _ _ _ _ us hl => match us, hl with | [_], _ => rfl,
        d_integer := Sw.def_mk (st := Sw.s_integer) KX G ?a_integer ?l_integer ?c_integer ?k_integer fun F => F.binds (ps := ["number"]) fun _ _ _ _ _ _ us hl => match us, hl with | [_], _ => rfl,
        d_text := Sw.def_mk (st := Sw.s_text) KX G ?a_text ?l_text ?c_text ?k_text fun F => F.binds (ps := ["string"]) fun _ _ _ _ _ _ us hl => match us, hl with | [_], _ => rfl,
        d_truth := Sw.def_mk (st := Sw.s_truth) KX G ?a_truth ?l_truth ?c_truth ?k_truth fun F => F.binds (ps := ["told"]) fun _ _ _ _ _ _ us hl => match us, hl with | [_], _ => rfl,
        d_listed := Sw.def_mk (st := Sw.s_listed) KX G ?a_listed ?l_listed ?c_listed ?k_listed fun F => F.binds (ps := ["rows"]) fun _ _ _ _ _ _ us hl => match us, hl with | [_], _ => rfl,
        d_integers := Sw.def_mk (st := Sw.s_integers) KX G ?a_integers ?l_integers ?c_integers ?k_integers fun F => F.binds (ps := ["rows"]) fun _ _ _ _ _ _ us hl => match us, hl with | [_], _ => rfl,
        d_record := Sw.def_mk (st := Sw.s_record) KX G ?a_record ?l_record ?c_record ?k_record fun F => F.binds (ps := ["pairs"]) fun _ _ _ _ _ _ us hl => match us, hl with | [_], _ => rfl,
        d_low_first := Sw.def_mk (st := Sw.s_low_first) KX G ?a_low_first ?l_low_first ?c_low_first ?k_low_first fun F => F.binds (ps := ["number", "many"]) fun _ _ _ _ _ _ us hl => match us, hl with | [_, _], _ => rfl,
        d_octets_of := Sw.def_mk (st := Sw.s_octets_of) KX G ?a_octets_of ?l_octets_of ?c_octets_of ?k_octets_of fun F => F.binds (ps := ["value"]) fun _ _ _ _ _ _ us hl => match us, hl with | [_], _ => rfl,
        d_Request := Sw.mak_mk (st := Sw.s_Request_init) ?pg_Request ?hd_Request ?po_Request ?sa_Request ?mk_Request ?kc_Request (PySem.W.mg_of KX G ?aC_Request) ?a_I_Request ?i_I_Request ?l_I_Request ?c_I_Request ?k_I_Request fun F => F.binds (ps := ["self", "octets"]) fun _ _ _ _ _ _ us hl => match us, hl with | [_, _], _ => rfl,
        n_Request_octets := Sw.na_mk ?n_Request_octets,
        n_Request_at := Sw.na_mk ?n_Request_at,
        d_Request_number := Sw.met_mk (st := Sw.s_Request_number) ?a_M_Request_number ?i_M_Request_number ?l_M_Request_number ?c_M_Request_number ?k_M_Request_number fun F => F.binds (ps := ["self", "many"]) fun _ _ _ _ _ _ us hl => match us, hl with | [_, _], _ => rfl,
        d_Request_plain := Sw.met_mk (st := Sw.s_Request_plain) ?a_M_Request_plain ?i_M_Request_plain ?l_M_Request_plain ?c_M_Request_plain ?k_M_Request_plain fun F => F.binds (ps := ["self"]) fun _ _ _ _ _ _ us hl => match us, hl with | [_], _ => rfl,
        d_Request_value := Sw.met_mk (st := Sw.s_Request_value) ?a_M_Request_value ?i_M_Request_value ?l_M_Request_value ?c_M_Request_value ?k_M_Request_value fun F => F.binds (ps := ["self"]) fun _ _ _ _ _ _ us hl => match us, hl with | [_], _ => rfl,
        d_Request_whole := Sw.met_mk (st := Sw.s_Request_whole) ?a_M_Request_whole ?i_M_Request_whole ?l_M_Request_whole ?c_M_Request_whole ?k_M_Request_whole fun F => F.binds (ps := ["self"]) fun _ _ _ _ _ _ us hl => match us, hl with | [_], _ => rfl,
        d_wrong_kind := Sw.def_mk (st := Sw.s_wrong_kind) KX G ?a_wrong_kind ?l_wrong_kind ?c_wrong_kind ?k_wrong_kind fun F => F.binds (ps := ["wrong", "message"]) fun _ _ _ _ _ _ us hl => match us, hl with | [_, _], _ => rfl,
        d_out_of_range := Sw.def_mk (st := Sw.s_out_of_range) KX G ?a_out_of_range ?l_out_of_range ?c_out_of_range ?k_out_of_range fun F => F.binds (ps := ["wrong", "message"]) fun _ _ _ _ _ _ us hl => match us, hl with | [_, _], _ => rfl,
        d_is_integer := Sw.def_mk (st := Sw.s_is_integer) KX G ?a_is_integer ?l_is_integer ?c_is_integer ?k_is_integer fun F => F.binds (ps := ["value", "least", "most"]) fun _ _ _ _ _ _ us hl => match us, hl with | [_, _, _], _ => rfl,
        d_number_of := Sw.def_mk (st := Sw.s_number_of) KX G ?a_number_of ?l_number_of ?c_number_of ?k_number_of fun F => F.binds (ps := ["value", "name", "least", "most"]) fun _ _ _ _ _ _ us hl => match us, hl with | [_, _, _, _], _ => rfl,
        d_table_of := Sw.def_mk (st := Sw.s_table_of) KX G ?a_table_of ?l_table_of ?c_table_of ?k_table_of fun F => F.binds (ps := ["value"]) fun _ _ _ _ _ _ us hl => match us, hl with | [_], _ => rfl,
        d_letter_of := Sw.def_mk (st := Sw.s_letter_of) KX G ?a_letter_of ?l_letter_of ?c_letter_of ?k_letter_of fun F => F.binds (ps := ["value"]) fun _ _ _ _ _ _ us hl => match us, hl with | [_], _ => rfl,
        d_word_of := Sw.def_mk (st := Sw.s_word_of) KX G ?a_word_of ?l_word_of ?c_word_of ?k_word_of fun F => F.binds (ps := ["value", "name"]) fun _ _ _ _ _ _ us hl => match us, hl with | [_, _], _ => rfl,
        d_told_table := Sw.def_mk (st := Sw.s_told_table) KX G ?a_told_table ?l_told_table ?c_told_table ?k_told_table fun F => F.binds (ps := ["table"]) fun _ _ _ _ _ _ us hl => match us, hl with | [_], _ => rfl,
        d_told_letter := Sw.def_mk (st := Sw.s_told_letter) KX G ?a_told_letter ?l_told_letter ?c_told_letter ?k_told_letter fun F => F.binds (ps := ["letter"]) fun _ _ _ _ _ _ us hl => match us, hl with | [_], _ => rfl,
        d_told_row := Sw.def_mk (st := Sw.s_told_row) KX G ?a_told_row ?l_told_row ?c_told_row ?k_told_row fun F => F.binds (ps := ["row"]) fun _ _ _ _ _ _ us hl => match us, hl with | [_], _ => rfl,
        d_told_step := Sw.def_mk (st := Sw.s_told_step) KX G ?a_told_step ?l_told_step ?c_told_step ?k_told_step fun F => F.binds (ps := ["value", "is_done"]) fun _ _ _ _ _ _ us hl => match us, hl with | [_, _], _ => rfl,
        d_told_thrown := Sw.def_mk (st := Sw.s_told_thrown) KX G ?a_told_thrown ?l_told_thrown ?c_told_thrown ?k_told_thrown fun F => F.binds (ps := ["value"]) fun _ _ _ _ _ _ us hl => match us, hl with | [_], _ => rfl,
        d_told_result := Sw.def_mk (st := Sw.s_told_result) KX G ?a_told_result ?l_told_result ?c_told_result ?k_told_result fun F => F.binds (ps := ["value", "is_done"]) fun _ _ _ _ _ _ us hl => match us, hl with | [_, _], _ => rfl,
        d_on_words := Sw.def_mk (st := Sw.s_on_words) KX G ?a_on_words ?l_on_words ?c_on_words ?k_on_words fun F => F.binds (ps := ["door", "given"]) fun _ _ _ _ _ _ us hl => match us, hl with | [_, _], _ => rfl,
        d_rows_of := Sw.def_mk (st := Sw.s_rows_of) KX G ?a_rows_of ?l_rows_of ?c_rows_of ?k_rows_of fun F => F.binds (ps := ["first", "second"]) fun _ _ _ _ _ _ us hl => match us, hl with | [_, _], _ => rfl,
        d_on_tables := Sw.def_mk (st := Sw.s_on_tables) KX G ?a_on_tables ?l_on_tables ?c_on_tables ?k_on_tables fun F => F.binds (ps := ["door", "given"]) fun _ _ _ _ _ _ us hl => match us, hl with | [_, _], _ => rfl,
        d_told_run := Sw.def_mk (st := Sw.s_told_run) KX G ?a_told_run ?l_told_run ?c_told_run ?k_told_run fun F => F.binds (ps := ["run"]) fun _ _ _ _ _ _ us hl => match us, hl with | [_], _ => rfl,
        d_on_run := Sw.def_mk (st := Sw.s_on_run) KX G ?a_on_run ?l_on_run ?c_on_run ?k_on_run fun F => F.binds (ps := ["run", "door", "value"]) fun _ _ _ _ _ _ us hl => match us, hl with | [_, _, _], _ => rfl,
        d_continued := Sw.def_mk (st := Sw.s_continued) KX G ?a_continued ?l_continued ?c_continued ?k_continued fun F => F.binds (ps := ["enumerator"]) fun _ _ _ _ _ _ us hl => match us, hl with | [_], _ => rfl,
        d_on_enumerator := Sw.def_mk (st := Sw.s_on_enumerator) KX G ?a_on_enumerator ?l_on_enumerator ?c_on_enumerator ?k_on_enumerator fun F => F.binds (ps := ["own", "door", "value"]) fun _ _ _ _ _ _ us hl => match us, hl with | [_, _, _], _ => rfl,
        d_Library := Sw.mak_mk (st := Sw.s_Library_init) ?pg_Library ?hd_Library ?po_Library ?sa_Library ?mk_Library ?kc_Library (PySem.W.mg_of KX G ?aC_Library) ?a_I_Library ?i_I_Library ?l_I_Library ?c_I_Library ?k_I_Library fun F => F.binds (ps := ["self"]) fun _ _ _ _ _ _ us hl => match us, hl with | [_], _ => rfl,
        n_Library_runs := Sw.na_mk ?n_Library_runs,
        n_Library_enumerators := Sw.na_mk ?n_Library_enumerators,
        d_Library_call := Sw.met_mk (st := Sw.s_Library_call) ?a_M_Library_call ?i_M_Library_call ?l_M_Library_call ?c_M_Library_call ?k_M_Library_call fun F => F.binds (ps := ["self", "door", "given"]) fun _ _ _ _ _ _ us hl => match us, hl with | [_, _, _], _ => rfl,
        d_answered := Sw.def_mk (st := Sw.s_answered) KX G ?a_answered ?l_answered ?c_answered ?k_answered fun F => F.binds (ps := ["library", "octets"]) fun _ _ _ _ _ _ us hl => match us, hl with | [_, _], _ => rfl,
        d_answers := Sw.def_mk (st := Sw.s_answers) KX G ?a_answers ?l_answers ?c_answers ?k_answers fun F => F.binds (ps := ["calls"]) fun _ _ _ _ _ _ us hl => match us, hl with | [_], _ => rfl,
        Refused := Sw.ref_mk ?xL ?sa ?ga ?gg ?t1 ?kC ?eC ?tC ?hC ?iC ?sC (PySem.W.mg_of KX G ?aC) ?n1 ?n2 ?n3 ?a1 ?l1 ?c1 ?k1 fun F => F.binds (ps := ["self", "order", "message", "further"]) fun _ _ _ _ _ _ us hl => match us, hl with | [_, _, _, _], _ => rfl }
      (case aC_Run => k_is)
      (case aC_Enumerator => k_is)
      (case aC_Request => k_is)
      (case aC_Library => k_is)
      (case aC => k_is)
      (case LETTERS => k_is)
      (case MOST_STATES => k_is)
      (case a_NOTHING => k_is)
      (case l_NOTHING => k_is)
      (case a_NULL => k_is)
      (case l_NULL => k_is)
      (case a_FALSE => k_is)
      (case l_FALSE => k_is)
      (case a_TRUE => k_is)
      (case l_TRUE => k_is)
      (case INTEGER => k_is)
      (case TEXT => k_is)
      (case LIST => k_is)
      (case RECORD => k_is)
      (case OCTETS => k_is)
      (case WORD => k_is)
      (case HALF => k_is)
      (case MOST_ARGUMENTS => k_is)
      (case MOST_TABLE => k_is)
      (case MOST_WORD => k_is)
      (case MOST_READ => k_is)
      (case MOST_LENGTH => k_is)
      (case FIRST => k_is)
      (case z_len => k_is)
      (case z_range => k_is)
      (case z_list => k_is)
      (case z_tuple => k_is)
      (case z_str => k_is)
      (case z_abs => k_is)
      (case z_ord => k_is)
      (case z_all => k_is)
      (case z_set => k_is)
      (case a_end_of => k_is)
      (case l_end_of => k_is)
      (case c_end_of => k_is)
      (case k_end_of => k_is)
      (case a_is_reversible => k_is)
      (case l_is_reversible => k_is)
      (case c_is_reversible => k_is)
      (case k_is_reversible => k_is)
      (case a_known_end => k_is)
      (case l_known_end => k_is)
      (case c_known_end => k_is)
      (case k_known_end => k_is)
      (case a_choices => k_is)
      (case l_choices => k_is)
      (case c_choices => k_is)
      (case k_choices => k_is)
      (case a_filled => k_is)
      (case l_filled => k_is)
      (case c_filled => k_is)
      (case k_filled => k_is)
      (case a_first_separating => k_is)
      (case l_first_separating => k_is)
      (case c_first_separating => k_is)
      (case k_first_separating => k_is)
      (case a_fewest => k_is)
      (case l_fewest => k_is)
      (case c_fewest => k_is)
      (case k_fewest => k_is)
      (case a_difference => k_is)
      (case l_difference => k_is)
      (case c_difference => k_is)
      (case k_difference => k_is)
      (case a_find_counter => k_is)
      (case l_find_counter => k_is)
      (case c_find_counter => k_is)
      (case k_find_counter => k_is)
      (case a_counter => k_is)
      (case l_counter => k_is)
      (case c_counter => k_is)
      (case k_counter => k_is)
      (case a_all_tables => k_is)
      (case l_all_tables => k_is)
      (case c_all_tables => k_is)
      (case k_all_tables => k_is)
      (case a_all_words => k_is)
      (case l_all_words => k_is)
      (case c_all_words => k_is)
      (case k_all_words => k_is)
      (case a_representatives => k_is)
      (case l_representatives => k_is)
      (case c_representatives => k_is)
      (case k_representatives => k_is)
      (case pg_Run => k_is)
      (case hd_Run => k_is)
      (case po_Run => k_is)
      (case sa_Run => k_is)
      (case mk_Run => k_is)
      (case kc_Run => k_is)
      (case a_I_Run => k_is)
      (case i_I_Run => k_is)
      (case l_I_Run => k_is)
      (case c_I_Run => k_is)
      (case k_I_Run => k_is)
      (case n_Run_table => k_is)
      (case n_Run_letters => k_is)
      (case n_Run_is_started => k_is)
      (case n_Run_is_over => k_is)
      (case a_M_Run_told => k_is)
      (case i_M_Run_told => k_is)
      (case l_M_Run_told => k_is)
      (case c_M_Run_told => k_is)
      (case k_M_Run_told => k_is)
      (case a_M_Run_undo => k_is)
      (case i_M_Run_undo => k_is)
      (case l_M_Run_undo => k_is)
      (case c_M_Run_undo => k_is)
      (case k_M_Run_undo => k_is)
      (case pg_Enumerator => k_is)
      (case hd_Enumerator => k_is)
      (case po_Enumerator => k_is)
      (case sa_Enumerator => k_is)
      (case mk_Enumerator => k_is)
      (case kc_Enumerator => k_is)
      (case a_I_Enumerator => k_is)
      (case i_I_Enumerator => k_is)
      (case l_I_Enumerator => k_is)
      (case c_I_Enumerator => k_is)
      (case k_I_Enumerator => k_is)
      (case n_Enumerator_rows => k_is)
      (case n_Enumerator_count => k_is)
      (case n_Enumerator_last => k_is)
      (case n_Enumerator_is_over => k_is)
      (case a_M_Enumerator_take => k_is)
      (case i_M_Enumerator_take => k_is)
      (case l_M_Enumerator_take => k_is)
      (case c_M_Enumerator_take => k_is)
      (case k_M_Enumerator_take => k_is)
      (case a_M_Enumerator_skip => k_is)
      (case i_M_Enumerator_skip => k_is)
      (case l_M_Enumerator_skip => k_is)
      (case c_M_Enumerator_skip => k_is)
      (case k_M_Enumerator_skip => k_is)
      (case a_codes_of => k_is)
      (case l_codes_of => k_is)
      (case c_codes_of => k_is)
      (case k_codes_of => k_is)
      (case a_integer => k_is)
      (case l_integer => k_is)
      (case c_integer => k_is)
      (case k_integer => k_is)
      (case a_text => k_is)
      (case l_text => k_is)
      (case c_text => k_is)
      (case k_text => k_is)
      (case a_truth => k_is)
      (case l_truth => k_is)
      (case c_truth => k_is)
      (case k_truth => k_is)
      (case a_listed => k_is)
      (case l_listed => k_is)
      (case c_listed => k_is)
      (case k_listed => k_is)
      (case a_integers => k_is)
      (case l_integers => k_is)
      (case c_integers => k_is)
      (case k_integers => k_is)
      (case a_record => k_is)
      (case l_record => k_is)
      (case c_record => k_is)
      (case k_record => k_is)
      (case a_low_first => k_is)
      (case l_low_first => k_is)
      (case c_low_first => k_is)
      (case k_low_first => k_is)
      (case a_octets_of => k_is)
      (case l_octets_of => k_is)
      (case c_octets_of => k_is)
      (case k_octets_of => k_is)
      (case pg_Request => k_is)
      (case hd_Request => k_is)
      (case po_Request => k_is)
      (case sa_Request => k_is)
      (case mk_Request => k_is)
      (case kc_Request => k_is)
      (case a_I_Request => k_is)
      (case i_I_Request => k_is)
      (case l_I_Request => k_is)
      (case c_I_Request => k_is)
      (case k_I_Request => k_is)
      (case n_Request_octets => k_is)
      (case n_Request_at => k_is)
      (case a_M_Request_number => k_is)
      (case i_M_Request_number => k_is)
      (case l_M_Request_number => k_is)
      (case c_M_Request_number => k_is)
      (case k_M_Request_number => k_is)
      (case a_M_Request_plain => k_is)
      (case i_M_Request_plain => k_is)
      (case l_M_Request_plain => k_is)
      (case c_M_Request_plain => k_is)
      (case k_M_Request_plain => k_is)
      (case a_M_Request_value => k_is)
      (case i_M_Request_value => k_is)
      (case l_M_Request_value => k_is)
      (case c_M_Request_value => k_is)
      (case k_M_Request_value => k_is)
      (case a_M_Request_whole => k_is)
      (case i_M_Request_whole => k_is)
      (case l_M_Request_whole => k_is)
      (case c_M_Request_whole => k_is)
      (case k_M_Request_whole => k_is)
      (case a_wrong_kind => k_is)
      (case l_wrong_kind => k_is)
      (case c_wrong_kind => k_is)
      (case k_wrong_kind => k_is)
      (case a_out_of_range => k_is)
      (case l_out_of_range => k_is)
      (case c_out_of_range => k_is)
      (case k_out_of_range => k_is)
      (case a_is_integer => k_is)
      (case l_is_integer => k_is)
      (case c_is_integer => k_is)
      (case k_is_integer => k_is)
      (case a_number_of => k_is)
      (case l_number_of => k_is)
      (case c_number_of => k_is)
      (case k_number_of => k_is)
      (case a_table_of => k_is)
      (case l_table_of => k_is)
      (case c_table_of => k_is)
      (case k_table_of => k_is)
      (case a_letter_of => k_is)
      (case l_letter_of => k_is)
      (case c_letter_of => k_is)
      (case k_letter_of => k_is)
      (case a_word_of => k_is)
      (case l_word_of => k_is)
      (case c_word_of => k_is)
      (case k_word_of => k_is)
      (case a_told_table => k_is)
      (case l_told_table => k_is)
      (case c_told_table => k_is)
      (case k_told_table => k_is)
      (case a_told_letter => k_is)
      (case l_told_letter => k_is)
      (case c_told_letter => k_is)
      (case k_told_letter => k_is)
      (case a_told_row => k_is)
      (case l_told_row => k_is)
      (case c_told_row => k_is)
      (case k_told_row => k_is)
      (case a_told_step => k_is)
      (case l_told_step => k_is)
      (case c_told_step => k_is)
      (case k_told_step => k_is)
      (case a_told_thrown => k_is)
      (case l_told_thrown => k_is)
      (case c_told_thrown => k_is)
      (case k_told_thrown => k_is)
      (case a_told_result => k_is)
      (case l_told_result => k_is)
      (case c_told_result => k_is)
      (case k_told_result => k_is)
      (case a_on_words => k_is)
      (case l_on_words => k_is)
      (case c_on_words => k_is)
      (case k_on_words => k_is)
      (case a_rows_of => k_is)
      (case l_rows_of => k_is)
      (case c_rows_of => k_is)
      (case k_rows_of => k_is)
      (case a_on_tables => k_is)
      (case l_on_tables => k_is)
      (case c_on_tables => k_is)
      (case k_on_tables => k_is)
      (case a_told_run => k_is)
      (case l_told_run => k_is)
      (case c_told_run => k_is)
      (case k_told_run => k_is)
      (case a_on_run => k_is)
      (case l_on_run => k_is)
      (case c_on_run => k_is)
      (case k_on_run => k_is)
      (case a_continued => k_is)
      (case l_continued => k_is)
      (case c_continued => k_is)
      (case k_continued => k_is)
      (case a_on_enumerator => k_is)
      (case l_on_enumerator => k_is)
      (case c_on_enumerator => k_is)
      (case k_on_enumerator => k_is)
      (case pg_Library => k_is)
      (case hd_Library => k_is)
      (case po_Library => k_is)
      (case sa_Library => k_is)
      (case mk_Library => k_is)
      (case kc_Library => k_is)
      (case a_I_Library => k_is)
      (case i_I_Library => k_is)
      (case l_I_Library => k_is)
      (case c_I_Library => k_is)
      (case k_I_Library => k_is)
      (case n_Library_runs => k_is)
      (case n_Library_enumerators => k_is)
      (case a_M_Library_call => k_is)
      (case i_M_Library_call => k_is)
      (case l_M_Library_call => k_is)
      (case c_M_Library_call => k_is)
      (case k_M_Library_call => k_is)
      (case a_answered => k_is)
      (case l_answered => k_is)
      (case c_answered => k_is)
      (case k_answered => k_is)
      (case a_answers => k_is)
      (case l_answers => k_is)
      (case c_answers => k_is)
      (case k_answers => k_is)
      (case xL => k_is)
      (case sa => k_is)
      (case ga => k_is)
      (case gg => k_is)
      (case a1 => k_is)
      (case t1 => k_is)
      (case l1 => k_is)
      (case c1 => k_is)
      (case k1 => k_is)
      (case kC => k_is)
      (case eC => k_is)
      (case tC => k_is)
      (case hC => k_is)
      (case iC => k_is)
      (case sC => first | rfl | k_is)
      (case n1 => k_is)
      (case n2 => k_is)
      (case n3 => k_is)
    (case ea => k_is); (case la => k_is); (case ca => k_is); (case ka => k_is)
  case S =>
    intro K H xs a hO hwi hask hx
    cases hx with
    | cons h1 h2 =>
      cases h2
      cases h1 with
      | lst hs ha =>
        have e := L2.ints_dw a.1 _ ha
        subst e
        have q : ((Codec.inLen 0 61000 a.1 && a.1.all (Codec.inInt 0 65535)) && true) = true := hwi
        rw [Bool.and_eq_true, Bool.and_eq_true] at q
        exact ⟨_, a.1, rfl, hs, hask, (Codec.inNat_iff.mp q.1.1).2, fun H' p hp => .lst (L2.SqL.of hp) (L2.dw_ints _)⟩
#print axioms PySem.Challenge.cw_separatedwords_s01_answers_holds
