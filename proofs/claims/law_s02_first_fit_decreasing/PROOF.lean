import PyProof.Rows.All
import Wide.All
import OpenK.AllK
import Wide.FinOn
import PyProof.EqAt
import PyProof.EqKinds
import PyProof.TupleCall
import Open.SpecLaws
import KE.OsHead
import KE.OsGo
import HandS.ForSpec
import HandS.Comp
import HandS.Conv
import HandS.SortRule
import PySem.Challenge.RW_truckfill_s02_first_fit_decreasing
set_option Elab.async false
set_option linter.all false
set_option maxRecDepth 100000
set_option maxHeartbeats 4000000
namespace TF
open Kbe6 (toInts validLengths canonicalAssignments truckCount loadOf sumOf isFeasible minimalAssignment)

theorem sumOf_acc : ∀ (l : List Nat) (z : Nat), l.foldl (· + ·) z = z + sumOf l
  | [], z => by simp [sumOf]
  | x :: r, z => by
    have e1 := sumOf_acc r (z + x)
    have e2 := sumOf_acc r (0 + x)
    unfold sumOf at *
    rw [List.foldl_cons, List.foldl_cons, e1, e2]
    omega
theorem sumOf_cons (x : Nat) (r : List Nat) : sumOf (x :: r) = x + sumOf r := by
  have e := sumOf_acc r (0 + x)
  show List.foldl (· + ·) (0 + x) r = _
  rw [e]
  omega
theorem sumOf_nil : sumOf [] = 0 := rfl
theorem sum_toInts : ∀ l : List Nat, (toInts l).sum = ((sumOf l : Nat) : Int)
  | [] => rfl
  | x :: r => by
    have ih := sum_toInts r
    show ((x : Int) :: toInts r).sum = _
    rw [List.sum_cons, ih, sumOf_cons]
    omega
theorem foldl_max : ∀ (l : List Nat) (z : Nat), l.foldl max z = max z (l.foldl max 0)
  | [], z => by simp
  | x :: r, z => by
    rw [List.foldl_cons, List.foldl_cons, foldl_max r (max z x), foldl_max r (max 0 x)]
    omega
theorem truckCount_cons (t : Nat) (a : List Nat) : truckCount (t :: a) = max (t + 1) (truckCount a) := by
  cases a with
  | nil => simp [truckCount]
  | cons x r =>
    show (t :: x :: r).foldl max 0 + 1 = max (t + 1) ((x :: r).foldl max 0 + 1)
    rw [List.foldl_cons, foldl_max (x :: r) (max 0 t)]
    omega
theorem truckCount_nil : truckCount [] = 0 := rfl
theorem loadOf_cons (n : Nat) (ls : List Nat) (t : Nat) (a : List Nat) (k : Nat) : loadOf (n :: ls) (t :: a) k = (if t = k then n else 0) + loadOf ls a k := by
  unfold loadOf
  rw [List.zip_cons_cons, List.filterMap_cons]
  by_cases h : t = k
  · simp [h, sumOf_cons]
  · simp [h]
theorem loadOf_nil_right (ls : List Nat) (k : Nat) : loadOf ls [] k = 0 := by
  unfold loadOf
  simp [sumOf]
theorem loadOf_nil_left (a : List Nat) (k : Nat) : loadOf [] a k = 0 := by
  unfold loadOf
  simp [sumOf]

/-! ### rows -/
abbrev TRow : Type := List Nat × List Nat
def withPallet (ld : List Nat) (t n : Nat) : List Nat := if t = ld.length then ld ++ [n] else ld.set t (ld.getD t 0 + n)
def addAll : List Nat → List Nat → List Nat → List Nat
  | ld, [], _ => ld
  | ld, _ :: _, [] => ld
  | ld, n :: r, t :: a => addAll (withPallet ld t n) r a
def rowTry (c : Nat) (r : TRow) (n t : Nat) : Option TRow :=
  if (withPallet r.2 t n).getD t 0 ≤ c then some (r.1 ++ [t], withPallet r.2 t n) else none
def rowsBehind (c : Nat) (r : TRow) (n : Nat) : List TRow := (List.range (r.2.length + 1)).filterMap (rowTry c r n)
def allRows (c : Nat) (rows : List TRow) (ls : List Nat) : List TRow :=
  ls.foldl (fun rows n => rows.flatMap fun r => rowsBehind c r n) rows
def better {α : Type} (m : α → Nat) (best : Option α) (x : α) : Option α := match best with
  | none => some x
  | some p => if m x < m p then some x else some p
def bestOf (rows : List TRow) : Option TRow := rows.foldl (better fun r => r.2.length) none

theorem withPallet_len (ld : List Nat) (t n : Nat) : (withPallet ld t n).length = if t = ld.length then ld.length + 1 else ld.length := by
  unfold withPallet
  split <;> simp
theorem withPallet_getD (ld : List Nat) (t n k : Nat) (h : t ≤ ld.length) : (withPallet ld t n).getD k 0 = ld.getD k 0 + if t = k then n else 0 := by
  unfold withPallet
  by_cases e : t = ld.length
  · rw [if_pos e, e]
    by_cases hk : k < ld.length
    · have : ¬ ld.length = k := by omega
      simp [List.getD_eq_getElem?_getD, List.getElem?_append_left hk, this]
    · by_cases hk2 : ld.length = k
      · subst hk2
        simp [List.getD_eq_getElem?_getD]
      · have h3 : ld.length + 1 ≤ k := by omega
        simp [List.getD_eq_getElem?_getD, hk2, List.getElem?_eq_none (show (ld ++ [n]).length ≤ k by simp; omega), List.getElem?_eq_none (show ld.length ≤ k by omega)]
  · rw [if_neg e]
    have ht : t < ld.length := by omega
    by_cases hk : t = k
    · subst hk
      simp [List.getD_eq_getElem?_getD, ht]
    · simp [List.getD_eq_getElem?_getD, hk]
theorem withPallet_ge (ld : List Nat) (t n k : Nat) : ld.getD k 0 ≤ (withPallet ld t n).getD k 0 := by
  by_cases h : t ≤ ld.length
  · rw [withPallet_getD ld t n k h]
    omega
  · unfold withPallet
    rw [if_neg (by omega), List.set_eq_of_length_le (by omega)]
    exact Nat.le_refl _
theorem addAll_ge : ∀ (ls a ld : List Nat) (k : Nat), ld.getD k 0 ≤ (addAll ld ls a).getD k 0
  | [], _, _, _ => by unfold addAll; exact Nat.le_refl _
  | _ :: _, [], _, _ => by unfold addAll; exact Nat.le_refl _
  | n :: r, t :: a, ld, k => by
    have h1 := withPallet_ge ld t n k
    have h2 := addAll_ge r a (withPallet ld t n) k
    show _ ≤ (addAll (withPallet ld t n) r a).getD k 0
    omega
theorem all_iff_getD (c : Nat) (l : List Nat) : l.all (fun x => decide (x ≤ c)) = true ↔ ∀ k, l.getD k 0 ≤ c := by
  rw [List.all_eq_true]
  constructor
  · intro h k
    by_cases hk : k < l.length
    · have := h l[k] (List.getElem_mem hk)
      simp [List.getD_eq_getElem?_getD, hk]
      simpa using this
    · simp [List.getD_eq_getElem?_getD, List.getElem?_eq_none (show l.length ≤ k by omega)]
  · intro h x hx
    obtain ⟨k, hk, e⟩ := List.getElem_of_mem hx
    have := h k
    simp [List.getD_eq_getElem?_getD, hk, e] at this
    simpa using this

theorem allRows_flat (c : Nat) : ∀ (ls : List Nat) (rows : List TRow), allRows c rows ls = rows.flatMap fun r => allRows c [r] ls
  | [], rows => by
    show rows = rows.flatMap fun r => [r]
    simp
  | n :: ls, rows => by
    show allRows c (rows.flatMap fun r => rowsBehind c r n) ls = rows.flatMap fun r => allRows c ([r].flatMap fun r => rowsBehind c r n) ls
    rw [allRows_flat c ls, List.flatMap_assoc]
    congr 1
    funext r
    rw [List.flatMap_singleton, ← allRows_flat c ls]
def onSome {β γ : Type} (g : β → List γ) : Option β → List γ
  | none => []
  | some y => g y
theorem flatMap_filterMap {α β γ : Type} (f : α → Option β) (g : β → List γ) : ∀ l : List α, (l.filterMap f).flatMap g = l.flatMap fun x => onSome g (f x)
  | [] => rfl
  | x :: r => by
    have ih := flatMap_filterMap f g r
    rw [List.filterMap_cons, List.flatMap_cons]
    cases e : f x with
    | none => simpa [onSome] using ih
    | some y => simp [ih, onSome]
theorem flatMap_congr {α β : Type} {f g : α → List β} : ∀ {l : List α}, (∀ x ∈ l, f x = g x) → l.flatMap f = l.flatMap g
  | [], _ => rfl
  | x :: r, h => by
    rw [List.flatMap_cons, List.flatMap_cons, h x (List.mem_cons_self ..), flatMap_congr fun y hy => h y (List.mem_cons_of_mem _ hy)]
theorem allRows_cons (c : Nat) (r : TRow) (n : Nat) (ls : List Nat) : allRows c [r] (n :: ls) = (List.range (r.2.length + 1)).flatMap fun t => onSome (fun y => allRows c [y] ls) (rowTry c r n t) := by
  show allRows c ([r].flatMap fun r => rowsBehind c r n) ls = _
  rw [List.flatMap_singleton, allRows_flat]
  exact flatMap_filterMap _ _ _
theorem ext_eq (c : Nat) : ∀ (ls asg ld : List Nat), (∀ k, ld.getD k 0 ≤ c) → allRows c [(asg, ld)] ls = ((canonicalAssignments ls.length ld.length).filter fun a => (addAll ld ls a).all fun x => decide (x ≤ c)).map fun a => (asg ++ a, addAll ld ls a)
  | [], asg, ld, h => by
    show [(asg, ld)] = (List.filter _ [[]]).map _
    rw [List.filter_cons, if_pos (by
      show (ld.all fun x => decide (x ≤ c)) = true
      exact (all_iff_getD c ld).mpr h)]
    show _ = [(asg ++ [], ld)]
    simp
  | n :: ls, asg, ld, h => by
    rw [allRows_cons]
    show _ = (List.filter _ ((List.range (ld.length + 1)).flatMap _)).map _
    rw [List.filter_flatMap, List.map_flatMap]
    refine flatMap_congr fun t ht => ?_
    have ht' : t ≤ ld.length := by
      have h0 : t < ld.length + 1 := List.mem_range.mp ht
      omega
    unfold rowTry
    by_cases hc : (withPallet ld t n).getD t 0 ≤ c
    · rw [if_pos hc]
      show allRows c [(asg ++ [t], withPallet ld t n)] ls = _
      rw [ext_eq c ls (asg ++ [t]) (withPallet ld t n) ?_]
      · rw [withPallet_len, List.filter_map, List.map_map]
        have e1 : ((fun a => (addAll ld (n :: ls) a).all fun x => decide (x ≤ c)) ∘ fun assignment => t :: assignment) = (fun a => (addAll (withPallet ld t n) ls a).all fun x => decide (x ≤ c)) := rfl
        rw [e1]
        refine List.map_congr_left fun a _ => ?_
        show (asg ++ [t] ++ a, addAll (withPallet ld t n) ls a) = (asg ++ t :: a, addAll (withPallet ld t n) ls a)
        simp
      · intro k
        by_cases hk : t = k
        · rw [← hk]
          exact hc
        · rw [withPallet_getD ld t n k ht', if_neg hk]
          exact h k
    · rw [if_neg hc]
      show [] = _
      symm
      rw [List.map_eq_nil_iff, List.filter_eq_nil_iff]
      intro a ha hall
      obtain ⟨b, _, rfl⟩ := List.mem_map.mp ha
      have h1 := (all_iff_getD c _).mp hall t
      have h2 := addAll_ge ls b (withPallet ld t n) t
      have h3 : addAll ld (n :: ls) (t :: b) = addAll (withPallet ld t n) ls b := rfl
      rw [h3] at h1
      omega

def Canon : Nat → List Nat → Prop
  | _, [] => True
  | u, t :: a => t ≤ u ∧ Canon (if t = u then u + 1 else u) a
theorem canon_mem : ∀ (n u : Nat) (a : List Nat), a ∈ canonicalAssignments n u → Canon u a ∧ a.length = n
  | 0, u, a, h => by
    have e : a = [] := by simpa [canonicalAssignments] using h
    subst e
    exact ⟨trivial, rfl⟩
  | n + 1, u, a, h => by
    unfold canonicalAssignments at h
    obtain ⟨t, ht, hm⟩ := List.mem_flatMap.mp h
    obtain ⟨b, hb, rfl⟩ := List.mem_map.mp hm
    obtain ⟨h1, h2⟩ := canon_mem n _ b hb
    have := List.mem_range.mp ht
    exact ⟨⟨by omega, h1⟩, by rw [List.length_cons, h2]⟩
theorem addAll_spec : ∀ (ls a ld : List Nat), Canon ld.length a → a.length = ls.length →
    (addAll ld ls a).length = max ld.length (truckCount a) ∧ ∀ k, (addAll ld ls a).getD k 0 = ld.getD k 0 + loadOf ls a k
  | [], a, ld, _, hl => by
    have e : a = [] := List.eq_nil_of_length_eq_zero hl
    subst e
    unfold addAll
    exact ⟨by simp [truckCount_nil], fun k => by rw [loadOf_nil_left]; omega⟩
  | n :: ls, [], ld, _, hl => by simp at hl
  | n :: ls, t :: a, ld, hc, hl => by
    obtain ⟨ht, hc2⟩ := hc
    have hw := withPallet_len ld t n
    rw [← hw] at hc2
    obtain ⟨i1, i2⟩ := addAll_spec ls a (withPallet ld t n) hc2 (by simpa using hl)
    show (addAll (withPallet ld t n) ls a).length = _ ∧ ∀ k, (addAll (withPallet ld t n) ls a).getD k 0 = _
    refine ⟨?_, fun k => ?_⟩
    · rw [i1, hw, truckCount_cons]
      by_cases e : t = ld.length
      · rw [if_pos e]
        omega
      · rw [if_neg e]
        omega
    · rw [i2 k, withPallet_getD ld t n k ht, loadOf_cons]
      omega
theorem feas_eq (c : Nat) (ls a : List Nat) (hc : Canon 0 a) (hl : a.length = ls.length) : ((addAll [] ls a).all fun x => decide (x ≤ c)) = isFeasible c ls a := by
  obtain ⟨h1, h2⟩ := addAll_spec ls a [] hc hl
  rw [Bool.eq_iff_iff, all_iff_getD]
  unfold isFeasible
  rw [List.all_eq_true]
  constructor
  · intro h t _
    have := h t
    rw [h2 t] at this
    simpa using this
  · intro h k
    by_cases hk : k < truckCount a
    · have := h k (List.mem_range.mpr hk)
      rw [h2 k]
      simpa using this
    · rw [List.getD_eq_getElem?_getD, List.getElem?_eq_none (by rw [h1]; simp; omega)]
      exact Nat.zero_le _
theorem allRows_eq (c : Nat) (ls : List Nat) : allRows c [([], [])] ls = ((canonicalAssignments ls.length 0).filter (isFeasible c ls)).map fun a => (a, addAll [] ls a) := by
  rw [ext_eq c ls [] [] (fun k => by simp)]
  have e : ∀ l : List (List Nat), (∀ a ∈ l, Canon 0 a ∧ a.length = ls.length) → (l.filter fun a => (addAll [] ls a).all fun x => decide (x ≤ c)) = l.filter (isFeasible c ls) := fun l hl => List.filter_congr fun a ha => feas_eq c ls a (hl a ha).1 (hl a ha).2
  show (List.filter _ (canonicalAssignments ls.length 0)).map _ = _
  rw [e _ (fun a ha => canon_mem _ _ a ha)]
  rfl
theorem fold_better {α β : Type} (m : α → Nat) (m' : β → Nat) (g : α → β) : ∀ (L : List α) (b : Option α), (∀ a ∈ L, m' (g a) = m a) → (∀ a, b = some a → m' (g a) = m a) →
    (L.map g).foldl (better m') (b.map g) = (L.foldl (better m) b).map g ∧ ∀ a, L.foldl (better m) b = some a → m' (g a) = m a
  | [], b, _, hb => ⟨rfl, hb⟩
  | x :: r, b, hL, hb => by
    have hx := hL x (List.mem_cons_self ..)
    have e : better m' (b.map g) (g x) = (better m b x).map g := by
      cases b with
      | none => rfl
      | some p =>
        have hp := hb p rfl
        show (if m' (g x) < m' (g p) then some (g x) else some (g p)) = (if m x < m p then some x else some p).map g
        rw [hx, hp]
        split <;> rfl
    rw [List.map_cons, List.foldl_cons, List.foldl_cons, e]
    refine fold_better m m' g r _ (fun a ha => hL a (List.mem_cons_of_mem _ ha)) fun a ha => ?_
    cases b with
    | none =>
      cases ha
      exact hx
    | some p =>
      have ha' : (if m x < m p then some x else some p) = some a := ha
      by_cases h : m x < m p
      · rw [if_pos h] at ha'
        cases ha'
        exact hx
      · rw [if_neg h] at ha'
        cases ha'
        exact hb _ rfl
theorem minimal_fold (c : Nat) (ls : List Nat) : minimalAssignment c ls = ((canonicalAssignments ls.length 0).filter (isFeasible c ls)).foldl (better truckCount) none := by
  unfold minimalAssignment
  congr 1
  funext b x
  cases b <;> rfl
theorem best_eq (c : Nat) (ls : List Nat) : bestOf (allRows c [([], [])] ls) = (minimalAssignment c ls).map (fun a => (a, addAll [] ls a)) ∧
    ∀ a, minimalAssignment c ls = some a → (addAll [] ls a).length = truckCount a := by
  rw [allRows_eq, minimal_fold]
  have hm : ∀ a ∈ (canonicalAssignments ls.length 0).filter (isFeasible c ls), (addAll [] ls a).length = truckCount a := fun a ha => by
    obtain ⟨h1, h2⟩ := canon_mem _ _ a (List.mem_filter.mp ha).1
    obtain ⟨h3, _⟩ := addAll_spec ls a [] h1 h2
    rw [h3]
    simp
  exact fold_better truckCount (fun r : TRow => r.2.length) (fun a => (a, addAll [] ls a)) _ none hm (fun a h => by cases h)
theorem better_some {α : Type} (m : α → Nat) (b : Option α) (x : α) : ∃ y, better m b x = some y := by
  cases b with
  | none => exact ⟨x, rfl⟩
  | some p =>
    by_cases h : m x < m p
    · exact ⟨x, if_pos h⟩
    · exact ⟨p, if_neg h⟩
theorem fold_some {α : Type} (m : α → Nat) : ∀ (L : List α) (b : Option α), (b ≠ none ∨ L ≠ []) → ∃ y, L.foldl (better m) b = some y
  | [], b, h => by
    cases b with
    | none => simp at h
    | some y => exact ⟨y, rfl⟩
  | x :: r, b, _ => by
    obtain ⟨y, hy⟩ := better_some m b x
    rw [List.foldl_cons, hy]
    exact fold_some m r _ (.inl (by simp))
theorem rowsBehind_ne (c : Nat) (r : TRow) (n : Nat) (h : n ≤ c) : rowsBehind c r n ≠ [] := by
  intro e
  unfold rowsBehind at e
  have h1 := List.filterMap_eq_nil_iff.mp e r.2.length (List.mem_range.mpr (by omega))
  unfold rowTry at h1
  rw [if_pos] at h1
  · cases h1
  · rw [withPallet_getD _ _ _ _ (Nat.le_refl _), if_pos rfl, List.getD_eq_getElem?_getD, List.getElem?_eq_none (Nat.le_refl _)]
    simpa using h
theorem allRows_ne (c : Nat) : ∀ (ls : List Nat) (rows : List TRow), (∀ n ∈ ls, n ≤ c) → rows ≠ [] → allRows c rows ls ≠ []
  | [], rows, _, h => h
  | n :: ls, rows, hl, h => by
    refine allRows_ne c ls _ (fun m hm => hl m (List.mem_cons_of_mem _ hm)) ?_
    intro e
    obtain ⟨r, rest, rfl⟩ := List.exists_cons_of_ne_nil h
    have := List.flatMap_eq_nil_iff.mp e r (List.mem_cons_self ..)
    exact rowsBehind_ne c r n (hl n (List.mem_cons_self ..)) this
theorem allRows_nil (c : Nat) : ∀ ls : List Nat, allRows c [] ls = []
  | [] => rfl
  | _ :: ls => allRows_nil c ls
theorem rowsBehind_big (c : Nat) (r : TRow) (n : Nat) (h : c < n) : rowsBehind c r n = [] := by
  unfold rowsBehind
  rw [List.filterMap_eq_nil_iff]
  intro t ht
  have ht' : t ≤ r.2.length := by
    have := List.mem_range.mp ht
    omega
  unfold rowTry
  rw [if_neg]
  rw [withPallet_getD _ _ _ _ ht', if_pos rfl]
  omega
theorem allRows_big (c : Nat) : ∀ (ls : List Nat) (rows : List TRow), (∃ n ∈ ls, c < n) → allRows c rows ls = []
  | [], _, h => by
    obtain ⟨n, hn, _⟩ := h
    cases hn
  | m :: ls, rows, h => by
    show allRows c (rows.flatMap fun r => rowsBehind c r m) ls = []
    by_cases hm : c < m
    · have e : (rows.flatMap fun r => rowsBehind c r m) = [] := List.flatMap_eq_nil_iff.mpr fun r _ => rowsBehind_big c r m hm
      rw [e]
      exact allRows_nil c ls
    · refine allRows_big c ls _ ?_
      obtain ⟨n, hn, hb⟩ := h
      rcases List.mem_cons.mp hn with e | hn
      · subst e
        exact absurd hb hm
      · exact ⟨n, hn, hb⟩
/-- how many rows there are at most -/
theorem rowsBehind_len (c : Nat) (r : TRow) (n : Nat) : (rowsBehind c r n).length ≤ r.2.length + 1 := by
  unfold rowsBehind
  refine Nat.le_trans (List.length_filterMap_le ..) ?_
  simp
theorem rowsBehind_loads (c : Nat) (r : TRow) (n : Nat) : ∀ y ∈ rowsBehind c r n, y.2.length ≤ r.2.length + 1 ∧ y.1.length = r.1.length + 1 := fun y hy => by
  unfold rowsBehind at hy
  obtain ⟨t, _, ht⟩ := List.mem_filterMap.mp hy
  unfold rowTry at ht
  by_cases h : (withPallet r.2 t n).getD t 0 ≤ c
  · rw [if_pos h] at ht
    cases ht
    show (withPallet r.2 t n).length ≤ _ ∧ (r.1 ++ [t]).length = _
    rw [withPallet_len]
    refine ⟨?_, by simp⟩
    split <;> omega
  · rw [if_neg h] at ht
    cases ht
end TF

namespace TF
open Kbe6 (toInts firstFitFrom firstFit decreasingOrder firstFitDecreasing truckCount loadOf sumOf)

/-! ### first fit -/
def firstTruck (c : Nat) (ld : List Nat) (n : Nat) : Nat := (ld.findIdx? fun u => decide (u + n ≤ c)).getD ld.length
theorem firstTruck_le (c : Nat) (ld : List Nat) (n : Nat) : firstTruck c ld n ≤ ld.length := by
  unfold firstTruck
  cases e : ld.findIdx? fun u => decide (u + n ≤ c) with
  | none => exact Nat.le_refl _
  | some t =>
    obtain ⟨h, _⟩ := List.findIdx?_eq_some_iff_getElem.mp e
    exact Nat.le_of_lt h
/-- the search: found at t, or at the end -/
theorem firstTruck_found (c : Nat) (ld : List Nat) (n t : Nat) (ht : t < ld.length) (hf : ld.getD t 0 + n ≤ c) (hb : ∀ k, k < t → ¬ ld.getD k 0 + n ≤ c) : firstTruck c ld n = t := by
  unfold firstTruck
  have e : (ld.findIdx? fun u => decide (u + n ≤ c)) = some t := by
    rw [List.findIdx?_eq_some_iff_getElem]
    refine ⟨ht, ?_, fun j hj => ?_⟩
    · simp [List.getD_eq_getElem?_getD, ht] at hf
      simpa using hf
    · have := hb j hj
      have hj' : j < ld.length := by omega
      simp [List.getD_eq_getElem?_getD, hj'] at this
      simpa using this
  rw [e]
  rfl
theorem firstTruck_none (c : Nat) (ld : List Nat) (n : Nat) (hb : ∀ k, k < ld.length → ¬ ld.getD k 0 + n ≤ c) : firstTruck c ld n = ld.length := by
  unfold firstTruck
  have e : (ld.findIdx? fun u => decide (u + n ≤ c)) = none := by
    rw [List.findIdx?_eq_none_iff]
    intro x hx
    obtain ⟨k, hk, e⟩ := List.getElem_of_mem hx
    have := hb k hk
    simp [List.getD_eq_getElem?_getD, hk, e] at this
    simpa using this
  rw [e]
  rfl
theorem firstFitFrom_cons (c : Nat) (ld : List Nat) (n : Nat) (r : List Nat) : firstFitFrom c ld (n :: r) = firstTruck c ld n :: firstFitFrom c (withPallet ld (firstTruck c ld n) n) r := by
  unfold firstTruck
  rw [firstFitFrom]
  cases e : ld.findIdx? fun u => decide (u + n ≤ c) with
  | none =>
    show ld.length :: firstFitFrom c (ld ++ [n]) r = ld.length :: firstFitFrom c (withPallet ld ld.length n) r
    unfold withPallet
    rw [if_pos rfl]
  | some t =>
    obtain ⟨h, _⟩ := List.findIdx?_eq_some_iff_getElem.mp e
    show t :: firstFitFrom c (ld.set t (ld.getD t 0 + n)) r = t :: firstFitFrom c (withPallet ld t n) r
    unfold withPallet
    rw [if_neg (by omega)]
/-- the loop of first_fit_in: loads and trucks -/
def fitStep (c : Nat) (ls : List Nat) (s : List Nat × List Nat) (p : Nat) : List Nat × List Nat :=
  (withPallet s.1 (firstTruck c s.1 (ls.getD p 0)) (ls.getD p 0), s.2.set p (firstTruck c s.1 (ls.getD p 0)))
def fitIn (c : Nat) (ls order : List Nat) : List Nat × List Nat := order.foldl (fitStep c ls) ([], ls.map fun _ => 0)
theorem fit_len (c : Nat) (ls : List Nat) : ∀ (o : List Nat) (s : List Nat × List Nat), (o.foldl (fitStep c ls) s).2.length = s.2.length ∧ (o.foldl (fitStep c ls) s).1.length ≤ s.1.length + o.length
  | [], s => ⟨rfl, Nat.le_refl _⟩
  | p :: o, s => by
    obtain ⟨h1, h2⟩ := fit_len c ls o (fitStep c ls s p)
    rw [List.foldl_cons]
    have e1 : (fitStep c ls s p).2.length = s.2.length := List.length_set
    have e2 : (fitStep c ls s p).1.length ≤ s.1.length + 1 := by
      show (withPallet _ _ _).length ≤ _
      rw [withPallet_len]
      split <;> omega
    refine ⟨by rw [h1, e1], ?_⟩
    rw [List.length_cons]
    omega
theorem fit_out (c : Nat) (ls : List Nat) : ∀ (o : List Nat) (s : List Nat × List Nat) (p : Nat), p ∉ o → (o.foldl (fitStep c ls) s).2[p]? = s.2[p]?
  | [], s, p, _ => rfl
  | q :: o, s, p, h => by
    rw [List.foldl_cons, fit_out c ls o _ p (fun m => h (List.mem_cons_of_mem _ m))]
    show (s.2.set q _)[p]? = _
    rw [List.getElem?_set_ne]
    intro e
    exact h (by rw [← e]; exact List.mem_cons_self ..)
theorem fit_at (c : Nat) (ls : List Nat) : ∀ (o : List Nat) (s : List Nat × List Nat) (j p : Nat), o.Nodup → (∀ q ∈ o, q < s.2.length) → o[j]? = some p →
    (o.foldl (fitStep c ls) s).2[p]? = (firstFitFrom c s.1 (o.map fun q => ls.getD q 0))[j]?
  | [], s, j, p, _, _, h => by simp at h
  | q :: o, s, j, p, hn, hb, h => by
    obtain ⟨n1, n2⟩ := List.nodup_cons.mp hn
    rw [List.foldl_cons, List.map_cons, firstFitFrom_cons]
    cases j with
    | zero =>
      have e : q = p := Option.some.inj h
      subst e
      rw [fit_out c ls o _ q n1]
      show (s.2.set q _)[q]? = _
      rw [List.getElem?_set_self (hb q (List.mem_cons_self ..))]
      rfl
    | succ j =>
      rw [List.getElem?_cons_succ]
      refine fit_at c ls o (fitStep c ls s q) j p n2 (fun r hr => ?_) h
      show r < (s.2.set q _).length
      rw [List.length_set]
      exact hb r (List.mem_cons_of_mem _ hr)
theorem firstFitFrom_len (c : Nat) : ∀ (l ld : List Nat), (firstFitFrom c ld l).length = l.length
  | [], ld => by rw [firstFitFrom]
  | n :: r, ld => by rw [firstFitFrom_cons, List.length_cons, firstFitFrom_len c r, List.length_cons]
theorem fitIn_len (c : Nat) (ls o : List Nat) : (fitIn c ls o).2.length = ls.length := by
  unfold fitIn
  rw [(fit_len c ls o _).1]
  simp
theorem range_getD (ls : List Nat) : ((List.range ls.length).map fun q => ls.getD q 0) = ls := by
  refine List.ext_getElem? fun i => ?_
  rw [List.getElem?_map]
  by_cases h : i < ls.length
  · simp [h]
  · simp [List.getElem?_eq_none (show ls.length ≤ i by omega), List.getElem?_eq_none (show (List.range ls.length).length ≤ i by simp; omega)]
theorem fit_first (c : Nat) (ls : List Nat) : (fitIn c ls (List.range ls.length)).2 = firstFit c ls := by
  refine List.ext_getElem? fun i => ?_
  unfold firstFit
  by_cases h : i < ls.length
  · unfold fitIn
    rw [fit_at c ls (List.range ls.length) _ i i List.nodup_range (fun q hq => by simpa using hq) (by simp [h])]
    show (firstFitFrom c [] ((List.range ls.length).map fun q => ls.getD q 0))[i]? = _
    rw [range_getD]
  · rw [List.getElem?_eq_none (by rw [fitIn_len]; omega), List.getElem?_eq_none (by rw [firstFitFrom_len]; omega)]
theorem findIdx_beq {l : List Nat} (hn : l.Nodup) {j p : Nat} (h : l[j]? = some p) : l.findIdx? (· == p) = some j := by
  obtain ⟨hj, e⟩ := List.getElem?_eq_some_iff.mp h
  rw [List.findIdx?_eq_some_iff_getElem]
  refine ⟨hj, by simp [e], fun k hk => ?_⟩
  intro hh
  have hk' : k < l.length := by omega
  have e2 : l[k] = p := by simpa using hh
  exact (List.pairwise_iff_getElem.mp hn) k j hk' hj hk (by rw [e, e2])
theorem fit_decreasing (c : Nat) (ls : List Nat) (hp : (decreasingOrder ls).Perm (List.range ls.length)) : (fitIn c ls (decreasingOrder ls)).2 = firstFitDecreasing c ls := by
  have hn : (decreasingOrder ls).Nodup := hp.nodup_iff.mpr List.nodup_range
  unfold firstFitDecreasing
  refine List.ext_getElem? fun i => ?_
  by_cases h : i < ls.length
  · have hm : i ∈ decreasingOrder ls := hp.mem_iff.mpr (List.mem_range.mpr h)
    obtain ⟨j, hj⟩ := List.getElem?_of_mem hm
    show (fitIn c ls (decreasingOrder ls)).2[i]? = ((List.range ls.length).map fun index => (firstFit c ((decreasingOrder ls).map fun index => ls.getD index 0)).getD (((decreasingOrder ls).findIdx? (· == index)).getD 0) 0)[i]?
    rw [List.getElem?_map, List.getElem?_range h]
    show _ = some ((firstFit c ((decreasingOrder ls).map fun index => ls.getD index 0)).getD (((decreasingOrder ls).findIdx? (· == i)).getD 0) 0)
    rw [findIdx_beq hn hj]
    unfold fitIn
    rw [fit_at c ls (decreasingOrder ls) _ j i hn (fun q hq => by simpa using hp.mem_iff.mp hq) hj]
    have hjl : j < (firstFitFrom c [] ((decreasingOrder ls).map fun index => ls.getD index 0)).length := by
      rw [firstFitFrom_len, List.length_map]
      exact (List.getElem?_eq_some_iff.mp hj).1
    show (firstFitFrom c [] _)[j]? = some ((firstFitFrom c [] _).getD j 0)
    rw [List.getD_eq_getElem?_getD, List.getElem?_eq_getElem hjl]
    rfl
  · rw [List.getElem?_eq_none (by rw [fitIn_len]; omega), List.getElem?_eq_none (by simp; omega)]

/-! ### the falling order -/
/-- p stands ahead of q -/
def Ahead (ls : List Nat) (p q : Nat) : Prop := ls.getD q 0 < ls.getD p 0 ∨ (ls.getD p 0 = ls.getD q 0 ∧ p < q)
theorem Ahead.asymm {ls : List Nat} {p q : Nat} (h : Ahead ls p q) (h2 : Ahead ls q p) : False := by
  unfold Ahead at *
  omega
theorem perm_split {α : Type} (f g : α → Bool) (hfg : ∀ x, g x = !f x) (a : α) : ∀ l : List α, (l.filter f ++ a :: l.filter g).Perm (a :: l) := fun l => by
  have e : l.filter g = l.filter fun x => !f x := List.filter_congr fun x _ => hfg x
  rw [e]
  exact List.perm_middle.trans (List.Perm.cons a (List.filter_append_perm f l))
theorem order_step (ls : List Nat) (s : List Nat) (i : Nat) (hs : s.Pairwise (Ahead ls)) (hp : s.Perm (List.range i)) :
    ((s.filter fun o => decide (ls.getD i 0 ≤ ls.getD o 0)) ++ i :: s.filter fun o => decide (ls.getD o 0 < ls.getD i 0)).Pairwise (Ahead ls) ∧
    ((s.filter fun o => decide (ls.getD i 0 ≤ ls.getD o 0)) ++ i :: s.filter fun o => decide (ls.getD o 0 < ls.getD i 0)).Perm (List.range (i + 1)) := by
  have hlt : ∀ o ∈ s, o < i := fun o ho => List.mem_range.mp (hp.mem_iff.mp ho)
  constructor
  · rw [List.pairwise_append]
    refine ⟨hs.filter _, List.pairwise_cons.mpr ⟨fun o ho => ?_, hs.filter _⟩, fun o ho q hq => ?_⟩
    · have := (List.mem_filter.mp ho).2
      have : ls.getD o 0 < ls.getD i 0 := by simpa using this
      exact .inl this
    · obtain ⟨ho1, ho2⟩ := List.mem_filter.mp ho
      have ho2 : ls.getD i 0 ≤ ls.getD o 0 := by simpa using ho2
      have := hlt o ho1
      unfold Ahead
      rcases List.mem_cons.mp hq with e | hq
      · subst e
        omega
      · have hq2 := (List.mem_filter.mp hq).2
        have hq2 : ls.getD q 0 < ls.getD i 0 := by simpa using hq2
        omega
  · refine (perm_split _ _ (fun x => ?_) i s).trans ?_
    · by_cases h : ls.getD i 0 ≤ ls.getD x 0
      · rw [decide_eq_true h, decide_eq_false (by omega)]
        rfl
      · rw [decide_eq_false h, decide_eq_true (by omega)]
        rfl
    · rw [List.range_succ]
      exact (List.Perm.cons i hp).trans (List.perm_append_singleton i _).symm
theorem order_spec (ls : List Nat) : ∀ n, ((List.range n).foldl (fun sorted index =>
    (sorted.filter fun other => decide (ls.getD index 0 ≤ ls.getD other 0)) ++
    index :: sorted.filter fun other => decide (ls.getD other 0 < ls.getD index 0)) []).Pairwise (Ahead ls) ∧
    ((List.range n).foldl (fun sorted index =>
    (sorted.filter fun other => decide (ls.getD index 0 ≤ ls.getD other 0)) ++
    index :: sorted.filter fun other => decide (ls.getD other 0 < ls.getD index 0)) []).Perm (List.range n)
  | 0 => ⟨List.Pairwise.nil, List.Perm.nil⟩
  | n + 1 => by
    obtain ⟨h1, h2⟩ := order_spec ls n
    rw [List.range_succ, List.foldl_append, ← List.range_succ]
    exact order_step ls _ n h1 h2
theorem order_ok (ls : List Nat) : (decreasingOrder ls).Pairwise (Ahead ls) ∧ (decreasingOrder ls).Perm (List.range ls.length) := order_spec ls ls.length
theorem sorted_unique {α : Type} {R : α → α → Prop} (as : ∀ a b, R a b → R b a → False) : ∀ (l m : List α), l.Perm m → l.Pairwise R → m.Pairwise R → l = m
  | [], m, h, _, _ => (List.nil_perm.mp h).symm
  | a :: l, [], h, _, _ => absurd h (by simp)
  | a :: l, b :: m, h, hl, hm => by
    obtain ⟨a1, a2⟩ := List.pairwise_cons.mp hl
    obtain ⟨b1, b2⟩ := List.pairwise_cons.mp hm
    have e : a = b := by
      rcases List.mem_cons.mp (h.mem_iff.mp (List.mem_cons_self ..) : a ∈ b :: m) with e | hb
      · exact e
      · rcases List.mem_cons.mp (h.mem_iff.mpr (List.mem_cons_self ..) : b ∈ a :: l) with e | ha
        · exact e.symm
        · exact (as a b (a1 b ha) (b1 a hb)).elim
    subst e
    rw [sorted_unique as l m ((List.perm_cons a).mp h) a2 b2]
theorem order_unique (ls : List Nat) (o : List Nat) (h1 : o.Perm (List.range ls.length)) (h2 : o.Pairwise (Ahead ls)) : o = decreasingOrder ls :=
  sorted_unique (R := Ahead ls) (fun _ _ h h2 => h.asymm h2) _ _ (h1.trans (order_ok ls).2.symm) h2 (order_ok ls).1
end TF

namespace TF
open Kbe6 (toInts validLengths canonicalAssignments truckCount loadOf sumOf isFeasible minimalAssignment requireCapacity Response thresholdBound bestBound lengthBound firstFit firstFitDecreasing encodeAssignment)

/-! ### what is refused -/
def loadRef (c : Nat) (ls : List Nat) : List Int :=
  if validLengths ls = true ∧ 1 ≤ c ∧ c ≤ 100 then (if ls.all (fun l => decide (l ≤ c)) = true then [] else [-33]) else [-22]
theorem ints_nats {l : List Int} (h : ∀ x ∈ l, 0 ≤ x) : ∃ m : List Nat, l = toInts m := by
  refine ⟨l.map Int.toNat, ?_⟩
  unfold toInts
  rw [List.map_map]
  conv => lhs; rw [← List.map_id l]
  exact List.map_congr_left fun x hx => (Int.toNat_of_nonneg (h x hx)).symm
theorem nats_ints (m : List Nat) : Kbe6Neutral.toNats (toInts m) = m := by
  unfold Kbe6Neutral.toNats toInts
  rw [List.map_map]
  conv => rhs; rw [← List.map_id m]
  exact List.map_congr_left fun x _ => rfl
theorem any_all (c : Nat) (ls : List Nat) : ls.any (fun l => decide (c < l)) = !(ls.all fun l => decide (l ≤ c)) := by
  rw [List.not_all_eq_any_not]
  congr 1
  funext l
  by_cases h : l ≤ c
  · rw [decide_eq_true h, decide_eq_false (by omega)]
    rfl
  · rw [decide_eq_false h, decide_eq_true (by omega)]
    rfl
theorem require_eq (c : Nat) (ls : List Nat) (r : Response) : (requireCapacity c ls r).head :: (requireCapacity c ls r).tail = if loadRef c ls = [] then r.head :: r.tail else loadRef c ls := by
  unfold requireCapacity loadRef
  rw [any_all]
  cases h1 : validLengths ls with
  | false => rfl
  | true =>
    by_cases h2 : 1 ≤ c ∧ c ≤ 100
    · rw [if_neg (by
        rintro (h | h | h)
        · cases h
        · omega
        · omega), if_pos (show true = true ∧ 1 ≤ c ∧ c ≤ 100 from ⟨rfl, h2⟩)]
      cases h3 : ls.all fun l => decide (l ≤ c) with
      | true => rfl
      | false => rfl
    · rw [if_pos (show true = false ∨ c = 0 ∨ 100 < c from by omega), if_neg (show ¬ (true = true ∧ 1 ≤ c ∧ c ≤ 100) from fun h => h2 h.2)]
      rfl
theorem loadRef_nil {c : Nat} {ls : List Nat} (h : loadRef c ls = []) : ls.length ≤ 7 ∧ 1 ≤ c ∧ c ≤ 100 ∧ (∀ l ∈ ls, l ≤ c) ∧ validLengths ls = true := by
  unfold loadRef at h
  by_cases h1 : validLengths ls = true ∧ 1 ≤ c ∧ c ≤ 100
  · rw [if_pos h1] at h
    by_cases h2 : ls.all (fun l => decide (l ≤ c)) = true
    · refine ⟨?_, h1.2.1, h1.2.2, fun l hl => by simpa using List.all_eq_true.mp h2 l hl, h1.1⟩
      have := h1.1
      unfold validLengths at this
      rw [Bool.and_eq_true] at this
      simpa using this.1
    · rw [if_neg h2] at h
      cases h
  · rw [if_neg h1] at h
    cases h
/-! ### what is due -/
theorem due_first_fit (c : Nat) (ls : List Nat) : PyKbe6.first_fit (c : Int) (toInts ls) = if loadRef c ls = [] then (truckCount (firstFit c ls) : Int) :: toInts (firstFit c ls) else loadRef c ls := by
  show (requireCapacity c (Kbe6Neutral.toNats (toInts ls)) (encodeAssignment (firstFit c (Kbe6Neutral.toNats (toInts ls))))).head :: (requireCapacity c (Kbe6Neutral.toNats (toInts ls)) (encodeAssignment (firstFit c (Kbe6Neutral.toNats (toInts ls))))).tail = _
  rw [require_eq, nats_ints]
  rfl
theorem due_first_fit_decreasing (c : Nat) (ls : List Nat) : PyKbe6.first_fit_decreasing (c : Int) (toInts ls) = if loadRef c ls = [] then (truckCount (firstFitDecreasing c ls) : Int) :: toInts (firstFitDecreasing c ls) else loadRef c ls := by
  show (requireCapacity c (Kbe6Neutral.toNats (toInts ls)) (encodeAssignment (firstFitDecreasing c (Kbe6Neutral.toNats (toInts ls))))).head :: (requireCapacity c (Kbe6Neutral.toNats (toInts ls)) (encodeAssignment (firstFitDecreasing c (Kbe6Neutral.toNats (toInts ls))))).tail = _
  rw [require_eq, nats_ints]
  rfl
theorem due_minimal (c : Nat) (ls : List Nat) {r : TRow} (hr : bestOf (allRows c [([], [])] ls) = some r) : PyKbe6.minimal_assignment (c : Int) (toInts ls) = if loadRef c ls = [] then (r.2.length : Int) :: toInts r.1 else loadRef c ls := by
  obtain ⟨h1, h2⟩ := best_eq c ls
  rw [hr] at h1
  cases hm : minimalAssignment c ls with
  | none =>
    rw [hm] at h1
    cases h1
  | some a =>
    rw [hm] at h1
    have e : r = (a, addAll [] ls a) := Option.some.inj h1
    subst e
    have h3 := h2 a hm
    show (requireCapacity c (Kbe6Neutral.toNats (toInts ls)) (match minimalAssignment c (Kbe6Neutral.toNats (toInts ls)) with | some assignment => encodeAssignment assignment | none => Kbe6.single Kbe6.noSolution)).head :: (requireCapacity c (Kbe6Neutral.toNats (toInts ls)) (match minimalAssignment c (Kbe6Neutral.toNats (toInts ls)) with | some assignment => encodeAssignment assignment | none => Kbe6.single Kbe6.noSolution)).tail = _
    rw [require_eq, nats_ints, hm]
    show (if loadRef c ls = [] then (truckCount a : Int) :: toInts a else loadRef c ls) = if loadRef c ls = [] then (((addAll [] ls a).length : Nat) : Int) :: toInts a else loadRef c ls
    rw [h3]
theorem best_some (c : Nat) (ls : List Nat) (h : ∀ l ∈ ls, l ≤ c) : ∃ r, bestOf (allRows c [([], [])] ls) = some r :=
  fold_some _ _ _ (.inr (allRows_ne c ls _ h (by simp)))
theorem due_lower (c : Nat) (ls : List Nat) : PyKbe6.lower_bounds (c : Int) (toInts ls) = if loadRef c ls = [] then [(lengthBound c ls : Int), (bestBound c ls : Int)] else loadRef c ls := by
  show (requireCapacity c (Kbe6Neutral.toNats (toInts ls)) ⟨(lengthBound c (Kbe6Neutral.toNats (toInts ls)) : Nat), [(bestBound c (Kbe6Neutral.toNats (toInts ls)) : Int)]⟩).head :: (requireCapacity c (Kbe6Neutral.toNats (toInts ls)) ⟨(lengthBound c (Kbe6Neutral.toNats (toInts ls)) : Nat), [(bestBound c (Kbe6Neutral.toNats (toInts ls)) : Int)]⟩).tail = _
  rw [require_eq, nats_ints]
theorem due_threshold (c t : Nat) (ls : List Nat) : PyKbe6.threshold_bound (c : Int) (t : Int) (toInts ls) = if loadRef c ls = [] then (if c < 2 * t then [-2] else [(thresholdBound c ls t : Int)]) else loadRef c ls := by
  show (requireCapacity c (Kbe6Neutral.toNats (toInts ls)) (if c < 2 * t then Kbe6.single Kbe6.notFound else Kbe6.single (thresholdBound c (Kbe6Neutral.toNats (toInts ls)) t : Nat))).head :: (requireCapacity c (Kbe6Neutral.toNats (toInts ls)) (if c < 2 * t then Kbe6.single Kbe6.notFound else Kbe6.single (thresholdBound c (Kbe6Neutral.toNats (toInts ls)) t : Nat))).tail = _
  rw [require_eq, nats_ints]
  by_cases h : c < 2 * t
  · rw [if_pos h, if_pos h]
    rfl
  · rw [if_neg h, if_neg h]
    rfl
theorem due_feasible (c : Nat) (ls as : List Nat) : PyKbe6.is_feasible (c : Int) (toInts ls) (toInts as) =
    if loadRef c ls = [] then (if as.length = ls.length ∧ as.all (fun t => decide (t ≤ 99)) = true then [if isFeasible c ls as = true then 1 else 0] else [-22]) else loadRef c ls := by
  show (requireCapacity c (Kbe6Neutral.toNats (toInts ls)) (if (Kbe6Neutral.toNats (toInts as)).length ≠ (Kbe6Neutral.toNats (toInts ls)).length ∨ ((Kbe6Neutral.toNats (toInts as)).any fun truck => decide (99 < truck)) = true then Kbe6.single Kbe6.invalidArgument else Kbe6.single (if isFeasible c (Kbe6Neutral.toNats (toInts ls)) (Kbe6Neutral.toNats (toInts as)) then 1 else 0))).head :: (requireCapacity c (Kbe6Neutral.toNats (toInts ls)) (if (Kbe6Neutral.toNats (toInts as)).length ≠ (Kbe6Neutral.toNats (toInts ls)).length ∨ ((Kbe6Neutral.toNats (toInts as)).any fun truck => decide (99 < truck)) = true then Kbe6.single Kbe6.invalidArgument else Kbe6.single (if isFeasible c (Kbe6Neutral.toNats (toInts ls)) (Kbe6Neutral.toNats (toInts as)) then 1 else 0))).tail = _
  rw [require_eq, nats_ints, nats_ints, any_all 99 as]
  by_cases h : as.length = ls.length ∧ as.all (fun t => decide (t ≤ 99)) = true
  · rw [if_pos h, if_neg (show ¬ (as.length ≠ ls.length ∨ (!(as.all fun t => decide (t ≤ 99))) = true) by
      rintro (h1 | h1)
      · exact h1 h.1
      · rw [h.2] at h1
        cases h1)]
    rfl
  · rw [if_neg h, if_pos (show as.length ≠ ls.length ∨ (!(as.all fun t => decide (t ≤ 99))) = true by
      by_cases h1 : as.length = ls.length
      · right
        cases h2 : as.all fun t => decide (t ≤ 99) with
        | false => rfl
        | true => exact (h ⟨h1, h2⟩).elim
      · exact .inl h1)]
    rfl
/-! ### min_capacity -/
def fitsAt (limit : Nat) (ls : List Nat) (c : Nat) : Bool := match bestOf (allRows c [([], [])] ls) with
  | some r => decide (r.2.length ≤ limit)
  | none => false
def leastCap (limit : Nat) (ls : List Nat) : Option Nat := ((List.range 100).map (· + 1)).find? (fitsAt limit ls)
theorem fitsAt_eq (limit : Nat) (ls : List Nat) (c : Nat) : ((ls.all fun length => decide (length ≤ c)) && (match minimalAssignment c ls with | some assignment => decide (truckCount assignment ≤ limit) | none => false)) = fitsAt limit ls c := by
  obtain ⟨h1, h2⟩ := best_eq c ls
  unfold fitsAt
  rw [h1]
  cases hm : minimalAssignment c ls with
  | none => simp
  | some a =>
    rw [hm] at h1
    have h3 := h2 a hm
    show _ = decide ((addAll [] ls a).length ≤ limit)
    rw [h3]
    have h4 : (ls.all fun length => decide (length ≤ c)) = true := by
      rw [List.all_eq_true]
      intro n hn
      refine decide_eq_true ?_
      by_cases hc : n ≤ c
      · exact hc
      · rw [allRows_big c ls _ ⟨n, hn, by omega⟩] at h1
        cases h1
    rw [h4]
    rfl
def minResp (limit : Nat) (ls : List Nat) : Response :=
  if validLengths ls = false then Kbe6.single Kbe6.invalidArgument
  else match ((List.range 100).map (· + 1)).find? fun capacity => (ls.all fun length => decide (length ≤ capacity)) && (match minimalAssignment capacity ls with | some assignment => decide (truckCount assignment ≤ limit) | none => false) with
    | some capacity => Kbe6.single (capacity : Nat)
    | none => Kbe6.single Kbe6.noSolution
theorem due_min_capacity (limit : Nat) (ls : List Nat) : PyKbe6.min_capacity (limit : Int) (toInts ls) =
    if validLengths ls = true then (match leastCap limit ls with | some c => [(c : Int)] | none => [-33]) else [-22] := by
  have e : PyKbe6.min_capacity (limit : Int) (toInts ls) = (minResp limit (Kbe6Neutral.toNats (toInts ls))).head :: (minResp limit (Kbe6Neutral.toNats (toInts ls))).tail := rfl
  rw [e, nats_ints]
  have e2 : (fun capacity => (ls.all fun length => decide (length ≤ capacity)) && (match minimalAssignment capacity ls with | some assignment => decide (truckCount assignment ≤ limit) | none => false)) = fitsAt limit ls := by
    funext c
    exact fitsAt_eq limit ls c
  unfold minResp
  rw [e2]
  cases hv : validLengths ls with
  | false => rfl
  | true =>
    rw [if_neg (show ¬ true = false by decide), if_pos (show true = true from rfl)]
    unfold leastCap
    cases List.find? (fitsAt limit ls) ((List.range 100).map (· + 1)) with
    | none => rfl
    | some c => rfl
/-! ### bounds -/
def roundedUp (n c : Nat) : Nat := (n + c - 1) / c
def largeOnes (c t : Nat) (ls : List Nat) : List Nat := ls.filter fun l => decide (c < l + t)
def mediumOnes (c t : Nat) (ls : List Nat) : List Nat := ls.filter fun l => decide (l + t ≤ c) && decide (c < 2 * l)
def smallOnes (c t : Nat) (ls : List Nat) : List Nat := ls.filter fun l => decide (t ≤ l) && decide (2 * l ≤ c)
theorem rounded_int (n c : Nat) (hc : 1 ≤ c) : ((n : Int) + (c : Int) - 1).fdiv (c : Int) = ((roundedUp n c : Nat) : Int) := by
  have e : ((n : Int) + (c : Int) - 1) = ((n + c - 1 : Nat) : Int) := by omega
  rw [e, Int.fdiv_eq_ediv_of_nonneg _ (by omega)]
  rfl
theorem small_eq (c t : Nat) (ls : List Nat) : smallOnes c t ls = ls.filter fun length => decide (2 * length ≤ c) && decide (t ≤ length) := by
  unfold smallOnes
  congr 1
  funext l
  exact Bool.and_comm _ _
theorem bound_eq (c t : Nat) (ls : List Nat) (hc : 1 ≤ c) : thresholdBound c ls t = (largeOnes c t ls).length + (mediumOnes c t ls).length + roundedUp (sumOf (smallOnes c t ls) - ((mediumOnes c t ls).length * c - sumOf (mediumOnes c t ls))) c := by
  rw [small_eq]
  unfold thresholdBound
  show _ + (if c = 0 then 0 else _) = _
  rw [if_neg (by omega)]
  rfl
theorem sum_le (c : Nat) : ∀ l : List Nat, (∀ x ∈ l, x ≤ c) → sumOf l ≤ l.length * c
  | [], _ => by simp [sumOf]
  | x :: r, h => by
    have ih := sum_le c r fun y hy => h y (List.mem_cons_of_mem _ hy)
    have hx := h x (List.mem_cons_self ..)
    rw [sumOf_cons, List.length_cons, Nat.succ_mul]
    omega
theorem length_bound_eq (c : Nat) (ls : List Nat) (hc : 1 ≤ c) : lengthBound c ls = roundedUp (sumOf ls) c := by
  unfold lengthBound
  rw [if_neg (by omega)]
  rfl
theorem foldl_max_map (f : Nat → Nat) : ∀ (l : List Nat) (z : Nat), l.foldl (fun b t => max b (f t)) z = (l.map f).foldl max z
  | [], _ => rfl
  | x :: r, z => foldl_max_map f r (max z (f x))
theorem best_bound_eq (c : Nat) (ls : List Nat) : bestBound c ls = ((List.range (c / 2 + 1)).map (thresholdBound c ls)).foldl max 0 := by
  unfold bestBound
  exact foldl_max_map _ _ _
theorem max_is : ∀ (l : List Nat) (m : Nat), m ∈ l → (∀ x ∈ l, x ≤ m) → l.foldl max 0 = m
  | [], m, h, _ => by cases h
  | x :: r, m, h, hle => by
    rw [List.foldl_cons, foldl_max]
    have hx := hle x (List.mem_cons_self ..)
    by_cases hr : m ∈ r
    · rw [max_is r m hr fun y hy => hle y (List.mem_cons_of_mem _ hy)]
      omega
    · have e : m = x := by
        rcases List.mem_cons.mp h with e | h
        · exact e
        · exact (hr h).elim
      have h3 : r.foldl max 0 ≤ m := by
        clear hr h
        have key : ∀ l : List Nat, (∀ y ∈ l, y ≤ m) → l.foldl max 0 ≤ m := by
          intro l
          induction l with
          | nil => intro _; exact Nat.zero_le _
          | cons y s ih =>
            intro hl
            rw [List.foldl_cons, foldl_max]
            have := ih fun z hz => hl z (List.mem_cons_of_mem _ hz)
            have := hl y (List.mem_cons_self ..)
            omega
        exact key r fun y hy => hle y (List.mem_cons_of_mem _ hy)
      omega
theorem max_is_int (l : List Nat) (m : Int) (h : m ∈ toInts l) (hle : ∀ x ∈ toInts l, x ≤ m) : m = ((l.foldl max 0 : Nat) : Int) := by
  obtain ⟨n, hn, e⟩ := List.mem_map.mp h
  have e : m = (n : Int) := e.symm
  subst e
  rw [max_is l n hn fun x hx => by
    have := hle (x : Int) (List.mem_map.mpr ⟨x, hx, rfl⟩)
    omega]
/-- count_trucks -/
theorem count_is (a : List Nat) : (0 :: a.map (· + 1)).foldl max 0 = truckCount a := by
  rw [List.foldl_cons]
  have key : ∀ l : List Nat, (l.map (· + 1)).foldl max 0 = truckCount l := by
    intro l
    induction l with
    | nil => rfl
    | cons x r ih =>
      rw [List.map_cons, List.foldl_cons, foldl_max, ih, truckCount_cons]
      omega
  exact key a
theorem count_le (n : Nat) : ∀ a : List Nat, (∀ x ∈ a, x ≤ n) → truckCount a ≤ n + 1
  | [], _ => by simp [truckCount]
  | x :: r, h => by
    rw [truckCount_cons]
    have := count_le n r fun y hy => h y (List.mem_cons_of_mem _ hy)
    have := h x (List.mem_cons_self ..)
    omega
/-- load_of by places -/
theorem load_is : ∀ (ls a : List Nat) (k : Nat), a.length = ls.length →
    loadOf ls a k = sumOf (((List.range ls.length).filter fun p => decide (a.getD p 0 = k)).map fun p => ls.getD p 0)
  | [], a, k, _ => by rw [loadOf_nil_left]; rfl
  | n :: ls, [], k, h => by simp at h
  | n :: ls, t :: a, k, h => by
    rw [loadOf_cons, load_is ls a k (by simpa using h)]
    rw [List.length_cons, List.range_succ_eq_map, List.filter_cons, List.filter_map]
    have e : ((fun p => decide ((t :: a).getD p 0 = k)) ∘ Nat.succ) = fun p => decide (a.getD p 0 = k) := by
      funext p
      simp
    rw [e]
    by_cases h0 : t = k
    · rw [if_pos h0, if_pos (by simpa using h0), List.map_cons, sumOf_cons, List.map_map]
      rfl
    · rw [if_neg h0, if_neg (by simpa using h0), List.map_map]
      simp [Function.comp_def]
end TF

/-! ### short words over the hand layer -/
namespace TW
open PySem PySem.Spec PyProof.Rows L2
open Kbe6 (toInts)
abbrev iv (l : List Nat) : List V := (toInts l).map V.int
theorem iv_eq (l : List Nat) : iv l = l.map fun n : Nat => V.int (n : Int) := by
  unfold iv Kbe6.toInts
  rw [List.map_map]
  rfl
theorem iv_len (l : List Nat) : (iv l).length = l.length := by rw [iv_eq, List.length_map]
theorem iv_get {l : List Nat} {i n : Nat} (h : l[i]? = some n) : (iv l)[i]? = some (V.int (n : Int)) := by
  rw [iv_eq, List.getElem?_map, h]
  rfl
theorem iv_at {l : List Nat} {i : Nat} {x : V} (h : (iv l)[i]? = some x) : ∃ n, l[i]? = some n ∧ x = V.int (n : Int) := by
  rw [iv_eq, List.getElem?_map] at h
  cases e : l[i]? with
  | none =>
    rw [e] at h
    cases h
  | some n =>
    rw [e] at h
    exact ⟨n, rfl, (Option.some.inj h).symm⟩
theorem iv_app (l m : List Nat) : iv (l ++ m) = iv l ++ iv m := by rw [iv_eq, iv_eq, iv_eq, List.map_append]
theorem iv_one (n : Nat) : iv [n] = [V.int (n : Int)] := rfl
theorem iv_set (l : List Nat) (i n : Nat) : iv (l.set i n) = (iv l).set i (V.int (n : Int)) := by rw [iv_eq, iv_eq, List.map_set]
theorem iv_take (l : List Nat) (i : Nat) : iv (l.take i) = (iv l).take i := by rw [iv_eq, iv_eq, List.map_take]
theorem iv_drop (l : List Nat) (i : Nat) : iv (l.drop i) = (iv l).drop i := by rw [iv_eq, iv_eq, List.map_drop]
theorem take_snoc {α : Type} {l : List α} {i : Nat} {x : α} (h : l[i]? = some x) : l.take (i + 1) = l.take i ++ [x] := by
  rw [List.take_add_one, h]
  rfl
theorem snoc_eq {xs : List V} {y z : V} (h : y = z) : xs ++ [y] = xs ++ [z] := by rw [h]
theorem same_upd {H : Hp} {p : Addr} {o : HO} (h : H p = none) : Same H (upd H p o) := fun b x e => by
  rw [upd_ne (ne_of_none e h)]
  exact e
theorem small {n : Nat} (m : Nat) (h : n ≤ m) (hm : m < sizeLine := by decide) : n < sizeLine := Nat.lt_of_le_of_lt h hm
theorem small_le {n : Nat} (m : Nat) (h : n ≤ m) (hm : m < sizeLine := by decide) : n ≤ sizeLine := Nat.le_of_lt (small m h hm)
/-- since H a new list stands at D, nothing else was turned -/
structure Made (H : Hp) (D : Addr) (xs : List V) (H' : Hp) : Prop where
  same : Same H H'
  new : H D = none
  at_ : H' D = some (.lst xs)
theorem Made.start {H : Hp} {D : Addr} {xs : List V} (h : H D = none) : Made H D xs (upd H D (.lst xs)) := ⟨same_upd h, h, upd_same⟩
theorem Made.go {H H1 H2 : Hp} {D : Addr} {xs : List V} (m : Made H D xs H1) (s : Same H1 H2) : Made H D xs H2 := ⟨m.same.trans s, m.new, s _ _ m.at_⟩
theorem Made.put {H H1 : Hp} {D : Addr} {xs : List V} (ys : List V) (m : Made H D xs H1) : Made H D ys (upd H1 D (.lst ys)) :=
  ⟨fun b o e => by
    rw [upd_ne (ne_of_none e m.new)]
    exact m.same b o e, m.new, upd_same⟩
/-- a turn of a comprehension that appends -/
theorem Made.turn {H H1 : Hp} {D : Addr} {xs ys : List V} {y : V} (m : Made H D xs H1) (hl : xs.length < sizeLine) (e : ys = xs ++ [y]) :
    ∃ acc, H1 D = some (.lst acc) ∧ acc.length < sizeLine ∧ Made H D ys (upd H1 D (.lst (acc ++ [y]))) := ⟨xs, m.at_, hl, by rw [e]; exact m.put _⟩
theorem seqL {K : PySem.W.Frag} {H : Hp} {a : Addr} {xs : List V} (h : H a = some (.lst xs)) : SqL K H a xs := SqL.of h
theorem ix_listK {X : Cx} {K : PySem.W.Frag} (h : X.K = K := by rfl) : IxR X (rIxL K) := by
  subst h
  exact ix_list
/-- a def of the text that may be called -/
structure Callee (P : Program) (w : World) (K : PySem.W.Frag) (mg : Str → Option Value) (base : Heap) (k : Nat) (x : Str) (ps : List Str) (sp : Sp) : Prop where
  ex : ∃ (f : Addr) (fd : FuncData), FnOk P w K mg base CX0 k f fd ps sp ∧ mg x = some (.ref f) ∧ PySem.W.keepIn K (.ref f) = true ∧ Binds K fd ps []
/-- a written whole number of the text -/
def Num (mg : Str → Option Value) (x : Str) (n : Int) : Prop := ∃ t, mg x = some (.int n t)
end TW
namespace TW
open PySem PySem.Spec PyProof.Rows L2
def topS (i : Nat) : Stmt := PySem.Challenge.pw_truckfill_s02_first_fit_decreasing.main.body.getD i (.Pass ⟨0, 0, 0, 0⟩)
abbrev sWithin : Stmt := topS 6
abbrev sAre : Stmt := topS 7
abbrev sLoad : Stmt := topS 8
abbrev sFirst : Stmt := topS 10
abbrev sWith : Stmt := topS 11
abbrev sFitIn : Stmt := topS 12
abbrev sOrder : Stmt := topS 13
abbrev sCount : Stmt := topS 14
abbrev sMain : Stmt := topS 16
end TW

/-! ### checks -/
namespace TW
open PySem PySem.Spec PyProof.Rows L2 TF
open Kbe6 (toInts validLengths)
section
variable {P : Program} {w : World} {K : PySem.W.Frag} {mg : Str → Option Value} {base : Heap}
def spWithin : Sp := fun vs H Q _ => ∃ n lo hi : Int, vs = [.int n, .int lo, .int hi] ∧ Q (.bl (decide (lo ≤ n) && decide (n ≤ hi))) H
theorem scWithin : FnScope ["number", "low", "high"] ["number", "low", "high"] (defScope sWithin) := ⟨rfl, rfl, rfl, by decide +kernel, rfl, by decide +kernel, by decide +kernel⟩
theorem ok_within {f : Addr} {fd : FuncData} (F : Fun K "is_within" "is_within" sWithin f fd) : FnOk P w K mg base CX0 1 f fd ["number", "low", "high"] spWithin := by
  refine F.ok scWithin (fun vs H Q E h => ?_) (fun cdv A outer s H vs Q E hr h => ?_)
  · obtain ⟨n, lo, hi, rfl, _⟩ := h
    rfl
  · obtain ⟨n, lo, hi, rfl, k⟩ := h
    refine ⟨_, pss_one (ps_ret (pe_chain op_le op_le (pv 1) (pv 0) (pv 2))), ?_⟩
    refine ⟨_, rfl, _, rfl, _, _, rfl, rfl, _, rfl, ite2 (fun e => ?_) (fun e => ?_)⟩
    · refine ⟨_, rfl, _, _, rfl, rfl, ?_⟩
      rw [e, Bool.true_and] at k
      exact k
    · rw [Bool.eq_false_iff.mpr e, Bool.false_and] at k
      exact k
def okLen (n : Nat) : Bool := decide (1 ≤ n) && decide (n ≤ 100)
theorem valid_all (ls : List Nat) : validLengths ls = (decide (ls.length ≤ 7) && (ls.map okLen).all id) := by
  unfold validLengths
  rw [List.all_map]
  rfl
theorem okLen_int (n : Nat) : (decide ((1 : Int) ≤ (n : Int)) && decide ((n : Int) ≤ 100)) = okLen n := by
  unfold okLen
  congr 1
  · exact decide_eq_decide.mpr (by omega)
  · exact decide_eq_decide.mpr (by omega)
def spAre (K : PySem.W.Frag) : Sp := fun vs H Q _ => ∃ (a : Addr) (ls : List Nat), vs = [.ref a] ∧ SqL K H a (iv ls) ∧ ls.length ≤ 12 ∧ ∀ H', Same H H' → Q (.bl (validLengths ls)) H'
theorem scAre : FnScope ["lengths", "length"] ["lengths"] (defScope sAre) := ⟨rfl, rfl, rfl, by decide +kernel, rfl, by decide +kernel, by decide +kernel⟩
theorem ok_are {f : Addr} {fd : FuncData} (F : Fun K "are_lengths" "are_lengths" sAre f fd) (CW : Callee P w K mg base 1 "is_within" ["number", "low", "high"] spWithin) (ml : mg "len" = none) (ma : mg "all" = none)
    (nP : Num mg "MAX_PALLETS" 7) (nL : Num mg "MAX_LENGTH" 100) : FnOk P w K mg base CX0 2 f fd ["lengths"] (spAre K) := by
  obtain ⟨fW, fdW, GW, gW, kW, bW⟩ := CW.ex
  obtain ⟨tP, cP⟩ := nP
  obtain ⟨tL, cL⟩ := nL
  refine F.ok scAre (fun vs H Q E h => ?_) (fun cdv A outer s H vs Q E hr h => ?_)
  · obtain ⟨a, ls, rfl, _⟩ := h
    rfl
  · obtain ⟨a, ls, rfl, hS, hlen, k⟩ := h
    refine ⟨_, pss_one (ps_ret (pe_and (pe_cmpR op_le (pe_callB call_len_seq (by rfl) ml PySem.boot_len (pa_cons (pv 0) pa_nil)) (pe_glob (v := .int 7) rfl cP ⟨_, rfl⟩) (nomark _))
      (pe_one (pe_callB (cr_all rfl) (by rfl) ma (by decide +kernel) (pa_cons
        (pe_lc (own := [("length", 1)]) (g := gName 1) (tt := tYes) rfl scAre.nd (pi_list (pv 0)) (blkOk_by (own := [("length", 1)]) (N := ["lengths", "length"]) (sc := defScope sAre) (by decide +kernel))
          (fun _ _ _ _ _ => pg_name (i := 1) scAre.nd rfl (Or.inl rfl)) (fun _ _ _ _ _ => pts_nil)
          (fun _ _ _ _ _ => pe_call GW hr (by rfl) gW kW bW .nil pass0 (pa_cons (pv 1) (pa_cons pe_int (pa_cons (pe_glob (v := .int 100) rfl cL ⟨_, rfl⟩) pa_nil))))) pa_nil))))), ?_⟩
    refine ⟨.ref a, rfl, a, iv ls, rfl, .inl hS, _, _, rfl, rfl, _, rfl, ite2 (fun e => ?_) (fun e => ?_)⟩
    · refine ⟨.ref a, rfl, a, rfl, ⟨_, hS⟩, fun D hD => lc_list (K := K) (a := a) (xs := iv ls) (fun i H' => Made H D ((ls.take i).map fun n => V.bl (okLen n)) H') (Made.start hD) (fun i H' _ m => m.same.seq hS) ?_ ?_⟩
      · intro i x H' hx m
        obtain ⟨n, hn, rfl⟩ := iv_at hx
        refine ⟨rfl, V.int (n : Int), rfl, (n : Int), 1, 100, rfl, ?_⟩
        refine m.turn (small 12 (by rw [List.length_map, List.length_take]; omega)) ?_
        rw [take_snoc hn, List.map_append, okLen_int]
        rfl
      · intro H' m
        have e1 : decide (ls.length ≤ 7) = true := by
          rw [iv_len] at e
          have := of_decide_eq_true e
          exact decide_eq_true (by omega)
        refine ⟨D, ls.map okLen, rfl, SqL.of ?_, ?_⟩
        · rw [m.at_, iv_len, List.take_length, List.map_map]
          rfl
        · have q := k H' m.same
          rw [valid_all, e1, Bool.true_and] at q
          exact q
    · have e1 : decide (ls.length ≤ 7) = false := by
        rw [iv_len] at e
        refine decide_eq_false fun z => e (decide_eq_true ?_)
        omega
      have q := k H (Same.refl H)
      rw [valid_all, e1, Bool.false_and] at q
      exact q
def spLoad (K : PySem.W.Frag) : Sp := fun vs H Q _ => ∃ (c : Nat) (a : Addr) (ls : List Nat), vs = [.int (c : Int), .ref a] ∧ SqL K H a (iv ls) ∧ ls.length ≤ 12 ∧
  ∀ H' p, Same H H' → H p = none → H' p = some (.lst ((loadRef c ls).map V.int)) → Q (.ref p) H'
theorem scLoad : FnScope ["capacity", "lengths", "length"] ["capacity", "lengths"] (defScope sLoad) := ⟨rfl, rfl, rfl, by decide +kernel, rfl, by decide +kernel, by decide +kernel⟩
theorem ok_load {f : Addr} {fd : FuncData} (F : Fun K "load_refusal" "load_refusal" sLoad f fd) (CW : Callee P w K mg base 1 "is_within" ["number", "low", "high"] spWithin) (CA : Callee P w K mg base 2 "are_lengths" ["lengths"] (spAre K)) (ma : mg "all" = none)
    (nC : Num mg "MAX_CAPACITY" 100) (nO : Num mg "OUT_OF_RANGE" (-22)) (nI : Num mg "IMPOSSIBLE" (-33)) : FnOk P w K mg base CX0 3 f fd ["capacity", "lengths"] (spLoad K) := by
  obtain ⟨fW, fdW, GW, gW, kW, bW⟩ := CW.ex
  obtain ⟨fA, fdA, GA, gA, kA, bA⟩ := CA.ex
  obtain ⟨tC, cC⟩ := nC
  obtain ⟨tO, cO⟩ := nO
  obtain ⟨tI, cI⟩ := nI
  refine F.ok scLoad (fun vs H Q E h => ?_) (fun cdv A outer s H vs Q E hr h => ?_)
  · obtain ⟨c, a, ls, rfl, _⟩ := h
    rfl
  · obtain ⟨c, a, ls, rfl, hS, hlen, k⟩ := h
    have hr1 : Room 1 _ := hr.mono (by decide)
    refine ⟨_, pss_cons (ps_if (PW.pt (pw_or (pt_not (pt_val (pe_call GA hr (by rfl) gA kA bA .nil pass0 (pa_cons (pv 1) pa_nil))))
        (pw_or1 (pt_not (pt_val (pe_call GW hr1 (by rfl) gW kW bW .nil pass0 (pa_cons (pv 0) (pa_cons pe_int (pa_cons (pe_glob (v := .int 100) rfl cC ⟨_, rfl⟩) pa_nil)))))))))
        (pss_one (ps_ret (pe_lst (pa_cons (pe_glob (v := .int (-22)) rfl cO ⟨_, rfl⟩) pa_nil)))) pss_nil)
      (pss_cons (ps_if (pt_not (pt_val (pe_callB (cr_all rfl) (by rfl) ma (by decide +kernel) (pa_cons
          (pe_lc (own := [("length", 2)]) (g := gName 2) (tt := tYes) rfl scLoad.nd (pi_list (pv 1)) (blkOk_by (own := [("length", 2)]) (N := ["capacity", "lengths", "length"]) (sc := defScope sLoad) (by decide +kernel))
            (fun _ _ _ _ _ => pg_name (i := 2) scLoad.nd rfl (Or.inl rfl)) (fun _ _ _ _ _ => pts_nil)
            (fun _ _ _ _ _ => pe_cmpR op_le (pv 2) (pv 0) (nomark _))) pa_nil))))
        (pss_one (ps_ret (pe_lst (pa_cons (pe_glob (v := .int (-33)) rfl cI ⟨_, rfl⟩) pa_nil)))) pss_nil)
      (pss_one (ps_ret (pe_lst pa_nil)))), ?_⟩
    have out : ∀ H1, Same H H1 → ¬ (validLengths ls = true ∧ 1 ≤ c ∧ c ≤ 100) → (([V.int (-22)] : List V).length ≤ sizeLine ∧ ∀ p, H1 p = none → Q (.ref p) (upd H1 p (.lst [V.int (-22)]))) := fun H1 s1 hn => by
      refine ⟨by show 1 ≤ sizeLine; decide, fun p hp => k _ p (s1.trans (same_upd hp)) (s1.free hp) ?_⟩
      rw [upd_same]
      unfold loadRef
      rw [if_neg hn]
      rfl
    refine ⟨.ref a, rfl, a, ls, rfl, hS, hlen, fun H1 s1 => ⟨_, rfl, ?_⟩⟩
    have hS1 : SqL K H1 a (iv ls) := s1.seq hS
    cases hv : validLengths ls with
    | false =>
      refine iteT (iteT ?_)
      exact out H1 s1 (by rw [hv]; rintro ⟨z, _⟩; cases z)
    | true =>
      refine iteF ⟨_, rfl, (c : Int), 1, 100, rfl, _, rfl, ?_⟩
      by_cases hc : 1 ≤ c ∧ c ≤ 100
      · have e1 : (decide ((1 : Int) ≤ (c : Int)) && decide ((c : Int) ≤ 100)) = true := by
          rw [okLen_int]
          unfold okLen
          rw [decide_eq_true hc.1, decide_eq_true hc.2]
          rfl
        rw [e1]
        refine iteF ?_
        -- all([length <= capacity for length in lengths])
        refine ⟨.ref a, rfl, a, rfl, ⟨_, hS1⟩, fun D hD => lc_list (K := K) (a := a) (xs := iv ls) (fun i H' => Made H1 D ((ls.take i).map fun n => V.bl (decide (n ≤ c))) H') (Made.start hD) (fun i H' _ m => m.same.seq hS1) ?_ ?_⟩
        · intro i x H' hx m
          obtain ⟨n, hn, rfl⟩ := iv_at hx
          refine ⟨rfl, V.int (n : Int), rfl, V.int (c : Int), rfl, (n : Int), (c : Int), rfl, rfl, ?_⟩
          refine m.turn (small 12 (by rw [List.length_map, List.length_take]; omega)) ?_
          rw [take_snoc hn, List.map_append]
          exact snoc_eq (congrArg V.bl (decide_eq_decide.mpr (by omega)))
        · intro H2 m
          refine ⟨D, ls.map fun n => decide (n ≤ c), rfl, SqL.of ?_, _, rfl, ?_⟩
          · rw [m.at_, iv_len, List.take_length, List.map_map]
            rfl
          · have e3 : ((ls.map fun n => decide (n ≤ c)).all id) = ls.all fun n => decide (n ≤ c) := by
              rw [List.all_map]
              rfl
            rw [e3]
            have s2 : Same H H2 := s1.trans m.same
            cases ha : ls.all fun n => decide (n ≤ c) with
            | false =>
              refine iteT ⟨by show 1 ≤ sizeLine; decide, fun p hp => k _ p (s2.trans (same_upd hp)) (s2.free hp) ?_⟩
              rw [upd_same]
              unfold loadRef
              rw [if_pos (show validLengths ls = true ∧ 1 ≤ c ∧ c ≤ 100 from ⟨hv, hc⟩), ha]
              rfl
            | true =>
              refine iteF ⟨Nat.zero_le _, fun p hp => k _ p (s2.trans (same_upd hp)) (s2.free hp) ?_⟩
              rw [upd_same]
              unfold loadRef
              rw [if_pos (show validLengths ls = true ∧ 1 ≤ c ∧ c ≤ 100 from ⟨hv, hc⟩), ha]
              rfl
      · have e1 : (decide ((1 : Int) ≤ (c : Int)) && decide ((c : Int) ≤ 100)) = false := by
          rw [okLen_int]
          unfold okLen
          by_cases h1 : 1 ≤ c
          · rw [decide_eq_true h1, decide_eq_false (show ¬ c ≤ 100 from fun z => hc ⟨h1, z⟩)]
            rfl
          · rw [decide_eq_false h1]
            rfl
        rw [e1]
        refine iteT ?_
        exact out H1 s1 (fun z => hc z.2)
end
end TW

/-! ### first fit -/
namespace TW
open PySem PySem.Spec PyProof.Rows L2 TF
open Kbe6 (toInts truckCount)
theorem getD_at {l : List Nat} {i : Nat} (h : i < l.length) : l[i]? = some (l.getD i 0) := by
  rw [List.getElem?_eq_getElem h, List.getD_eq_getElem?_getD, List.getElem?_eq_getElem h]
  rfl
theorem iv_atI {l : List Nat} {i : Nat} (h : i < l.length) : atI (iv l) (i : Int) = some (V.int (l.getD i 0 : Nat)) := atI_nat (iv_get (getD_at h))
theorem ixN_of {n j : Nat} (h : j < n) : ixN n (j : Int) = some j := by
  unfold ixN
  rw [if_pos (by omega), if_pos (by omega), Int.toNat_natCast]
section
variable {P : Program} {w : World} {K : PySem.W.Frag} {mg : Str → Option Value} {base : Heap}
def spFirst (K : PySem.W.Frag) : Sp := fun vs H Q _ => ∃ (c : Nat) (a : Addr) (ld : List Nat) (n : Nat), vs = [.int (c : Int), .ref a, .int (n : Int)] ∧ SqL K H a (iv ld) ∧ ld.length ≤ 1000 ∧ Q (.int (firstTruck c ld n : Nat)) H
theorem scFirst : FnScope ["capacity", "loads", "length", "truck"] ["capacity", "loads", "length"] (defScope sFirst) := ⟨rfl, rfl, rfl, by decide +kernel, rfl, by decide +kernel, by decide +kernel⟩
theorem ok_first {f : Addr} {fd : FuncData} (F : Fun K "first_truck" "first_truck" sFirst f fd) (ml : mg "len" = none) (mr : mg "range" = none) : FnOk P w K mg base CX0 1 f fd ["capacity", "loads", "length"] (spFirst K) := by
  refine F.ok scFirst (fun vs H Q E h => ?_) (fun cdv A outer s H vs Q E hr h => ?_)
  · obtain ⟨c, a, ld, n, rfl, _⟩ := h
    rfl
  · obtain ⟨c, a, ld, n, rfl, hS, hlen, k⟩ := h
    refine ⟨_, pss_cons (ps_for PassesOwn.never rfl (pi_range1 (by rfl) mr (pa_cons (pe_callB call_len_seq (by rfl) ml PySem.boot_len (pa_cons (pv 1) pa_nil)) pa_nil)) (pg_name (i := 3) scFirst.nd rfl (Or.inl rfl))
        (pss_one (ps_if (pt_cmpR op_le (pe_op op_add (pe_ix ix_list (pv 1) (pv 3) (fun _ _ => rfl)) (pv 2)) (pv 0) (nomark _)) (pss_one (ps_ret (pv 3))) pss_nil)))
      (pss_one (ps_ret (pe_callB call_len_seq (by rfl) ml PySem.boot_len (pa_cons (pv 1) pa_nil)))), ?_⟩
    have hb : (iv ld).length ≤ 1000 := by rw [iv_len]; exact hlen
    refine ⟨.ref a, rfl, a, iv ld, rfl, .inl hS, _, rfl, by omega, by omega, for_range (lo := 0) (n := (iv ld).length) (fun i σ H' => H' = H ∧ (∃ v3, σ = [some (.int (c : Int)), some (.ref a), some (.int (n : Int)), v3]) ∧ ∀ k, k < i → ¬ ld.getD k 0 + n ≤ c)
      ⟨rfl, ⟨_, rfl⟩, fun k hk => absurd hk (Nat.not_lt_zero _)⟩ ?_ ?_⟩
    · rintro i σ H' hi ⟨rfl, ⟨v3, rfl⟩, hno⟩
      rw [iv_len] at hi
      refine ⟨.ref a, rfl, .int (0 + (i : Int)), rfl, a, iv ld, 0 + (i : Int), _, rfl, rfl, hS, at_of (j := i) (by omega) (iv_get (getD_at hi)), .int (n : Int), rfl, _, _, rfl, rfl, .int (c : Int), rfl, _, _, rfl, rfl, _, rfl, ite2 (fun e => ?_) (fun e => ?_)⟩
      · have e1 := of_decide_eq_true e
        refine ⟨_, rfl, ?_⟩
        rw [firstTruck_found c ld n i hi (by omega) hno] at k
        rw [show (0 : Int) + (i : Int) = (i : Int) by omega]
        exact k
      · refine ⟨rfl, ⟨_, rfl⟩, fun j hj => ?_⟩
        by_cases hji : j = i
        · subst hji
          intro z
          exact e (decide_eq_true (by omega))
        · exact hno j (by omega)
    · rintro σ H' ⟨rfl, ⟨v3, rfl⟩, hno⟩
      rw [iv_len] at hno
      refine ⟨.ref a, rfl, a, iv ld, rfl, .inl hS, ?_⟩
      rw [firstTruck_none c ld n hno] at k
      rw [iv_len]
      exact k
def spWith (K : PySem.W.Frag) : Sp := fun vs H Q _ => ∃ (a : Addr) (ld : List Nat) (t n : Nat), vs = [.ref a, .int (t : Int), .int (n : Int)] ∧ H a = some (.lst (iv ld)) ∧ t ≤ ld.length ∧ ld.length ≤ 1000 ∧
  ∀ H' p, Same H H' → H p = none → H' p = some (.lst (iv (withPallet ld t n))) → Q (.ref p) H'
theorem with_cut (ld : List Nat) (t n : Nat) (h : t < ld.length) : cutV (iv ld) none (some (t : Int)) ++ [V.int ((ld.getD t 0 : Nat) + (n : Int))] ++ cutV (iv ld) (some ((t : Int) + 1)) none = iv (withPallet ld t n) := by
  unfold cutV
  have e1 : ((t : Int) + 1) = ((t + 1 : Nat) : Int) := rfl
  rw [HT.sIx_none, HT.sIx_nat, e1, HT.sIx_nat, HT.sIx_none, iv_len]
  unfold withPallet
  rw [if_neg (by omega), iv_set, List.set_eq_take_append_cons_drop, if_pos (by rw [iv_len]; exact h), List.drop_zero, Nat.sub_zero, show min t ld.length = t by omega, show min (t + 1) ld.length = t + 1 by omega]
  rw [List.take_of_length_le (show ((iv ld).drop (t + 1)).length ≤ ld.length - (t + 1) by rw [List.length_drop, iv_len]; omega), List.append_assoc]
  rfl
theorem scWith : FnScope ["loads", "truck", "length"] ["loads", "truck", "length"] (defScope sWith) := ⟨rfl, rfl, rfl, by decide +kernel, rfl, by decide +kernel, by decide +kernel⟩
theorem ok_with {f : Addr} {fd : FuncData} (F : Fun K "with_pallet" "with_pallet" sWith f fd) (ml : mg "len" = none) : FnOk P w K mg base CX0 1 f fd ["loads", "truck", "length"] (spWith K) := by
  refine F.ok scWith (fun vs H Q E h => ?_) (fun cdv A outer s H vs Q E hr h => ?_)
  · obtain ⟨a, ld, t, n, rfl, _⟩ := h
    rfl
  · obtain ⟨a, ld, t, n, rfl, hA, ht, hlen, k⟩ := h
    refine ⟨_, pss_cons (ps_if (pt_cmpR op_eq (pv 1) (pe_callB call_len_seq (by rfl) ml PySem.boot_len (pa_cons (pv 0) pa_nil)) (nomark _)) (pss_one (ps_ret (pe_op op_cat (pv 0) (pe_lst (pa_cons (pv 2) pa_nil))))) pss_nil)
      (pss_one (ps_ret (pe_op op_cat (pe_op op_cat (pe_slice sl_list (pv 0) po_none (po_some (pv 1))) (pe_lst (pa_cons (pe_op op_add (pe_ix ix_list (pv 0) (pv 1) (fun _ _ => rfl)) (pv 2)) pa_nil))) (pe_slice sl_list (pv 0) (po_some (pe_op op_add (pv 1) pe_int)) po_none)))), ?_⟩
    refine ⟨.int (t : Int), rfl, .ref a, rfl, a, iv ld, rfl, .inl (SqL.of hA), rfl, _, rfl, ite2 (fun e => ?_) (fun e => ?_)⟩
    · have e1 : t = ld.length := by
        have := V.int.inj (of_decide_eq_true e)
        rw [iv_len] at this
        omega
      refine ⟨.ref a, rfl, .int (n : Int), rfl, (by show 1 ≤ sizeLine; decide), fun p1 hp1 => ?_⟩
      refine ⟨a, p1, iv ld, [V.int (n : Int)], rfl, rfl, (same_upd hp1) _ _ hA, upd_same, small_le 1001 (by rw [iv_len]; show ld.length + 1 ≤ 1001; omega), fun p hp => ?_⟩
      refine k _ p ((same_upd hp1).trans (same_upd hp)) ((same_upd hp1).free hp) ?_
      rw [upd_same]
      unfold withPallet
      rw [if_pos e1, iv_app]
      rfl
    · have e1 : t < ld.length := by
        have : t ≠ ld.length := fun z => e (decide_eq_true (by rw [iv_len, z]))
        omega
      refine ⟨.ref a, rfl, .int (t : Int), rfl, (t : Int), rfl, a, iv ld, rfl, SqL.of hA, fun p1 hp1 => ?_⟩
      have s1 := same_upd (o := .lst (cutV (iv ld) none (some (t : Int)))) hp1
      have hA1 := s1 _ _ hA
      refine ⟨.ref a, rfl, .int (t : Int), rfl, a, iv ld, (t : Int), _, rfl, rfl, SqL.of hA1, iv_atI e1, .int (n : Int), rfl, _, _, rfl, rfl, (by show 1 ≤ sizeLine; decide), fun p2 hp2 => ?_⟩
      have s2 := same_upd (o := .lst [V.int ((ld.getD t 0 : Nat) + (n : Int))]) hp2
      refine ⟨p1, p2, _, _, rfl, rfl, s2 _ _ upd_same, upd_same, small_le 2000 (by have := cutV_length (iv ld) none (some (t : Int)); rw [iv_len] at this; show _ + 1 ≤ 2000; omega), fun p3 hp3 => ?_⟩
      have s3 := same_upd (o := .lst (cutV (iv ld) none (some (t : Int)) ++ [V.int ((ld.getD t 0 : Nat) + (n : Int))])) hp3
      have hA3 := s3 _ _ (s2 _ _ hA1)
      refine ⟨.ref a, rfl, .int (t : Int), rfl, (t : Int), 1, rfl, rfl, _, rfl, a, iv ld, rfl, SqL.of hA3, fun p4 hp4 => ?_⟩
      have s4 := same_upd (o := .lst (cutV (iv ld) (some ((t : Int) + 1)) none)) hp4
      refine ⟨p3, p4, _, _, rfl, rfl, s4 _ _ upd_same, upd_same, small_le 4000 (by
        have z1 := cutV_length (iv ld) none (some (t : Int))
        have z2 := cutV_length (iv ld) (some ((t : Int) + 1)) none
        rw [iv_len] at z1 z2
        rw [List.length_append]
        show _ + 1 + _ ≤ 4000
        omega), fun p hp => ?_⟩
      have sa := ((s1.trans s2).trans s3).trans s4
      refine k _ p (sa.trans (same_upd hp)) (sa.free hp) ?_
      rw [upd_same, with_cut ld t n e1]
def spFitIn (K : PySem.W.Frag) : Sp := fun vs H Q _ => ∃ (c : Nat) (a b : Addr) (ls order : List Nat), vs = [.int (c : Int), .ref a, .ref b] ∧ SqL K H a (iv ls) ∧ SqL K H b (iv order) ∧ ls.length ≤ 12 ∧ order.length ≤ 12 ∧ (∀ p ∈ order, p < ls.length) ∧
  ∀ H' p, Same H H' → H p = none → H' p = some (.lst (iv (fitIn c ls order).2)) → Q (.ref p) H'
theorem scFitIn : FnScope ["capacity", "lengths", "order", "loads", "trucks", "pallet", "truck", "length"] ["capacity", "lengths", "order"] (defScope sFitIn) := ⟨rfl, rfl, rfl, by decide +kernel, rfl, by decide +kernel, by decide +kernel⟩
theorem fit_snoc (c : Nat) (ls order : List Nat) {i p : Nat} (h : order[i]? = some p) (s : List Nat × List Nat) : (order.take (i + 1)).foldl (fitStep c ls) s = fitStep c ls ((order.take i).foldl (fitStep c ls) s) p := by
  rw [take_snoc h, List.foldl_append]
  rfl
theorem ok_fitIn {f : Addr} {fd : FuncData} (F : Fun K "first_fit_in" "first_fit_in" sFitIn f fd) (CF : Callee P w K mg base 1 "first_truck" ["capacity", "loads", "length"] (spFirst K)) (CW : Callee P w K mg base 1 "with_pallet" ["loads", "truck", "length"] (spWith K)) :
    FnOk P w K mg base CX0 2 f fd ["capacity", "lengths", "order"] (spFitIn K) := by
  obtain ⟨fF, fdF, GF, gF, kF, bF⟩ := CF.ex
  obtain ⟨fW, fdW, GW, gW, kW, bW⟩ := CW.ex
  refine F.ok scFitIn (fun vs H Q E h => ?_) (fun cdv A outer s H vs Q E hr h => ?_)
  · obtain ⟨c, a, b, ls, order, rfl, _⟩ := h
    rfl
  · obtain ⟨c, a, b, ls, order, rfl, hS, hO, hlen, hol, hin, k⟩ := h
    refine ⟨_, pss_cons (ps_par (i := 3) (j := 4) rfl scFitIn.nd rfl rfl (by decide) rfl rfl (pa_cons (pe_lst pa_nil) (pa_cons
        (pe_lc (own := [("length", 7)]) (g := gName 7) (tt := tYes) rfl scFitIn.nd (pi_list (pv 1)) (blkOk_by (own := [("length", 7)]) (N := ["capacity", "lengths", "order", "loads", "trucks", "pallet", "truck", "length"]) (sc := defScope sFitIn) (by decide +kernel))
          (fun _ _ _ _ _ => pg_name (i := 7) scFitIn.nd rfl (Or.inl rfl)) (fun _ _ _ _ _ => pts_nil) (fun _ _ _ _ _ => pe_int)) pa_nil)) (by rfl))
      (pss_cons (ps_for PassesOwn.never rfl (pi_list (pv 2)) (pg_name (i := 5) scFitIn.nd rfl (Or.inl rfl))
        (pss_cons (ps_set (i := 6) scFitIn.nd rfl (Or.inl rfl) (pe_call GF hr (by rfl) gF kF bF .nil pass0 (pa_cons (pv 0) (pa_cons (pv 3) (pa_cons (pe_ix ix_list (pv 1) (pv 5) (fun _ _ => rfl)) pa_nil)))))
        (pss_cons (ps_set (i := 3) scFitIn.nd rfl (Or.inl rfl) (pe_call GW hr (by rfl) gW kW bW .nil pass0 (pa_cons (pv 3) (pa_cons (pv 6) (pa_cons (pe_ix ix_list (pv 1) (pv 5) (fun _ _ => rfl)) pa_nil)))))
        (pss_one (ps_asg (pv 6) (pg_sub (pv 4) (pv 5) set_list))))))
      (pss_one (ps_ret (pv 4)))), ?_⟩
    -- loads, trucks = [], [0 for ..]
    refine ⟨Nat.zero_le _, fun L hL => ?_⟩
    have s1 := same_upd (o := .lst []) hL
    have hS1 := s1.seq hS
    refine ⟨.ref a, rfl, a, rfl, ⟨_, hS1⟩, fun T hT => lc_list (K := K) (a := a) (xs := iv ls) (fun i H' => Made (upd H L (.lst [])) T (iv ((ls.take i).map fun _ => 0)) H') (Made.start hT) (fun i H' _ m => m.same.seq hS1) ?_ ?_⟩
    · intro i x H' hx m
      obtain ⟨n, hn, rfl⟩ := iv_at hx
      refine ⟨rfl, m.turn (small 12 (by rw [iv_len, List.length_map, List.length_take]; omega)) ?_⟩
      rw [take_snoc hn, List.map_append, iv_app]
      rfl
    · intro H2 m
      rw [iv_len, List.take_length] at m
      have hTL : L ≠ T := ne_of_none upd_same hT
      have hT0 : H T = none := s1.free hT
      refine ⟨_, _, rfl, ?_⟩
      -- the loop
      refine ⟨.ref b, rfl, b, rfl, ⟨_, m.same.seq (s1.seq hO)⟩, for_list (K := K) (a := b) (xs := iv order) (fun i σ H' => ∃ L v5 v6, σ = [some (.int (c : Int)), some (.ref a), some (.ref b), some (.ref L), some (.ref T), v5, v6, none] ∧
          L ≠ T ∧ H' L = some (.lst (iv ((order.take i).foldl (fitStep c ls) ([], ls.map fun _ => 0)).1)) ∧ Made H T (iv ((order.take i).foldl (fitStep c ls) ([], ls.map fun _ => 0)).2) H')
        ⟨L, none, none, rfl, hTL, m.same _ _ upd_same, ⟨s1.trans m.same, hT0, m.at_⟩⟩ (fun i σ H' _ ⟨_, _, _, _, _, _, m⟩ => m.same.seq hO) ?_ ?_⟩
      · rintro i x σ H' hx ⟨L, v5, v6, rfl, hLT, hL, mT⟩
        obtain ⟨p, hp, rfl⟩ := iv_at hx
        have hpl : p < ls.length := hin p (List.mem_of_getElem? hp)
        have hi : i < order.length := (List.getElem?_eq_some_iff.mp hp).1
        obtain ⟨q1, q2⟩ := fit_len c ls (order.take i) ([], ls.map fun _ => 0)
        have eS := fit_snoc c ls order hp ([], ls.map fun _ => 0)
        generalize hs : (order.take i).foldl (fitStep c ls) ([], ls.map fun _ => 0) = st at *
        rw [List.length_map] at q1
        rw [List.length_take] at q2
        have q2 : st.1.length ≤ 12 := by
          have q3 : st.1.length ≤ 0 + min i order.length := q2
          omega
        have hSa : SqL K H' a (iv ls) := mT.same.seq hS
        -- truck = first_truck(capacity, loads, lengths[pallet])
        refine ⟨.int (c : Int), rfl, .ref L, rfl, .ref a, rfl, .int (p : Int), rfl, a, iv ls, (p : Int), _, rfl, rfl, hSa, iv_atI hpl, c, L, st.1, ls.getD p 0, rfl, SqL.of hL, by omega, ?_⟩
        -- loads = with_pallet(loads, truck, lengths[pallet])
        refine ⟨.ref L, rfl, .int (firstTruck c st.1 (ls.getD p 0) : Nat), rfl, .ref a, rfl, .int (p : Int), rfl, a, iv ls, (p : Int), _, rfl, rfl, hSa, iv_atI hpl, L, st.1, firstTruck c st.1 (ls.getD p 0), ls.getD p 0, rfl, hL, firstTruck_le _ _ _, by omega, fun H3 M s3 hM eM => ?_⟩
        -- trucks[pallet] = truck
        have hTM : M ≠ T := fun z => by
          rw [z, mT.at_] at hM
          cases hM
        have mT3 : Made H T (iv st.2) H3 := mT.go s3
        refine ⟨.int (firstTruck c st.1 (ls.getD p 0) : Nat), rfl, .ref T, rfl, .int (p : Int), rfl, T, iv st.2, (p : Int), p, rfl, rfl, mT3.at_, ixN_of (by rw [iv_len, q1]; exact hpl), ?_⟩
        refine ⟨M, _, _, rfl, hTM, ?_, ?_⟩
        · rw [eS, upd_ne hTM]
          exact eM
        · rw [eS, ← iv_set]
          exact mT3.put _
      · rintro σ H' ⟨L, v5, v6, rfl, hLT, hL, mT⟩
        rw [iv_len, List.take_length] at mT
        exact ⟨.ref T, rfl, k H' T mT.same hT0 mT.at_⟩
def spCount (K : PySem.W.Frag) : Sp := fun vs H Q _ => ∃ (a : Addr) (as : List Nat), vs = [.ref a] ∧ SqL K H a (iv as) ∧ as.length ≤ 1000 ∧ ∀ H', Same H H' → Q (.int (truckCount as : Nat)) H'
theorem scCount : FnScope ["assignment", "truck"] ["assignment"] (defScope sCount) := ⟨rfl, rfl, rfl, by decide +kernel, rfl, by decide +kernel, by decide +kernel⟩
theorem ok_count {f : Addr} {fd : FuncData} (F : Fun K "count_trucks" "count_trucks" sCount f fd) (mm : mg "max" = none) : FnOk P w K mg base CX0 1 f fd ["assignment"] (spCount K) := by
  refine F.ok scCount (fun vs H Q E h => ?_) (fun cdv A outer s H vs Q E hr h => ?_)
  · obtain ⟨a, as, rfl, _⟩ := h
    rfl
  · obtain ⟨a, as, rfl, hS, hlen, k⟩ := h
    refine ⟨_, pss_one (ps_ret (pe_callB (cr_max rfl) (by rfl) mm (by decide +kernel) (pa_cons (pe_op op_cat (pe_lst (pa_cons pe_int pa_nil))
      (pe_lc (own := [("truck", 1)]) (g := gName 1) (tt := tYes) rfl scCount.nd (pi_list (pv 0)) (blkOk_by (own := [("truck", 1)]) (N := ["assignment", "truck"]) (sc := defScope sCount) (by decide +kernel))
          (fun _ _ _ _ _ => pg_name (i := 1) scCount.nd rfl (Or.inl rfl)) (fun _ _ _ _ _ => pts_nil) (fun _ _ _ _ _ => pe_op op_add (pv 1) pe_int))) pa_nil))), ?_⟩
    refine ⟨(by show 1 ≤ sizeLine; decide), fun p1 hp1 => ?_⟩
    have s1 := same_upd (o := .lst [V.int 0]) hp1
    have hS1 := s1.seq hS
    refine ⟨.ref a, rfl, a, rfl, ⟨_, hS1⟩, fun D hD => lc_list (K := K) (a := a) (xs := iv as) (fun i H' => Made (upd H p1 (.lst [V.int 0])) D (iv ((as.take i).map (· + 1))) H') (Made.start hD) (fun i H' _ m => m.same.seq hS1) ?_ ?_⟩
    · intro i x H' hx m
      obtain ⟨n, hn, rfl⟩ := iv_at hx
      refine ⟨rfl, V.int (n : Int), rfl, (n : Int), 1, rfl, rfl, m.turn (small 1000 (by rw [iv_len, List.length_map, List.length_take]; omega)) ?_⟩
      rw [take_snoc hn, List.map_append, iv_app]
      rfl
    · intro H2 m
      rw [iv_len, List.take_length] at m
      refine ⟨p1, D, [V.int 0], iv (as.map (· + 1)), rfl, rfl, m.same _ _ upd_same, m.at_, small_le 1001 (by rw [iv_len, List.length_map]; show 1 + as.length ≤ 1001; omega), fun p hp => ?_⟩
      refine ⟨p, toInts (0 :: as.map (· + 1)), rfl, SqL.of upd_same, (by show 0 < (toInts (as.map (· + 1))).length + 1; omega), fun z hz hle => ?_⟩
      have e := max_is_int _ z hz hle
      rw [TF.count_is] at e
      rw [e]
      exact k _ ((s1.trans m.same).trans (same_upd hp))
end
end TW

/-! ### the falling order -/
namespace TW
open PySem PySem.Spec PyProof.Rows L2 TF
open Kbe6 (toInts decreasingOrder)
section
variable {P : Program} {w : World} {K : PySem.W.Frag} {mg : Str → Option Value} {base : Heap}
/-- the pair that stands at a value -/
def pairOf : Option HO → Int × Int
  | some (.tup [.int i, .int j]) => (i, j)
  | _ => (0, 0)
def pairAt (H : Hp) : V → Int × Int
  | .ref t => pairOf (H t)
  | _ => (0, 0)
theorem pairAt_is {H : Hp} {t : Addr} {i j : Int} (h : H t = some (.tup [.int i, .int j])) : pairAt H (.ref t) = (i, j) := by
  show pairOf (H t) = _
  rw [h]
  rfl
def spOrder (K : PySem.W.Frag) : Sp := fun vs H Q _ => ∃ (a : Addr) (ls : List Nat), vs = [.ref a] ∧ SqL K H a (iv ls) ∧ ls.length ≤ 12 ∧ ∀ H' p, Same H H' → H p = none → H' p = some (.lst (iv (decreasingOrder ls))) → Q (.ref p) H'
theorem scOrder : FnScope ["lengths", "rows", "pallet", "less"] ["lengths"] (defScope sOrder) := ⟨rfl, rfl, rfl, by decide +kernel, rfl, by decide +kernel, by decide +kernel⟩
/-- the pairs (0 - length, pallet) stand at ts -/
def PairsAt (H : Hp) (ls : List Nat) (ts : List Addr) : Prop := ∀ (j : Nat) (t : Addr), ts[j]? = some t → H t = some (.tup [.int (0 - (ls.getD j 0 : Nat)), .int (j : Nat)])
theorem order_of {H : Hp} {ls : List Nat} {ts : List Addr} {ys : List V} (hl : ts.length = ls.length) (hp : PairsAt H ls ts) (srt : SrtO.Srtd (ltP (pairAt H)) ys) (pm : ys.Perm (ts.map V.ref)) :
    ∃ us : List Addr, ys = us.map V.ref ∧ us.length = ls.length ∧ ∀ (j p : Nat), (decreasingOrder ls)[j]? = some p → ∃ t, us[j]? = some t ∧ H t = some (.tup [.int (0 - (ls.getD p 0 : Nat)), .int (p : Nat)]) := by
  -- the place of a pair
  let ix : V → Nat := fun x => (pairAt H x).2.toNat
  have hx : ∀ x ∈ ys, ∃ (t : Addr) (p : Nat), x = V.ref t ∧ p < ls.length ∧ H t = some (.tup [.int (0 - (ls.getD p 0 : Nat)), .int (p : Nat)]) := fun x hx => by
    obtain ⟨t, ht, rfl⟩ := List.mem_map.mp (pm.mem_iff.mp hx)
    obtain ⟨p, hpp⟩ := List.getElem?_of_mem ht
    have : p < ts.length := (List.getElem?_eq_some_iff.mp hpp).1
    exact ⟨t, p, rfl, by omega, hp p t hpp⟩
  have hix : ∀ (t : Addr) (p : Nat), H t = some (.tup [.int (0 - (ls.getD p 0 : Nat)), .int (p : Nat)]) → ix (.ref t) = p := fun t p h => by
    show (pairAt H (.ref t)).2.toNat = p
    rw [pairAt_is h]
    exact Int.toNat_natCast p
  have e1 : (ts.map V.ref).map ix = List.range ls.length := by
    refine List.ext_getElem? fun i => ?_
    rw [List.map_map, List.getElem?_map]
    by_cases h : i < ts.length
    · rw [List.getElem?_eq_getElem h, List.getElem?_range (by omega)]
      show some (ix (.ref ts[i])) = some i
      rw [hix ts[i] i (hp i ts[i] (List.getElem?_eq_getElem h))]
    · rw [List.getElem?_eq_none (by omega), List.getElem?_eq_none (by rw [List.length_range]; omega)]
      rfl
  have pm2 : (ys.map ix).Perm (List.range ls.length) := by
    rw [← e1]
    exact pm.map ix
  have nd : (ys.map ix).Nodup := pm2.nodup_iff.mpr List.nodup_range
  have nd2 : ys.Pairwise fun x y => ix x ≠ ix y := List.pairwise_map.mp nd
  have pw : (ys.map ix).Pairwise (Ahead ls) := by
    refine List.pairwise_map.mpr ((srt.and nd2).imp_of_mem ?_)
    intro x y hx' hy' hxy
    obtain ⟨h1, h2⟩ := hxy
    obtain ⟨t, p, rfl, _, ht⟩ := hx x hx'
    obtain ⟨u, q, rfl, _, hu⟩ := hx y hy'
    rw [hix t p ht, hix u q hu] at h2 ⊢
    have h3 : ¬ SrtO.lexB (pairAt H (.ref u)) (pairAt H (.ref t)) = true := by
      rw [show SrtO.lexB (pairAt H (.ref u)) (pairAt H (.ref t)) = false from h1]
      exact Bool.false_ne_true
    rw [SrtO.lexB_iff, pairAt_is ht, pairAt_is hu] at h3
    have h3 : ¬ ((0 - ((ls.getD q 0 : Nat) : Int)) < (0 - ((ls.getD p 0 : Nat) : Int)) ∨ ((0 - ((ls.getD q 0 : Nat) : Int)) = (0 - ((ls.getD p 0 : Nat) : Int)) ∧ ((q : Nat) : Int) < ((p : Nat) : Int))) := h3
    unfold Ahead
    omega
  have e2 : ys.map ix = decreasingOrder ls := order_unique ls _ pm2 pw
  have hyr : ∀ y ∈ ys, ∃ t, y = V.ref t := fun y hy => by
    obtain ⟨t, p, e, _⟩ := hx y hy
    exact ⟨t, e⟩
  have hus : ∀ l : List V, (∀ y ∈ l, ∃ t, y = V.ref t) → ∃ us : List Addr, l = us.map V.ref := by
    intro l
    induction l with
    | nil => exact fun _ => ⟨[], rfl⟩
    | cons y r ih =>
      intro h
      obtain ⟨t, rfl⟩ := h y (List.mem_cons_self ..)
      obtain ⟨us, rfl⟩ := ih fun z hz => h z (List.mem_cons_of_mem _ hz)
      exact ⟨t :: us, rfl⟩
  obtain ⟨us, rfl⟩ := hus ys hyr
  refine ⟨us, rfl, ?_, fun j p hj => ?_⟩
  · have := pm.length_eq
    rw [List.length_map, List.length_map] at this
    omega
  · rw [← e2, List.map_map, List.getElem?_map] at hj
    cases e : us[j]? with
    | none =>
      rw [e] at hj
      cases hj
    | some t =>
      rw [e] at hj
      have hj : ix (.ref t) = p := Option.some.inj hj
      obtain ⟨t2, p2, e3, _, h3⟩ := hx (.ref t) (List.mem_map.mpr ⟨t, List.mem_of_getElem? e, rfl⟩)
      cases e3
      rw [hix t p2 h3] at hj
      subst hj
      exact ⟨t, rfl, h3⟩
theorem ok_order {f : Addr} {fd : FuncData} (F : Fun K "falling_order" "falling_order" sOrder f fd) (ml : mg "len" = none) (mr : mg "range" = none) (ms : mg "sorted" = none) : FnOk P w K mg base CX0 1 f fd ["lengths"] (spOrder K) := by
  refine F.ok scOrder (fun vs H Q E h => ?_) (fun cdv A outer s H vs Q E hr h => ?_)
  · obtain ⟨a, ls, rfl, _⟩ := h
    rfl
  · obtain ⟨a, ls, rfl, hS, hlen, k⟩ := h
    refine ⟨_, pss_cons (ps_set (i := 1) scOrder.nd rfl (Or.inl rfl) (pe_callB cr_sortedPO (by rfl) ms (by decide +kernel) (pa_cons
      (pe_lc (own := [("pallet", 2)]) (g := gName 2) (tt := tYes) rfl scOrder.nd (pi_range1 (by rfl) mr (pa_cons (pe_callB call_len_seq (by rfl) ml PySem.boot_len (pa_cons (pv 0) pa_nil)) pa_nil)) (blkOk_by (own := [("pallet", 2)]) (N := ["lengths", "rows", "pallet", "less"]) (sc := defScope sOrder) (by decide +kernel))
        (fun _ _ _ _ _ => pg_name (i := 2) scOrder.nd rfl (Or.inl rfl)) (fun _ _ _ _ _ => pts_nil)
        (fun _ _ _ _ _ => pe_tup (pa_cons (pe_op op_sub pe_int (pe_ix (ix_listK (K := K)) (pv 0) (pv 2) (fun _ _ => rfl))) (pa_cons (pv 2) pa_nil)))) pa_nil)))
      (pss_one (ps_ret (pe_lc (own := [("less", 3), ("pallet", 2)]) (g := gTup K 2 (gCons (gName 3) (gCons (gName 2) gNil))) (tt := tYes) rfl scOrder.nd (pi_list (pv 1)) (blkOk_by (own := [("less", 3), ("pallet", 2)]) (N := ["lengths", "rows", "pallet", "less"]) (sc := defScope sOrder) (by decide +kernel))
        (fun _ _ _ _ _ => pg_tup (by rfl) (pgs_cons (pg_name (i := 3) scOrder.nd rfl (Or.inl rfl)) (pgs_cons (pg_name (i := 2) scOrder.nd rfl (Or.inl rfl)) pgs_nil))) (fun _ _ _ _ _ => pts_nil) (fun _ _ _ _ _ => pv 2)))), ?_⟩
    have hb : (iv ls).length ≤ 12 := by rw [iv_len]; exact hlen
    refine ⟨.ref a, rfl, a, iv ls, rfl, .inl hS, _, rfl, by omega, by omega, fun D hD => ?_⟩
    refine lc_range (lo := 0) (n := (iv ls).length) (fun i H' => ∃ ts : List Addr, Made H D (ts.map V.ref) H' ∧ ts.length = i ∧ PairsAt H' ls ts) ⟨[], Made.start hD, rfl, fun j t h => by simp at h⟩ ?_ ?_
    · rintro i H' hi ⟨ts, m, hts, hpa⟩
      rw [iv_len] at hi
      have ei : (0 : Int) + (i : Int) = (i : Int) := by omega
      refine ⟨rfl, .ref a, rfl, .int (0 + (i : Int)), rfl, a, iv ls, 0 + (i : Int), _, rfl, rfl, m.same.seq hS, at_of (j := i) ei (iv_get (getD_at hi)), 0, _, rfl, rfl, .int (0 + (i : Int)), rfl, (by show 2 ≤ sizeLine; decide), fun t ht => ?_⟩
      have s1 := same_upd (o := .tup [V.int (0 - ((ls.getD i 0 : Nat) : Int)), V.int (0 + (i : Int))]) ht
      have m1 : Made H D (ts.map V.ref) (upd H' t (.tup [V.int (0 - ((ls.getD i 0 : Nat) : Int)), V.int (0 + (i : Int))])) := m.go s1
      refine ⟨ts.map V.ref, m1.at_, small 12 (by rw [List.length_map]; omega), ts ++ [t], ?_, by rw [List.length_append, hts]; rfl, ?_⟩
      · rw [List.map_append]
        exact m1.put _
      · have hne : ∀ b, (∃ x, (upd H' t (.tup [V.int (0 - ((ls.getD i 0 : Nat) : Int)), V.int (0 + (i : Int))])) b = some (.tup x)) → b ≠ D := fun b hbx z => by
          obtain ⟨x, hbx⟩ := hbx
          rw [z, m1.at_] at hbx
          cases hbx
        intro j u hj
        by_cases hjl : j < ts.length
        · rw [List.getElem?_append_left hjl] at hj
          have q := s1 _ _ (hpa j u hj)
          rw [upd_ne (hne u ⟨_, q⟩)]
          exact q
        · have hje : j = ts.length := by
            have := (List.getElem?_eq_some_iff.mp hj).1
            rw [List.length_append] at this
            have : j < ts.length + 1 := this
            omega
          subst hje
          rw [List.getElem?_append_right (Nat.le_refl _), Nat.sub_self] at hj
          have hj : t = u := Option.some.inj hj
          subst hj
          have q : (upd H' t (.tup [V.int (0 - ((ls.getD i 0 : Nat) : Int)), V.int (0 + (i : Int))])) t = some (.tup [V.int (0 - ((ls.getD i 0 : Nat) : Int)), V.int (0 + (i : Int))]) := upd_same
          rw [upd_ne (hne t ⟨_, q⟩), q, hts, ei]
    · rintro H2 ⟨ts, m, hts, hpa⟩
      rw [iv_len] at hts
      refine ⟨D, ts.map V.ref, pairAt H2, rfl, SqL.of m.at_, fun x hx => ?_, fun ys p srt stb hp => ?_⟩
      · obtain ⟨t, ht, rfl⟩ := List.mem_map.mp hx
        obtain ⟨j, hj⟩ := List.getElem?_of_mem ht
        have q := hpa j t hj
        exact ⟨t, rfl, by rw [pairAt_is q]; exact q⟩
      · obtain ⟨us, rfl, hul, hus⟩ := order_of hts hpa srt stb.perm
        have s2 := same_upd (o := .lst (us.map V.ref)) hp
        have hul2 : us.length = (decreasingOrder ls).length := by rw [hul, (order_ok ls).2.length_eq, List.length_range]
        refine ⟨.ref p, rfl, p, rfl, ⟨_, SqL.of upd_same⟩, fun B hB => ?_⟩
        refine lc_list (K := K) (a := p) (xs := us.map V.ref) (fun i H' => Made (upd H2 p (.lst (us.map V.ref))) B (iv ((decreasingOrder ls).take i)) H') (Made.start hB) (fun i H' _ m => SqL.of (m.same _ _ upd_same)) ?_ ?_
        · intro i x H' hx mB
          rw [List.getElem?_map] at hx
          cases e : us[i]? with
          | none =>
            rw [e] at hx
            cases hx
          | some t =>
            rw [e] at hx
            have hx : V.ref t = x := Option.some.inj hx
            subst hx
            have hi : i < (decreasingOrder ls).length := by
              have := (List.getElem?_eq_some_iff.mp e).1
              omega
            obtain ⟨t2, ht2, hT⟩ := hus i _ (List.getElem?_eq_getElem hi)
            rw [e] at ht2
            have ht2 : t = t2 := Option.some.inj ht2
            subst ht2
            refine ⟨t, _, rfl, SqT.of (mB.same _ _ (s2 _ _ hT)), rfl, _, _, rfl, _, _, rfl, rfl, rfl, V.int ((decreasingOrder ls)[i] : Nat), rfl, mB.turn (small 12 (by rw [iv_len, List.length_take]; omega)) ?_⟩
            rw [take_snoc (List.getElem?_eq_getElem hi), iv_app]
            rfl
        · intro H3 mB
          rw [List.length_map, hul2, List.take_length] at mB
          exact k H3 B ((m.same.trans s2).trans mB.same) ((m.same.trans s2).free mB.new) mB.at_
end
end TW

/-! ### what the interface's defs share -/
namespace TW
open PySem PySem.Spec PyProof.Rows L2 TF
open Kbe6 (toInts)
theorem loadRef_cases (c : Nat) (ls : List Nat) : loadRef c ls = [] ∨ loadRef c ls = [-22] ∨ loadRef c ls = [-33] := by
  unfold loadRef
  split
  · split
    · exact .inl rfl
    · exact .inr (.inr rfl)
  · exact .inr (.inl rfl)
theorem dp_ints {K : PySem.W.Frag} {H : Hp} : ∀ ns : List Int, DpAll K H (ns.map V.int) (ns.map PyData.int)
  | [] => .nil
  | n :: r => .cons (.int n) (dp_ints r)
theorem dp_list {K : PySem.W.Frag} {H : Hp} {p : Addr} {ns : List Int} (h : H p = some (.lst (ns.map V.int))) : Dp K H (.ref p) (.list (ns.map PyData.int)) := .lst (SqL.of h) (dp_ints ns)
theorem rg_range (n : Nat) : rgV 0 (n : Int) = iv (List.range n) := by
  unfold rgV
  rw [iv_eq, show ((n : Int) - 0).toNat = n by omega]
  refine List.map_congr_left fun i _ => ?_
  rw [show (0 : Int) + (i : Nat) = (i : Int) by omega]
/-- the request's numbers -/
theorem nat_of {z hi : Int} (h : PySem.W.Codec.inInt 0 hi z = true) : ∃ n : Nat, z = (n : Int) := by
  have q : (decide (0 ≤ z) && decide (z ≤ hi)) = true := h
  rw [Bool.and_eq_true] at q
  exact ⟨z.toNat, (Int.toNat_of_nonneg (of_decide_eq_true q.1)).symm⟩
theorem nats_of {l : List Int} {hi : Int} (h : l.all (PySem.W.Codec.inInt 0 hi) = true) : ∃ m : List Nat, l = toInts m := ints_nats fun x hx => by
  obtain ⟨n, rfl⟩ := nat_of (List.all_eq_true.mp h x hx)
  omega
theorem len_of {m : List Nat} {least most : Nat} (h : PySem.W.Codec.inLen least most (toInts m) = true) : m.length ≤ most := by
  have q := (PySem.W.Codec.inNat_iff.mp h).2
  unfold Kbe6.toInts at q
  rw [List.length_map] at q
  exact q
end TW

/-! ### first_fit_decreasing -/
namespace TW
open PySem PySem.Spec PyProof.Rows L2 TF
open Kbe6 (toInts truckCount)
section
variable {P : Program} {w : World} {K : PySem.W.Frag} {mg : Str → Option Value} {base : Heap}
def spMain (K : PySem.W.Frag) : Sp := fun vs H Q _ => ∃ (c : Nat) (a : Addr) (ls : List Nat), vs = [.int (c : Int), .ref a] ∧ SqL K H a (iv ls) ∧ ls.length ≤ 12 ∧
  ∀ H' p, H' p = some (.lst ((PyKbe6.first_fit_decreasing (c : Int) (toInts ls)).map V.int)) → Q (.ref p) H'
theorem scMain : FnScope ["capacity", "lengths", "refusal", "trucks"] ["capacity", "lengths"] (defScope sMain) := ⟨rfl, rfl, rfl, by decide +kernel, rfl, by decide +kernel, by decide +kernel⟩
theorem ok_main {f : Addr} {fd : FuncData} (F : Fun K "first_fit_decreasing" "first_fit_decreasing" sMain f fd) (CL : Callee P w K mg base 3 "load_refusal" ["capacity", "lengths"] (spLoad K)) (CO : Callee P w K mg base 1 "falling_order" ["lengths"] (spOrder K)) (CI : Callee P w K mg base 2 "first_fit_in" ["capacity", "lengths", "order"] (spFitIn K))
    (CC : Callee P w K mg base 1 "count_trucks" ["assignment"] (spCount K)) : FnOk P w K mg base CX0 4 f fd ["capacity", "lengths"] (spMain K) := by
  obtain ⟨fL, fdL, GL, gL, kL, bL⟩ := CL.ex
  obtain ⟨fO, fdO, GO, gO, kO, bO⟩ := CO.ex
  obtain ⟨fI, fdI, GI, gI, kI, bI⟩ := CI.ex
  obtain ⟨fC, fdC, GC, gC, kC, bC⟩ := CC.ex
  refine F.ok scMain (fun vs H Q E h => ?_) (fun cdv A outer s H vs Q E hr h => ?_)
  · obtain ⟨c, a, ls, rfl, _⟩ := h
    rfl
  · obtain ⟨c, a, ls, rfl, hS, hlen, k⟩ := h
    have hr2 : Room 2 _ := hr.mono (by decide)
    have hr1 : Room 1 _ := hr.mono (by decide)
    refine ⟨_, pss_cons (ps_set (i := 2) scMain.nd rfl (Or.inl rfl) (pe_call GL hr (by rfl) gL kL bL .nil pass0 (pa_cons (pv 0) (pa_cons (pv 1) pa_nil))))
      (pss_cons (ps_if (pt_cmpR (op_neD hr.units) (pv 2) (pe_lst pa_nil) (nomark _)) (pss_one (ps_ret (pv 2))) pss_nil)
      (pss_cons (ps_set (i := 3) scMain.nd rfl (Or.inl rfl) (pe_call GI hr2 (by rfl) gI kI bI .nil pass0 (pa_cons (pv 0) (pa_cons (pv 1) (pa_cons (pe_call GO hr1 (by rfl) gO kO bO .nil pass0 (pa_cons (pv 1) pa_nil)) pa_nil)))))
      (pss_one (ps_ret (pe_op op_cat (pe_lst (pa_cons (pe_call GC hr1 (by rfl) gC kC bC .nil pass0 (pa_cons (pv 3) pa_nil)) pa_nil)) (pv 3)))))), ?_⟩
    rw [due_first_fit_decreasing] at k
    refine ⟨_, rfl, _, rfl, c, a, ls, rfl, hS, hlen, fun H1 p s1 np ep => ?_⟩
    refine ⟨.ref p, rfl, Nat.zero_le _, fun q hq => ?_⟩
    have s2 := s1.trans (same_upd (o := .lst []) hq)
    have ep2 := same_upd (o := .lst []) hq _ _ ep
    refine ⟨_, _, dp_list ep2, dp_list (ns := []) upd_same, ?_⟩
    have no : loadRef c ls ≠ [] → Q (.ref p) (upd H1 q (.lst [])) := fun z => k _ p (by rw [if_neg z]; exact ep2)
    rcases loadRef_cases c ls with e | e | e
    · rw [e]
      refine ⟨by decide, by decide, _, rfl, iteF ?_⟩
      obtain ⟨h7, _, _, _, _⟩ := loadRef_nil e
      -- trucks = first_fit_in(capacity, lengths, falling_order(lengths))
      have hO := (order_ok ls).2
      refine ⟨_, rfl, _, rfl, .ref a, rfl, a, ls, rfl, s2.seq hS, hlen, fun H2 b s3 nb eb => ?_⟩
      refine ⟨c, a, b, ls, Kbe6.decreasingOrder ls, rfl, s3.seq (s2.seq hS), SqL.of eb, hlen, by rw [hO.length_eq, List.length_range]; exact hlen, fun x hx => List.mem_range.mp (hO.mem_iff.mp hx), fun H3 T s4 nT eT => ?_⟩
      rw [fit_decreasing c ls hO] at eT
      have hT : (Kbe6.firstFitDecreasing c ls).length ≤ 7 := by rw [← fit_decreasing c ls hO, fitIn_len]; exact h7
      -- return [count_trucks(trucks)] + trucks
      refine ⟨.ref T, rfl, T, Kbe6.firstFitDecreasing c ls, rfl, SqL.of eT, by omega, fun H4 s5 => ⟨(by show 1 ≤ sizeLine; decide), fun p1 hp1 => ?_⟩⟩
      refine ⟨.ref T, rfl, p1, T, _, _, rfl, rfl, upd_same, same_upd hp1 _ _ (s5 _ _ eT), small_le 8 (by rw [iv_len]; show 1 + _ ≤ 8; omega), fun p2 hp2 => ?_⟩
      refine k _ p2 ?_
      rw [upd_same, if_pos e]
      rfl
    · rw [e]
      refine ⟨by decide, by decide, _, rfl, iteT ⟨.ref p, rfl, no (by rw [e]; decide)⟩⟩
    · rw [e]
      refine ⟨by decide, by decide, _, rfl, iteT ⟨.ref p, rfl, no (by rw [e]; decide)⟩⟩
end
end TW

/-! ### what the top has written; the row's end -/
namespace TW
open PySem PySem.Spec PyProof.Rows L2 TF
theorem all_mk {P : Program} {w : World} {K : PySem.W.Frag} {h : Heap} {mg : Str → Option Value} {fa : Addr} (X : K.In h) (G : h.Ns mainGlobals mg) (hfa : mg "first_fit_decreasing" = some (.ref fa))
    {f1 : Addr} {od1 an1 : Option Addr} {sl1 : Array (Option Value)} {oc1 kV1 dc1 pm1 cd1 ct1 : Value}
    {f2 : Addr} {od2 an2 : Option Addr} {sl2 : Array (Option Value)} {oc2 kV2 dc2 pm2 cd2 ct2 : Value}
    {f3 : Addr} {od3 an3 : Option Addr} {sl3 : Array (Option Value)} {oc3 kV3 dc3 pm3 cd3 ct3 : Value}
    {f4 : Addr} {od4 an4 : Option Addr} {sl4 : Array (Option Value)} {oc4 kV4 dc4 pm4 cd4 ct4 : Value}
    {f5 : Addr} {od5 an5 : Option Addr} {sl5 : Array (Option Value)} {oc5 kV5 dc5 pm5 cd5 ct5 : Value}
    {f6 : Addr} {od6 an6 : Option Addr} {sl6 : Array (Option Value)} {oc6 kV6 dc6 pm6 cd6 ct6 : Value}
    {f7 : Addr} {od7 an7 : Option Addr} {sl7 : Array (Option Value)} {oc7 kV7 dc7 pm7 cd7 ct7 : Value}
    {f8 : Addr} {od8 an8 : Option Addr} {sl8 : Array (Option Value)} {oc8 kV8 dc8 pm8 cd8 ct8 : Value}
    {f9 : Addr} {od9 an9 : Option Addr} {sl9 : Array (Option Value)} {oc9 kV9 dc9 pm9 cd9 ct9 : Value}
    {t1 : Tok}
    {t2 : Tok}
    {t3 : Tok}
    {t4 : Tok}
    {t5 : Tok}
    (a1 : PySem.W.nsIn K mainGlobals "is_within" = some (some (.ref f1))) (l1 : K.lookup f1 = some ⟨oc1, od1, .func (PySem.W.fnOf "is_within" "is_within" (defArgs sWithin) (defBody sWithin) (defScope sWithin) .none kV1 dc1 pm1 an1 cd1 ct1), sl1⟩) (c1 : PySem.W.codeIn K cd1 "is_within" = true) (k1 : PySem.W.keepIn K (.ref f1) = true)
    (a2 : PySem.W.nsIn K mainGlobals "are_lengths" = some (some (.ref f2))) (l2 : K.lookup f2 = some ⟨oc2, od2, .func (PySem.W.fnOf "are_lengths" "are_lengths" (defArgs sAre) (defBody sAre) (defScope sAre) .none kV2 dc2 pm2 an2 cd2 ct2), sl2⟩) (c2 : PySem.W.codeIn K cd2 "are_lengths" = true) (k2 : PySem.W.keepIn K (.ref f2) = true)
    (a3 : PySem.W.nsIn K mainGlobals "load_refusal" = some (some (.ref f3))) (l3 : K.lookup f3 = some ⟨oc3, od3, .func (PySem.W.fnOf "load_refusal" "load_refusal" (defArgs sLoad) (defBody sLoad) (defScope sLoad) .none kV3 dc3 pm3 an3 cd3 ct3), sl3⟩) (c3 : PySem.W.codeIn K cd3 "load_refusal" = true) (k3 : PySem.W.keepIn K (.ref f3) = true)
    (a4 : PySem.W.nsIn K mainGlobals "first_truck" = some (some (.ref f4))) (l4 : K.lookup f4 = some ⟨oc4, od4, .func (PySem.W.fnOf "first_truck" "first_truck" (defArgs sFirst) (defBody sFirst) (defScope sFirst) .none kV4 dc4 pm4 an4 cd4 ct4), sl4⟩) (c4 : PySem.W.codeIn K cd4 "first_truck" = true) (k4 : PySem.W.keepIn K (.ref f4) = true)
    (a5 : PySem.W.nsIn K mainGlobals "with_pallet" = some (some (.ref f5))) (l5 : K.lookup f5 = some ⟨oc5, od5, .func (PySem.W.fnOf "with_pallet" "with_pallet" (defArgs sWith) (defBody sWith) (defScope sWith) .none kV5 dc5 pm5 an5 cd5 ct5), sl5⟩) (c5 : PySem.W.codeIn K cd5 "with_pallet" = true) (k5 : PySem.W.keepIn K (.ref f5) = true)
    (a6 : PySem.W.nsIn K mainGlobals "first_fit_in" = some (some (.ref f6))) (l6 : K.lookup f6 = some ⟨oc6, od6, .func (PySem.W.fnOf "first_fit_in" "first_fit_in" (defArgs sFitIn) (defBody sFitIn) (defScope sFitIn) .none kV6 dc6 pm6 an6 cd6 ct6), sl6⟩) (c6 : PySem.W.codeIn K cd6 "first_fit_in" = true) (k6 : PySem.W.keepIn K (.ref f6) = true)
    (a7 : PySem.W.nsIn K mainGlobals "falling_order" = some (some (.ref f7))) (l7 : K.lookup f7 = some ⟨oc7, od7, .func (PySem.W.fnOf "falling_order" "falling_order" (defArgs sOrder) (defBody sOrder) (defScope sOrder) .none kV7 dc7 pm7 an7 cd7 ct7), sl7⟩) (c7 : PySem.W.codeIn K cd7 "falling_order" = true) (k7 : PySem.W.keepIn K (.ref f7) = true)
    (a8 : PySem.W.nsIn K mainGlobals "count_trucks" = some (some (.ref f8))) (l8 : K.lookup f8 = some ⟨oc8, od8, .func (PySem.W.fnOf "count_trucks" "count_trucks" (defArgs sCount) (defBody sCount) (defScope sCount) .none kV8 dc8 pm8 an8 cd8 ct8), sl8⟩) (c8 : PySem.W.codeIn K cd8 "count_trucks" = true) (k8 : PySem.W.keepIn K (.ref f8) = true)
    (a9 : PySem.W.nsIn K mainGlobals "first_fit_decreasing" = some (some (.ref f9))) (l9 : K.lookup f9 = some ⟨oc9, od9, .func (PySem.W.fnOf "first_fit_decreasing" "first_fit_decreasing" (defArgs sMain) (defBody sMain) (defScope sMain) .none kV9 dc9 pm9 an9 cd9 ct9), sl9⟩) (c9 : PySem.W.codeIn K cd9 "first_fit_decreasing" = true) (k9 : PySem.W.keepIn K (.ref f9) = true)
    (n1 : PySem.W.nsIn K mainGlobals "IMPOSSIBLE" = some (some (.int (-33) t1)))
    (n2 : PySem.W.nsIn K mainGlobals "MAX_CAPACITY" = some (some (.int (100) t2)))
    (n3 : PySem.W.nsIn K mainGlobals "MAX_LENGTH" = some (some (.int (100) t3)))
    (n4 : PySem.W.nsIn K mainGlobals "MAX_PALLETS" = some (some (.int (7) t4)))
    (n5 : PySem.W.nsIn K mainGlobals "OUT_OF_RANGE" = some (some (.int (-22) t5)))
    (z1 : PySem.W.nsIn K mainGlobals "all" = some none)
    (z2 : PySem.W.nsIn K mainGlobals "len" = some none)
    (z3 : PySem.W.nsIn K mainGlobals "max" = some none)
    (z4 : PySem.W.nsIn K mainGlobals "range" = some none)
    (z5 : PySem.W.nsIn K mainGlobals "sorted" = some none)
    : ∃ fd : FuncData, (∀ (s : Shared) (us : List Value), us.length = (["capacity", "lengths"] : List Str).length → BindsTo s fd ⟨us, []⟩ ((["capacity", "lengths"] : List Str).zip us)) ∧ ∀ base : Heap, K.In base → base.Ns mainGlobals mg → FnOk P w K mg base CX0 4 fa fd ["capacity", "lengths"] (spMain K) := by
  have e := hfa.symm.trans (PySem.W.mg_of X G a9)
  cases e
  have F1 := fun_mk (st := sWithin) l1 c1 k1
  have b1 := F1.binds (ps := ["number", "low", "high"]) fun _ _ _ _ _ _ us hl => match us, hl with | [_, _, _], _ => rfl
  have F2 := fun_mk (st := sAre) l2 c2 k2
  have b2 := F2.binds (ps := ["lengths"]) fun _ _ _ _ _ _ us hl => match us, hl with | [_], _ => rfl
  have F3 := fun_mk (st := sLoad) l3 c3 k3
  have b3 := F3.binds (ps := ["capacity", "lengths"]) fun _ _ _ _ _ _ us hl => match us, hl with | [_, _], _ => rfl
  have F4 := fun_mk (st := sFirst) l4 c4 k4
  have b4 := F4.binds (ps := ["capacity", "loads", "length"]) fun _ _ _ _ _ _ us hl => match us, hl with | [_, _, _], _ => rfl
  have F5 := fun_mk (st := sWith) l5 c5 k5
  have b5 := F5.binds (ps := ["loads", "truck", "length"]) fun _ _ _ _ _ _ us hl => match us, hl with | [_, _, _], _ => rfl
  have F6 := fun_mk (st := sFitIn) l6 c6 k6
  have b6 := F6.binds (ps := ["capacity", "lengths", "order"]) fun _ _ _ _ _ _ us hl => match us, hl with | [_, _, _], _ => rfl
  have F7 := fun_mk (st := sOrder) l7 c7 k7
  have b7 := F7.binds (ps := ["lengths"]) fun _ _ _ _ _ _ us hl => match us, hl with | [_], _ => rfl
  have F8 := fun_mk (st := sCount) l8 c8 k8
  have b8 := F8.binds (ps := ["assignment"]) fun _ _ _ _ _ _ us hl => match us, hl with | [_], _ => rfl
  have F9 := fun_mk (st := sMain) l9 c9 k9
  have N_IMPOSSIBLE : Num mg "IMPOSSIBLE" (-33) := ⟨_, PySem.W.mg_of X G n1⟩
  have N_MAX_CAPACITY : Num mg "MAX_CAPACITY" (100) := ⟨_, PySem.W.mg_of X G n2⟩
  have N_MAX_LENGTH : Num mg "MAX_LENGTH" (100) := ⟨_, PySem.W.mg_of X G n3⟩
  have N_MAX_PALLETS : Num mg "MAX_PALLETS" (7) := ⟨_, PySem.W.mg_of X G n4⟩
  have N_OUT_OF_RANGE : Num mg "OUT_OF_RANGE" (-22) := ⟨_, PySem.W.mg_of X G n5⟩
  have Z_all : mg "all" = none := PySem.W.mg_none_of X G z1
  have Z_len : mg "len" = none := PySem.W.mg_none_of X G z2
  have Z_max : mg "max" = none := PySem.W.mg_none_of X G z3
  have Z_range : mg "range" = none := PySem.W.mg_none_of X G z4
  have Z_sorted : mg "sorted" = none := PySem.W.mg_none_of X G z5
  refine ⟨PySem.W.fnOf "first_fit_decreasing" "first_fit_decreasing" (defArgs sMain) (defBody sMain) (defScope sMain) .none kV9 dc9 pm9 an9 cd9 ct9, fun s us hu => match us, hu with | [_, _], _ => .of_eq rfl, fun base _ _ => ?_⟩
  have C_is_within : Callee P w K mg base 1 "is_within" ["number", "low", "high"] spWithin := ⟨f1, _, ok_within F1 , PySem.W.mg_of X G a1, k1, b1⟩
  have C_are_lengths : Callee P w K mg base 2 "are_lengths" ["lengths"] (spAre K) := ⟨f2, _, ok_are F2 C_is_within Z_len Z_all N_MAX_PALLETS N_MAX_LENGTH, PySem.W.mg_of X G a2, k2, b2⟩
  have C_load_refusal : Callee P w K mg base 3 "load_refusal" ["capacity", "lengths"] (spLoad K) := ⟨f3, _, ok_load F3 C_is_within C_are_lengths Z_all N_MAX_CAPACITY N_OUT_OF_RANGE N_IMPOSSIBLE, PySem.W.mg_of X G a3, k3, b3⟩
  have C_first_truck : Callee P w K mg base 1 "first_truck" ["capacity", "loads", "length"] (spFirst K) := ⟨f4, _, ok_first F4 Z_len Z_range, PySem.W.mg_of X G a4, k4, b4⟩
  have C_with_pallet : Callee P w K mg base 1 "with_pallet" ["loads", "truck", "length"] (spWith K) := ⟨f5, _, ok_with F5 Z_len, PySem.W.mg_of X G a5, k5, b5⟩
  have C_first_fit_in : Callee P w K mg base 2 "first_fit_in" ["capacity", "lengths", "order"] (spFitIn K) := ⟨f6, _, ok_fitIn F6 C_first_truck C_with_pallet, PySem.W.mg_of X G a6, k6, b6⟩
  have C_falling_order : Callee P w K mg base 1 "falling_order" ["lengths"] (spOrder K) := ⟨f7, _, ok_order F7 Z_len Z_range Z_sorted, PySem.W.mg_of X G a7, k7, b7⟩
  have C_count_trucks : Callee P w K mg base 1 "count_trucks" ["assignment"] (spCount K) := ⟨f8, _, ok_count F8 Z_max, PySem.W.mg_of X G a8, k8, b8⟩
  exact ok_main F9 C_load_refusal C_falling_order C_first_fit_in C_count_trucks
end TW
open PySem PySem.W PyProof.Rows
set_option maxRecDepth 100000 in
set_option maxHeartbeats 0 in
theorem PySem.Challenge.cw_truckfill_s02_first_fit_decreasing_holds : PySem.Challenge.rw_truckfill_s02_first_fit_decreasing.Holds := by
  w_on; k_headS; (case hw => exact ⟨[.int 1, .list []], by decide +kernel, by decide +kernel⟩)
  k_fillS
  refine L2.walk_specK (r := PySem.Challenge.rw_truckfill_s02_first_fit_decreasing) (k := 4) (CX := L2.CX0) (ps := ["capacity", "lengths"]) (sp := TW.spMain) (by decide +kernel) rfl rfl ⟨rfl, by decide, by decide⟩ (fun w h Y => PySem.W.kIn_of Y) ?F ?S (fun _ _ _ _ z => z)
  case F =>
    intro w mg fa h Y KX G hmg
    refine' TW.all_mk KX G hmg ?a1 ?l1 ?c1 ?k1 ?a2 ?l2 ?c2 ?k2 ?a3 ?l3 ?c3 ?k3 ?a4 ?l4 ?c4 ?k4 ?a5 ?l5 ?c5 ?k5 ?a6 ?l6 ?c6 ?k6 ?a7 ?l7 ?c7 ?k7 ?a8 ?l8 ?c8 ?k8 ?a9 ?l9 ?c9 ?k9 ?n1 ?n2 ?n3 ?n4 ?n5 ?z1 ?z2 ?z3 ?z4 ?z5
    (case a1 => k_is)
    (case l1 => k_is)
    (case c1 => k_is)
    (case k1 => k_is)
    (case a2 => k_is)
    (case l2 => k_is)
    (case c2 => k_is)
    (case k2 => k_is)
    (case a3 => k_is)
    (case l3 => k_is)
    (case c3 => k_is)
    (case k3 => k_is)
    (case a4 => k_is)
    (case l4 => k_is)
    (case c4 => k_is)
    (case k4 => k_is)
    (case a5 => k_is)
    (case l5 => k_is)
    (case c5 => k_is)
    (case k5 => k_is)
    (case a6 => k_is)
    (case l6 => k_is)
    (case c6 => k_is)
    (case k6 => k_is)
    (case a7 => k_is)
    (case l7 => k_is)
    (case c7 => k_is)
    (case k7 => k_is)
    (case a8 => k_is)
    (case l8 => k_is)
    (case c8 => k_is)
    (case k8 => k_is)
    (case a9 => k_is)
    (case l9 => k_is)
    (case c9 => k_is)
    (case k9 => k_is)
    (case n1 => k_is)
    (case n2 => k_is)
    (case n3 => k_is)
    (case n4 => k_is)
    (case n5 => k_is)
    (case z1 => k_is)
    (case z2 => k_is)
    (case z3 => k_is)
    (case z4 => k_is)
    (case z5 => k_is)
  case S =>
    intro K H xs a hO hwi hask hx
    obtain ⟨c0, l0, u⟩ := a
    cases hx with
    | cons h1 h2 =>
      cases h2 with
      | cons h3 h4 =>
        cases h4
        cases h1
        cases h3 with
        | lst hs ha =>
          have e := L2.ints_dw l0 _ ha
          subst e
          have q : (Codec.inInt 0 4294967295 c0 && ((Codec.inLen 0 12 l0 && l0.all (Codec.inInt 0 4294967295)) && true)) = true := hwi
          rw [Bool.and_eq_true, Bool.and_eq_true, Bool.and_eq_true] at q
          obtain ⟨c, rfl⟩ := TW.nat_of q.1
          obtain ⟨ls, rfl⟩ := TW.nats_of q.2.1.2
          exact ⟨c, _, ls, rfl, hs, TW.len_of q.2.1.1, fun H' p hp => .lst (L2.SqL.of hp) (L2.dw_ints _)⟩
#print axioms PySem.Challenge.cw_truckfill_s02_first_fit_decreasing_holds
