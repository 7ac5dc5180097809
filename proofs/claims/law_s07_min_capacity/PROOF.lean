import PyProof.Rows.All
import Wide.All
import OpenK.AllK
import Wide.FinOn
import PyProof.EqAt
import PyProof.EqKinds
import PyProof.TupleCall
import Open.SpecLaws
import KE.OsHead
import KE.OsGo
import HandS.ForSpec
import HandS.Comp
import HandS.Conv
import HandS.SortRule
import PySem.Challenge.RW_truckfill_s07_min_capacity
set_option Elab.async false
set_option linter.all false
set_option maxRecDepth 100000
set_option maxHeartbeats 4000000
namespace TF
open Kbe6 (toInts validLengths canonicalAssignments truckCount loadOf sumOf isFeasible minimalAssignment)

theorem sumOf_acc : ∀ (l : List Nat) (z : Nat), l.foldl (· + ·) z = z + sumOf l
  | [], z => by simp [sumOf]
  | x :: r, z => by
    have e1 := sumOf_acc r (z + x)
    have e2 := sumOf_acc r (0 + x)
    unfold sumOf at *
    rw [List.foldl_cons, List.foldl_cons, e1, e2]
    omega
theorem sumOf_cons (x : Nat) (r : List Nat) : sumOf (x :: r) = x + sumOf r := by
  have e := sumOf_acc r (0 + x)
  show List.foldl (· + ·) (0 + x) r = _
  rw [e]
  omega
theorem sumOf_nil : sumOf [] = 0 := rfl
theorem sum_toInts : ∀ l : List Nat, (toInts l).sum = ((sumOf l : Nat) : Int)
  | [] => rfl
  | x :: r => by
    have ih := sum_toInts r
    show ((x : Int) :: toInts r).sum = _
    rw [List.sum_cons, ih, sumOf_cons]
    omega
theorem foldl_max : ∀ (l : List Nat) (z : Nat), l.foldl max z = max z (l.foldl max 0)
  | [], z => by simp
  | x :: r, z => by
    rw [List.foldl_cons, List.foldl_cons, foldl_max r (max z x), foldl_max r (max 0 x)]
    omega
theorem truckCount_cons (t : Nat) (a : List Nat) : truckCount (t :: a) = max (t + 1) (truckCount a) := by
  cases a with
  | nil => simp [truckCount]
  | cons x r =>
    show (t :: x :: r).foldl max 0 + 1 = max (t + 1) ((x :: r).foldl max 0 + 1)
    rw [List.foldl_cons, foldl_max (x :: r) (max 0 t)]
    omega
theorem truckCount_nil : truckCount [] = 0 := rfl
theorem loadOf_cons (n : Nat) (ls : List Nat) (t : Nat) (a : List Nat) (k : Nat) : loadOf (n :: ls) (t :: a) k = (if t = k then n else 0) + loadOf ls a k := by
  unfold loadOf
  rw [List.zip_cons_cons, List.filterMap_cons]
  by_cases h : t = k
  · simp [h, sumOf_cons]
  · simp [h]
theorem loadOf_nil_right (ls : List Nat) (k : Nat) : loadOf ls [] k = 0 := by
  unfold loadOf
  simp [sumOf]
theorem loadOf_nil_left (a : List Nat) (k : Nat) : loadOf [] a k = 0 := by
  unfold loadOf
  simp [sumOf]

/-! ### rows -/
abbrev TRow : Type := List Nat × List Nat
def withPallet (ld : List Nat) (t n : Nat) : List Nat := if t = ld.length then ld ++ [n] else ld.set t (ld.getD t 0 + n)
def addAll : List Nat → List Nat → List Nat → List Nat
  | ld, [], _ => ld
  | ld, _ :: _, [] => ld
  | ld, n :: r, t :: a => addAll (withPallet ld t n) r a
def rowTry (c : Nat) (r : TRow) (n t : Nat) : Option TRow :=
  if (withPallet r.2 t n).getD t 0 ≤ c then some (r.1 ++ [t], withPallet r.2 t n) else none
def rowsBehind (c : Nat) (r : TRow) (n : Nat) : List TRow := (List.range (r.2.length + 1)).filterMap (rowTry c r n)
def allRows (c : Nat) (rows : List TRow) (ls : List Nat) : List TRow :=
  ls.foldl (fun rows n => rows.flatMap fun r => rowsBehind c r n) rows
def better {α : Type} (m : α → Nat) (best : Option α) (x : α) : Option α := match best with
  | none => some x
  | some p => if m x < m p then some x else some p
def bestOf (rows : List TRow) : Option TRow := rows.foldl (better fun r => r.2.length) none

theorem withPallet_len (ld : List Nat) (t n : Nat) : (withPallet ld t n).length = if t = ld.length then ld.length + 1 else ld.length := by
  unfold withPallet
  split <;> simp
theorem withPallet_getD (ld : List Nat) (t n k : Nat) (h : t ≤ ld.length) : (withPallet ld t n).getD k 0 = ld.getD k 0 + if t = k then n else 0 := by
  unfold withPallet
  by_cases e : t = ld.length
  · rw [if_pos e, e]
    by_cases hk : k < ld.length
    · have : ¬ ld.length = k := by omega
      simp [List.getD_eq_getElem?_getD, List.getElem?_append_left hk, this]
    · by_cases hk2 : ld.length = k
      · subst hk2
        simp [List.getD_eq_getElem?_getD]
      · have h3 : ld.length + 1 ≤ k := by omega
        simp [List.getD_eq_getElem?_getD, hk2, List.getElem?_eq_none (show (ld ++ [n]).length ≤ k by simp; omega), List.getElem?_eq_none (show ld.length ≤ k by omega)]
  · rw [if_neg e]
    have ht : t < ld.length := by omega
    by_cases hk : t = k
    · subst hk
      simp [List.getD_eq_getElem?_getD, ht]
    · simp [List.getD_eq_getElem?_getD, hk]
theorem withPallet_ge (ld : List Nat) (t n k : Nat) : ld.getD k 0 ≤ (withPallet ld t n).getD k 0 := by
  by_cases h : t ≤ ld.length
  · rw [withPallet_getD ld t n k h]
    omega
  · unfold withPallet
    rw [if_neg (by omega), List.set_eq_of_length_le (by omega)]
    exact Nat.le_refl _
theorem addAll_ge : ∀ (ls a ld : List Nat) (k : Nat), ld.getD k 0 ≤ (addAll ld ls a).getD k 0
  | [], _, _, _ => by unfold addAll; exact Nat.le_refl _
  | _ :: _, [], _, _ => by unfold addAll; exact Nat.le_refl _
  | n :: r, t :: a, ld, k => by
    have h1 := withPallet_ge ld t n k
    have h2 := addAll_ge r a (withPallet ld t n) k
    show _ ≤ (addAll (withPallet ld t n) r a).getD k 0
    omega
theorem all_iff_getD (c : Nat) (l : List Nat) : l.all (fun x => decide (x ≤ c)) = true ↔ ∀ k, l.getD k 0 ≤ c := by
  rw [List.all_eq_true]
  constructor
  · intro h k
    by_cases hk : k < l.length
    · have := h l[k] (List.getElem_mem hk)
      simp [List.getD_eq_getElem?_getD, hk]
      simpa using this
    · simp [List.getD_eq_getElem?_getD, List.getElem?_eq_none (show l.length ≤ k by omega)]
  · intro h x hx
    obtain ⟨k, hk, e⟩ := List.getElem_of_mem hx
    have := h k
    simp [List.getD_eq_getElem?_getD, hk, e] at this
    simpa using this

theorem allRows_flat (c : Nat) : ∀ (ls : List Nat) (rows : List TRow), allRows c rows ls = rows.flatMap fun r => allRows c [r] ls
  | [], rows => by
    show rows = rows.flatMap fun r => [r]
    simp
  | n :: ls, rows => by
    show allRows c (rows.flatMap fun r => rowsBehind c r n) ls = rows.flatMap fun r => allRows c ([r].flatMap fun r => rowsBehind c r n) ls
    rw [allRows_flat c ls, List.flatMap_assoc]
    congr 1
    funext r
    rw [List.flatMap_singleton, ← allRows_flat c ls]
def onSome {β γ : Type} (g : β → List γ) : Option β → List γ
  | none => []
  | some y => g y
theorem flatMap_filterMap {α β γ : Type} (f : α → Option β) (g : β → List γ) : ∀ l : List α, (l.filterMap f).flatMap g = l.flatMap fun x => onSome g (f x)
  | [] => rfl
  | x :: r => by
    have ih := flatMap_filterMap f g r
    rw [List.filterMap_cons, List.flatMap_cons]
    cases e : f x with
    | none => simpa [onSome] using ih
    | some y => simp [ih, onSome]
theorem flatMap_congr {α β : Type} {f g : α → List β} : ∀ {l : List α}, (∀ x ∈ l, f x = g x) → l.flatMap f = l.flatMap g
  | [], _ => rfl
  | x :: r, h => by
    rw [List.flatMap_cons, List.flatMap_cons, h x (List.mem_cons_self ..), flatMap_congr fun y hy => h y (List.mem_cons_of_mem _ hy)]
theorem allRows_cons (c : Nat) (r : TRow) (n : Nat) (ls : List Nat) : allRows c [r] (n :: ls) = (List.range (r.2.length + 1)).flatMap fun t => onSome (fun y => allRows c [y] ls) (rowTry c r n t) := by
  show allRows c ([r].flatMap fun r => rowsBehind c r n) ls = _
  rw [List.flatMap_singleton, allRows_flat]
  exact flatMap_filterMap _ _ _
theorem ext_eq (c : Nat) : ∀ (ls asg ld : List Nat), (∀ k, ld.getD k 0 ≤ c) → allRows c [(asg, ld)] ls = ((canonicalAssignments ls.length ld.length).filter fun a => (addAll ld ls a).all fun x => decide (x ≤ c)).map fun a => (asg ++ a, addAll ld ls a)
  | [], asg, ld, h => by
    show [(asg, ld)] = (List.filter _ [[]]).map _
    rw [List.filter_cons, if_pos (by
      show (ld.all fun x => decide (x ≤ c)) = true
      exact (all_iff_getD c ld).mpr h)]
    show _ = [(asg ++ [], ld)]
    simp
  | n :: ls, asg, ld, h => by
    rw [allRows_cons]
    show _ = (List.filter _ ((List.range (ld.length + 1)).flatMap _)).map _
    rw [List.filter_flatMap, List.map_flatMap]
    refine flatMap_congr fun t ht => ?_
    have ht' : t ≤ ld.length := by
      have h0 : t < ld.length + 1 := List.mem_range.mp ht
      omega
    unfold rowTry
    by_cases hc : (withPallet ld t n).getD t 0 ≤ c
    · rw [if_pos hc]
      show allRows c [(asg ++ [t], withPallet ld t n)] ls = _
      rw [ext_eq c ls (asg ++ [t]) (withPallet ld t n) ?_]
      · rw [withPallet_len, List.filter_map, List.map_map]
        have e1 : ((fun a => (addAll ld (n :: ls) a).all fun x => decide (x ≤ c)) ∘ fun assignment => t :: assignment) = (fun a => (addAll (withPallet ld t n) ls a).all fun x => decide (x ≤ c)) := rfl
        rw [e1]
        refine List.map_congr_left fun a _ => ?_
        show (asg ++ [t] ++ a, addAll (withPallet ld t n) ls a) = (asg ++ t :: a, addAll (withPallet ld t n) ls a)
        simp
      · intro k
        by_cases hk : t = k
        · rw [← hk]
          exact hc
        · rw [withPallet_getD ld t n k ht', if_neg hk]
          exact h k
    · rw [if_neg hc]
      show [] = _
      symm
      rw [List.map_eq_nil_iff, List.filter_eq_nil_iff]
      intro a ha hall
      obtain ⟨b, _, rfl⟩ := List.mem_map.mp ha
      have h1 := (all_iff_getD c _).mp hall t
      have h2 := addAll_ge ls b (withPallet ld t n) t
      have h3 : addAll ld (n :: ls) (t :: b) = addAll (withPallet ld t n) ls b := rfl
      rw [h3] at h1
      omega

def Canon : Nat → List Nat → Prop
  | _, [] => True
  | u, t :: a => t ≤ u ∧ Canon (if t = u then u + 1 else u) a
theorem canon_mem : ∀ (n u : Nat) (a : List Nat), a ∈ canonicalAssignments n u → Canon u a ∧ a.length = n
  | 0, u, a, h => by
    have e : a = [] := by simpa [canonicalAssignments] using h
    subst e
    exact ⟨trivial, rfl⟩
  | n + 1, u, a, h => by
    unfold canonicalAssignments at h
    obtain ⟨t, ht, hm⟩ := List.mem_flatMap.mp h
    obtain ⟨b, hb, rfl⟩ := List.mem_map.mp hm
    obtain ⟨h1, h2⟩ := canon_mem n _ b hb
    have := List.mem_range.mp ht
    exact ⟨⟨by omega, h1⟩, by rw [List.length_cons, h2]⟩
theorem addAll_spec : ∀ (ls a ld : List Nat), Canon ld.length a → a.length = ls.length →
    (addAll ld ls a).length = max ld.length (truckCount a) ∧ ∀ k, (addAll ld ls a).getD k 0 = ld.getD k 0 + loadOf ls a k
  | [], a, ld, _, hl => by
    have e : a = [] := List.eq_nil_of_length_eq_zero hl
    subst e
    unfold addAll
    exact ⟨by simp [truckCount_nil], fun k => by rw [loadOf_nil_left]; omega⟩
  | n :: ls, [], ld, _, hl => by simp at hl
  | n :: ls, t :: a, ld, hc, hl => by
    obtain ⟨ht, hc2⟩ := hc
    have hw := withPallet_len ld t n
    rw [← hw] at hc2
    obtain ⟨i1, i2⟩ := addAll_spec ls a (withPallet ld t n) hc2 (by simpa using hl)
    show (addAll (withPallet ld t n) ls a).length = _ ∧ ∀ k, (addAll (withPallet ld t n) ls a).getD k 0 = _
    refine ⟨?_, fun k => ?_⟩
    · rw [i1, hw, truckCount_cons]
      by_cases e : t = ld.length
      · rw [if_pos e]
        omega
      · rw [if_neg e]
        omega
    · rw [i2 k, withPallet_getD ld t n k ht, loadOf_cons]
      omega
theorem feas_eq (c : Nat) (ls a : List Nat) (hc : Canon 0 a) (hl : a.length = ls.length) : ((addAll [] ls a).all fun x => decide (x ≤ c)) = isFeasible c ls a := by
  obtain ⟨h1, h2⟩ := addAll_spec ls a [] hc hl
  rw [Bool.eq_iff_iff, all_iff_getD]
  unfold isFeasible
  rw [List.all_eq_true]
  constructor
  · intro h t _
    have := h t
    rw [h2 t] at this
    simpa using this
  · intro h k
    by_cases hk : k < truckCount a
    · have := h k (List.mem_range.mpr hk)
      rw [h2 k]
      simpa using this
    · rw [List.getD_eq_getElem?_getD, List.getElem?_eq_none (by rw [h1]; simp; omega)]
      exact Nat.zero_le _
theorem allRows_eq (c : Nat) (ls : List Nat) : allRows c [([], [])] ls = ((canonicalAssignments ls.length 0).filter (isFeasible c ls)).map fun a => (a, addAll [] ls a) := by
  rw [ext_eq c ls [] [] (fun k => by simp)]
  have e : ∀ l : List (List Nat), (∀ a ∈ l, Canon 0 a ∧ a.length = ls.length) → (l.filter fun a => (addAll [] ls a).all fun x => decide (x ≤ c)) = l.filter (isFeasible c ls) := fun l hl => List.filter_congr fun a ha => feas_eq c ls a (hl a ha).1 (hl a ha).2
  show (List.filter _ (canonicalAssignments ls.length 0)).map _ = _
  rw [e _ (fun a ha => canon_mem _ _ a ha)]
  rfl
theorem fold_better {α β : Type} (m : α → Nat) (m' : β → Nat) (g : α → β) : ∀ (L : List α) (b : Option α), (∀ a ∈ L, m' (g a) = m a) → (∀ a, b = some a → m' (g a) = m a) →
    (L.map g).foldl (better m') (b.map g) = (L.foldl (better m) b).map g ∧ ∀ a, L.foldl (better m) b = some a → m' (g a) = m a
  | [], b, _, hb => ⟨rfl, hb⟩
  | x :: r, b, hL, hb => by
    have hx := hL x (List.mem_cons_self ..)
    have e : better m' (b.map g) (g x) = (better m b x).map g := by
      cases b with
      | none => rfl
      | some p =>
        have hp := hb p rfl
        show (if m' (g x) < m' (g p) then some (g x) else some (g p)) = (if m x < m p then some x else some p).map g
        rw [hx, hp]
        split <;> rfl
    rw [List.map_cons, List.foldl_cons, List.foldl_cons, e]
    refine fold_better m m' g r _ (fun a ha => hL a (List.mem_cons_of_mem _ ha)) fun a ha => ?_
    cases b with
    | none =>
      cases ha
      exact hx
    | some p =>
      have ha' : (if m x < m p then some x else some p) = some a := ha
      by_cases h : m x < m p
      · rw [if_pos h] at ha'
        cases ha'
        exact hx
      · rw [if_neg h] at ha'
        cases ha'
        exact hb _ rfl
theorem minimal_fold (c : Nat) (ls : List Nat) : minimalAssignment c ls = ((canonicalAssignments ls.length 0).filter (isFeasible c ls)).foldl (better truckCount) none := by
  unfold minimalAssignment
  congr 1
  funext b x
  cases b <;> rfl
theorem best_eq (c : Nat) (ls : List Nat) : bestOf (allRows c [([], [])] ls) = (minimalAssignment c ls).map (fun a => (a, addAll [] ls a)) ∧
    ∀ a, minimalAssignment c ls = some a → (addAll [] ls a).length = truckCount a := by
  rw [allRows_eq, minimal_fold]
  have hm : ∀ a ∈ (canonicalAssignments ls.length 0).filter (isFeasible c ls), (addAll [] ls a).length = truckCount a := fun a ha => by
    obtain ⟨h1, h2⟩ := canon_mem _ _ a (List.mem_filter.mp ha).1
    obtain ⟨h3, _⟩ := addAll_spec ls a [] h1 h2
    rw [h3]
    simp
  exact fold_better truckCount (fun r : TRow => r.2.length) (fun a => (a, addAll [] ls a)) _ none hm (fun a h => by cases h)
theorem better_some {α : Type} (m : α → Nat) (b : Option α) (x : α) : ∃ y, better m b x = some y := by
  cases b with
  | none => exact ⟨x, rfl⟩
  | some p =>
    by_cases h : m x < m p
    · exact ⟨x, if_pos h⟩
    · exact ⟨p, if_neg h⟩
theorem fold_some {α : Type} (m : α → Nat) : ∀ (L : List α) (b : Option α), (b ≠ none ∨ L ≠ []) → ∃ y, L.foldl (better m) b = some y
  | [], b, h => by
    cases b with
    | none => simp at h
    | some y => exact ⟨y, rfl⟩
  | x :: r, b, _ => by
    obtain ⟨y, hy⟩ := better_some m b x
    rw [List.foldl_cons, hy]
    exact fold_some m r _ (.inl (by simp))
theorem rowsBehind_ne (c : Nat) (r : TRow) (n : Nat) (h : n ≤ c) : rowsBehind c r n ≠ [] := by
  intro e
  unfold rowsBehind at e
  have h1 := List.filterMap_eq_nil_iff.mp e r.2.length (List.mem_range.mpr (by omega))
  unfold rowTry at h1
  rw [if_pos] at h1
  · cases h1
  · rw [withPallet_getD _ _ _ _ (Nat.le_refl _), if_pos rfl, List.getD_eq_getElem?_getD, List.getElem?_eq_none (Nat.le_refl _)]
    simpa using h
theorem allRows_ne (c : Nat) : ∀ (ls : List Nat) (rows : List TRow), (∀ n ∈ ls, n ≤ c) → rows ≠ [] → allRows c rows ls ≠ []
  | [], rows, _, h => h
  | n :: ls, rows, hl, h => by
    refine allRows_ne c ls _ (fun m hm => hl m (List.mem_cons_of_mem _ hm)) ?_
    intro e
    obtain ⟨r, rest, rfl⟩ := List.exists_cons_of_ne_nil h
    have := List.flatMap_eq_nil_iff.mp e r (List.mem_cons_self ..)
    exact rowsBehind_ne c r n (hl n (List.mem_cons_self ..)) this
theorem allRows_nil (c : Nat) : ∀ ls : List Nat, allRows c [] ls = []
  | [] => rfl
  | _ :: ls => allRows_nil c ls
theorem rowsBehind_big (c : Nat) (r : TRow) (n : Nat) (h : c < n) : rowsBehind c r n = [] := by
  unfold rowsBehind
  rw [List.filterMap_eq_nil_iff]
  intro t ht
  have ht' : t ≤ r.2.length := by
    have := List.mem_range.mp ht
    omega
  unfold rowTry
  rw [if_neg]
  rw [withPallet_getD _ _ _ _ ht', if_pos rfl]
  omega
theorem allRows_big (c : Nat) : ∀ (ls : List Nat) (rows : List TRow), (∃ n ∈ ls, c < n) → allRows c rows ls = []
  | [], _, h => by
    obtain ⟨n, hn, _⟩ := h
    cases hn
  | m :: ls, rows, h => by
    show allRows c (rows.flatMap fun r => rowsBehind c r m) ls = []
    by_cases hm : c < m
    · have e : (rows.flatMap fun r => rowsBehind c r m) = [] := List.flatMap_eq_nil_iff.mpr fun r _ => rowsBehind_big c r m hm
      rw [e]
      exact allRows_nil c ls
    · refine allRows_big c ls _ ?_
      obtain ⟨n, hn, hb⟩ := h
      rcases List.mem_cons.mp hn with e | hn
      · subst e
        exact absurd hb hm
      · exact ⟨n, hn, hb⟩
/-- how many rows there are at most -/
theorem rowsBehind_len (c : Nat) (r : TRow) (n : Nat) : (rowsBehind c r n).length ≤ r.2.length + 1 := by
  unfold rowsBehind
  refine Nat.le_trans (List.length_filterMap_le ..) ?_
  simp
theorem rowsBehind_loads (c : Nat) (r : TRow) (n : Nat) : ∀ y ∈ rowsBehind c r n, y.2.length ≤ r.2.length + 1 ∧ y.1.length = r.1.length + 1 := fun y hy => by
  unfold rowsBehind at hy
  obtain ⟨t, _, ht⟩ := List.mem_filterMap.mp hy
  unfold rowTry at ht
  by_cases h : (withPallet r.2 t n).getD t 0 ≤ c
  · rw [if_pos h] at ht
    cases ht
    show (withPallet r.2 t n).length ≤ _ ∧ (r.1 ++ [t]).length = _
    rw [withPallet_len]
    refine ⟨?_, by simp⟩
    split <;> omega
  · rw [if_neg h] at ht
    cases ht
end TF

namespace TF
open Kbe6 (toInts firstFitFrom firstFit decreasingOrder firstFitDecreasing truckCount loadOf sumOf)

/-! ### first fit -/
def firstTruck (c : Nat) (ld : List Nat) (n : Nat) : Nat := (ld.findIdx? fun u => decide (u + n ≤ c)).getD ld.length
theorem firstTruck_le (c : Nat) (ld : List Nat) (n : Nat) : firstTruck c ld n ≤ ld.length := by
  unfold firstTruck
  cases e : ld.findIdx? fun u => decide (u + n ≤ c) with
  | none => exact Nat.le_refl _
  | some t =>
    obtain ⟨h, _⟩ := List.findIdx?_eq_some_iff_getElem.mp e
    exact Nat.le_of_lt h
/-- the search: found at t, or at the end -/
theorem firstTruck_found (c : Nat) (ld : List Nat) (n t : Nat) (ht : t < ld.length) (hf : ld.getD t 0 + n ≤ c) (hb : ∀ k, k < t → ¬ ld.getD k 0 + n ≤ c) : firstTruck c ld n = t := by
  unfold firstTruck
  have e : (ld.findIdx? fun u => decide (u + n ≤ c)) = some t := by
    rw [List.findIdx?_eq_some_iff_getElem]
    refine ⟨ht, ?_, fun j hj => ?_⟩
    · simp [List.getD_eq_getElem?_getD, ht] at hf
      simpa using hf
    · have := hb j hj
      have hj' : j < ld.length := by omega
      simp [List.getD_eq_getElem?_getD, hj'] at this
      simpa using this
  rw [e]
  rfl
theorem firstTruck_none (c : Nat) (ld : List Nat) (n : Nat) (hb : ∀ k, k < ld.length → ¬ ld.getD k 0 + n ≤ c) : firstTruck c ld n = ld.length := by
  unfold firstTruck
  have e : (ld.findIdx? fun u => decide (u + n ≤ c)) = none := by
    rw [List.findIdx?_eq_none_iff]
    intro x hx
    obtain ⟨k, hk, e⟩ := List.getElem_of_mem hx
    have := hb k hk
    simp [List.getD_eq_getElem?_getD, hk, e] at this
    simpa using this
  rw [e]
  rfl
theorem firstFitFrom_cons (c : Nat) (ld : List Nat) (n : Nat) (r : List Nat) : firstFitFrom c ld (n :: r) = firstTruck c ld n :: firstFitFrom c (withPallet ld (firstTruck c ld n) n) r := by
  unfold firstTruck
  rw [firstFitFrom]
  cases e : ld.findIdx? fun u => decide (u + n ≤ c) with
  | none =>
    show ld.length :: firstFitFrom c (ld ++ [n]) r = ld.length :: firstFitFrom c (withPallet ld ld.length n) r
    unfold withPallet
    rw [if_pos rfl]
  | some t =>
    obtain ⟨h, _⟩ := List.findIdx?_eq_some_iff_getElem.mp e
    show t :: firstFitFrom c (ld.set t (ld.getD t 0 + n)) r = t :: firstFitFrom c (withPallet ld t n) r
    unfold withPallet
    rw [if_neg (by omega)]
/-- the loop of first_fit_in: loads and trucks -/
def fitStep (c : Nat) (ls : List Nat) (s : List Nat × List Nat) (p : Nat) : List Nat × List Nat :=
  (withPallet s.1 (firstTruck c s.1 (ls.getD p 0)) (ls.getD p 0), s.2.set p (firstTruck c s.1 (ls.getD p 0)))
def fitIn (c : Nat) (ls order : List Nat) : List Nat × List Nat := order.foldl (fitStep c ls) ([], ls.map fun _ => 0)
theorem fit_len (c : Nat) (ls : List Nat) : ∀ (o : List Nat) (s : List Nat × List Nat), (o.foldl (fitStep c ls) s).2.length = s.2.length ∧ (o.foldl (fitStep c ls) s).1.length ≤ s.1.length + o.length
  | [], s => ⟨rfl, Nat.le_refl _⟩
  | p :: o, s => by
    obtain ⟨h1, h2⟩ := fit_len c ls o (fitStep c ls s p)
    rw [List.foldl_cons]
    have e1 : (fitStep c ls s p).2.length = s.2.length := List.length_set
    have e2 : (fitStep c ls s p).1.length ≤ s.1.length + 1 := by
      show (withPallet _ _ _).length ≤ _
      rw [withPallet_len]
      split <;> omega
    refine ⟨by rw [h1, e1], ?_⟩
    rw [List.length_cons]
    omega
theorem fit_out (c : Nat) (ls : List Nat) : ∀ (o : List Nat) (s : List Nat × List Nat) (p : Nat), p ∉ o → (o.foldl (fitStep c ls) s).2[p]? = s.2[p]?
  | [], s, p, _ => rfl
  | q :: o, s, p, h => by
    rw [List.foldl_cons, fit_out c ls o _ p (fun m => h (List.mem_cons_of_mem _ m))]
    show (s.2.set q _)[p]? = _
    rw [List.getElem?_set_ne]
    intro e
    exact h (by rw [← e]; exact List.mem_cons_self ..)
theorem fit_at (c : Nat) (ls : List Nat) : ∀ (o : List Nat) (s : List Nat × List Nat) (j p : Nat), o.Nodup → (∀ q ∈ o, q < s.2.length) → o[j]? = some p →
    (o.foldl (fitStep c ls) s).2[p]? = (firstFitFrom c s.1 (o.map fun q => ls.getD q 0))[j]?
  | [], s, j, p, _, _, h => by simp at h
  | q :: o, s, j, p, hn, hb, h => by
    obtain ⟨n1, n2⟩ := List.nodup_cons.mp hn
    rw [List.foldl_cons, List.map_cons, firstFitFrom_cons]
    cases j with
    | zero =>
      have e : q = p := Option.some.inj h
      subst e
      rw [fit_out c ls o _ q n1]
      show (s.2.set q _)[q]? = _
      rw [List.getElem?_set_self (hb q (List.mem_cons_self ..))]
      rfl
    | succ j =>
      rw [List.getElem?_cons_succ]
      refine fit_at c ls o (fitStep c ls s q) j p n2 (fun r hr => ?_) h
      show r < (s.2.set q _).length
      rw [List.length_set]
      exact hb r (List.mem_cons_of_mem _ hr)
theorem firstFitFrom_len (c : Nat) : ∀ (l ld : List Nat), (firstFitFrom c ld l).length = l.length
  | [], ld => by rw [firstFitFrom]
  | n :: r, ld => by rw [firstFitFrom_cons, List.length_cons, firstFitFrom_len c r, List.length_cons]
theorem fitIn_len (c : Nat) (ls o : List Nat) : (fitIn c ls o).2.length = ls.length := by
  unfold fitIn
  rw [(fit_len c ls o _).1]
  simp
theorem range_getD (ls : List Nat) : ((List.range ls.length).map fun q => ls.getD q 0) = ls := by
  refine List.ext_getElem? fun i => ?_
  rw [List.getElem?_map]
  by_cases h : i < ls.length
  · simp [h]
  · simp [List.getElem?_eq_none (show ls.length ≤ i by omega), List.getElem?_eq_none (show (List.range ls.length).length ≤ i by simp; omega)]
theorem fit_first (c : Nat) (ls : List Nat) : (fitIn c ls (List.range ls.length)).2 = firstFit c ls := by
  refine List.ext_getElem? fun i => ?_
  unfold firstFit
  by_cases h : i < ls.length
  · unfold fitIn
    rw [fit_at c ls (List.range ls.length) _ i i List.nodup_range (fun q hq => by simpa using hq) (by simp [h])]
    show (firstFitFrom c [] ((List.range ls.length).map fun q => ls.getD q 0))[i]? = _
    rw [range_getD]
  · rw [List.getElem?_eq_none (by rw [fitIn_len]; omega), List.getElem?_eq_none (by rw [firstFitFrom_len]; omega)]
theorem findIdx_beq {l : List Nat} (hn : l.Nodup) {j p : Nat} (h : l[j]? = some p) : l.findIdx? (· == p) = some j := by
  obtain ⟨hj, e⟩ := List.getElem?_eq_some_iff.mp h
  rw [List.findIdx?_eq_some_iff_getElem]
  refine ⟨hj, by simp [e], fun k hk => ?_⟩
  intro hh
  have hk' : k < l.length := by omega
  have e2 : l[k] = p := by simpa using hh
  exact (List.pairwise_iff_getElem.mp hn) k j hk' hj hk (by rw [e, e2])
theorem fit_decreasing (c : Nat) (ls : List Nat) (hp : (decreasingOrder ls).Perm (List.range ls.length)) : (fitIn c ls (decreasingOrder ls)).2 = firstFitDecreasing c ls := by
  have hn : (decreasingOrder ls).Nodup := hp.nodup_iff.mpr List.nodup_range
  unfold firstFitDecreasing
  refine List.ext_getElem? fun i => ?_
  by_cases h : i < ls.length
  · have hm : i ∈ decreasingOrder ls := hp.mem_iff.mpr (List.mem_range.mpr h)
    obtain ⟨j, hj⟩ := List.getElem?_of_mem hm
    show (fitIn c ls (decreasingOrder ls)).2[i]? = ((List.range ls.length).map fun index => (firstFit c ((decreasingOrder ls).map fun index => ls.getD index 0)).getD (((decreasingOrder ls).findIdx? (· == index)).getD 0) 0)[i]?
    rw [List.getElem?_map, List.getElem?_range h]
    show _ = some ((firstFit c ((decreasingOrder ls).map fun index => ls.getD index 0)).getD (((decreasingOrder ls).findIdx? (· == i)).getD 0) 0)
    rw [findIdx_beq hn hj]
    unfold fitIn
    rw [fit_at c ls (decreasingOrder ls) _ j i hn (fun q hq => by simpa using hp.mem_iff.mp hq) hj]
    have hjl : j < (firstFitFrom c [] ((decreasingOrder ls).map fun index => ls.getD index 0)).length := by
      rw [firstFitFrom_len, List.length_map]
      exact (List.getElem?_eq_some_iff.mp hj).1
    show (firstFitFrom c [] _)[j]? = some ((firstFitFrom c [] _).getD j 0)
    rw [List.getD_eq_getElem?_getD, List.getElem?_eq_getElem hjl]
    rfl
  · rw [List.getElem?_eq_none (by rw [fitIn_len]; omega), List.getElem?_eq_none (by simp; omega)]

/-! ### the falling order -/
/-- p stands ahead of q -/
def Ahead (ls : List Nat) (p q : Nat) : Prop := ls.getD q 0 < ls.getD p 0 ∨ (ls.getD p 0 = ls.getD q 0 ∧ p < q)
theorem Ahead.asymm {ls : List Nat} {p q : Nat} (h : Ahead ls p q) (h2 : Ahead ls q p) : False := by
  unfold Ahead at *
  omega
theorem perm_split {α : Type} (f g : α → Bool) (hfg : ∀ x, g x = !f x) (a : α) : ∀ l : List α, (l.filter f ++ a :: l.filter g).Perm (a :: l) := fun l => by
  have e : l.filter g = l.filter fun x => !f x := List.filter_congr fun x _ => hfg x
  rw [e]
  exact List.perm_middle.trans (List.Perm.cons a (List.filter_append_perm f l))
theorem order_step (ls : List Nat) (s : List Nat) (i : Nat) (hs : s.Pairwise (Ahead ls)) (hp : s.Perm (List.range i)) :
    ((s.filter fun o => decide (ls.getD i 0 ≤ ls.getD o 0)) ++ i :: s.filter fun o => decide (ls.getD o 0 < ls.getD i 0)).Pairwise (Ahead ls) ∧
    ((s.filter fun o => decide (ls.getD i 0 ≤ ls.getD o 0)) ++ i :: s.filter fun o => decide (ls.getD o 0 < ls.getD i 0)).Perm (List.range (i + 1)) := by
  have hlt : ∀ o ∈ s, o < i := fun o ho => List.mem_range.mp (hp.mem_iff.mp ho)
  constructor
  · rw [List.pairwise_append]
    refine ⟨hs.filter _, List.pairwise_cons.mpr ⟨fun o ho => ?_, hs.filter _⟩, fun o ho q hq => ?_⟩
    · have := (List.mem_filter.mp ho).2
      have : ls.getD o 0 < ls.getD i 0 := by simpa using this
      exact .inl this
    · obtain ⟨ho1, ho2⟩ := List.mem_filter.mp ho
      have ho2 : ls.getD i 0 ≤ ls.getD o 0 := by simpa using ho2
      have := hlt o ho1
      unfold Ahead
      rcases List.mem_cons.mp hq with e | hq
      · subst e
        omega
      · have hq2 := (List.mem_filter.mp hq).2
        have hq2 : ls.getD q 0 < ls.getD i 0 := by simpa using hq2
        omega
  · refine (perm_split _ _ (fun x => ?_) i s).trans ?_
    · by_cases h : ls.getD i 0 ≤ ls.getD x 0
      · rw [decide_eq_true h, decide_eq_false (by omega)]
        rfl
      · rw [decide_eq_false h, decide_eq_true (by omega)]
        rfl
    · rw [List.range_succ]
      exact (List.Perm.cons i hp).trans (List.perm_append_singleton i _).symm
theorem order_spec (ls : List Nat) : ∀ n, ((List.range n).foldl (fun sorted index =>
    (sorted.filter fun other => decide (ls.getD index 0 ≤ ls.getD other 0)) ++
    index :: sorted.filter fun other => decide (ls.getD other 0 < ls.getD index 0)) []).Pairwise (Ahead ls) ∧
    ((List.range n).foldl (fun sorted index =>
    (sorted.filter fun other => decide (ls.getD index 0 ≤ ls.getD other 0)) ++
    index :: sorted.filter fun other => decide (ls.getD other 0 < ls.getD index 0)) []).Perm (List.range n)
  | 0 => ⟨List.Pairwise.nil, List.Perm.nil⟩
  | n + 1 => by
    obtain ⟨h1, h2⟩ := order_spec ls n
    rw [List.range_succ, List.foldl_append, ← List.range_succ]
    exact order_step ls _ n h1 h2
theorem order_ok (ls : List Nat) : (decreasingOrder ls).Pairwise (Ahead ls) ∧ (decreasingOrder ls).Perm (List.range ls.length) := order_spec ls ls.length
theorem sorted_unique {α : Type} {R : α → α → Prop} (as : ∀ a b, R a b → R b a → False) : ∀ (l m : List α), l.Perm m → l.Pairwise R → m.Pairwise R → l = m
  | [], m, h, _, _ => (List.nil_perm.mp h).symm
  | a :: l, [], h, _, _ => absurd h (by simp)
  | a :: l, b :: m, h, hl, hm => by
    obtain ⟨a1, a2⟩ := List.pairwise_cons.mp hl
    obtain ⟨b1, b2⟩ := List.pairwise_cons.mp hm
    have e : a = b := by
      rcases List.mem_cons.mp (h.mem_iff.mp (List.mem_cons_self ..) : a ∈ b :: m) with e | hb
      · exact e
      · rcases List.mem_cons.mp (h.mem_iff.mpr (List.mem_cons_self ..) : b ∈ a :: l) with e | ha
        · exact e.symm
        · exact (as a b (a1 b ha) (b1 a hb)).elim
    subst e
    rw [sorted_unique as l m ((List.perm_cons a).mp h) a2 b2]
theorem order_unique (ls : List Nat) (o : List Nat) (h1 : o.Perm (List.range ls.length)) (h2 : o.Pairwise (Ahead ls)) : o = decreasingOrder ls :=
  sorted_unique (R := Ahead ls) (fun _ _ h h2 => h.asymm h2) _ _ (h1.trans (order_ok ls).2.symm) h2 (order_ok ls).1
end TF

namespace TF
open Kbe6 (toInts validLengths canonicalAssignments truckCount loadOf sumOf isFeasible minimalAssignment requireCapacity Response thresholdBound bestBound lengthBound firstFit firstFitDecreasing encodeAssignment)

/-! ### what is refused -/
def loadRef (c : Nat) (ls : List Nat) : List Int :=
  if validLengths ls = true ∧ 1 ≤ c ∧ c ≤ 100 then (if ls.all (fun l => decide (l ≤ c)) = true then [] else [-33]) else [-22]
theorem ints_nats {l : List Int} (h : ∀ x ∈ l, 0 ≤ x) : ∃ m : List Nat, l = toInts m := by
  refine ⟨l.map Int.toNat, ?_⟩
  unfold toInts
  rw [List.map_map]
  conv => lhs; rw [← List.map_id l]
  exact List.map_congr_left fun x hx => (Int.toNat_of_nonneg (h x hx)).symm
theorem nats_ints (m : List Nat) : Kbe6Neutral.toNats (toInts m) = m := by
  unfold Kbe6Neutral.toNats toInts
  rw [List.map_map]
  conv => rhs; rw [← List.map_id m]
  exact List.map_congr_left fun x _ => rfl
theorem any_all (c : Nat) (ls : List Nat) : ls.any (fun l => decide (c < l)) = !(ls.all fun l => decide (l ≤ c)) := by
  rw [List.not_all_eq_any_not]
  congr 1
  funext l
  by_cases h : l ≤ c
  · rw [decide_eq_true h, decide_eq_false (by omega)]
    rfl
  · rw [decide_eq_false h, decide_eq_true (by omega)]
    rfl
theorem require_eq (c : Nat) (ls : List Nat) (r : Response) : (requireCapacity c ls r).head :: (requireCapacity c ls r).tail = if loadRef c ls = [] then r.head :: r.tail else loadRef c ls := by
  unfold requireCapacity loadRef
  rw [any_all]
  cases h1 : validLengths ls with
  | false => rfl
  | true =>
    by_cases h2 : 1 ≤ c ∧ c ≤ 100
    · rw [if_neg (by
        rintro (h | h | h)
        · cases h
        · omega
        · omega), if_pos (show true = true ∧ 1 ≤ c ∧ c ≤ 100 from ⟨rfl, h2⟩)]
      cases h3 : ls.all fun l => decide (l ≤ c) with
      | true => rfl
      | false => rfl
    · rw [if_pos (show true = false ∨ c = 0 ∨ 100 < c from by omega), if_neg (show ¬ (true = true ∧ 1 ≤ c ∧ c ≤ 100) from fun h => h2 h.2)]
      rfl
theorem loadRef_nil {c : Nat} {ls : List Nat} (h : loadRef c ls = []) : ls.length ≤ 7 ∧ 1 ≤ c ∧ c ≤ 100 ∧ (∀ l ∈ ls, l ≤ c) ∧ validLengths ls = true := by
  unfold loadRef at h
  by_cases h1 : validLengths ls = true ∧ 1 ≤ c ∧ c ≤ 100
  · rw [if_pos h1] at h
    by_cases h2 : ls.all (fun l => decide (l ≤ c)) = true
    · refine ⟨?_, h1.2.1, h1.2.2, fun l hl => by simpa using List.all_eq_true.mp h2 l hl, h1.1⟩
      have := h1.1
      unfold validLengths at this
      rw [Bool.and_eq_true] at this
      simpa using this.1
    · rw [if_neg h2] at h
      cases h
  · rw [if_neg h1] at h
    cases h
/-! ### what is due -/
theorem due_first_fit (c : Nat) (ls : List Nat) : PyKbe6.first_fit (c : Int) (toInts ls) = if loadRef c ls = [] then (truckCount (firstFit c ls) : Int) :: toInts (firstFit c ls) else loadRef c ls := by
  show (requireCapacity c (Kbe6Neutral.toNats (toInts ls)) (encodeAssignment (firstFit c (Kbe6Neutral.toNats (toInts ls))))).head :: (requireCapacity c (Kbe6Neutral.toNats (toInts ls)) (encodeAssignment (firstFit c (Kbe6Neutral.toNats (toInts ls))))).tail = _
  rw [require_eq, nats_ints]
  rfl
theorem due_first_fit_decreasing (c : Nat) (ls : List Nat) : PyKbe6.first_fit_decreasing (c : Int) (toInts ls) = if loadRef c ls = [] then (truckCount (firstFitDecreasing c ls) : Int) :: toInts (firstFitDecreasing c ls) else loadRef c ls := by
  show (requireCapacity c (Kbe6Neutral.toNats (toInts ls)) (encodeAssignment (firstFitDecreasing c (Kbe6Neutral.toNats (toInts ls))))).head :: (requireCapacity c (Kbe6Neutral.toNats (toInts ls)) (encodeAssignment (firstFitDecreasing c (Kbe6Neutral.toNats (toInts ls))))).tail = _
  rw [require_eq, nats_ints]
  rfl
theorem due_minimal (c : Nat) (ls : List Nat) {r : TRow} (hr : bestOf (allRows c [([], [])] ls) = some r) : PyKbe6.minimal_assignment (c : Int) (toInts ls) = if loadRef c ls = [] then (r.2.length : Int) :: toInts r.1 else loadRef c ls := by
  obtain ⟨h1, h2⟩ := best_eq c ls
  rw [hr] at h1
  cases hm : minimalAssignment c ls with
  | none =>
    rw [hm] at h1
    cases h1
  | some a =>
    rw [hm] at h1
    have e : r = (a, addAll [] ls a) := Option.some.inj h1
    subst e
    have h3 := h2 a hm
    show (requireCapacity c (Kbe6Neutral.toNats (toInts ls)) (match minimalAssignment c (Kbe6Neutral.toNats (toInts ls)) with | some assignment => encodeAssignment assignment | none => Kbe6.single Kbe6.noSolution)).head :: (requireCapacity c (Kbe6Neutral.toNats (toInts ls)) (match minimalAssignment c (Kbe6Neutral.toNats (toInts ls)) with | some assignment => encodeAssignment assignment | none => Kbe6.single Kbe6.noSolution)).tail = _
    rw [require_eq, nats_ints, hm]
    show (if loadRef c ls = [] then (truckCount a : Int) :: toInts a else loadRef c ls) = if loadRef c ls = [] then (((addAll [] ls a).length : Nat) : Int) :: toInts a else loadRef c ls
    rw [h3]
theorem best_some (c : Nat) (ls : List Nat) (h : ∀ l ∈ ls, l ≤ c) : ∃ r, bestOf (allRows c [([], [])] ls) = some r :=
  fold_some _ _ _ (.inr (allRows_ne c ls _ h (by simp)))
theorem due_lower (c : Nat) (ls : List Nat) : PyKbe6.lower_bounds (c : Int) (toInts ls) = if loadRef c ls = [] then [(lengthBound c ls : Int), (bestBound c ls : Int)] else loadRef c ls := by
  show (requireCapacity c (Kbe6Neutral.toNats (toInts ls)) ⟨(lengthBound c (Kbe6Neutral.toNats (toInts ls)) : Nat), [(bestBound c (Kbe6Neutral.toNats (toInts ls)) : Int)]⟩).head :: (requireCapacity c (Kbe6Neutral.toNats (toInts ls)) ⟨(lengthBound c (Kbe6Neutral.toNats (toInts ls)) : Nat), [(bestBound c (Kbe6Neutral.toNats (toInts ls)) : Int)]⟩).tail = _
  rw [require_eq, nats_ints]
theorem due_threshold (c t : Nat) (ls : List Nat) : PyKbe6.threshold_bound (c : Int) (t : Int) (toInts ls) = if loadRef c ls = [] then (if c < 2 * t then [-2] else [(thresholdBound c ls t : Int)]) else loadRef c ls := by
  show (requireCapacity c (Kbe6Neutral.toNats (toInts ls)) (if c < 2 * t then Kbe6.single Kbe6.notFound else Kbe6.single (thresholdBound c (Kbe6Neutral.toNats (toInts ls)) t : Nat))).head :: (requireCapacity c (Kbe6Neutral.toNats (toInts ls)) (if c < 2 * t then Kbe6.single Kbe6.notFound else Kbe6.single (thresholdBound c (Kbe6Neutral.toNats (toInts ls)) t : Nat))).tail = _
  rw [require_eq, nats_ints]
  by_cases h : c < 2 * t
  · rw [if_pos h, if_pos h]
    rfl
  · rw [if_neg h, if_neg h]
    rfl
theorem due_feasible (c : Nat) (ls as : List Nat) : PyKbe6.is_feasible (c : Int) (toInts ls) (toInts as) =
    if loadRef c ls = [] then (if as.length = ls.length ∧ as.all (fun t => decide (t ≤ 99)) = true then [if isFeasible c ls as = true then 1 else 0] else [-22]) else loadRef c ls := by
  show (requireCapacity c (Kbe6Neutral.toNats (toInts ls)) (if (Kbe6Neutral.toNats (toInts as)).length ≠ (Kbe6Neutral.toNats (toInts ls)).length ∨ ((Kbe6Neutral.toNats (toInts as)).any fun truck => decide (99 < truck)) = true then Kbe6.single Kbe6.invalidArgument else Kbe6.single (if isFeasible c (Kbe6Neutral.toNats (toInts ls)) (Kbe6Neutral.toNats (toInts as)) then 1 else 0))).head :: (requireCapacity c (Kbe6Neutral.toNats (toInts ls)) (if (Kbe6Neutral.toNats (toInts as)).length ≠ (Kbe6Neutral.toNats (toInts ls)).length ∨ ((Kbe6Neutral.toNats (toInts as)).any fun truck => decide (99 < truck)) = true then Kbe6.single Kbe6.invalidArgument else Kbe6.single (if isFeasible c (Kbe6Neutral.toNats (toInts ls)) (Kbe6Neutral.toNats (toInts as)) then 1 else 0))).tail = _
  rw [require_eq, nats_ints, nats_ints, any_all 99 as]
  by_cases h : as.length = ls.length ∧ as.all (fun t => decide (t ≤ 99)) = true
  · rw [if_pos h, if_neg (show ¬ (as.length ≠ ls.length ∨ (!(as.all fun t => decide (t ≤ 99))) = true) by
      rintro (h1 | h1)
      · exact h1 h.1
      · rw [h.2] at h1
        cases h1)]
    rfl
  · rw [if_neg h, if_pos (show as.length ≠ ls.length ∨ (!(as.all fun t => decide (t ≤ 99))) = true by
      by_cases h1 : as.length = ls.length
      · right
        cases h2 : as.all fun t => decide (t ≤ 99) with
        | false => rfl
        | true => exact (h ⟨h1, h2⟩).elim
      · exact .inl h1)]
    rfl
/-! ### min_capacity -/
def fitsAt (limit : Nat) (ls : List Nat) (c : Nat) : Bool := match bestOf (allRows c [([], [])] ls) with
  | some r => decide (r.2.length ≤ limit)
  | none => false
def leastCap (limit : Nat) (ls : List Nat) : Option Nat := ((List.range 100).map (· + 1)).find? (fitsAt limit ls)
theorem fitsAt_eq (limit : Nat) (ls : List Nat) (c : Nat) : ((ls.all fun length => decide (length ≤ c)) && (match minimalAssignment c ls with | some assignment => decide (truckCount assignment ≤ limit) | none => false)) = fitsAt limit ls c := by
  obtain ⟨h1, h2⟩ := best_eq c ls
  unfold fitsAt
  rw [h1]
  cases hm : minimalAssignment c ls with
  | none => simp
  | some a =>
    rw [hm] at h1
    have h3 := h2 a hm
    show _ = decide ((addAll [] ls a).length ≤ limit)
    rw [h3]
    have h4 : (ls.all fun length => decide (length ≤ c)) = true := by
      rw [List.all_eq_true]
      intro n hn
      refine decide_eq_true ?_
      by_cases hc : n ≤ c
      · exact hc
      · rw [allRows_big c ls _ ⟨n, hn, by omega⟩] at h1
        cases h1
    rw [h4]
    rfl
def minResp (limit : Nat) (ls : List Nat) : Response :=
  if validLengths ls = false then Kbe6.single Kbe6.invalidArgument
  else match ((List.range 100).map (· + 1)).find? fun capacity => (ls.all fun length => decide (length ≤ capacity)) && (match minimalAssignment capacity ls with | some assignment => decide (truckCount assignment ≤ limit) | none => false) with
    | some capacity => Kbe6.single (capacity : Nat)
    | none => Kbe6.single Kbe6.noSolution
theorem due_min_capacity (limit : Nat) (ls : List Nat) : PyKbe6.min_capacity (limit : Int) (toInts ls) =
    if validLengths ls = true then (match leastCap limit ls with | some c => [(c : Int)] | none => [-33]) else [-22] := by
  have e : PyKbe6.min_capacity (limit : Int) (toInts ls) = (minResp limit (Kbe6Neutral.toNats (toInts ls))).head :: (minResp limit (Kbe6Neutral.toNats (toInts ls))).tail := rfl
  rw [e, nats_ints]
  have e2 : (fun capacity => (ls.all fun length => decide (length ≤ capacity)) && (match minimalAssignment capacity ls with | some assignment => decide (truckCount assignment ≤ limit) | none => false)) = fitsAt limit ls := by
    funext c
    exact fitsAt_eq limit ls c
  unfold minResp
  rw [e2]
  cases hv : validLengths ls with
  | false => rfl
  | true =>
    rw [if_neg (show ¬ true = false by decide), if_pos (show true = true from rfl)]
    unfold leastCap
    cases List.find? (fitsAt limit ls) ((List.range 100).map (· + 1)) with
    | none => rfl
    | some c => rfl
/-! ### bounds -/
def roundedUp (n c : Nat) : Nat := (n + c - 1) / c
def largeOnes (c t : Nat) (ls : List Nat) : List Nat := ls.filter fun l => decide (c < l + t)
def mediumOnes (c t : Nat) (ls : List Nat) : List Nat := ls.filter fun l => decide (l + t ≤ c) && decide (c < 2 * l)
def smallOnes (c t : Nat) (ls : List Nat) : List Nat := ls.filter fun l => decide (t ≤ l) && decide (2 * l ≤ c)
theorem rounded_int (n c : Nat) (hc : 1 ≤ c) : ((n : Int) + (c : Int) - 1).fdiv (c : Int) = ((roundedUp n c : Nat) : Int) := by
  have e : ((n : Int) + (c : Int) - 1) = ((n + c - 1 : Nat) : Int) := by omega
  rw [e, Int.fdiv_eq_ediv_of_nonneg _ (by omega)]
  rfl
theorem small_eq (c t : Nat) (ls : List Nat) : smallOnes c t ls = ls.filter fun length => decide (2 * length ≤ c) && decide (t ≤ length) := by
  unfold smallOnes
  congr 1
  funext l
  exact Bool.and_comm _ _
theorem bound_eq (c t : Nat) (ls : List Nat) (hc : 1 ≤ c) : thresholdBound c ls t = (largeOnes c t ls).length + (mediumOnes c t ls).length + roundedUp (sumOf (smallOnes c t ls) - ((mediumOnes c t ls).length * c - sumOf (mediumOnes c t ls))) c := by
  rw [small_eq]
  unfold thresholdBound
  show _ + (if c = 0 then 0 else _) = _
  rw [if_neg (by omega)]
  rfl
theorem sum_le (c : Nat) : ∀ l : List Nat, (∀ x ∈ l, x ≤ c) → sumOf l ≤ l.length * c
  | [], _ => by simp [sumOf]
  | x :: r, h => by
    have ih := sum_le c r fun y hy => h y (List.mem_cons_of_mem _ hy)
    have hx := h x (List.mem_cons_self ..)
    rw [sumOf_cons, List.length_cons, Nat.succ_mul]
    omega
theorem length_bound_eq (c : Nat) (ls : List Nat) (hc : 1 ≤ c) : lengthBound c ls = roundedUp (sumOf ls) c := by
  unfold lengthBound
  rw [if_neg (by omega)]
  rfl
theorem foldl_max_map (f : Nat → Nat) : ∀ (l : List Nat) (z : Nat), l.foldl (fun b t => max b (f t)) z = (l.map f).foldl max z
  | [], _ => rfl
  | x :: r, z => foldl_max_map f r (max z (f x))
theorem best_bound_eq (c : Nat) (ls : List Nat) : bestBound c ls = ((List.range (c / 2 + 1)).map (thresholdBound c ls)).foldl max 0 := by
  unfold bestBound
  exact foldl_max_map _ _ _
theorem max_is : ∀ (l : List Nat) (m : Nat), m ∈ l → (∀ x ∈ l, x ≤ m) → l.foldl max 0 = m
  | [], m, h, _ => by cases h
  | x :: r, m, h, hle => by
    rw [List.foldl_cons, foldl_max]
    have hx := hle x (List.mem_cons_self ..)
    by_cases hr : m ∈ r
    · rw [max_is r m hr fun y hy => hle y (List.mem_cons_of_mem _ hy)]
      omega
    · have e : m = x := by
        rcases List.mem_cons.mp h with e | h
        · exact e
        · exact (hr h).elim
      have h3 : r.foldl max 0 ≤ m := by
        clear hr h
        have key : ∀ l : List Nat, (∀ y ∈ l, y ≤ m) → l.foldl max 0 ≤ m := by
          intro l
          induction l with
          | nil => intro _; exact Nat.zero_le _
          | cons y s ih =>
            intro hl
            rw [List.foldl_cons, foldl_max]
            have := ih fun z hz => hl z (List.mem_cons_of_mem _ hz)
            have := hl y (List.mem_cons_self ..)
            omega
        exact key r fun y hy => hle y (List.mem_cons_of_mem _ hy)
      omega
theorem max_is_int (l : List Nat) (m : Int) (h : m ∈ toInts l) (hle : ∀ x ∈ toInts l, x ≤ m) : m = ((l.foldl max 0 : Nat) : Int) := by
  obtain ⟨n, hn, e⟩ := List.mem_map.mp h
  have e : m = (n : Int) := e.symm
  subst e
  rw [max_is l n hn fun x hx => by
    have := hle (x : Int) (List.mem_map.mpr ⟨x, hx, rfl⟩)
    omega]
/-- count_trucks -/
theorem count_is (a : List Nat) : (0 :: a.map (· + 1)).foldl max 0 = truckCount a := by
  rw [List.foldl_cons]
  have key : ∀ l : List Nat, (l.map (· + 1)).foldl max 0 = truckCount l := by
    intro l
    induction l with
    | nil => rfl
    | cons x r ih =>
      rw [List.map_cons, List.foldl_cons, foldl_max, ih, truckCount_cons]
      omega
  exact key a
theorem count_le (n : Nat) : ∀ a : List Nat, (∀ x ∈ a, x ≤ n) → truckCount a ≤ n + 1
  | [], _ => by simp [truckCount]
  | x :: r, h => by
    rw [truckCount_cons]
    have := count_le n r fun y hy => h y (List.mem_cons_of_mem _ hy)
    have := h x (List.mem_cons_self ..)
    omega
/-- load_of by places -/
theorem load_is : ∀ (ls a : List Nat) (k : Nat), a.length = ls.length →
    loadOf ls a k = sumOf (((List.range ls.length).filter fun p => decide (a.getD p 0 = k)).map fun p => ls.getD p 0)
  | [], a, k, _ => by rw [loadOf_nil_left]; rfl
  | n :: ls, [], k, h => by simp at h
  | n :: ls, t :: a, k, h => by
    rw [loadOf_cons, load_is ls a k (by simpa using h)]
    rw [List.length_cons, List.range_succ_eq_map, List.filter_cons, List.filter_map]
    have e : ((fun p => decide ((t :: a).getD p 0 = k)) ∘ Nat.succ) = fun p => decide (a.getD p 0 = k) := by
      funext p
      simp
    rw [e]
    by_cases h0 : t = k
    · rw [if_pos h0, if_pos (by simpa using h0), List.map_cons, sumOf_cons, List.map_map]
      rfl
    · rw [if_neg h0, if_neg (by simpa using h0), List.map_map]
      simp [Function.comp_def]
end TF

/-! ### short words over the hand layer -/
namespace TW
open PySem PySem.Spec PyProof.Rows L2
open Kbe6 (toInts)
abbrev iv (l : List Nat) : List V := (toInts l).map V.int
theorem iv_eq (l : List Nat) : iv l = l.map fun n : Nat => V.int (n : Int) := by
  unfold iv Kbe6.toInts
  rw [List.map_map]
  rfl
theorem iv_len (l : List Nat) : (iv l).length = l.length := by rw [iv_eq, List.length_map]
theorem iv_get {l : List Nat} {i n : Nat} (h : l[i]? = some n) : (iv l)[i]? = some (V.int (n : Int)) := by
  rw [iv_eq, List.getElem?_map, h]
  rfl
theorem iv_at {l : List Nat} {i : Nat} {x : V} (h : (iv l)[i]? = some x) : ∃ n, l[i]? = some n ∧ x = V.int (n : Int) := by
  rw [iv_eq, List.getElem?_map] at h
  cases e : l[i]? with
  | none =>
    rw [e] at h
    cases h
  | some n =>
    rw [e] at h
    exact ⟨n, rfl, (Option.some.inj h).symm⟩
theorem iv_app (l m : List Nat) : iv (l ++ m) = iv l ++ iv m := by rw [iv_eq, iv_eq, iv_eq, List.map_append]
theorem iv_one (n : Nat) : iv [n] = [V.int (n : Int)] := rfl
theorem iv_set (l : List Nat) (i n : Nat) : iv (l.set i n) = (iv l).set i (V.int (n : Int)) := by rw [iv_eq, iv_eq, List.map_set]
theorem iv_take (l : List Nat) (i : Nat) : iv (l.take i) = (iv l).take i := by rw [iv_eq, iv_eq, List.map_take]
theorem iv_drop (l : List Nat) (i : Nat) : iv (l.drop i) = (iv l).drop i := by rw [iv_eq, iv_eq, List.map_drop]
theorem take_snoc {α : Type} {l : List α} {i : Nat} {x : α} (h : l[i]? = some x) : l.take (i + 1) = l.take i ++ [x] := by
  rw [List.take_add_one, h]
  rfl
theorem snoc_eq {xs : List V} {y z : V} (h : y = z) : xs ++ [y] = xs ++ [z] := by rw [h]
theorem same_upd {H : Hp} {p : Addr} {o : HO} (h : H p = none) : Same H (upd H p o) := fun b x e => by
  rw [upd_ne (ne_of_none e h)]
  exact e
theorem small {n : Nat} (m : Nat) (h : n ≤ m) (hm : m < sizeLine := by decide) : n < sizeLine := Nat.lt_of_le_of_lt h hm
theorem small_le {n : Nat} (m : Nat) (h : n ≤ m) (hm : m < sizeLine := by decide) : n ≤ sizeLine := Nat.le_of_lt (small m h hm)
/-- since H a new list stands at D, nothing else was turned -/
structure Made (H : Hp) (D : Addr) (xs : List V) (H' : Hp) : Prop where
  same : Same H H'
  new : H D = none
  at_ : H' D = some (.lst xs)
theorem Made.start {H : Hp} {D : Addr} {xs : List V} (h : H D = none) : Made H D xs (upd H D (.lst xs)) := ⟨same_upd h, h, upd_same⟩
theorem Made.go {H H1 H2 : Hp} {D : Addr} {xs : List V} (m : Made H D xs H1) (s : Same H1 H2) : Made H D xs H2 := ⟨m.same.trans s, m.new, s _ _ m.at_⟩
theorem Made.put {H H1 : Hp} {D : Addr} {xs : List V} (ys : List V) (m : Made H D xs H1) : Made H D ys (upd H1 D (.lst ys)) :=
  ⟨fun b o e => by
    rw [upd_ne (ne_of_none e m.new)]
    exact m.same b o e, m.new, upd_same⟩
/-- a turn of a comprehension that appends -/
theorem Made.turn {H H1 : Hp} {D : Addr} {xs ys : List V} {y : V} (m : Made H D xs H1) (hl : xs.length < sizeLine) (e : ys = xs ++ [y]) :
    ∃ acc, H1 D = some (.lst acc) ∧ acc.length < sizeLine ∧ Made H D ys (upd H1 D (.lst (acc ++ [y]))) := ⟨xs, m.at_, hl, by rw [e]; exact m.put _⟩
theorem seqL {K : PySem.W.Frag} {H : Hp} {a : Addr} {xs : List V} (h : H a = some (.lst xs)) : SqL K H a xs := SqL.of h
theorem ix_listK {X : Cx} {K : PySem.W.Frag} (h : X.K = K := by rfl) : IxR X (rIxL K) := by
  subst h
  exact ix_list
/-- a def of the text that may be called -/
structure Callee (P : Program) (w : World) (K : PySem.W.Frag) (mg : Str → Option Value) (base : Heap) (k : Nat) (x : Str) (ps : List Str) (sp : Sp) : Prop where
  ex : ∃ (f : Addr) (fd : FuncData), FnOk P w K mg base CX0 k f fd ps sp ∧ mg x = some (.ref f) ∧ PySem.W.keepIn K (.ref f) = true ∧ Binds K fd ps []
/-- a written whole number of the text -/
def Num (mg : Str → Option Value) (x : Str) (n : Int) : Prop := ∃ t, mg x = some (.int n t)
end TW
namespace TW
open PySem PySem.Spec PyProof.Rows L2
def topS (i : Nat) : Stmt := PySem.Challenge.pw_truckfill_s07_min_capacity.main.body.getD i (.Pass ⟨0, 0, 0, 0⟩)
abbrev sWithin : Stmt := topS 5
abbrev sAre : Stmt := topS 6
abbrev sLens : Stmt := topS 7
abbrev sWith : Stmt := topS 9
abbrev sRows : Stmt := topS 12
abbrev sAll : Stmt := topS 13
abbrev sBestRow : Stmt := topS 14
abbrev sLeast : Stmt := topS 15
abbrev sMain : Stmt := topS 17
end TW

/-! ### checks -/
namespace TW
open PySem PySem.Spec PyProof.Rows L2 TF
open Kbe6 (toInts validLengths)
section
variable {P : Program} {w : World} {K : PySem.W.Frag} {mg : Str → Option Value} {base : Heap}
def spWithin : Sp := fun vs H Q _ => ∃ n lo hi : Int, vs = [.int n, .int lo, .int hi] ∧ Q (.bl (decide (lo ≤ n) && decide (n ≤ hi))) H
theorem scWithin : FnScope ["number", "low", "high"] ["number", "low", "high"] (defScope sWithin) := ⟨rfl, rfl, rfl, by decide +kernel, rfl, by decide +kernel, by decide +kernel⟩
theorem ok_within {f : Addr} {fd : FuncData} (F : Fun K "is_within" "is_within" sWithin f fd) : FnOk P w K mg base CX0 1 f fd ["number", "low", "high"] spWithin := by
  refine F.ok scWithin (fun vs H Q E h => ?_) (fun cdv A outer s H vs Q E hr h => ?_)
  · obtain ⟨n, lo, hi, rfl, _⟩ := h
    rfl
  · obtain ⟨n, lo, hi, rfl, k⟩ := h
    refine ⟨_, pss_one (ps_ret (pe_chain op_le op_le (pv 1) (pv 0) (pv 2))), ?_⟩
    refine ⟨_, rfl, _, rfl, _, _, rfl, rfl, _, rfl, ite2 (fun e => ?_) (fun e => ?_)⟩
    · refine ⟨_, rfl, _, _, rfl, rfl, ?_⟩
      rw [e, Bool.true_and] at k
      exact k
    · rw [Bool.eq_false_iff.mpr e, Bool.false_and] at k
      exact k
def okLen (n : Nat) : Bool := decide (1 ≤ n) && decide (n ≤ 100)
theorem valid_all (ls : List Nat) : validLengths ls = (decide (ls.length ≤ 7) && (ls.map okLen).all id) := by
  unfold validLengths
  rw [List.all_map]
  rfl
theorem okLen_int (n : Nat) : (decide ((1 : Int) ≤ (n : Int)) && decide ((n : Int) ≤ 100)) = okLen n := by
  unfold okLen
  congr 1
  · exact decide_eq_decide.mpr (by omega)
  · exact decide_eq_decide.mpr (by omega)
def spAre (K : PySem.W.Frag) : Sp := fun vs H Q _ => ∃ (a : Addr) (ls : List Nat), vs = [.ref a] ∧ SqL K H a (iv ls) ∧ ls.length ≤ 12 ∧ ∀ H', Same H H' → Q (.bl (validLengths ls)) H'
theorem scAre : FnScope ["lengths", "length"] ["lengths"] (defScope sAre) := ⟨rfl, rfl, rfl, by decide +kernel, rfl, by decide +kernel, by decide +kernel⟩
theorem ok_are {f : Addr} {fd : FuncData} (F : Fun K "are_lengths" "are_lengths" sAre f fd) (CW : Callee P w K mg base 1 "is_within" ["number", "low", "high"] spWithin) (ml : mg "len" = none) (ma : mg "all" = none)
    (nP : Num mg "MAX_PALLETS" 7) (nL : Num mg "MAX_LENGTH" 100) : FnOk P w K mg base CX0 2 f fd ["lengths"] (spAre K) := by
  obtain ⟨fW, fdW, GW, gW, kW, bW⟩ := CW.ex
  obtain ⟨tP, cP⟩ := nP
  obtain ⟨tL, cL⟩ := nL
  refine F.ok scAre (fun vs H Q E h => ?_) (fun cdv A outer s H vs Q E hr h => ?_)
  · obtain ⟨a, ls, rfl, _⟩ := h
    rfl
  · obtain ⟨a, ls, rfl, hS, hlen, k⟩ := h
    refine ⟨_, pss_one (ps_ret (pe_and (pe_cmpR op_le (pe_callB call_len_seq (by rfl) ml PySem.boot_len (pa_cons (pv 0) pa_nil)) (pe_glob (v := .int 7) rfl cP ⟨_, rfl⟩) (nomark _))
      (pe_one (pe_callB (cr_all rfl) (by rfl) ma (by decide +kernel) (pa_cons
        (pe_lc (own := [("length", 1)]) (g := gName 1) (tt := tYes) rfl scAre.nd (pi_list (pv 0)) (blkOk_by (own := [("length", 1)]) (N := ["lengths", "length"]) (sc := defScope sAre) (by decide +kernel))
          (fun _ _ _ _ _ => pg_name (i := 1) scAre.nd rfl (Or.inl rfl)) (fun _ _ _ _ _ => pts_nil)
          (fun _ _ _ _ _ => pe_call GW hr (by rfl) gW kW bW .nil pass0 (pa_cons (pv 1) (pa_cons pe_int (pa_cons (pe_glob (v := .int 100) rfl cL ⟨_, rfl⟩) pa_nil))))) pa_nil))))), ?_⟩
    refine ⟨.ref a, rfl, a, iv ls, rfl, .inl hS, _, _, rfl, rfl, _, rfl, ite2 (fun e => ?_) (fun e => ?_)⟩
    · refine ⟨.ref a, rfl, a, rfl, ⟨_, hS⟩, fun D hD => lc_list (K := K) (a := a) (xs := iv ls) (fun i H' => Made H D ((ls.take i).map fun n => V.bl (okLen n)) H') (Made.start hD) (fun i H' _ m => m.same.seq hS) ?_ ?_⟩
      · intro i x H' hx m
        obtain ⟨n, hn, rfl⟩ := iv_at hx
        refine ⟨rfl, V.int (n : Int), rfl, (n : Int), 1, 100, rfl, ?_⟩
        refine m.turn (small 12 (by rw [List.length_map, List.length_take]; omega)) ?_
        rw [take_snoc hn, List.map_append, okLen_int]
        rfl
      · intro H' m
        have e1 : decide (ls.length ≤ 7) = true := by
          rw [iv_len] at e
          have := of_decide_eq_true e
          exact decide_eq_true (by omega)
        refine ⟨D, ls.map okLen, rfl, SqL.of ?_, ?_⟩
        · rw [m.at_, iv_len, List.take_length, List.map_map]
          rfl
        · have q := k H' m.same
          rw [valid_all, e1, Bool.true_and] at q
          exact q
    · have e1 : decide (ls.length ≤ 7) = false := by
        rw [iv_len] at e
        refine decide_eq_false fun z => e (decide_eq_true ?_)
        omega
      have q := k H (Same.refl H)
      rw [valid_all, e1, Bool.false_and] at q
      exact q
end
end TW

/-! ### first fit -/
namespace TW
open PySem PySem.Spec PyProof.Rows L2 TF
open Kbe6 (toInts truckCount)
theorem getD_at {l : List Nat} {i : Nat} (h : i < l.length) : l[i]? = some (l.getD i 0) := by
  rw [List.getElem?_eq_getElem h, List.getD_eq_getElem?_getD, List.getElem?_eq_getElem h]
  rfl
theorem iv_atI {l : List Nat} {i : Nat} (h : i < l.length) : atI (iv l) (i : Int) = some (V.int (l.getD i 0 : Nat)) := atI_nat (iv_get (getD_at h))
theorem ixN_of {n j : Nat} (h : j < n) : ixN n (j : Int) = some j := by
  unfold ixN
  rw [if_pos (by omega), if_pos (by omega), Int.toNat_natCast]
section
variable {P : Program} {w : World} {K : PySem.W.Frag} {mg : Str → Option Value} {base : Heap}
def spWith (K : PySem.W.Frag) : Sp := fun vs H Q _ => ∃ (a : Addr) (ld : List Nat) (t n : Nat), vs = [.ref a, .int (t : Int), .int (n : Int)] ∧ H a = some (.lst (iv ld)) ∧ t ≤ ld.length ∧ ld.length ≤ 1000 ∧
  ∀ H' p, Same H H' → H p = none → H' p = some (.lst (iv (withPallet ld t n))) → Q (.ref p) H'
theorem with_cut (ld : List Nat) (t n : Nat) (h : t < ld.length) : cutV (iv ld) none (some (t : Int)) ++ [V.int ((ld.getD t 0 : Nat) + (n : Int))] ++ cutV (iv ld) (some ((t : Int) + 1)) none = iv (withPallet ld t n) := by
  unfold cutV
  have e1 : ((t : Int) + 1) = ((t + 1 : Nat) : Int) := rfl
  rw [HT.sIx_none, HT.sIx_nat, e1, HT.sIx_nat, HT.sIx_none, iv_len]
  unfold withPallet
  rw [if_neg (by omega), iv_set, List.set_eq_take_append_cons_drop, if_pos (by rw [iv_len]; exact h), List.drop_zero, Nat.sub_zero, show min t ld.length = t by omega, show min (t + 1) ld.length = t + 1 by omega]
  rw [List.take_of_length_le (show ((iv ld).drop (t + 1)).length ≤ ld.length - (t + 1) by rw [List.length_drop, iv_len]; omega), List.append_assoc]
  rfl
theorem scWith : FnScope ["loads", "truck", "length"] ["loads", "truck", "length"] (defScope sWith) := ⟨rfl, rfl, rfl, by decide +kernel, rfl, by decide +kernel, by decide +kernel⟩
theorem ok_with {f : Addr} {fd : FuncData} (F : Fun K "with_pallet" "with_pallet" sWith f fd) (ml : mg "len" = none) : FnOk P w K mg base CX0 1 f fd ["loads", "truck", "length"] (spWith K) := by
  refine F.ok scWith (fun vs H Q E h => ?_) (fun cdv A outer s H vs Q E hr h => ?_)
  · obtain ⟨a, ld, t, n, rfl, _⟩ := h
    rfl
  · obtain ⟨a, ld, t, n, rfl, hA, ht, hlen, k⟩ := h
    refine ⟨_, pss_cons (ps_if (pt_cmpR op_eq (pv 1) (pe_callB call_len_seq (by rfl) ml PySem.boot_len (pa_cons (pv 0) pa_nil)) (nomark _)) (pss_one (ps_ret (pe_op op_cat (pv 0) (pe_lst (pa_cons (pv 2) pa_nil))))) pss_nil)
      (pss_one (ps_ret (pe_op op_cat (pe_op op_cat (pe_slice sl_list (pv 0) po_none (po_some (pv 1))) (pe_lst (pa_cons (pe_op op_add (pe_ix ix_list (pv 0) (pv 1) (fun _ _ => rfl)) (pv 2)) pa_nil))) (pe_slice sl_list (pv 0) (po_some (pe_op op_add (pv 1) pe_int)) po_none)))), ?_⟩
    refine ⟨.int (t : Int), rfl, .ref a, rfl, a, iv ld, rfl, .inl (SqL.of hA), rfl, _, rfl, ite2 (fun e => ?_) (fun e => ?_)⟩
    · have e1 : t = ld.length := by
        have := V.int.inj (of_decide_eq_true e)
        rw [iv_len] at this
        omega
      refine ⟨.ref a, rfl, .int (n : Int), rfl, (by show 1 ≤ sizeLine; decide), fun p1 hp1 => ?_⟩
      refine ⟨a, p1, iv ld, [V.int (n : Int)], rfl, rfl, (same_upd hp1) _ _ hA, upd_same, small_le 1001 (by rw [iv_len]; show ld.length + 1 ≤ 1001; omega), fun p hp => ?_⟩
      refine k _ p ((same_upd hp1).trans (same_upd hp)) ((same_upd hp1).free hp) ?_
      rw [upd_same]
      unfold withPallet
      rw [if_pos e1, iv_app]
      rfl
    · have e1 : t < ld.length := by
        have : t ≠ ld.length := fun z => e (decide_eq_true (by rw [iv_len, z]))
        omega
      refine ⟨.ref a, rfl, .int (t : Int), rfl, (t : Int), rfl, a, iv ld, rfl, SqL.of hA, fun p1 hp1 => ?_⟩
      have s1 := same_upd (o := .lst (cutV (iv ld) none (some (t : Int)))) hp1
      have hA1 := s1 _ _ hA
      refine ⟨.ref a, rfl, .int (t : Int), rfl, a, iv ld, (t : Int), _, rfl, rfl, SqL.of hA1, iv_atI e1, .int (n : Int), rfl, _, _, rfl, rfl, (by show 1 ≤ sizeLine; decide), fun p2 hp2 => ?_⟩
      have s2 := same_upd (o := .lst [V.int ((ld.getD t 0 : Nat) + (n : Int))]) hp2
      refine ⟨p1, p2, _, _, rfl, rfl, s2 _ _ upd_same, upd_same, small_le 2000 (by have := cutV_length (iv ld) none (some (t : Int)); rw [iv_len] at this; show _ + 1 ≤ 2000; omega), fun p3 hp3 => ?_⟩
      have s3 := same_upd (o := .lst (cutV (iv ld) none (some (t : Int)) ++ [V.int ((ld.getD t 0 : Nat) + (n : Int))])) hp3
      have hA3 := s3 _ _ (s2 _ _ hA1)
      refine ⟨.ref a, rfl, .int (t : Int), rfl, (t : Int), 1, rfl, rfl, _, rfl, a, iv ld, rfl, SqL.of hA3, fun p4 hp4 => ?_⟩
      have s4 := same_upd (o := .lst (cutV (iv ld) (some ((t : Int) + 1)) none)) hp4
      refine ⟨p3, p4, _, _, rfl, rfl, s4 _ _ upd_same, upd_same, small_le 4000 (by
        have z1 := cutV_length (iv ld) none (some (t : Int))
        have z2 := cutV_length (iv ld) (some ((t : Int) + 1)) none
        rw [iv_len] at z1 z2
        rw [List.length_append]
        show _ + 1 + _ ≤ 4000
        omega), fun p hp => ?_⟩
      have sa := ((s1.trans s2).trans s3).trans s4
      refine k _ p (sa.trans (same_upd hp)) (sa.free hp) ?_
      rw [upd_same, with_cut ld t n e1]
end
end TW

/-! ### the rows of the fewest trucks -/
namespace TW
open PySem PySem.Spec PyProof.Rows L2 TF
open Kbe6 (toInts)
/-- a row (assignment, loads) stands at t -/
def RowAt (H : Hp) (t : Addr) (r : TRow) : Prop := ∃ p q : Addr, H t = some (.tup [.ref p, .ref q]) ∧ H p = some (.lst (iv r.1)) ∧ H q = some (.lst (iv r.2))
def RowsIn (H : Hp) (ts : List Addr) (rs : List TRow) : Prop := ts.length = rs.length ∧ ∀ (i : Nat) (t : Addr) (r : TRow), ts[i]? = some t → rs[i]? = some r → RowAt H t r
def RowsAt (H : Hp) (l : Addr) (rs : List TRow) : Prop := ∃ ts : List Addr, H l = some (.lst (ts.map V.ref)) ∧ RowsIn H ts rs
theorem RowAt.go {H H' : Hp} {t : Addr} {r : TRow} (s : Same H H') (h : RowAt H t r) : RowAt H' t r := by
  obtain ⟨p, q, h1, h2, h3⟩ := h
  exact ⟨p, q, s _ _ h1, s _ _ h2, s _ _ h3⟩
theorem RowsIn.go {H H' : Hp} {ts : List Addr} {rs : List TRow} (s : Same H H') (h : RowsIn H ts rs) : RowsIn H' ts rs := ⟨h.1, fun i t r a b => (h.2 i t r a b).go s⟩
theorem RowsAt.go {H H' : Hp} {l : Addr} {rs : List TRow} (s : Same H H') (h : RowsAt H l rs) : RowsAt H' l rs := by
  obtain ⟨ts, h1, h2⟩ := h
  exact ⟨ts, s _ _ h1, h2.go s⟩
theorem RowsIn.nil (H : Hp) : RowsIn H [] [] := ⟨rfl, fun i t r a _ => by simp at a⟩
theorem RowsIn.app {H : Hp} {ts us : List Addr} {rs qs : List TRow} (h1 : RowsIn H ts rs) (h2 : RowsIn H us qs) : RowsIn H (ts ++ us) (rs ++ qs) := by
  refine ⟨by rw [List.length_append, List.length_append, h1.1, h2.1], fun i t r a b => ?_⟩
  by_cases hi : i < ts.length
  · rw [List.getElem?_append_left hi] at a
    rw [List.getElem?_append_left (by rw [← h1.1]; exact hi)] at b
    exact h1.2 i t r a b
  · rw [List.getElem?_append_right (by omega)] at a
    rw [List.getElem?_append_right (by rw [← h1.1]; omega), ← h1.1] at b
    exact h2.2 _ t r a b
theorem RowsIn.one {H : Hp} {t : Addr} {r : TRow} (h : RowAt H t r) : RowsIn H [t] [r] := by
  refine ⟨rfl, fun i u q a b => ?_⟩
  match i, a, b with
  | 0, a, b =>
    have a : t = u := Option.some.inj a
    have b : r = q := Option.some.inj b
    subst a b
    exact h
  | i + 1, a, _ => simp at a
theorem RowsIn.at_ {H : Hp} {ts : List Addr} {rs : List TRow} (h : RowsIn H ts rs) {i : Nat} {t : Addr} (ht : ts[i]? = some t) : ∃ r, rs[i]? = some r ∧ RowAt H t r := by
  have hi : i < rs.length := by
    have := (List.getElem?_eq_some_iff.mp ht).1
    have := h.1
    omega
  exact ⟨_, List.getElem?_eq_getElem hi, h.2 i t _ ht (List.getElem?_eq_getElem hi)⟩
/-- all but what stands at F -/
def hole (H : Hp) (F : Addr) : Hp := fun b => if b = F then none else H b
theorem hole_ne {H : Hp} {F b : Addr} (h : b ≠ F) : hole H F b = H b := if_neg h
theorem hole_le {H : Hp} {F : Addr} : Same (hole H F) H := fun b o e => by
  by_cases h : b = F
  · rw [show hole H F b = none from if_pos h] at e
    cases e
  · rw [hole_ne h] at e
    exact e
theorem hole_upd {H : Hp} {F : Addr} {o : HO} : hole (upd H F o) F = hole H F := by
  funext b
  by_cases h : b = F
  · rw [show hole (upd H F o) F b = none from if_pos h, show hole H F b = none from if_pos h]
  · rw [hole_ne h, hole_ne h, upd_ne h]
theorem hole_go {H H' : Hp} {F : Addr} (s : Same H H') : Same (hole H F) (hole H' F) := fun b o e => by
  by_cases h : b = F
  · rw [show hole H F b = none from if_pos h] at e
    cases e
  · rw [hole_ne h] at e ⊢
    exact s _ _ e
theorem hole_new {H H' : Hp} {F : Addr} (s : Same H H') (h : H F = none) : Same H (hole H' F) := fun b o e => by
  rw [hole_ne (ne_of_none e h)]
  exact s _ _ e
/-- what has been made since H -/
def frs (H H' : Hp) : Hp := fun b => match H b with
  | none => H' b
  | some _ => none
theorem frs_new {H H' : Hp} {b : Addr} (h : H b = none) : frs H H' b = H' b := by
  unfold frs
  rw [h]
theorem frs_old {H H' : Hp} {b : Addr} {o : HO} (h : H b = some o) : frs H H' b = none := by
  unfold frs
  rw [h]
theorem frs_go {H H1 H2 : Hp} (s : Same H1 H2) : Same (frs H H1) (frs H H2) := fun b o e => by
  cases h : H b with
  | none =>
    rw [frs_new h] at e ⊢
    exact s _ _ e
  | some u =>
    rw [frs_old h] at e
    cases e
theorem frs_le {H H' : Hp} : Same (frs H H') H' := fun b o e => by
  cases h : H b with
  | none =>
    rw [frs_new h] at e
    exact e
  | some u =>
    rw [frs_old h] at e
    cases e
theorem frs_hole {H H' : Hp} {D : Addr} {o : HO} (h : H D = some o) : Same (frs H H') (hole H' D) := fun b u e => by
  cases hb : H b with
  | none =>
    rw [frs_new hb] at e
    rw [hole_ne (fun z => by rw [z, h] at hb; cases hb)]
    exact e
  | some v =>
    rw [frs_old hb] at e
    cases e
theorem frs_upd {H H' : Hp} {F : Addr} {o : HO} : hole (frs H (upd H' F o)) F = hole (frs H H') F := by
  funext b
  by_cases h : b = F
  · rw [show hole (frs H (upd H' F o)) F b = none from if_pos h, show hole (frs H H') F b = none from if_pos h]
  · rw [hole_ne h, hole_ne h]
    unfold frs
    rw [upd_ne h]
def RowsNew (H H' : Hp) (l : Addr) (rs : List TRow) : Prop := ∃ ts : List Addr, H' l = some (.lst (ts.map V.ref)) ∧ RowsIn (frs H H') ts rs
/-- how far rows may grow -/
structure Bnd (i : Nat) (rs : List TRow) : Prop where
  a : ∀ r ∈ rs, r.1.length = i
  l : ∀ r ∈ rs, r.2.length ≤ i
theorem Bnd.next {c n i : Nat} {rs : List TRow} (b : Bnd i rs) : Bnd (i + 1) (rs.flatMap fun r => rowsBehind c r n) := by
  constructor
  · intro y hy
    obtain ⟨r, hr, hy⟩ := List.mem_flatMap.mp hy
    have := (rowsBehind_loads c r n y hy).2
    have := b.a r hr
    omega
  · intro y hy
    obtain ⟨r, hr, hy⟩ := List.mem_flatMap.mp hy
    have := (rowsBehind_loads c r n y hy).1
    have := b.l r hr
    omega
theorem Bnd.len {c n i : Nat} : ∀ {rs : List TRow}, Bnd i rs → (rs.flatMap fun r => rowsBehind c r n).length ≤ rs.length * (i + 1)
  | [], _ => by simp
  | r :: rs, b => by
    have ih := Bnd.len (c := c) (n := n) (rs := rs) ⟨fun q hq => b.a q (List.mem_cons_of_mem _ hq), fun q hq => b.l q (List.mem_cons_of_mem _ hq)⟩
    have h1 := rowsBehind_len c r n
    have h2 := b.l r (List.mem_cons_self ..)
    rw [List.flatMap_cons, List.length_append, List.length_cons, Nat.succ_mul]
    omega
theorem Bnd.take {i : Nat} {rs : List TRow} (b : Bnd i rs) (j : Nat) : Bnd i (rs.take j) := ⟨fun r hr => b.a r (List.mem_of_mem_take hr), fun r hr => b.l r (List.mem_of_mem_take hr)⟩
theorem allRows_bnd (c : Nat) : ∀ (ls : List Nat) (i : Nat) (rs : List TRow), Bnd i rs → Bnd (i + ls.length) (allRows c rs ls)
  | [], _, _, b => b
  | n :: ls, i, rs, b => by
    have q := allRows_bnd c ls (i + 1) _ (b.next (c := c) (n := n))
    rw [List.length_cons, show i + (ls.length + 1) = i + 1 + ls.length by omega]
    exact q
theorem allRows_len (c : Nat) : ∀ (ls : List Nat) (i : Nat) (rs : List TRow), Bnd i rs → (allRows c rs ls).length ≤ rs.length * 8 ^ ls.length ∨ 7 < i + ls.length
  | [], _, rs, _ => .inl (by show rs.length ≤ rs.length * 1; omega)
  | n :: ls, i, rs, b => by
    have q := allRows_len c ls (i + 1) _ (b.next (c := c) (n := n))
    by_cases hi : 7 < i + (ls.length + 1)
    · exact .inr hi
    · rcases q with q | q
      · refine .inl (Nat.le_trans q ?_)
        have h1 := Bnd.len (c := c) (n := n) b
        have h2 : rs.length * (i + 1) ≤ rs.length * 8 := Nat.mul_le_mul_left _ (by omega)
        rw [List.length_cons, Nat.pow_succ, Nat.mul_comm (8 ^ ls.length) 8, ← Nat.mul_assoc]
        exact Nat.mul_le_mul_right _ (Nat.le_trans h1 h2)
      · exact .inr (by rw [List.length_cons]; omega)
theorem start_bnd : Bnd 0 [(([], []) : TRow)] := ⟨fun r hr => by
  have e : r = ([], []) := by simpa using hr
  rw [e]
  rfl, fun r hr => by
  have e : r = ([], []) := by simpa using hr
  rw [e]
  exact Nat.le_refl _⟩
theorem allRows_small (c : Nat) (ls : List Nat) (h : ls.length ≤ 7) : (allRows c [([], [])] ls).length ≤ 2097152 := by
  rcases allRows_len c ls 0 _ start_bnd with q | q
  · refine Nat.le_trans q ?_
    have : 8 ^ ls.length ≤ 8 ^ 7 := Nat.pow_le_pow_right (by decide) h
    show 1 * 8 ^ ls.length ≤ 2097152
    have e : (8 : Nat) ^ 7 = 2097152 := by decide
    omega
  · omega
section
variable {P : Program} {w : World} {K : PySem.W.Frag} {mg : Str → Option Value} {base : Heap}
def spRows : Sp := fun vs H Q _ => ∃ (c : Nat) (t : Addr) (r : TRow) (n : Nat), vs = [.int (c : Int), .ref t, .int (n : Int)] ∧ RowAt H t r ∧ r.1.length ≤ 12 ∧ r.2.length ≤ 12 ∧
  ∀ H' p, Same H H' → H p = none → RowsNew H H' p (rowsBehind c r n) → Q (.ref p) H'
theorem scRows : FnScope ["capacity", "row", "length", "assignment", "loads", "found", "truck", "after"] ["capacity", "row", "length"] (defScope sRows) := ⟨rfl, rfl, rfl, by decide +kernel, rfl, by decide +kernel, by decide +kernel⟩
theorem ok_rows {f : Addr} {fd : FuncData} (F : Fun K "rows_behind" "rows_behind" sRows f fd) (CW : Callee P w K mg base 1 "with_pallet" ["loads", "truck", "length"] (spWith K)) (ml : mg "len" = none) (mr : mg "range" = none) :
    FnOk P w K mg base CX0 2 f fd ["capacity", "row", "length"] spRows := by
  obtain ⟨fW, fdW, GW, gW, kW, bW⟩ := CW.ex
  refine F.ok scRows (fun vs H Q E h => ?_) (fun cdv A outer s H vs Q E hr h => ?_)
  · obtain ⟨c, t, r, n, rfl, _⟩ := h
    rfl
  · obtain ⟨c, t, r, n, rfl, ⟨pa, pl, ht, ha, hl⟩, hla, hll, k⟩ := h
    refine ⟨_, pss_cons (ps_asg (pv 1) (pg_tup (by rfl) (pgs_cons (pg_name (i := 3) scRows.nd rfl (Or.inl rfl)) (pgs_cons (pg_name (i := 4) scRows.nd rfl (Or.inl rfl)) pgs_nil))))
      (pss_cons (ps_set (i := 5) scRows.nd rfl (Or.inl rfl) (pe_lst pa_nil))
      (pss_cons (ps_for PassesOwn.never rfl (pi_range1 (by rfl) mr (pa_cons (pe_op op_add (pe_callB call_len_seq (by rfl) ml PySem.boot_len (pa_cons (pv 4) pa_nil)) pe_int) pa_nil)) (pg_name (i := 6) scRows.nd rfl (Or.inl rfl))
        (pss_cons (ps_set (i := 7) scRows.nd rfl (Or.inl rfl) (pe_call GW hr (by rfl) gW kW bW .nil pass0 (pa_cons (pv 4) (pa_cons (pv 6) (pa_cons (pv 2) pa_nil)))))
        (pss_one (ps_if (pt_cmpR op_le (pe_ix ix_list (pv 7) (pv 6) (fun _ _ => rfl)) (pv 0) (nomark _))
          (pss_one (ps_expr (pe_bm PySem.F.plainAttrs_list PySem.F.slot_list_append PySem.F.type_list_append mt_append (pv 5)
            (pa_cons (pe_tup (pa_cons (pe_op op_cat (pv 3) (pe_lst (pa_cons (pv 6) pa_nil))) (pa_cons (pv 7) pa_nil))) pa_nil)))) pss_nil))))
      (pss_one (ps_ret (pv 5))))), ?_⟩
    -- assignment, loads = row; found = []
    refine ⟨.ref t, rfl, t, _, rfl, SqT.of ht, rfl, _, _, rfl, _, _, rfl, rfl, Nat.zero_le _, fun D hD => ?_⟩
    have s1 := same_upd (o := .lst []) hD
    have hb : (iv r.2).length ≤ 12 := by rw [iv_len]; exact hll
    -- the loop
    refine ⟨.ref pl, rfl, pl, iv r.2, rfl, .inl (SqL.of (s1 _ _ hl)), _, 1, rfl, rfl, ((iv r.2).length : Int) + 1, rfl, by omega, by omega, ?_⟩
    refine for_range (lo := 0) (n := (iv r.2).length + 1) (fun i σ H' => ∃ v6 v7 ts, σ = [some (.int (c : Int)), some (.ref t), some (.int (n : Int)), some (.ref pa), some (.ref pl), some (.ref D), v6, v7] ∧
        Made H D (ts.map V.ref) H' ∧ ts.length ≤ i ∧ RowsIn (hole (frs H H') D) ts ((List.range i).filterMap (rowTry c r n)))
      ⟨none, none, [], rfl, Made.start hD, Nat.le_refl _, RowsIn.nil _⟩ ?_ ?_
    · rintro i σ H' hi ⟨v6, v7, ts, rfl, m, hts, hR⟩
      rw [iv_len] at hi
      have ei : (0 : Int) + (i : Int) = (i : Int) := by omega
      rw [ei]
      -- after = with_pallet(loads, truck, length)
      refine ⟨.ref pl, rfl, .int (i : Int), rfl, .int (n : Int), rfl, pl, r.2, i, n, rfl, m.same _ _ hl, by omega, by omega, fun H2 pn s2 hpn ePn => ?_⟩
      have m2 := m.go s2
      have hnD : pn ≠ D := fun z => by
        rw [z, m.at_] at hpn
        cases hpn
      have hwl : i < (withPallet r.2 i n).length := by
        rw [withPallet_len]
        split <;> omega
      have e0 : (List.range (i + 1)).filterMap (rowTry c r n) = (List.range i).filterMap (rowTry c r n) ++ (rowTry c r n i).toList := by
        rw [List.range_succ, List.filterMap_append]
        rfl
      refine ⟨.ref pn, rfl, .int (i : Int), rfl, pn, _, (i : Int), _, rfl, rfl, SqL.of ePn, iv_atI hwl, .int (c : Int), rfl, _, _, rfl, rfl, _, rfl, ite2 (fun e => ?_) (fun e => ?_)⟩
      · have e1 : (withPallet r.2 i n).getD i 0 ≤ c := by
          have := of_decide_eq_true e
          omega
        have e2 : rowTry c r n i = some (r.1 ++ [i], withPallet r.2 i n) := if_pos e1
        -- found.append((assignment + [truck], after))
        refine ⟨.ref D, rfl, .inl ⟨rfl, _, SqL.of m2.at_⟩, .ref pa, rfl, .int (i : Int), rfl, (by show 1 ≤ sizeLine; decide), fun p1 hp1 => ?_⟩
        have s3 := same_upd (o := .lst [V.int (i : Int)]) hp1
        refine ⟨pa, p1, iv r.1, [V.int (i : Int)], rfl, rfl, s3 _ _ (m2.same _ _ ha), upd_same, small_le 13 (by rw [iv_len]; show _ + 1 ≤ 13; omega), fun p2 hp2 => ?_⟩
        have s4 := same_upd (o := .lst (iv r.1 ++ [V.int (i : Int)])) hp2
        refine ⟨.ref pn, rfl, (by show 2 ≤ sizeLine; decide), fun p3 hp3 => ?_⟩
        have s5 := same_upd (o := .tup [.ref p2, .ref pn]) hp3
        have m5 := ((m2.go s3).go s4).go s5
        refine ⟨D, ts.map V.ref, .ref p3, rfl, rfl, m5.at_, small 13 (by rw [List.length_map]; omega), _, _, ts ++ [p3], rfl, ?_, by rw [List.length_append]; show ts.length + 1 ≤ i + 1; omega, ?_⟩
        · rw [List.map_append]
          exact m5.put _
        · rw [e0, e2]
          rw [frs_upd]
          have n2 : p2 ≠ D := fun z => by
            rw [z, (m2.go s3).at_] at hp2
            cases hp2
          have n3 : p3 ≠ D := fun z => by
            rw [z, ((m2.go s3).go s4).at_] at hp3
            cases hp3
          have f1 : H pn = none := m.same.free hpn
          have f2 : H p2 = none := (m2.go s3).same.free hp2
          have f3 : H p3 = none := ((m2.go s3).go s4).same.free hp3
          refine (hR.go (hole_go (frs_go (((s2.trans s3).trans s4).trans s5)))).app (RowsIn.one ⟨p2, pn, ?_, ?_, ?_⟩)
          · rw [hole_ne n3, frs_new f3]
            exact upd_same
          · rw [hole_ne n2, frs_new f2]
            refine (s5 _ _ upd_same).trans ?_
            rw [iv_app]
            rfl
          · rw [hole_ne hnD, frs_new f1]
            exact s5 _ _ (s4 _ _ (s3 _ _ ePn))
      · have e2 : rowTry c r n i = none := if_neg fun z => e (decide_eq_true (by omega))
        refine ⟨_, _, ts, rfl, m2, by omega, ?_⟩
        rw [e0, e2]
        show RowsIn _ _ (_ ++ [])
        rw [List.append_nil]
        exact hR.go (hole_go (frs_go s2))
    · rintro σ H2 ⟨v6, v7, ts, rfl, m, hts, hR⟩
      rw [iv_len] at hR
      exact ⟨.ref D, rfl, k H2 D m.same hD ⟨ts, m.at_, hR.go hole_le⟩⟩
def spAll (K : PySem.W.Frag) : Sp := fun vs H Q _ => ∃ (c : Nat) (a : Addr) (ls : List Nat), vs = [.int (c : Int), .ref a] ∧ SqL K H a (iv ls) ∧ ls.length ≤ 7 ∧ ∀ H' p, Same H H' → RowsAt H' p (allRows c [([], [])] ls) → Q (.ref p) H'
theorem scAll : FnScope ["capacity", "lengths", "rows", "length", "longer", "row"] ["capacity", "lengths"] (defScope sAll) := ⟨rfl, rfl, rfl, by decide +kernel, rfl, by decide +kernel, by decide +kernel⟩
theorem ok_all {f : Addr} {fd : FuncData} (F : Fun K "all_rows" "all_rows" sAll f fd) (CR : Callee P w K mg base 2 "rows_behind" ["capacity", "row", "length"] spRows) : FnOk P w K mg base CX0 3 f fd ["capacity", "lengths"] (spAll K) := by
  obtain ⟨fR, fdR, GR, gR, kR, bR⟩ := CR.ex
  refine F.ok scAll (fun vs H Q E h => ?_) (fun cdv A outer s H vs Q E hr h => ?_)
  · obtain ⟨c, a, ls, rfl, _⟩ := h
    rfl
  · obtain ⟨c, a, ls, rfl, hS, hlen, k⟩ := h
    refine ⟨_, pss_cons (ps_set (i := 2) scAll.nd rfl (Or.inl rfl) (pe_lst (pa_cons (pe_tup (pa_cons (pe_lst pa_nil) (pa_cons (pe_lst pa_nil) pa_nil))) pa_nil)))
      (pss_cons (ps_for PassesOwn.never rfl (pi_list (pv 1)) (pg_name (i := 3) scAll.nd rfl (Or.inl rfl))
        (pss_cons (ps_set (i := 4) scAll.nd rfl (Or.inl rfl) (pe_lst pa_nil))
        (pss_cons (ps_for PassesOwn.never rfl (pi_list (pv 2)) (pg_name (i := 5) scAll.nd rfl (Or.inl rfl))
          (pss_one (ps_expr (pe_bm PySem.F.plainAttrs_list PySem.F.slot_list_extend PySem.F.type_list_extend mt_extend (pv 4)
            (pa_cons (pe_call GR hr (by rfl) gR kR bR .nil pass0 (pa_cons (pv 0) (pa_cons (pv 5) (pa_cons (pv 3) pa_nil)))) pa_nil)))))
        (pss_one (ps_set (i := 2) scAll.nd rfl (Or.inl rfl) (pv 4))))))
      (pss_one (ps_ret (pv 2)))), ?_⟩
    -- rows = [([], [])]
    refine ⟨Nat.zero_le _, fun p1 hp1 => ⟨Nat.zero_le _, fun p2 hp2 => ⟨(by show 2 ≤ sizeLine; decide), fun p3 hp3 => ⟨(by show 1 ≤ sizeLine; decide), fun p4 hp4 => ?_⟩⟩⟩⟩
    have s1 := same_upd (o := .lst []) hp1
    have s2 := same_upd (o := .lst []) hp2
    have s3 := same_upd (o := .tup [.ref p1, .ref p2]) hp3
    have s4 := same_upd (o := .lst [.ref p3]) hp4
    have sA := ((s1.trans s2).trans s3).trans s4
    refine ⟨.ref a, rfl, a, rfl, ⟨_, sA.seq hS⟩, for_list (K := K) (a := a) (xs := iv ls) (fun i σ H' => ∃ R v3 v4 v5, σ = [some (.int (c : Int)), some (.ref a), some (.ref R), v3, v4, v5] ∧ Same H H' ∧ RowsAt H' R (allRows c [([], [])] (ls.take i)))
      ⟨p4, none, none, none, rfl, sA, [p3], upd_same, RowsIn.one ⟨p1, p2, s4 _ _ upd_same, s4 _ _ (s3 _ _ (s2 _ _ upd_same)), s4 _ _ (s3 _ _ upd_same)⟩⟩ (fun i σ H' _ ⟨_, _, _, _, _, s5, _⟩ => s5.seq hS) ?_ ?_⟩
    · rintro i x σ H' hx ⟨R, v3, v4, v5, rfl, s5, hR⟩
      obtain ⟨n, hn, rfl⟩ := iv_at hx
      have hi : i < ls.length := (List.getElem?_eq_some_iff.mp hn).1
      obtain ⟨ts, eR, hRi⟩ := hR
      have hB : Bnd i (allRows c [([], [])] (ls.take i)) := by
        have q := allRows_bnd c (ls.take i) 0 _ start_bnd
        rw [List.length_take, show 0 + min i ls.length = i by omega] at q
        exact q
      have hN : (allRows c [([], [])] (ls.take i)).length ≤ 2097152 := allRows_small c _ (by rw [List.length_take]; omega)
      have eS : allRows c [([], [])] (ls.take (i + 1)) = (allRows c [([], [])] (ls.take i)).flatMap fun r => rowsBehind c r n := by
        rw [take_snoc hn]
        unfold allRows
        rw [List.foldl_append]
        rfl
      have hN2 : (allRows c [([], [])] (ls.take (i + 1))).length ≤ 2097152 := allRows_small c _ (by rw [List.length_take]; omega)
      rw [eS] at hN2
      rw [eS]
      generalize allRows c [([], [])] (ls.take i) = rs at *
      -- longer = []
      refine ⟨Nat.zero_le _, fun D hD => ?_⟩
      have s6 := same_upd (o := .lst []) hD
      refine ⟨.ref R, rfl, R, rfl, ⟨_, SqL.of (s6 _ _ eR)⟩, for_list (K := K) (a := R) (xs := ts.map V.ref) (fun j σ H'' => ∃ v5 us, σ = [some (.int (c : Int)), some (.ref a), some (.ref R), some (.int (n : Int)), some (.ref D), v5] ∧
          Made H' D (us.map V.ref) H'' ∧ RowsIn (hole H'' D) us ((rs.take j).flatMap fun r => rowsBehind c r n))
        ⟨v5, [], rfl, Made.start hD, RowsIn.nil _⟩ (fun j σ H'' _ ⟨_, _, _, m, _⟩ => SqL.of (m.same _ _ eR)) ?_ ?_⟩
      · rintro j y σ H'' hy ⟨v5, us, rfl, m, hU⟩
        rw [List.getElem?_map] at hy
        cases e : ts[j]? with
        | none =>
          rw [e] at hy
          cases hy
        | some t =>
          rw [e] at hy
          have hy : V.ref t = y := Option.some.inj hy
          subst hy
          obtain ⟨r, hr1, hr2⟩ := hRi.at_ e
          have hrm : r ∈ rs := List.mem_of_getElem? hr1
          have b1 := hB.a r hrm
          have b2 := hB.l r hrm
          have eJ : ((rs.take (j + 1)).flatMap fun r => rowsBehind c r n) = ((rs.take j).flatMap fun r => rowsBehind c r n) ++ rowsBehind c r n := by
            rw [take_snoc hr1, List.flatMap_append, List.flatMap_singleton]
          have hsz : ((rs.take (j + 1)).flatMap fun r => rowsBehind c r n).length ≤ 2097152 * 8 := by
            refine Nat.le_trans (Bnd.len (hB.take _)) ?_
            refine Nat.mul_le_mul ?_ (by omega)
            rw [List.length_take]
            omega
          -- longer.extend(rows_behind(capacity, row, length))
          refine ⟨.ref D, rfl, .inl ⟨rfl, _, SqL.of m.at_⟩, .int (c : Int), rfl, .ref t, rfl, .int (n : Int), rfl, c, t, r, n, rfl, hr2.go m.same, by omega, by omega, fun H3 p s7 hp hRw => ?_⟩
          obtain ⟨ws, eP, hW⟩ := hRw
          have m3 := m.go s7
          have hU3 : RowsIn (hole H3 D) us _ := hU.go (hole_go s7)
          have hlen2 : (us.map V.ref).length + (ws.map V.ref).length ≤ 2097152 * 8 := by
            rw [List.length_map, List.length_map, hU.1, hW.1, ← List.length_append, ← eJ]
            exact hsz
          have hnD : p ≠ D := fun z => by
            rw [z, m.at_] at hp
            cases hp
          refine ⟨D, p, us.map V.ref, ws.map V.ref, rfl, rfl, m3.at_, eP, Nat.le_trans hlen2 (by decide), _, us ++ ws, rfl, ?_, ?_⟩
          · rw [List.map_append]
            exact m3.put _
          · rw [hole_upd, eJ]
            exact hU3.app (hW.go (frs_hole m.at_))
      · rintro σ H'' ⟨v5, us, rfl, m, hU⟩
        rw [List.length_map, hRi.1, List.take_length] at hU
        -- rows = longer
        exact ⟨.ref D, rfl, D, _, _, _, rfl, s5.trans m.same, us, m.at_, hU.go hole_le⟩
    · rintro σ H' ⟨R, v3, v4, v5, rfl, s5, hR⟩
      rw [iv_len, List.take_length] at hR
      exact ⟨.ref R, rfl, k H' R s5 hR⟩
def BestAt (H : Hp) (v : V) : Option TRow → Prop
  | none => v = .non
  | some r => ∃ t, v = .ref t ∧ RowAt H t r
def spBestRow (K : PySem.W.Frag) : Sp := fun vs H Q _ => ∃ (c : Nat) (a : Addr) (ls : List Nat), vs = [.int (c : Int), .ref a] ∧ SqL K H a (iv ls) ∧ ls.length ≤ 7 ∧ ∀ H' v, Same H H' → BestAt H' v (bestOf (allRows c [([], [])] ls)) → Q v H'
theorem scBestRow : FnScope ["capacity", "lengths", "best", "row"] ["capacity", "lengths"] (defScope sBestRow) := ⟨rfl, rfl, rfl, by decide +kernel, rfl, by decide +kernel, by decide +kernel⟩
theorem ok_bestRow {f : Addr} {fd : FuncData} (F : Fun K "best_row" "best_row" sBestRow f fd) (CA : Callee P w K mg base 3 "all_rows" ["capacity", "lengths"] (spAll K)) (ml : mg "len" = none) : FnOk P w K mg base CX0 4 f fd ["capacity", "lengths"] (spBestRow K) := by
  obtain ⟨fA, fdA, GA, gA, kA, bA⟩ := CA.ex
  refine F.ok scBestRow (fun vs H Q E h => ?_) (fun cdv A outer s H vs Q E hr h => ?_)
  · obtain ⟨c, a, ls, rfl, _⟩ := h
    rfl
  · obtain ⟨c, a, ls, rfl, hS, hlen, k⟩ := h
    refine ⟨_, pss_cons (ps_set (i := 2) scBestRow.nd rfl (Or.inl rfl) pe_non)
      (pss_cons (ps_for PassesOwn.never rfl (pi_list (pe_call GA hr (by rfl) gA kA bA .nil pass0 (pa_cons (pv 0) (pa_cons (pv 1) pa_nil)))) (pg_name (i := 3) scBestRow.nd rfl (Or.inl rfl))
        (pss_one (ps_if (PW.pt (pw_or (pt_cmpR op_isN (pv 2) pe_non (nomark _)) (pw_or1 (pt_cmpR op_lt (pe_callB call_len_seq (by rfl) ml PySem.boot_len (pa_cons (pe_ix ix_tup (pv 3) pe_int (fun _ _ => rfl)) pa_nil)) (pe_callB call_len_seq (by rfl) ml PySem.boot_len (pa_cons (pe_ix ix_tup (pv 2) pe_int (fun _ _ => rfl)) pa_nil)) (nomark _)))))
          (pss_one (ps_set (i := 2) scBestRow.nd rfl (Or.inl rfl) (pv 3))) pss_nil)))
      (pss_one (ps_ret (pv 2)))), ?_⟩
    refine ⟨.int (c : Int), rfl, .ref a, rfl, c, a, ls, rfl, hS, hlen, fun H1 l s1 hR => ?_⟩
    obtain ⟨ts, eL, hRi⟩ := hR
    generalize hrs : allRows c [([], [])] ls = rs at *
    refine ⟨l, rfl, ⟨_, SqL.of eL⟩, for_list (K := K) (a := l) (xs := ts.map V.ref) (fun i σ H' => H' = H1 ∧ ∃ vb v3, σ = [some (.int (c : Int)), some (.ref a), some vb, v3] ∧ BestAt H1 vb ((rs.take i).foldl (better fun r => r.2.length) none))
      ⟨rfl, .non, none, rfl, rfl⟩ (fun i σ H' _ z => by rw [z.1]; exact SqL.of eL) ?_ ?_⟩
    · rintro i x σ H' hx ⟨rfl, vb, v3, rfl, hB⟩
      rw [List.getElem?_map] at hx
      cases e : ts[i]? with
      | none =>
        rw [e] at hx
        cases hx
      | some t =>
        rw [e] at hx
        have hx : V.ref t = x := Option.some.inj hx
        subst hx
        obtain ⟨r, hr1, hr2⟩ := hRi.at_ e
        have eT : (rs.take (i + 1)).foldl (better fun r => r.2.length) none = better (fun r : TRow => r.2.length) ((rs.take i).foldl (better fun r => r.2.length) none) r := by
          rw [take_snoc hr1, List.foldl_append]
          rfl
        generalize (rs.take i).foldl (better fun r => r.2.length) none = b at *
        have win : better (fun r : TRow => r.2.length) b r = some r → BestAt H' (.ref t) ((rs.take (i + 1)).foldl (better fun r => r.2.length) none) := fun z => by
          rw [eT, z]
          exact ⟨t, rfl, hr2⟩
        cases b with
        | none =>
          have hB : vb = .non := hB
          subst hB
          refine ⟨.non, rfl, rfl, _, rfl, iteT ⟨.ref t, rfl, rfl, _, _, rfl, win rfl⟩⟩
        | some r0 =>
          obtain ⟨t0, rfl, hr0⟩ := hB
          refine ⟨.ref t0, rfl, rfl, _, rfl, iteF ?_⟩
          obtain ⟨p1, q1, a1, a2, a3⟩ := hr2
          obtain ⟨p2, q2, b1, b2, b3⟩ := hr0
          refine ⟨.ref t, rfl, t, _, 1, _, rfl, rfl, SqT.of a1, atI_nat (j := 1) rfl, q1, _, rfl, .inl (SqL.of a3), .ref t0, rfl, t0, _, 1, _, rfl, rfl, SqT.of b1, atI_nat (j := 1) rfl, q2, _, rfl, .inl (SqL.of b3), _, _, rfl, rfl, _, rfl, ite2 (fun z => ?_) (fun z => ?_)⟩
          · have z1 := of_decide_eq_true z
            rw [iv_len, iv_len] at z1
            exact ⟨.ref t, rfl, rfl, _, _, rfl, win (if_pos (show r.2.length < r0.2.length by omega))⟩
          · refine ⟨rfl, _, _, rfl, ?_⟩
            have e2 : better (fun r : TRow => r.2.length) (some r0) r = some r0 := if_neg fun q => z (decide_eq_true (by have q2 : r.2.length < r0.2.length := q; rw [iv_len, iv_len]; omega))
            rw [eT, e2]
            exact ⟨t0, rfl, p2, q2, b1, b2, b3⟩
    · rintro σ H' ⟨rfl, vb, v3, rfl, hB⟩
      rw [List.length_map, hRi.1, List.take_length] at hB
      exact ⟨vb, rfl, k H' vb s1 hB⟩
def leastV : Option Nat → V
  | none => .non
  | some c => .int (c : Int)
def spLeast (K : PySem.W.Frag) : Sp := fun vs H Q _ => ∃ (limit : Nat) (a : Addr) (ls : List Nat), vs = [.int (limit : Int), .ref a] ∧ SqL K H a (iv ls) ∧ ls.length ≤ 7 ∧ ∀ H', Same H H' → Q (leastV (leastCap limit ls)) H'
theorem scLeast : FnScope ["truck_limit", "lengths", "capacity", "best"] ["truck_limit", "lengths"] (defScope sLeast) := ⟨rfl, rfl, rfl, by decide +kernel, rfl, by decide +kernel, by decide +kernel⟩
theorem least_found (limit : Nat) (ls : List Nat) (i : Nat) (hi : i < 100) (hf : fitsAt limit ls (i + 1) = true) (hno : ∀ j, j < i → fitsAt limit ls (j + 1) = false) : leastCap limit ls = some (i + 1) := by
  unfold leastCap
  rw [List.find?_map]
  have e : (List.range 100).find? (fitsAt limit ls ∘ fun x => x + 1) = some i := by
    rw [List.find?_eq_some_iff_getElem]
    refine ⟨hf, i, by rw [List.length_range]; exact hi, List.getElem_range .., fun j hj => ?_⟩
    rw [List.getElem_range]
    show (!fitsAt limit ls (j + 1)) = true
    rw [hno j hj]
    rfl
  rw [e]
  rfl
theorem least_none (limit : Nat) (ls : List Nat) (hno : ∀ j, j < 100 → fitsAt limit ls (j + 1) = false) : leastCap limit ls = none := by
  unfold leastCap
  rw [List.find?_eq_none]
  intro x hx
  obtain ⟨j, hj, rfl⟩ := List.mem_map.mp hx
  rw [hno j (List.mem_range.mp hj)]
  exact Bool.false_ne_true
theorem ok_least {f : Addr} {fd : FuncData} (F : Fun K "least_capacity" "least_capacity" sLeast f fd) (CB : Callee P w K mg base 4 "best_row" ["capacity", "lengths"] (spBestRow K)) (ml : mg "len" = none) (mr : mg "range" = none) (nC : Num mg "MAX_CAPACITY" 100) :
    FnOk P w K mg base CX0 5 f fd ["truck_limit", "lengths"] (spLeast K) := by
  obtain ⟨fB, fdB, GB, gB, kB, bB⟩ := CB.ex
  obtain ⟨tC, cC⟩ := nC
  refine F.ok scLeast (fun vs H Q E h => ?_) (fun cdv A outer s H vs Q E hr h => ?_)
  · obtain ⟨limit, a, ls, rfl, _⟩ := h
    rfl
  · obtain ⟨limit, a, ls, rfl, hS, hlen, k⟩ := h
    refine ⟨_, pss_cons (ps_for PassesOwn.never rfl (pi_range2 (by rfl) mr (pa_cons pe_int (pa_cons (pe_op op_add (pe_glob (v := .int 100) rfl cC ⟨_, rfl⟩) pe_int) pa_nil))) (pg_name (i := 2) scLeast.nd rfl (Or.inl rfl))
        (pss_cons (ps_set (i := 3) scLeast.nd rfl (Or.inl rfl) (pe_call GB hr (by rfl) gB kB bB .nil pass0 (pa_cons (pv 2) (pa_cons (pv 1) pa_nil))))
        (pss_one (ps_if (PW.pt (pw_and (pt_cmpR op_notN (pv 3) pe_non (nomark _)) (pw_and1 (pt_cmpR op_le (pe_callB call_len_seq (by rfl) ml PySem.boot_len (pa_cons (pe_ix ix_tup (pv 3) pe_int (fun _ _ => rfl)) pa_nil)) (pv 0) (nomark _)))))
          (pss_one (ps_ret (pv 2))) pss_nil))))
      (pss_one (ps_ret pe_non)), ?_⟩
    refine ⟨100, 1, rfl, rfl, 1, 101, rfl, ⟨by decide, by decide, by decide, by decide⟩, ?_⟩
    refine for_range (lo := 1) (n := 100) (fun i σ H' => ∃ v2 v3, σ = [some (.int (limit : Int)), some (.ref a), v2, v3] ∧ Same H H' ∧ ∀ j, j < i → fitsAt limit ls (j + 1) = false)
      ⟨none, none, rfl, Same.refl H, fun j hj => absurd hj (Nat.not_lt_zero _)⟩ ?_ ?_
    · rintro i σ H' hi ⟨v2, v3, rfl, s1, hno⟩
      have ei : (1 : Int) + (i : Int) = ((i + 1 : Nat) : Int) := by omega
      rw [ei]
      refine ⟨.int ((i + 1 : Nat) : Int), rfl, .ref a, rfl, i + 1, a, ls, rfl, s1.seq hS, hlen, fun H2 v s2 hB => ?_⟩
      have go : fitsAt limit ls (i + 1) = false → ∃ v2 v3, [some (V.int (limit : Int)), some (.ref a), some (V.int ((i + 1 : Nat) : Int)), some v] = [some (V.int (limit : Int)), some (.ref a), v2, v3] ∧ Same H H2 ∧ ∀ j, j < i + 1 → fitsAt limit ls (j + 1) = false := fun z =>
        ⟨_, _, rfl, s1.trans s2, fun j hj => by
          by_cases hji : j = i
          · rw [hji]
            exact z
          · exact hno j (by omega)⟩
      cases hb : bestOf (allRows (i + 1) [([], [])] ls) with
      | none =>
        rw [hb] at hB
        have hB : v = .non := hB
        subst hB
        refine ⟨.non, rfl, rfl, _, rfl, iteF (iteF (go ?_))⟩
        unfold fitsAt
        rw [hb]
      | some r =>
        rw [hb] at hB
        obtain ⟨t, rfl, p, q, h1, h2, h3⟩ := hB
        have ef : fitsAt limit ls (i + 1) = decide (r.2.length ≤ limit) := by
          unfold fitsAt
          rw [hb]
        refine ⟨.ref t, rfl, rfl, _, rfl, iteT ⟨.ref t, rfl, t, _, 1, _, rfl, rfl, SqT.of h1, atI_nat (j := 1) rfl, q, _, rfl, .inl (SqL.of h3), .int (limit : Int), rfl, _, _, rfl, rfl, _, rfl, ite2 (fun z => ?_) (fun z => ?_)⟩⟩
        · have z1 := of_decide_eq_true z
          rw [iv_len] at z1
          have q := k H2 (s1.trans s2)
          rw [least_found limit ls i hi (by rw [ef]; exact decide_eq_true (by omega)) hno] at q
          exact ⟨_, rfl, q⟩
        · exact go (by rw [ef]; exact decide_eq_false fun y => z (decide_eq_true (by rw [iv_len]; omega)))
    · rintro σ H' ⟨v2, v3, rfl, s1, hno⟩
      have q := k H' s1
      rw [least_none limit ls hno] at q
      exact q
end
end TW

/-! ### what the interface's defs share -/
namespace TW
open PySem PySem.Spec PyProof.Rows L2 TF
open Kbe6 (toInts)
theorem loadRef_cases (c : Nat) (ls : List Nat) : loadRef c ls = [] ∨ loadRef c ls = [-22] ∨ loadRef c ls = [-33] := by
  unfold loadRef
  split
  · split
    · exact .inl rfl
    · exact .inr (.inr rfl)
  · exact .inr (.inl rfl)
theorem dp_ints {K : PySem.W.Frag} {H : Hp} : ∀ ns : List Int, DpAll K H (ns.map V.int) (ns.map PyData.int)
  | [] => .nil
  | n :: r => .cons (.int n) (dp_ints r)
theorem dp_list {K : PySem.W.Frag} {H : Hp} {p : Addr} {ns : List Int} (h : H p = some (.lst (ns.map V.int))) : Dp K H (.ref p) (.list (ns.map PyData.int)) := .lst (SqL.of h) (dp_ints ns)
theorem rg_range (n : Nat) : rgV 0 (n : Int) = iv (List.range n) := by
  unfold rgV
  rw [iv_eq, show ((n : Int) - 0).toNat = n by omega]
  refine List.map_congr_left fun i _ => ?_
  rw [show (0 : Int) + (i : Nat) = (i : Int) by omega]
/-- the request's numbers -/
theorem nat_of {z hi : Int} (h : PySem.W.Codec.inInt 0 hi z = true) : ∃ n : Nat, z = (n : Int) := by
  have q : (decide (0 ≤ z) && decide (z ≤ hi)) = true := h
  rw [Bool.and_eq_true] at q
  exact ⟨z.toNat, (Int.toNat_of_nonneg (of_decide_eq_true q.1)).symm⟩
theorem nats_of {l : List Int} {hi : Int} (h : l.all (PySem.W.Codec.inInt 0 hi) = true) : ∃ m : List Nat, l = toInts m := ints_nats fun x hx => by
  obtain ⟨n, rfl⟩ := nat_of (List.all_eq_true.mp h x hx)
  omega
theorem len_of {m : List Nat} {least most : Nat} (h : PySem.W.Codec.inLen least most (toInts m) = true) : m.length ≤ most := by
  have q := (PySem.W.Codec.inNat_iff.mp h).2
  unfold Kbe6.toInts at q
  rw [List.length_map] at q
  exact q
end TW

/-! ### min_capacity -/
namespace TW
open PySem PySem.Spec PyProof.Rows L2 TF
open Kbe6 (toInts validLengths)
section
variable {P : Program} {w : World} {K : PySem.W.Frag} {mg : Str → Option Value} {base : Heap}
def lensRef (ls : List Nat) : List Int := if validLengths ls = true then [] else [-22]
def spLens (K : PySem.W.Frag) : Sp := fun vs H Q _ => ∃ (a : Addr) (ls : List Nat), vs = [.ref a] ∧ SqL K H a (iv ls) ∧ ls.length ≤ 12 ∧ ∀ H' p, Same H H' → H' p = some (.lst ((lensRef ls).map V.int)) → Q (.ref p) H'
theorem scLens : FnScope ["lengths"] ["lengths"] (defScope sLens) := ⟨rfl, rfl, rfl, by decide +kernel, rfl, by decide +kernel, by decide +kernel⟩
theorem ok_lens {f : Addr} {fd : FuncData} (F : Fun K "lengths_refusal" "lengths_refusal" sLens f fd) (CA : Callee P w K mg base 2 "are_lengths" ["lengths"] (spAre K)) (nO : Num mg "OUT_OF_RANGE" (-22)) : FnOk P w K mg base CX0 3 f fd ["lengths"] (spLens K) := by
  obtain ⟨fA, fdA, GA, gA, kA, bA⟩ := CA.ex
  obtain ⟨tO, cO⟩ := nO
  refine F.ok scLens (fun vs H Q E h => ?_) (fun cdv A outer s H vs Q E hr h => ?_)
  · obtain ⟨a, ls, rfl, _⟩ := h
    rfl
  · obtain ⟨a, ls, rfl, hS, hlen, k⟩ := h
    refine ⟨_, pss_cons (ps_if (pt_not (pt_val (pe_call GA hr (by rfl) gA kA bA .nil pass0 (pa_cons (pv 0) pa_nil)))) (pss_one (ps_ret (pe_lst (pa_cons (pe_glob (v := .int (-22)) rfl cO ⟨_, rfl⟩) pa_nil)))) pss_nil)
      (pss_one (ps_ret (pe_lst pa_nil))), ?_⟩
    refine ⟨.ref a, rfl, a, ls, rfl, hS, hlen, fun H1 s1 => ⟨_, rfl, ?_⟩⟩
    cases hv : validLengths ls with
    | false =>
      refine iteT ⟨(by show 1 ≤ sizeLine; decide), fun p hp => k _ p (s1.trans (same_upd hp)) ?_⟩
      rw [upd_same]
      unfold lensRef
      rw [hv]
      rfl
    | true =>
      refine iteF ⟨Nat.zero_le _, fun p hp => k _ p (s1.trans (same_upd hp)) ?_⟩
      rw [upd_same]
      unfold lensRef
      rw [hv]
      rfl
def spMain (K : PySem.W.Frag) : Sp := fun vs H Q _ => ∃ (limit : Nat) (a : Addr) (ls : List Nat), vs = [.int (limit : Int), .ref a] ∧ SqL K H a (iv ls) ∧ ls.length ≤ 12 ∧
  ∀ H' p, H' p = some (.lst ((PyKbe6.min_capacity (limit : Int) (toInts ls)).map V.int)) → Q (.ref p) H'
theorem scMain : FnScope ["truck_limit", "lengths", "refusal", "capacity"] ["truck_limit", "lengths"] (defScope sMain) := ⟨rfl, rfl, rfl, by decide +kernel, rfl, by decide +kernel, by decide +kernel⟩
theorem ok_main {f : Addr} {fd : FuncData} (F : Fun K "min_capacity" "min_capacity" sMain f fd) (CL : Callee P w K mg base 3 "lengths_refusal" ["lengths"] (spLens K)) (CC : Callee P w K mg base 5 "least_capacity" ["truck_limit", "lengths"] (spLeast K))
    (nI : Num mg "IMPOSSIBLE" (-33)) : FnOk P w K mg base CX0 6 f fd ["truck_limit", "lengths"] (spMain K) := by
  obtain ⟨fL, fdL, GL, gL, kL, bL⟩ := CL.ex
  obtain ⟨fC, fdC, GC, gC, kC, bC⟩ := CC.ex
  obtain ⟨tI, cI⟩ := nI
  refine F.ok scMain (fun vs H Q E h => ?_) (fun cdv A outer s H vs Q E hr h => ?_)
  · obtain ⟨limit, a, ls, rfl, _⟩ := h
    rfl
  · obtain ⟨limit, a, ls, rfl, hS, hlen, k⟩ := h
    have hr3 : Room 3 _ := hr.mono (by decide)
    refine ⟨_, pss_cons (ps_set (i := 2) scMain.nd rfl (Or.inl rfl) (pe_call GL hr3 (by rfl) gL kL bL .nil pass0 (pa_cons (pv 1) pa_nil)))
      (pss_cons (ps_if (pt_cmpR (op_neD hr.units) (pv 2) (pe_lst pa_nil) (nomark _)) (pss_one (ps_ret (pv 2))) pss_nil)
      (pss_cons (ps_set (i := 3) scMain.nd rfl (Or.inl rfl) (pe_call GC hr (by rfl) gC kC bC .nil pass0 (pa_cons (pv 0) (pa_cons (pv 1) pa_nil))))
      (pss_one (ps_ret (pe_ifExp (pt_cmpR op_isN (pv 3) pe_non (nomark _)) (pe_lst (pa_cons (pe_glob (v := .int (-33)) rfl cI ⟨_, rfl⟩) pa_nil)) (pe_lst (pa_cons (pv 3) pa_nil))))))), ?_⟩
    rw [due_min_capacity] at k
    refine ⟨_, rfl, a, ls, rfl, hS, hlen, fun H1 p s1 ep => ?_⟩
    refine ⟨.ref p, rfl, Nat.zero_le _, fun q hq => ?_⟩
    have s2 := s1.trans (same_upd (o := .lst []) hq)
    have ep2 := same_upd (o := .lst []) hq _ _ ep
    refine ⟨_, _, dp_list ep2, dp_list (ns := []) upd_same, ?_⟩
    cases hv : validLengths ls with
    | false =>
      have e2 : lensRef ls = [-22] := by
        unfold lensRef
        rw [hv]
        rfl
      rw [e2] at ep2
      rw [e2]
      refine ⟨by decide, by decide, _, rfl, iteT ⟨.ref p, rfl, k _ p ?_⟩⟩
      rw [hv]
      exact ep2
    | true =>
      have e2 : lensRef ls = [] := by
        unfold lensRef
        rw [hv]
        rfl
      have h7 : ls.length ≤ 7 := by
        have z := hv
        rw [valid_all, Bool.and_eq_true] at z
        exact of_decide_eq_true z.1
      rw [hv] at k
      rw [e2]
      refine ⟨by decide, by decide, _, rfl, iteF ?_⟩
      -- capacity = least_capacity(truck_limit, lengths)
      refine ⟨_, rfl, _, rfl, limit, a, ls, rfl, s2.seq hS, h7, fun H2 s3 => ?_⟩
      refine ⟨_, rfl, rfl, _, rfl, ?_⟩
      cases hc : leastCap limit ls with
      | none =>
        rw [hc] at k
        refine iteT ⟨(by show 1 ≤ sizeLine; decide), fun p1 hp1 => k _ p1 ?_⟩
        rw [upd_same]
        rfl
      | some c =>
        rw [hc] at k
        refine iteF ⟨_, rfl, (by show 1 ≤ sizeLine; decide), fun p1 hp1 => k _ p1 ?_⟩
        rw [upd_same]
        rfl
end
end TW

/-! ### what the top has written; the row's end -/
namespace TW
open PySem PySem.Spec PyProof.Rows L2 TF
theorem all_mk {P : Program} {w : World} {K : PySem.W.Frag} {h : Heap} {mg : Str → Option Value} {fa : Addr} (X : K.In h) (G : h.Ns mainGlobals mg) (hfa : mg "min_capacity" = some (.ref fa))
    {f1 : Addr} {od1 an1 : Option Addr} {sl1 : Array (Option Value)} {oc1 kV1 dc1 pm1 cd1 ct1 : Value}
    {f2 : Addr} {od2 an2 : Option Addr} {sl2 : Array (Option Value)} {oc2 kV2 dc2 pm2 cd2 ct2 : Value}
    {f3 : Addr} {od3 an3 : Option Addr} {sl3 : Array (Option Value)} {oc3 kV3 dc3 pm3 cd3 ct3 : Value}
    {f4 : Addr} {od4 an4 : Option Addr} {sl4 : Array (Option Value)} {oc4 kV4 dc4 pm4 cd4 ct4 : Value}
    {f5 : Addr} {od5 an5 : Option Addr} {sl5 : Array (Option Value)} {oc5 kV5 dc5 pm5 cd5 ct5 : Value}
    {f6 : Addr} {od6 an6 : Option Addr} {sl6 : Array (Option Value)} {oc6 kV6 dc6 pm6 cd6 ct6 : Value}
    {f7 : Addr} {od7 an7 : Option Addr} {sl7 : Array (Option Value)} {oc7 kV7 dc7 pm7 cd7 ct7 : Value}
    {f8 : Addr} {od8 an8 : Option Addr} {sl8 : Array (Option Value)} {oc8 kV8 dc8 pm8 cd8 ct8 : Value}
    {f9 : Addr} {od9 an9 : Option Addr} {sl9 : Array (Option Value)} {oc9 kV9 dc9 pm9 cd9 ct9 : Value}
    {t1 : Tok}
    {t2 : Tok}
    {t3 : Tok}
    {t4 : Tok}
    {t5 : Tok}
    (a1 : PySem.W.nsIn K mainGlobals "is_within" = some (some (.ref f1))) (l1 : K.lookup f1 = some ⟨oc1, od1, .func (PySem.W.fnOf "is_within" "is_within" (defArgs sWithin) (defBody sWithin) (defScope sWithin) .none kV1 dc1 pm1 an1 cd1 ct1), sl1⟩) (c1 : PySem.W.codeIn K cd1 "is_within" = true) (k1 : PySem.W.keepIn K (.ref f1) = true)
    (a2 : PySem.W.nsIn K mainGlobals "are_lengths" = some (some (.ref f2))) (l2 : K.lookup f2 = some ⟨oc2, od2, .func (PySem.W.fnOf "are_lengths" "are_lengths" (defArgs sAre) (defBody sAre) (defScope sAre) .none kV2 dc2 pm2 an2 cd2 ct2), sl2⟩) (c2 : PySem.W.codeIn K cd2 "are_lengths" = true) (k2 : PySem.W.keepIn K (.ref f2) = true)
    (a3 : PySem.W.nsIn K mainGlobals "lengths_refusal" = some (some (.ref f3))) (l3 : K.lookup f3 = some ⟨oc3, od3, .func (PySem.W.fnOf "lengths_refusal" "lengths_refusal" (defArgs sLens) (defBody sLens) (defScope sLens) .none kV3 dc3 pm3 an3 cd3 ct3), sl3⟩) (c3 : PySem.W.codeIn K cd3 "lengths_refusal" = true) (k3 : PySem.W.keepIn K (.ref f3) = true)
    (a4 : PySem.W.nsIn K mainGlobals "with_pallet" = some (some (.ref f4))) (l4 : K.lookup f4 = some ⟨oc4, od4, .func (PySem.W.fnOf "with_pallet" "with_pallet" (defArgs sWith) (defBody sWith) (defScope sWith) .none kV4 dc4 pm4 an4 cd4 ct4), sl4⟩) (c4 : PySem.W.codeIn K cd4 "with_pallet" = true) (k4 : PySem.W.keepIn K (.ref f4) = true)
    (a5 : PySem.W.nsIn K mainGlobals "rows_behind" = some (some (.ref f5))) (l5 : K.lookup f5 = some ⟨oc5, od5, .func (PySem.W.fnOf "rows_behind" "rows_behind" (defArgs sRows) (defBody sRows) (defScope sRows) .none kV5 dc5 pm5 an5 cd5 ct5), sl5⟩) (c5 : PySem.W.codeIn K cd5 "rows_behind" = true) (k5 : PySem.W.keepIn K (.ref f5) = true)
    (a6 : PySem.W.nsIn K mainGlobals "all_rows" = some (some (.ref f6))) (l6 : K.lookup f6 = some ⟨oc6, od6, .func (PySem.W.fnOf "all_rows" "all_rows" (defArgs sAll) (defBody sAll) (defScope sAll) .none kV6 dc6 pm6 an6 cd6 ct6), sl6⟩) (c6 : PySem.W.codeIn K cd6 "all_rows" = true) (k6 : PySem.W.keepIn K (.ref f6) = true)
    (a7 : PySem.W.nsIn K mainGlobals "best_row" = some (some (.ref f7))) (l7 : K.lookup f7 = some ⟨oc7, od7, .func (PySem.W.fnOf "best_row" "best_row" (defArgs sBestRow) (defBody sBestRow) (defScope sBestRow) .none kV7 dc7 pm7 an7 cd7 ct7), sl7⟩) (c7 : PySem.W.codeIn K cd7 "best_row" = true) (k7 : PySem.W.keepIn K (.ref f7) = true)
    (a8 : PySem.W.nsIn K mainGlobals "least_capacity" = some (some (.ref f8))) (l8 : K.lookup f8 = some ⟨oc8, od8, .func (PySem.W.fnOf "least_capacity" "least_capacity" (defArgs sLeast) (defBody sLeast) (defScope sLeast) .none kV8 dc8 pm8 an8 cd8 ct8), sl8⟩) (c8 : PySem.W.codeIn K cd8 "least_capacity" = true) (k8 : PySem.W.keepIn K (.ref f8) = true)
    (a9 : PySem.W.nsIn K mainGlobals "min_capacity" = some (some (.ref f9))) (l9 : K.lookup f9 = some ⟨oc9, od9, .func (PySem.W.fnOf "min_capacity" "min_capacity" (defArgs sMain) (defBody sMain) (defScope sMain) .none kV9 dc9 pm9 an9 cd9 ct9), sl9⟩) (c9 : PySem.W.codeIn K cd9 "min_capacity" = true) (k9 : PySem.W.keepIn K (.ref f9) = true)
    (n1 : PySem.W.nsIn K mainGlobals "IMPOSSIBLE" = some (some (.int (-33) t1)))
    (n2 : PySem.W.nsIn K mainGlobals "MAX_CAPACITY" = some (some (.int (100) t2)))
    (n3 : PySem.W.nsIn K mainGlobals "MAX_LENGTH" = some (some (.int (100) t3)))
    (n4 : PySem.W.nsIn K mainGlobals "MAX_PALLETS" = some (some (.int (7) t4)))
    (n5 : PySem.W.nsIn K mainGlobals "OUT_OF_RANGE" = some (some (.int (-22) t5)))
    (z1 : PySem.W.nsIn K mainGlobals "all" = some none)
    (z2 : PySem.W.nsIn K mainGlobals "len" = some none)
    (z3 : PySem.W.nsIn K mainGlobals "range" = some none)
    : ∃ fd : FuncData, (∀ (s : Shared) (us : List Value), us.length = (["truck_limit", "lengths"] : List Str).length → BindsTo s fd ⟨us, []⟩ ((["truck_limit", "lengths"] : List Str).zip us)) ∧ ∀ base : Heap, K.In base → base.Ns mainGlobals mg → FnOk P w K mg base CX0 6 fa fd ["truck_limit", "lengths"] (spMain K) := by
  have e := hfa.symm.trans (PySem.W.mg_of X G a9)
  cases e
  have F1 := fun_mk (st := sWithin) l1 c1 k1
  have b1 := F1.binds (ps := ["number", "low", "high"]) fun _ _ _ _ _ _ us hl => match us, hl with | [_, _, _], _ => rfl
  have F2 := fun_mk (st := sAre) l2 c2 k2
  have b2 := F2.binds (ps := ["lengths"]) fun _ _ _ _ _ _ us hl => match us, hl with | [_], _ => rfl
  have F3 := fun_mk (st := sLens) l3 c3 k3
  have b3 := F3.binds (ps := ["lengths"]) fun _ _ _ _ _ _ us hl => match us, hl with | [_], _ => rfl
  have F4 := fun_mk (st := sWith) l4 c4 k4
  have b4 := F4.binds (ps := ["loads", "truck", "length"]) fun _ _ _ _ _ _ us hl => match us, hl with | [_, _, _], _ => rfl
  have F5 := fun_mk (st := sRows) l5 c5 k5
  have b5 := F5.binds (ps := ["capacity", "row", "length"]) fun _ _ _ _ _ _ us hl => match us, hl with | [_, _, _], _ => rfl
  have F6 := fun_mk (st := sAll) l6 c6 k6
  have b6 := F6.binds (ps := ["capacity", "lengths"]) fun _ _ _ _ _ _ us hl => match us, hl with | [_, _], _ => rfl
  have F7 := fun_mk (st := sBestRow) l7 c7 k7
  have b7 := F7.binds (ps := ["capacity", "lengths"]) fun _ _ _ _ _ _ us hl => match us, hl with | [_, _], _ => rfl
  have F8 := fun_mk (st := sLeast) l8 c8 k8
  have b8 := F8.binds (ps := ["truck_limit", "lengths"]) fun _ _ _ _ _ _ us hl => match us, hl with | [_, _], _ => rfl
  have F9 := fun_mk (st := sMain) l9 c9 k9
  have N_IMPOSSIBLE : Num mg "IMPOSSIBLE" (-33) := ⟨_, PySem.W.mg_of X G n1⟩
  have N_MAX_CAPACITY : Num mg "MAX_CAPACITY" (100) := ⟨_, PySem.W.mg_of X G n2⟩
  have N_MAX_LENGTH : Num mg "MAX_LENGTH" (100) := ⟨_, PySem.W.mg_of X G n3⟩
  have N_MAX_PALLETS : Num mg "MAX_PALLETS" (7) := ⟨_, PySem.W.mg_of X G n4⟩
  have N_OUT_OF_RANGE : Num mg "OUT_OF_RANGE" (-22) := ⟨_, PySem.W.mg_of X G n5⟩
  have Z_all : mg "all" = none := PySem.W.mg_none_of X G z1
  have Z_len : mg "len" = none := PySem.W.mg_none_of X G z2
  have Z_range : mg "range" = none := PySem.W.mg_none_of X G z3
  refine ⟨PySem.W.fnOf "min_capacity" "min_capacity" (defArgs sMain) (defBody sMain) (defScope sMain) .none kV9 dc9 pm9 an9 cd9 ct9, fun s us hu => match us, hu with | [_, _], _ => .of_eq rfl, fun base _ _ => ?_⟩
  have C_is_within : Callee P w K mg base 1 "is_within" ["number", "low", "high"] spWithin := ⟨f1, _, ok_within F1 , PySem.W.mg_of X G a1, k1, b1⟩
  have C_are_lengths : Callee P w K mg base 2 "are_lengths" ["lengths"] (spAre K) := ⟨f2, _, ok_are F2 C_is_within Z_len Z_all N_MAX_PALLETS N_MAX_LENGTH, PySem.W.mg_of X G a2, k2, b2⟩
  have C_lengths_refusal : Callee P w K mg base 3 "lengths_refusal" ["lengths"] (spLens K) := ⟨f3, _, ok_lens F3 C_are_lengths N_OUT_OF_RANGE, PySem.W.mg_of X G a3, k3, b3⟩
  have C_with_pallet : Callee P w K mg base 1 "with_pallet" ["loads", "truck", "length"] (spWith K) := ⟨f4, _, ok_with F4 Z_len, PySem.W.mg_of X G a4, k4, b4⟩
  have C_rows_behind : Callee P w K mg base 2 "rows_behind" ["capacity", "row", "length"] spRows := ⟨f5, _, ok_rows F5 C_with_pallet Z_len Z_range, PySem.W.mg_of X G a5, k5, b5⟩
  have C_all_rows : Callee P w K mg base 3 "all_rows" ["capacity", "lengths"] (spAll K) := ⟨f6, _, ok_all F6 C_rows_behind, PySem.W.mg_of X G a6, k6, b6⟩
  have C_best_row : Callee P w K mg base 4 "best_row" ["capacity", "lengths"] (spBestRow K) := ⟨f7, _, ok_bestRow F7 C_all_rows Z_len, PySem.W.mg_of X G a7, k7, b7⟩
  have C_least_capacity : Callee P w K mg base 5 "least_capacity" ["truck_limit", "lengths"] (spLeast K) := ⟨f8, _, ok_least F8 C_best_row Z_len Z_range N_MAX_CAPACITY, PySem.W.mg_of X G a8, k8, b8⟩
  exact ok_main F9 C_lengths_refusal C_least_capacity N_IMPOSSIBLE
end TW
open PySem PySem.W PyProof.Rows
set_option maxRecDepth 100000 in
set_option maxHeartbeats 0 in
theorem PySem.Challenge.cw_truckfill_s07_min_capacity_holds : PySem.Challenge.rw_truckfill_s07_min_capacity.Holds := by
  w_on; k_headS; (case hw => exact ⟨[.int 1, .list []], by decide +kernel, by decide +kernel⟩)
  k_fillS
  refine L2.walk_specK (r := PySem.Challenge.rw_truckfill_s07_min_capacity) (k := 6) (CX := L2.CX0) (ps := ["truck_limit", "lengths"]) (sp := TW.spMain) (by decide +kernel) rfl rfl ⟨rfl, by decide, by decide⟩ (fun w h Y => PySem.W.kIn_of Y) ?F ?S (fun _ _ _ _ z => z)
  case F =>
    intro w mg fa h Y KX G hmg
    refine' TW.all_mk KX G hmg ?a1 ?l1 ?c1 ?k1 ?a2 ?l2 ?c2 ?k2 ?a3 ?l3 ?c3 ?k3 ?a4 ?l4 ?c4 ?k4 ?a5 ?l5 ?c5 ?k5 ?a6 ?l6 ?c6 ?k6 ?a7 ?l7 ?c7 ?k7 ?a8 ?l8 ?c8 ?k8 ?a9 ?l9 ?c9 ?k9 ?n1 ?n2 ?n3 ?n4 ?n5 ?z1 ?z2 ?z3
    (case a1 => k_is)
    (case l1 => k_is)
    (case c1 => k_is)
    (case k1 => k_is)
    (case a2 => k_is)
    (case l2 => k_is)
    (case c2 => k_is)
    (case k2 => k_is)
    (case a3 => k_is)
    (case l3 => k_is)
    (case c3 => k_is)
    (case k3 => k_is)
    (case a4 => k_is)
    (case l4 => k_is)
    (case c4 => k_is)
    (case k4 => k_is)
    (case a5 => k_is)
    (case l5 => k_is)
    (case c5 => k_is)
    (case k5 => k_is)
    (case a6 => k_is)
    (case l6 => k_is)
    (case c6 => k_is)
    (case k6 => k_is)
    (case a7 => k_is)
    (case l7 => k_is)
    (case c7 => k_is)
    (case k7 => k_is)
    (case a8 => k_is)
    (case l8 => k_is)
    (case c8 => k_is)
    (case k8 => k_is)
    (case a9 => k_is)
    (case l9 => k_is)
    (case c9 => k_is)
    (case k9 => k_is)
    (case n1 => k_is)
    (case n2 => k_is)
    (case n3 => k_is)
    (case n4 => k_is)
    (case n5 => k_is)
    (case z1 => k_is)
    (case z2 => k_is)
    (case z3 => k_is)
  case S =>
    intro K H xs a hO hwi hask hx
    obtain ⟨c0, l0, u⟩ := a
    cases hx with
    | cons h1 h2 =>
      cases h2 with
      | cons h3 h4 =>
        cases h4
        cases h1
        cases h3 with
        | lst hs ha =>
          have e := L2.ints_dw l0 _ ha
          subst e
          have q : (Codec.inInt 0 4294967295 c0 && ((Codec.inLen 0 12 l0 && l0.all (Codec.inInt 0 4294967295)) && true)) = true := hwi
          rw [Bool.and_eq_true, Bool.and_eq_true, Bool.and_eq_true] at q
          obtain ⟨c, rfl⟩ := TW.nat_of q.1
          obtain ⟨ls, rfl⟩ := TW.nats_of q.2.1.2
          exact ⟨c, _, ls, rfl, hs, TW.len_of q.2.1.1, fun H' p hp => .lst (L2.SqL.of hp) (L2.dw_ints _)⟩
#print axioms PySem.Challenge.cw_truckfill_s07_min_capacity_holds
