import PyProof.Rows.All
import Wide.All
import OpenK.AllK
import Wide.FinOn
import PyProof.EqAt
import PyProof.EqKinds
import PyProof.TupleCall
import Open.SpecLaws
import KE.OsHead
import KE.OsGo
import HandS.ForSpec
import HandS.Comp
import HandS.Conv
import HandS.SortRule
import PySem.Challenge.RW_truckfill_s04_lower_bounds
set_option Elab.async false
set_option linter.all false
set_option maxRecDepth 100000
set_option maxHeartbeats 4000000
namespace TF
open Kbe6 (toInts validLengths canonicalAssignments truckCount loadOf sumOf isFeasible minimalAssignment)

theorem sumOf_acc : ∀ (l : List Nat) (z : Nat), l.foldl (· + ·) z = z + sumOf l
  | [], z => by simp [sumOf]
  | x :: r, z => by
    have e1 := sumOf_acc r (z + x)
    have e2 := sumOf_acc r (0 + x)
    unfold sumOf at *
    rw [List.foldl_cons, List.foldl_cons, e1, e2]
    omega
theorem sumOf_cons (x : Nat) (r : List Nat) : sumOf (x :: r) = x + sumOf r := by
  have e := sumOf_acc r (0 + x)
  show List.foldl (· + ·) (0 + x) r = _
  rw [e]
  omega
theorem sumOf_nil : sumOf [] = 0 := rfl
theorem sum_toInts : ∀ l : List Nat, (toInts l).sum = ((sumOf l : Nat) : Int)
  | [] => rfl
  | x :: r => by
    have ih := sum_toInts r
    show ((x : Int) :: toInts r).sum = _
    rw [List.sum_cons, ih, sumOf_cons]
    omega
theorem foldl_max : ∀ (l : List Nat) (z : Nat), l.foldl max z = max z (l.foldl max 0)
  | [], z => by simp
  | x :: r, z => by
    rw [List.foldl_cons, List.foldl_cons, foldl_max r (max z x), foldl_max r (max 0 x)]
    omega
theorem truckCount_cons (t : Nat) (a : List Nat) : truckCount (t :: a) = max (t + 1) (truckCount a) := by
  cases a with
  | nil => simp [truckCount]
  | cons x r =>
    show (t :: x :: r).foldl max 0 + 1 = max (t + 1) ((x :: r).foldl max 0 + 1)
    rw [List.foldl_cons, foldl_max (x :: r) (max 0 t)]
    omega
theorem truckCount_nil : truckCount [] = 0 := rfl
theorem loadOf_cons (n : Nat) (ls : List Nat) (t : Nat) (a : List Nat) (k : Nat) : loadOf (n :: ls) (t :: a) k = (if t = k then n else 0) + loadOf ls a k := by
  unfold loadOf
  rw [List.zip_cons_cons, List.filterMap_cons]
  by_cases h : t = k
  · simp [h, sumOf_cons]
  · simp [h]
theorem loadOf_nil_right (ls : List Nat) (k : Nat) : loadOf ls [] k = 0 := by
  unfold loadOf
  simp [sumOf]
theorem loadOf_nil_left (a : List Nat) (k : Nat) : loadOf [] a k = 0 := by
  unfold loadOf
  simp [sumOf]

/-! ### rows -/
abbrev TRow : Type := List Nat × List Nat
def withPallet (ld : List Nat) (t n : Nat) : List Nat := if t = ld.length then ld ++ [n] else ld.set t (ld.getD t 0 + n)
def addAll : List Nat → List Nat → List Nat → List Nat
  | ld, [], _ => ld
  | ld, _ :: _, [] => ld
  | ld, n :: r, t :: a => addAll (withPallet ld t n) r a
def rowTry (c : Nat) (r : TRow) (n t : Nat) : Option TRow :=
  if (withPallet r.2 t n).getD t 0 ≤ c then some (r.1 ++ [t], withPallet r.2 t n) else none
def rowsBehind (c : Nat) (r : TRow) (n : Nat) : List TRow := (List.range (r.2.length + 1)).filterMap (rowTry c r n)
def allRows (c : Nat) (rows : List TRow) (ls : List Nat) : List TRow :=
  ls.foldl (fun rows n => rows.flatMap fun r => rowsBehind c r n) rows
def better {α : Type} (m : α → Nat) (best : Option α) (x : α) : Option α := match best with
  | none => some x
  | some p => if m x < m p then some x else some p
def bestOf (rows : List TRow) : Option TRow := rows.foldl (better fun r => r.2.length) none

theorem withPallet_len (ld : List Nat) (t n : Nat) : (withPallet ld t n).length = if t = ld.length then ld.length + 1 else ld.length := by
  unfold withPallet
  split <;> simp
theorem withPallet_getD (ld : List Nat) (t n k : Nat) (h : t ≤ ld.length) : (withPallet ld t n).getD k 0 = ld.getD k 0 + if t = k then n else 0 := by
  unfold withPallet
  by_cases e : t = ld.length
  · rw [if_pos e, e]
    by_cases hk : k < ld.length
    · have : ¬ ld.length = k := by omega
      simp [List.getD_eq_getElem?_getD, List.getElem?_append_left hk, this]
    · by_cases hk2 : ld.length = k
      · subst hk2
        simp [List.getD_eq_getElem?_getD]
      · have h3 : ld.length + 1 ≤ k := by omega
        simp [List.getD_eq_getElem?_getD, hk2, List.getElem?_eq_none (show (ld ++ [n]).length ≤ k by simp; omega), List.getElem?_eq_none (show ld.length ≤ k by omega)]
  · rw [if_neg e]
    have ht : t < ld.length := by omega
    by_cases hk : t = k
    · subst hk
      simp [List.getD_eq_getElem?_getD, ht]
    · simp [List.getD_eq_getElem?_getD, hk]
theorem withPallet_ge (ld : List Nat) (t n k : Nat) : ld.getD k 0 ≤ (withPallet ld t n).getD k 0 := by
  by_cases h : t ≤ ld.length
  · rw [withPallet_getD ld t n k h]
    omega
  · unfold withPallet
    rw [if_neg (by omega), List.set_eq_of_length_le (by omega)]
    exact Nat.le_refl _
theorem addAll_ge : ∀ (ls a ld : List Nat) (k : Nat), ld.getD k 0 ≤ (addAll ld ls a).getD k 0
  | [], _, _, _ => by unfold addAll; exact Nat.le_refl _
  | _ :: _, [], _, _ => by unfold addAll; exact Nat.le_refl _
  | n :: r, t :: a, ld, k => by
    have h1 := withPallet_ge ld t n k
    have h2 := addAll_ge r a (withPallet ld t n) k
    show _ ≤ (addAll (withPallet ld t n) r a).getD k 0
    omega
theorem all_iff_getD (c : Nat) (l : List Nat) : l.all (fun x => decide (x ≤ c)) = true ↔ ∀ k, l.getD k 0 ≤ c := by
  rw [List.all_eq_true]
  constructor
  · intro h k
    by_cases hk : k < l.length
    · have := h l[k] (List.getElem_mem hk)
      simp [List.getD_eq_getElem?_getD, hk]
      simpa using this
    · simp [List.getD_eq_getElem?_getD, List.getElem?_eq_none (show l.length ≤ k by omega)]
  · intro h x hx
    obtain ⟨k, hk, e⟩ := List.getElem_of_mem hx
    have := h k
    simp [List.getD_eq_getElem?_getD, hk, e] at this
    simpa using this

theorem allRows_flat (c : Nat) : ∀ (ls : List Nat) (rows : List TRow), allRows c rows ls = rows.flatMap fun r => allRows c [r] ls
  | [], rows => by
    show rows = rows.flatMap fun r => [r]
    simp
  | n :: ls, rows => by
    show allRows c (rows.flatMap fun r => rowsBehind c r n) ls = rows.flatMap fun r => allRows c ([r].flatMap fun r => rowsBehind c r n) ls
    rw [allRows_flat c ls, List.flatMap_assoc]
    congr 1
    funext r
    rw [List.flatMap_singleton, ← allRows_flat c ls]
def onSome {β γ : Type} (g : β → List γ) : Option β → List γ
  | none => []
  | some y => g y
theorem flatMap_filterMap {α β γ : Type} (f : α → Option β) (g : β → List γ) : ∀ l : List α, (l.filterMap f).flatMap g = l.flatMap fun x => onSome g (f x)
  | [] => rfl
  | x :: r => by
    have ih := flatMap_filterMap f g r
    rw [List.filterMap_cons, List.flatMap_cons]
    cases e : f x with
    | none => simpa [onSome] using ih
    | some y => simp [ih, onSome]
theorem flatMap_congr {α β : Type} {f g : α → List β} : ∀ {l : List α}, (∀ x ∈ l, f x = g x) → l.flatMap f = l.flatMap g
  | [], _ => rfl
  | x :: r, h => by
    rw [List.flatMap_cons, List.flatMap_cons, h x (List.mem_cons_self ..), flatMap_congr fun y hy => h y (List.mem_cons_of_mem _ hy)]
theorem allRows_cons (c : Nat) (r : TRow) (n : Nat) (ls : List Nat) : allRows c [r] (n :: ls) = (List.range (r.2.length + 1)).flatMap fun t => onSome (fun y => allRows c [y] ls) (rowTry c r n t) := by
  show allRows c ([r].flatMap fun r => rowsBehind c r n) ls = _
  rw [List.flatMap_singleton, allRows_flat]
  exact flatMap_filterMap _ _ _
theorem ext_eq (c : Nat) : ∀ (ls asg ld : List Nat), (∀ k, ld.getD k 0 ≤ c) → allRows c [(asg, ld)] ls = ((canonicalAssignments ls.length ld.length).filter fun a => (addAll ld ls a).all fun x => decide (x ≤ c)).map fun a => (asg ++ a, addAll ld ls a)
  | [], asg, ld, h => by
    show [(asg, ld)] = (List.filter _ [[]]).map _
    rw [List.filter_cons, if_pos (by
      show (ld.all fun x => decide (x ≤ c)) = true
      exact (all_iff_getD c ld).mpr h)]
    show _ = [(asg ++ [], ld)]
    simp
  | n :: ls, asg, ld, h => by
    rw [allRows_cons]
    show _ = (List.filter _ ((List.range (ld.length + 1)).flatMap _)).map _
    rw [List.filter_flatMap, List.map_flatMap]
    refine flatMap_congr fun t ht => ?_
    have ht' : t ≤ ld.length := by
      have h0 : t < ld.length + 1 := List.mem_range.mp ht
      omega
    unfold rowTry
    by_cases hc : (withPallet ld t n).getD t 0 ≤ c
    · rw [if_pos hc]
      show allRows c [(asg ++ [t], withPallet ld t n)] ls = _
      rw [ext_eq c ls (asg ++ [t]) (withPallet ld t n) ?_]
      · rw [withPallet_len, List.filter_map, List.map_map]
        have e1 : ((fun a => (addAll ld (n :: ls) a).all fun x => decide (x ≤ c)) ∘ fun assignment => t :: assignment) = (fun a => (addAll (withPallet ld t n) ls a).all fun x => decide (x ≤ c)) := rfl
        rw [e1]
        refine List.map_congr_left fun a _ => ?_
        show (asg ++ [t] ++ a, addAll (withPallet ld t n) ls a) = (asg ++ t :: a, addAll (withPallet ld t n) ls a)
        simp
      · intro k
        by_cases hk : t = k
        · rw [← hk]
          exact hc
        · rw [withPallet_getD ld t n k ht', if_neg hk]
          exact h k
    · rw [if_neg hc]
      show [] = _
      symm
      rw [List.map_eq_nil_iff, List.filter_eq_nil_iff]
      intro a ha hall
      obtain ⟨b, _, rfl⟩ := List.mem_map.mp ha
      have h1 := (all_iff_getD c _).mp hall t
      have h2 := addAll_ge ls b (withPallet ld t n) t
      have h3 : addAll ld (n :: ls) (t :: b) = addAll (withPallet ld t n) ls b := rfl
      rw [h3] at h1
      omega

def Canon : Nat → List Nat → Prop
  | _, [] => True
  | u, t :: a => t ≤ u ∧ Canon (if t = u then u + 1 else u) a
theorem canon_mem : ∀ (n u : Nat) (a : List Nat), a ∈ canonicalAssignments n u → Canon u a ∧ a.length = n
  | 0, u, a, h => by
    have e : a = [] := by simpa [canonicalAssignments] using h
    subst e
    exact ⟨trivial, rfl⟩
  | n + 1, u, a, h => by
    unfold canonicalAssignments at h
    obtain ⟨t, ht, hm⟩ := List.mem_flatMap.mp h
    obtain ⟨b, hb, rfl⟩ := List.mem_map.mp hm
    obtain ⟨h1, h2⟩ := canon_mem n _ b hb
    have := List.mem_range.mp ht
    exact ⟨⟨by omega, h1⟩, by rw [List.length_cons, h2]⟩
theorem addAll_spec : ∀ (ls a ld : List Nat), Canon ld.length a → a.length = ls.length →
    (addAll ld ls a).length = max ld.length (truckCount a) ∧ ∀ k, (addAll ld ls a).getD k 0 = ld.getD k 0 + loadOf ls a k
  | [], a, ld, _, hl => by
    have e : a = [] := List.eq_nil_of_length_eq_zero hl
    subst e
    unfold addAll
    exact ⟨by simp [truckCount_nil], fun k => by rw [loadOf_nil_left]; omega⟩
  | n :: ls, [], ld, _, hl => by simp at hl
  | n :: ls, t :: a, ld, hc, hl => by
    obtain ⟨ht, hc2⟩ := hc
    have hw := withPallet_len ld t n
    rw [← hw] at hc2
    obtain ⟨i1, i2⟩ := addAll_spec ls a (withPallet ld t n) hc2 (by simpa using hl)
    show (addAll (withPallet ld t n) ls a).length = _ ∧ ∀ k, (addAll (withPallet ld t n) ls a).getD k 0 = _
    refine ⟨?_, fun k => ?_⟩
    · rw [i1, hw, truckCount_cons]
      by_cases e : t = ld.length
      · rw [if_pos e]
        omega
      · rw [if_neg e]
        omega
    · rw [i2 k, withPallet_getD ld t n k ht, loadOf_cons]
      omega
theorem feas_eq (c : Nat) (ls a : List Nat) (hc : Canon 0 a) (hl : a.length = ls.length) : ((addAll [] ls a).all fun x => decide (x ≤ c)) = isFeasible c ls a := by
  obtain ⟨h1, h2⟩ := addAll_spec ls a [] hc hl
  rw [Bool.eq_iff_iff, all_iff_getD]
  unfold isFeasible
  rw [List.all_eq_true]
  constructor
  · intro h t _
    have := h t
    rw [h2 t] at this
    simpa using this
  · intro h k
    by_cases hk : k < truckCount a
    · have := h k (List.mem_range.mpr hk)
      rw [h2 k]
      simpa using this
    · rw [List.getD_eq_getElem?_getD, List.getElem?_eq_none (by rw [h1]; simp; omega)]
      exact Nat.zero_le _
theorem allRows_eq (c : Nat) (ls : List Nat) : allRows c [([], [])] ls = ((canonicalAssignments ls.length 0).filter (isFeasible c ls)).map fun a => (a, addAll [] ls a) := by
  rw [ext_eq c ls [] [] (fun k => by simp)]
  have e : ∀ l : List (List Nat), (∀ a ∈ l, Canon 0 a ∧ a.length = ls.length) → (l.filter fun a => (addAll [] ls a).all fun x => decide (x ≤ c)) = l.filter (isFeasible c ls) := fun l hl => List.filter_congr fun a ha => feas_eq c ls a (hl a ha).1 (hl a ha).2
  show (List.filter _ (canonicalAssignments ls.length 0)).map _ = _
  rw [e _ (fun a ha => canon_mem _ _ a ha)]
  rfl
theorem fold_better {α β : Type} (m : α → Nat) (m' : β → Nat) (g : α → β) : ∀ (L : List α) (b : Option α), (∀ a ∈ L, m' (g a) = m a) → (∀ a, b = some a → m' (g a) = m a) →
    (L.map g).foldl (better m') (b.map g) = (L.foldl (better m) b).map g ∧ ∀ a, L.foldl (better m) b = some a → m' (g a) = m a
  | [], b, _, hb => ⟨rfl, hb⟩
  | x :: r, b, hL, hb => by
    have hx := hL x (List.mem_cons_self ..)
    have e : better m' (b.map g) (g x) = (better m b x).map g := by
      cases b with
      | none => rfl
      | some p =>
        have hp := hb p rfl
        show (if m' (g x) < m' (g p) then some (g x) else some (g p)) = (if m x < m p then some x else some p).map g
        rw [hx, hp]
        split <;> rfl
    rw [List.map_cons, List.foldl_cons, List.foldl_cons, e]
    refine fold_better m m' g r _ (fun a ha => hL a (List.mem_cons_of_mem _ ha)) fun a ha => ?_
    cases b with
    | none =>
      cases ha
      exact hx
    | some p =>
      have ha' : (if m x < m p then some x else some p) = some a := ha
      by_cases h : m x < m p
      · rw [if_pos h] at ha'
        cases ha'
        exact hx
      · rw [if_neg h] at ha'
        cases ha'
        exact hb _ rfl
theorem minimal_fold (c : Nat) (ls : List Nat) : minimalAssignment c ls = ((canonicalAssignments ls.length 0).filter (isFeasible c ls)).foldl (better truckCount) none := by
  unfold minimalAssignment
  congr 1
  funext b x
  cases b <;> rfl
theorem best_eq (c : Nat) (ls : List Nat) : bestOf (allRows c [([], [])] ls) = (minimalAssignment c ls).map (fun a => (a, addAll [] ls a)) ∧
    ∀ a, minimalAssignment c ls = some a → (addAll [] ls a).length = truckCount a := by
  rw [allRows_eq, minimal_fold]
  have hm : ∀ a ∈ (canonicalAssignments ls.length 0).filter (isFeasible c ls), (addAll [] ls a).length = truckCount a := fun a ha => by
    obtain ⟨h1, h2⟩ := canon_mem _ _ a (List.mem_filter.mp ha).1
    obtain ⟨h3, _⟩ := addAll_spec ls a [] h1 h2
    rw [h3]
    simp
  exact fold_better truckCount (fun r : TRow => r.2.length) (fun a => (a, addAll [] ls a)) _ none hm (fun a h => by cases h)
theorem better_some {α : Type} (m : α → Nat) (b : Option α) (x : α) : ∃ y, better m b x = some y := by
  cases b with
  | none => exact ⟨x, rfl⟩
  | some p =>
    by_cases h : m x < m p
    · exact ⟨x, if_pos h⟩
    · exact ⟨p, if_neg h⟩
theorem fold_some {α : Type} (m : α → Nat) : ∀ (L : List α) (b : Option α), (b ≠ none ∨ L ≠ []) → ∃ y, L.foldl (better m) b = some y
  | [], b, h => by
    cases b with
    | none => simp at h
    | some y => exact ⟨y, rfl⟩
  | x :: r, b, _ => by
    obtain ⟨y, hy⟩ := better_some m b x
    rw [List.foldl_cons, hy]
    exact fold_some m r _ (.inl (by simp))
theorem rowsBehind_ne (c : Nat) (r : TRow) (n : Nat) (h : n ≤ c) : rowsBehind c r n ≠ [] := by
  intro e
  unfold rowsBehind at e
  have h1 := List.filterMap_eq_nil_iff.mp e r.2.length (List.mem_range.mpr (by omega))
  unfold rowTry at h1
  rw [if_pos] at h1
  · cases h1
  · rw [withPallet_getD _ _ _ _ (Nat.le_refl _), if_pos rfl, List.getD_eq_getElem?_getD, List.getElem?_eq_none (Nat.le_refl _)]
    simpa using h
theorem allRows_ne (c : Nat) : ∀ (ls : List Nat) (rows : List TRow), (∀ n ∈ ls, n ≤ c) → rows ≠ [] → allRows c rows ls ≠ []
  | [], rows, _, h => h
  | n :: ls, rows, hl, h => by
    refine allRows_ne c ls _ (fun m hm => hl m (List.mem_cons_of_mem _ hm)) ?_
    intro e
    obtain ⟨r, rest, rfl⟩ := List.exists_cons_of_ne_nil h
    have := List.flatMap_eq_nil_iff.mp e r (List.mem_cons_self ..)
    exact rowsBehind_ne c r n (hl n (List.mem_cons_self ..)) this
theorem allRows_nil (c : Nat) : ∀ ls : List Nat, allRows c [] ls = []
  | [] => rfl
  | _ :: ls => allRows_nil c ls
theorem rowsBehind_big (c : Nat) (r : TRow) (n : Nat) (h : c < n) : rowsBehind c r n = [] := by
  unfold rowsBehind
  rw [List.filterMap_eq_nil_iff]
  intro t ht
  have ht' : t ≤ r.2.length := by
    have := List.mem_range.mp ht
    omega
  unfold rowTry
  rw [if_neg]
  rw [withPallet_getD _ _ _ _ ht', if_pos rfl]
  omega
theorem allRows_big (c : Nat) : ∀ (ls : List Nat) (rows : List TRow), (∃ n ∈ ls, c < n) → allRows c rows ls = []
  | [], _, h => by
    obtain ⟨n, hn, _⟩ := h
    cases hn
  | m :: ls, rows, h => by
    show allRows c (rows.flatMap fun r => rowsBehind c r m) ls = []
    by_cases hm : c < m
    · have e : (rows.flatMap fun r => rowsBehind c r m) = [] := List.flatMap_eq_nil_iff.mpr fun r _ => rowsBehind_big c r m hm
      rw [e]
      exact allRows_nil c ls
    · refine allRows_big c ls _ ?_
      obtain ⟨n, hn, hb⟩ := h
      rcases List.mem_cons.mp hn with e | hn
      · subst e
        exact absurd hb hm
      · exact ⟨n, hn, hb⟩
/-- how many rows there are at most -/
theorem rowsBehind_len (c : Nat) (r : TRow) (n : Nat) : (rowsBehind c r n).length ≤ r.2.length + 1 := by
  unfold rowsBehind
  refine Nat.le_trans (List.length_filterMap_le ..) ?_
  simp
theorem rowsBehind_loads (c : Nat) (r : TRow) (n : Nat) : ∀ y ∈ rowsBehind c r n, y.2.length ≤ r.2.length + 1 ∧ y.1.length = r.1.length + 1 := fun y hy => by
  unfold rowsBehind at hy
  obtain ⟨t, _, ht⟩ := List.mem_filterMap.mp hy
  unfold rowTry at ht
  by_cases h : (withPallet r.2 t n).getD t 0 ≤ c
  · rw [if_pos h] at ht
    cases ht
    show (withPallet r.2 t n).length ≤ _ ∧ (r.1 ++ [t]).length = _
    rw [withPallet_len]
    refine ⟨?_, by simp⟩
    split <;> omega
  · rw [if_neg h] at ht
    cases ht
end TF

namespace TF
open Kbe6 (toInts firstFitFrom firstFit decreasingOrder firstFitDecreasing truckCount loadOf sumOf)

/-! ### first fit -/
def firstTruck (c : Nat) (ld : List Nat) (n : Nat) : Nat := (ld.findIdx? fun u => decide (u + n ≤ c)).getD ld.length
theorem firstTruck_le (c : Nat) (ld : List Nat) (n : Nat) : firstTruck c ld n ≤ ld.length := by
  unfold firstTruck
  cases e : ld.findIdx? fun u => decide (u + n ≤ c) with
  | none => exact Nat.le_refl _
  | some t =>
    obtain ⟨h, _⟩ := List.findIdx?_eq_some_iff_getElem.mp e
    exact Nat.le_of_lt h
/-- the search: found at t, or at the end -/
theorem firstTruck_found (c : Nat) (ld : List Nat) (n t : Nat) (ht : t < ld.length) (hf : ld.getD t 0 + n ≤ c) (hb : ∀ k, k < t → ¬ ld.getD k 0 + n ≤ c) : firstTruck c ld n = t := by
  unfold firstTruck
  have e : (ld.findIdx? fun u => decide (u + n ≤ c)) = some t := by
    rw [List.findIdx?_eq_some_iff_getElem]
    refine ⟨ht, ?_, fun j hj => ?_⟩
    · simp [List.getD_eq_getElem?_getD, ht] at hf
      simpa using hf
    · have := hb j hj
      have hj' : j < ld.length := by omega
      simp [List.getD_eq_getElem?_getD, hj'] at this
      simpa using this
  rw [e]
  rfl
theorem firstTruck_none (c : Nat) (ld : List Nat) (n : Nat) (hb : ∀ k, k < ld.length → ¬ ld.getD k 0 + n ≤ c) : firstTruck c ld n = ld.length := by
  unfold firstTruck
  have e : (ld.findIdx? fun u => decide (u + n ≤ c)) = none := by
    rw [List.findIdx?_eq_none_iff]
    intro x hx
    obtain ⟨k, hk, e⟩ := List.getElem_of_mem hx
    have := hb k hk
    simp [List.getD_eq_getElem?_getD, hk, e] at this
    simpa using this
  rw [e]
  rfl
theorem firstFitFrom_cons (c : Nat) (ld : List Nat) (n : Nat) (r : List Nat) : firstFitFrom c ld (n :: r) = firstTruck c ld n :: firstFitFrom c (withPallet ld (firstTruck c ld n) n) r := by
  unfold firstTruck
  rw [firstFitFrom]
  cases e : ld.findIdx? fun u => decide (u + n ≤ c) with
  | none =>
    show ld.length :: firstFitFrom c (ld ++ [n]) r = ld.length :: firstFitFrom c (withPallet ld ld.length n) r
    unfold withPallet
    rw [if_pos rfl]
  | some t =>
    obtain ⟨h, _⟩ := List.findIdx?_eq_some_iff_getElem.mp e
    show t :: firstFitFrom c (ld.set t (ld.getD t 0 + n)) r = t :: firstFitFrom c (withPallet ld t n) r
    unfold withPallet
    rw [if_neg (by omega)]
/-- the loop of first_fit_in: loads and trucks -/
def fitStep (c : Nat) (ls : List Nat) (s : List Nat × List Nat) (p : Nat) : List Nat × List Nat :=
  (withPallet s.1 (firstTruck c s.1 (ls.getD p 0)) (ls.getD p 0), s.2.set p (firstTruck c s.1 (ls.getD p 0)))
def fitIn (c : Nat) (ls order : List Nat) : List Nat × List Nat := order.foldl (fitStep c ls) ([], ls.map fun _ => 0)
theorem fit_len (c : Nat) (ls : List Nat) : ∀ (o : List Nat) (s : List Nat × List Nat), (o.foldl (fitStep c ls) s).2.length = s.2.length ∧ (o.foldl (fitStep c ls) s).1.length ≤ s.1.length + o.length
  | [], s => ⟨rfl, Nat.le_refl _⟩
  | p :: o, s => by
    obtain ⟨h1, h2⟩ := fit_len c ls o (fitStep c ls s p)
    rw [List.foldl_cons]
    have e1 : (fitStep c ls s p).2.length = s.2.length := List.length_set
    have e2 : (fitStep c ls s p).1.length ≤ s.1.length + 1 := by
      show (withPallet _ _ _).length ≤ _
      rw [withPallet_len]
      split <;> omega
    refine ⟨by rw [h1, e1], ?_⟩
    rw [List.length_cons]
    omega
theorem fit_out (c : Nat) (ls : List Nat) : ∀ (o : List Nat) (s : List Nat × List Nat) (p : Nat), p ∉ o → (o.foldl (fitStep c ls) s).2[p]? = s.2[p]?
  | [], s, p, _ => rfl
  | q :: o, s, p, h => by
    rw [List.foldl_cons, fit_out c ls o _ p (fun m => h (List.mem_cons_of_mem _ m))]
    show (s.2.set q _)[p]? = _
    rw [List.getElem?_set_ne]
    intro e
    exact h (by rw [← e]; exact List.mem_cons_self ..)
theorem fit_at (c : Nat) (ls : List Nat) : ∀ (o : List Nat) (s : List Nat × List Nat) (j p : Nat), o.Nodup → (∀ q ∈ o, q < s.2.length) → o[j]? = some p →
    (o.foldl (fitStep c ls) s).2[p]? = (firstFitFrom c s.1 (o.map fun q => ls.getD q 0))[j]?
  | [], s, j, p, _, _, h => by simp at h
  | q :: o, s, j, p, hn, hb, h => by
    obtain ⟨n1, n2⟩ := List.nodup_cons.mp hn
    rw [List.foldl_cons, List.map_cons, firstFitFrom_cons]
    cases j with
    | zero =>
      have e : q = p := Option.some.inj h
      subst e
      rw [fit_out c ls o _ q n1]
      show (s.2.set q _)[q]? = _
      rw [List.getElem?_set_self (hb q (List.mem_cons_self ..))]
      rfl
    | succ j =>
      rw [List.getElem?_cons_succ]
      refine fit_at c ls o (fitStep c ls s q) j p n2 (fun r hr => ?_) h
      show r < (s.2.set q _).length
      rw [List.length_set]
      exact hb r (List.mem_cons_of_mem _ hr)
theorem firstFitFrom_len (c : Nat) : ∀ (l ld : List Nat), (firstFitFrom c ld l).length = l.length
  | [], ld => by rw [firstFitFrom]
  | n :: r, ld => by rw [firstFitFrom_cons, List.length_cons, firstFitFrom_len c r, List.length_cons]
theorem fitIn_len (c : Nat) (ls o : List Nat) : (fitIn c ls o).2.length = ls.length := by
  unfold fitIn
  rw [(fit_len c ls o _).1]
  simp
theorem range_getD (ls : List Nat) : ((List.range ls.length).map fun q => ls.getD q 0) = ls := by
  refine List.ext_getElem? fun i => ?_
  rw [List.getElem?_map]
  by_cases h : i < ls.length
  · simp [h]
  · simp [List.getElem?_eq_none (show ls.length ≤ i by omega), List.getElem?_eq_none (show (List.range ls.length).length ≤ i by simp; omega)]
theorem fit_first (c : Nat) (ls : List Nat) : (fitIn c ls (List.range ls.length)).2 = firstFit c ls := by
  refine List.ext_getElem? fun i => ?_
  unfold firstFit
  by_cases h : i < ls.length
  · unfold fitIn
    rw [fit_at c ls (List.range ls.length) _ i i List.nodup_range (fun q hq => by simpa using hq) (by simp [h])]
    show (firstFitFrom c [] ((List.range ls.length).map fun q => ls.getD q 0))[i]? = _
    rw [range_getD]
  · rw [List.getElem?_eq_none (by rw [fitIn_len]; omega), List.getElem?_eq_none (by rw [firstFitFrom_len]; omega)]
theorem findIdx_beq {l : List Nat} (hn : l.Nodup) {j p : Nat} (h : l[j]? = some p) : l.findIdx? (· == p) = some j := by
  obtain ⟨hj, e⟩ := List.getElem?_eq_some_iff.mp h
  rw [List.findIdx?_eq_some_iff_getElem]
  refine ⟨hj, by simp [e], fun k hk => ?_⟩
  intro hh
  have hk' : k < l.length := by omega
  have e2 : l[k] = p := by simpa using hh
  exact (List.pairwise_iff_getElem.mp hn) k j hk' hj hk (by rw [e, e2])
theorem fit_decreasing (c : Nat) (ls : List Nat) (hp : (decreasingOrder ls).Perm (List.range ls.length)) : (fitIn c ls (decreasingOrder ls)).2 = firstFitDecreasing c ls := by
  have hn : (decreasingOrder ls).Nodup := hp.nodup_iff.mpr List.nodup_range
  unfold firstFitDecreasing
  refine List.ext_getElem? fun i => ?_
  by_cases h : i < ls.length
  · have hm : i ∈ decreasingOrder ls := hp.mem_iff.mpr (List.mem_range.mpr h)
    obtain ⟨j, hj⟩ := List.getElem?_of_mem hm
    show (fitIn c ls (decreasingOrder ls)).2[i]? = ((List.range ls.length).map fun index => (firstFit c ((decreasingOrder ls).map fun index => ls.getD index 0)).getD (((decreasingOrder ls).findIdx? (· == index)).getD 0) 0)[i]?
    rw [List.getElem?_map, List.getElem?_range h]
    show _ = some ((firstFit c ((decreasingOrder ls).map fun index => ls.getD index 0)).getD (((decreasingOrder ls).findIdx? (· == i)).getD 0) 0)
    rw [findIdx_beq hn hj]
    unfold fitIn
    rw [fit_at c ls (decreasingOrder ls) _ j i hn (fun q hq => by simpa using hp.mem_iff.mp hq) hj]
    have hjl : j < (firstFitFrom c [] ((decreasingOrder ls).map fun index => ls.getD index 0)).length := by
      rw [firstFitFrom_len, List.length_map]
      exact (List.getElem?_eq_some_iff.mp hj).1
    show (firstFitFrom c [] _)[j]? = some ((firstFitFrom c [] _).getD j 0)
    rw [List.getD_eq_getElem?_getD, List.getElem?_eq_getElem hjl]
    rfl
  · rw [List.getElem?_eq_none (by rw [fitIn_len]; omega), List.getElem?_eq_none (by simp; omega)]

/-! ### the falling order -/
/-- p stands ahead of q -/
def Ahead (ls : List Nat) (p q : Nat) : Prop := ls.getD q 0 < ls.getD p 0 ∨ (ls.getD p 0 = ls.getD q 0 ∧ p < q)
theorem Ahead.asymm {ls : List Nat} {p q : Nat} (h : Ahead ls p q) (h2 : Ahead ls q p) : False := by
  unfold Ahead at *
  omega
theorem perm_split {α : Type} (f g : α → Bool) (hfg : ∀ x, g x = !f x) (a : α) : ∀ l : List α, (l.filter f ++ a :: l.filter g).Perm (a :: l) := fun l => by
  have e : l.filter g = l.filter fun x => !f x := List.filter_congr fun x _ => hfg x
  rw [e]
  exact List.perm_middle.trans (List.Perm.cons a (List.filter_append_perm f l))
theorem order_step (ls : List Nat) (s : List Nat) (i : Nat) (hs : s.Pairwise (Ahead ls)) (hp : s.Perm (List.range i)) :
    ((s.filter fun o => decide (ls.getD i 0 ≤ ls.getD o 0)) ++ i :: s.filter fun o => decide (ls.getD o 0 < ls.getD i 0)).Pairwise (Ahead ls) ∧
    ((s.filter fun o => decide (ls.getD i 0 ≤ ls.getD o 0)) ++ i :: s.filter fun o => decide (ls.getD o 0 < ls.getD i 0)).Perm (List.range (i + 1)) := by
  have hlt : ∀ o ∈ s, o < i := fun o ho => List.mem_range.mp (hp.mem_iff.mp ho)
  constructor
  · rw [List.pairwise_append]
    refine ⟨hs.filter _, List.pairwise_cons.mpr ⟨fun o ho => ?_, hs.filter _⟩, fun o ho q hq => ?_⟩
    · have := (List.mem_filter.mp ho).2
      have : ls.getD o 0 < ls.getD i 0 := by simpa using this
      exact .inl this
    · obtain ⟨ho1, ho2⟩ := List.mem_filter.mp ho
      have ho2 : ls.getD i 0 ≤ ls.getD o 0 := by simpa using ho2
      have := hlt o ho1
      unfold Ahead
      rcases List.mem_cons.mp hq with e | hq
      · subst e
        omega
      · have hq2 := (List.mem_filter.mp hq).2
        have hq2 : ls.getD q 0 < ls.getD i 0 := by simpa using hq2
        omega
  · refine (perm_split _ _ (fun x => ?_) i s).trans ?_
    · by_cases h : ls.getD i 0 ≤ ls.getD x 0
      · rw [decide_eq_true h, decide_eq_false (by omega)]
        rfl
      · rw [decide_eq_false h, decide_eq_true (by omega)]
        rfl
    · rw [List.range_succ]
      exact (List.Perm.cons i hp).trans (List.perm_append_singleton i _).symm
theorem order_spec (ls : List Nat) : ∀ n, ((List.range n).foldl (fun sorted index =>
    (sorted.filter fun other => decide (ls.getD index 0 ≤ ls.getD other 0)) ++
    index :: sorted.filter fun other => decide (ls.getD other 0 < ls.getD index 0)) []).Pairwise (Ahead ls) ∧
    ((List.range n).foldl (fun sorted index =>
    (sorted.filter fun other => decide (ls.getD index 0 ≤ ls.getD other 0)) ++
    index :: sorted.filter fun other => decide (ls.getD other 0 < ls.getD index 0)) []).Perm (List.range n)
  | 0 => ⟨List.Pairwise.nil, List.Perm.nil⟩
  | n + 1 => by
    obtain ⟨h1, h2⟩ := order_spec ls n
    rw [List.range_succ, List.foldl_append, ← List.range_succ]
    exact order_step ls _ n h1 h2
theorem order_ok (ls : List Nat) : (decreasingOrder ls).Pairwise (Ahead ls) ∧ (decreasingOrder ls).Perm (List.range ls.length) := order_spec ls ls.length
theorem sorted_unique {α : Type} {R : α → α → Prop} (as : ∀ a b, R a b → R b a → False) : ∀ (l m : List α), l.Perm m → l.Pairwise R → m.Pairwise R → l = m
  | [], m, h, _, _ => (List.nil_perm.mp h).symm
  | a :: l, [], h, _, _ => absurd h (by simp)
  | a :: l, b :: m, h, hl, hm => by
    obtain ⟨a1, a2⟩ := List.pairwise_cons.mp hl
    obtain ⟨b1, b2⟩ := List.pairwise_cons.mp hm
    have e : a = b := by
      rcases List.mem_cons.mp (h.mem_iff.mp (List.mem_cons_self ..) : a ∈ b :: m) with e | hb
      · exact e
      · rcases List.mem_cons.mp (h.mem_iff.mpr (List.mem_cons_self ..) : b ∈ a :: l) with e | ha
        · exact e.symm
        · exact (as a b (a1 b ha) (b1 a hb)).elim
    subst e
    rw [sorted_unique as l m ((List.perm_cons a).mp h) a2 b2]
theorem order_unique (ls : List Nat) (o : List Nat) (h1 : o.Perm (List.range ls.length)) (h2 : o.Pairwise (Ahead ls)) : o = decreasingOrder ls :=
  sorted_unique (R := Ahead ls) (fun _ _ h h2 => h.asymm h2) _ _ (h1.trans (order_ok ls).2.symm) h2 (order_ok ls).1
end TF

namespace TF
open Kbe6 (toInts validLengths canonicalAssignments truckCount loadOf sumOf isFeasible minimalAssignment requireCapacity Response thresholdBound bestBound lengthBound firstFit firstFitDecreasing encodeAssignment)

/-! ### what is refused -/
def loadRef (c : Nat) (ls : List Nat) : List Int :=
  if validLengths ls = true ∧ 1 ≤ c ∧ c ≤ 100 then (if ls.all (fun l => decide (l ≤ c)) = true then [] else [-33]) else [-22]
theorem ints_nats {l : List Int} (h : ∀ x ∈ l, 0 ≤ x) : ∃ m : List Nat, l = toInts m := by
  refine ⟨l.map Int.toNat, ?_⟩
  unfold toInts
  rw [List.map_map]
  conv => lhs; rw [← List.map_id l]
  exact List.map_congr_left fun x hx => (Int.toNat_of_nonneg (h x hx)).symm
theorem nats_ints (m : List Nat) : Kbe6Neutral.toNats (toInts m) = m := by
  unfold Kbe6Neutral.toNats toInts
  rw [List.map_map]
  conv => rhs; rw [← List.map_id m]
  exact List.map_congr_left fun x _ => rfl
theorem any_all (c : Nat) (ls : List Nat) : ls.any (fun l => decide (c < l)) = !(ls.all fun l => decide (l ≤ c)) := by
  rw [List.not_all_eq_any_not]
  congr 1
  funext l
  by_cases h : l ≤ c
  · rw [decide_eq_true h, decide_eq_false (by omega)]
    rfl
  · rw [decide_eq_false h, decide_eq_true (by omega)]
    rfl
theorem require_eq (c : Nat) (ls : List Nat) (r : Response) : (requireCapacity c ls r).head :: (requireCapacity c ls r).tail = if loadRef c ls = [] then r.head :: r.tail else loadRef c ls := by
  unfold requireCapacity loadRef
  rw [any_all]
  cases h1 : validLengths ls with
  | false => rfl
  | true =>
    by_cases h2 : 1 ≤ c ∧ c ≤ 100
    · rw [if_neg (by
        rintro (h | h | h)
        · cases h
        · omega
        · omega), if_pos (show true = true ∧ 1 ≤ c ∧ c ≤ 100 from ⟨rfl, h2⟩)]
      cases h3 : ls.all fun l => decide (l ≤ c) with
      | true => rfl
      | false => rfl
    · rw [if_pos (show true = false ∨ c = 0 ∨ 100 < c from by omega), if_neg (show ¬ (true = true ∧ 1 ≤ c ∧ c ≤ 100) from fun h => h2 h.2)]
      rfl
theorem loadRef_nil {c : Nat} {ls : List Nat} (h : loadRef c ls = []) : ls.length ≤ 7 ∧ 1 ≤ c ∧ c ≤ 100 ∧ (∀ l ∈ ls, l ≤ c) ∧ validLengths ls = true := by
  unfold loadRef at h
  by_cases h1 : validLengths ls = true ∧ 1 ≤ c ∧ c ≤ 100
  · rw [if_pos h1] at h
    by_cases h2 : ls.all (fun l => decide (l ≤ c)) = true
    · refine ⟨?_, h1.2.1, h1.2.2, fun l hl => by simpa using List.all_eq_true.mp h2 l hl, h1.1⟩
      have := h1.1
      unfold validLengths at this
      rw [Bool.and_eq_true] at this
      simpa using this.1
    · rw [if_neg h2] at h
      cases h
  · rw [if_neg h1] at h
    cases h
/-! ### what is due -/
theorem due_first_fit (c : Nat) (ls : List Nat) : PyKbe6.first_fit (c : Int) (toInts ls) = if loadRef c ls = [] then (truckCount (firstFit c ls) : Int) :: toInts (firstFit c ls) else loadRef c ls := by
  show (requireCapacity c (Kbe6Neutral.toNats (toInts ls)) (encodeAssignment (firstFit c (Kbe6Neutral.toNats (toInts ls))))).head :: (requireCapacity c (Kbe6Neutral.toNats (toInts ls)) (encodeAssignment (firstFit c (Kbe6Neutral.toNats (toInts ls))))).tail = _
  rw [require_eq, nats_ints]
  rfl
theorem due_first_fit_decreasing (c : Nat) (ls : List Nat) : PyKbe6.first_fit_decreasing (c : Int) (toInts ls) = if loadRef c ls = [] then (truckCount (firstFitDecreasing c ls) : Int) :: toInts (firstFitDecreasing c ls) else loadRef c ls := by
  show (requireCapacity c (Kbe6Neutral.toNats (toInts ls)) (encodeAssignment (firstFitDecreasing c (Kbe6Neutral.toNats (toInts ls))))).head :: (requireCapacity c (Kbe6Neutral.toNats (toInts ls)) (encodeAssignment (firstFitDecreasing c (Kbe6Neutral.toNats (toInts ls))))).tail = _
  rw [require_eq, nats_ints]
  rfl
theorem due_minimal (c : Nat) (ls : List Nat) {r : TRow} (hr : bestOf (allRows c [([], [])] ls) = some r) : PyKbe6.minimal_assignment (c : Int) (toInts ls) = if loadRef c ls = [] then (r.2.length : Int) :: toInts r.1 else loadRef c ls := by
  obtain ⟨h1, h2⟩ := best_eq c ls
  rw [hr] at h1
  cases hm : minimalAssignment c ls with
  | none =>
    rw [hm] at h1
    cases h1
  | some a =>
    rw [hm] at h1
    have e : r = (a, addAll [] ls a) := Option.some.inj h1
    subst e
    have h3 := h2 a hm
    show (requireCapacity c (Kbe6Neutral.toNats (toInts ls)) (match minimalAssignment c (Kbe6Neutral.toNats (toInts ls)) with | some assignment => encodeAssignment assignment | none => Kbe6.single Kbe6.noSolution)).head :: (requireCapacity c (Kbe6Neutral.toNats (toInts ls)) (match minimalAssignment c (Kbe6Neutral.toNats (toInts ls)) with | some assignment => encodeAssignment assignment | none => Kbe6.single Kbe6.noSolution)).tail = _
    rw [require_eq, nats_ints, hm]
    show (if loadRef c ls = [] then (truckCount a : Int) :: toInts a else loadRef c ls) = if loadRef c ls = [] then (((addAll [] ls a).length : Nat) : Int) :: toInts a else loadRef c ls
    rw [h3]
theorem best_some (c : Nat) (ls : List Nat) (h : ∀ l ∈ ls, l ≤ c) : ∃ r, bestOf (allRows c [([], [])] ls) = some r :=
  fold_some _ _ _ (.inr (allRows_ne c ls _ h (by simp)))
theorem due_lower (c : Nat) (ls : List Nat) : PyKbe6.lower_bounds (c : Int) (toInts ls) = if loadRef c ls = [] then [(lengthBound c ls : Int), (bestBound c ls : Int)] else loadRef c ls := by
  show (requireCapacity c (Kbe6Neutral.toNats (toInts ls)) ⟨(lengthBound c (Kbe6Neutral.toNats (toInts ls)) : Nat), [(bestBound c (Kbe6Neutral.toNats (toInts ls)) : Int)]⟩).head :: (requireCapacity c (Kbe6Neutral.toNats (toInts ls)) ⟨(lengthBound c (Kbe6Neutral.toNats (toInts ls)) : Nat), [(bestBound c (Kbe6Neutral.toNats (toInts ls)) : Int)]⟩).tail = _
  rw [require_eq, nats_ints]
theorem due_threshold (c t : Nat) (ls : List Nat) : PyKbe6.threshold_bound (c : Int) (t : Int) (toInts ls) = if loadRef c ls = [] then (if c < 2 * t then [-2] else [(thresholdBound c ls t : Int)]) else loadRef c ls := by
  show (requireCapacity c (Kbe6Neutral.toNats (toInts ls)) (if c < 2 * t then Kbe6.single Kbe6.notFound else Kbe6.single (thresholdBound c (Kbe6Neutral.toNats (toInts ls)) t : Nat))).head :: (requireCapacity c (Kbe6Neutral.toNats (toInts ls)) (if c < 2 * t then Kbe6.single Kbe6.notFound else Kbe6.single (thresholdBound c (Kbe6Neutral.toNats (toInts ls)) t : Nat))).tail = _
  rw [require_eq, nats_ints]
  by_cases h : c < 2 * t
  · rw [if_pos h, if_pos h]
    rfl
  · rw [if_neg h, if_neg h]
    rfl
theorem due_feasible (c : Nat) (ls as : List Nat) : PyKbe6.is_feasible (c : Int) (toInts ls) (toInts as) =
    if loadRef c ls = [] then (if as.length = ls.length ∧ as.all (fun t => decide (t ≤ 99)) = true then [if isFeasible c ls as = true then 1 else 0] else [-22]) else loadRef c ls := by
  show (requireCapacity c (Kbe6Neutral.toNats (toInts ls)) (if (Kbe6Neutral.toNats (toInts as)).length ≠ (Kbe6Neutral.toNats (toInts ls)).length ∨ ((Kbe6Neutral.toNats (toInts as)).any fun truck => decide (99 < truck)) = true then Kbe6.single Kbe6.invalidArgument else Kbe6.single (if isFeasible c (Kbe6Neutral.toNats (toInts ls)) (Kbe6Neutral.toNats (toInts as)) then 1 else 0))).head :: (requireCapacity c (Kbe6Neutral.toNats (toInts ls)) (if (Kbe6Neutral.toNats (toInts as)).length ≠ (Kbe6Neutral.toNats (toInts ls)).length ∨ ((Kbe6Neutral.toNats (toInts as)).any fun truck => decide (99 < truck)) = true then Kbe6.single Kbe6.invalidArgument else Kbe6.single (if isFeasible c (Kbe6Neutral.toNats (toInts ls)) (Kbe6Neutral.toNats (toInts as)) then 1 else 0))).tail = _
  rw [require_eq, nats_ints, nats_ints, any_all 99 as]
  by_cases h : as.length = ls.length ∧ as.all (fun t => decide (t ≤ 99)) = true
  · rw [if_pos h, if_neg (show ¬ (as.length ≠ ls.length ∨ (!(as.all fun t => decide (t ≤ 99))) = true) by
      rintro (h1 | h1)
      · exact h1 h.1
      · rw [h.2] at h1
        cases h1)]
    rfl
  · rw [if_neg h, if_pos (show as.length ≠ ls.length ∨ (!(as.all fun t => decide (t ≤ 99))) = true by
      by_cases h1 : as.length = ls.length
      · right
        cases h2 : as.all fun t => decide (t ≤ 99) with
        | false => rfl
        | true => exact (h ⟨h1, h2⟩).elim
      · exact .inl h1)]
    rfl
/-! ### min_capacity -/
def fitsAt (limit : Nat) (ls : List Nat) (c : Nat) : Bool := match bestOf (allRows c [([], [])] ls) with
  | some r => decide (r.2.length ≤ limit)
  | none => false
def leastCap (limit : Nat) (ls : List Nat) : Option Nat := ((List.range 100).map (· + 1)).find? (fitsAt limit ls)
theorem fitsAt_eq (limit : Nat) (ls : List Nat) (c : Nat) : ((ls.all fun length => decide (length ≤ c)) && (match minimalAssignment c ls with | some assignment => decide (truckCount assignment ≤ limit) | none => false)) = fitsAt limit ls c := by
  obtain ⟨h1, h2⟩ := best_eq c ls
  unfold fitsAt
  rw [h1]
  cases hm : minimalAssignment c ls with
  | none => simp
  | some a =>
    rw [hm] at h1
    have h3 := h2 a hm
    show _ = decide ((addAll [] ls a).length ≤ limit)
    rw [h3]
    have h4 : (ls.all fun length => decide (length ≤ c)) = true := by
      rw [List.all_eq_true]
      intro n hn
      refine decide_eq_true ?_
      by_cases hc : n ≤ c
      · exact hc
      · rw [allRows_big c ls _ ⟨n, hn, by omega⟩] at h1
        cases h1
    rw [h4]
    rfl
def minResp (limit : Nat) (ls : List Nat) : Response :=
  if validLengths ls = false then Kbe6.single Kbe6.invalidArgument
  else match ((List.range 100).map (· + 1)).find? fun capacity => (ls.all fun length => decide (length ≤ capacity)) && (match minimalAssignment capacity ls with | some assignment => decide (truckCount assignment ≤ limit) | none => false) with
    | some capacity => Kbe6.single (capacity : Nat)
    | none => Kbe6.single Kbe6.noSolution
theorem due_min_capacity (limit : Nat) (ls : List Nat) : PyKbe6.min_capacity (limit : Int) (toInts ls) =
    if validLengths ls = true then (match leastCap limit ls with | some c => [(c : Int)] | none => [-33]) else [-22] := by
  have e : PyKbe6.min_capacity (limit : Int) (toInts ls) = (minResp limit (Kbe6Neutral.toNats (toInts ls))).head :: (minResp limit (Kbe6Neutral.toNats (toInts ls))).tail := rfl
  rw [e, nats_ints]
  have e2 : (fun capacity => (ls.all fun length => decide (length ≤ capacity)) && (match minimalAssignment capacity ls with | some assignment => decide (truckCount assignment ≤ limit) | none => false)) = fitsAt limit ls := by
    funext c
    exact fitsAt_eq limit ls c
  unfold minResp
  rw [e2]
  cases hv : validLengths ls with
  | false => rfl
  | true =>
    rw [if_neg (show ¬ true = false by decide), if_pos (show true = true from rfl)]
    unfold leastCap
    cases List.find? (fitsAt limit ls) ((List.range 100).map (· + 1)) with
    | none => rfl
    | some c => rfl
/-! ### bounds -/
def roundedUp (n c : Nat) : Nat := (n + c - 1) / c
def largeOnes (c t : Nat) (ls : List Nat) : List Nat := ls.filter fun l => decide (c < l + t)
def mediumOnes (c t : Nat) (ls : List Nat) : List Nat := ls.filter fun l => decide (l + t ≤ c) && decide (c < 2 * l)
def smallOnes (c t : Nat) (ls : List Nat) : List Nat := ls.filter fun l => decide (t ≤ l) && decide (2 * l ≤ c)
theorem rounded_int (n c : Nat) (hc : 1 ≤ c) : ((n : Int) + (c : Int) - 1).fdiv (c : Int) = ((roundedUp n c : Nat) : Int) := by
  have e : ((n : Int) + (c : Int) - 1) = ((n + c - 1 : Nat) : Int) := by omega
  rw [e, Int.fdiv_eq_ediv_of_nonneg _ (by omega)]
  rfl
theorem small_eq (c t : Nat) (ls : List Nat) : smallOnes c t ls = ls.filter fun length => decide (2 * length ≤ c) && decide (t ≤ length) := by
  unfold smallOnes
  congr 1
  funext l
  exact Bool.and_comm _ _
theorem bound_eq (c t : Nat) (ls : List Nat) (hc : 1 ≤ c) : thresholdBound c ls t = (largeOnes c t ls).length + (mediumOnes c t ls).length + roundedUp (sumOf (smallOnes c t ls) - ((mediumOnes c t ls).length * c - sumOf (mediumOnes c t ls))) c := by
  rw [small_eq]
  unfold thresholdBound
  show _ + (if c = 0 then 0 else _) = _
  rw [if_neg (by omega)]
  rfl
theorem sum_le (c : Nat) : ∀ l : List Nat, (∀ x ∈ l, x ≤ c) → sumOf l ≤ l.length * c
  | [], _ => by simp [sumOf]
  | x :: r, h => by
    have ih := sum_le c r fun y hy => h y (List.mem_cons_of_mem _ hy)
    have hx := h x (List.mem_cons_self ..)
    rw [sumOf_cons, List.length_cons, Nat.succ_mul]
    omega
theorem length_bound_eq (c : Nat) (ls : List Nat) (hc : 1 ≤ c) : lengthBound c ls = roundedUp (sumOf ls) c := by
  unfold lengthBound
  rw [if_neg (by omega)]
  rfl
theorem foldl_max_map (f : Nat → Nat) : ∀ (l : List Nat) (z : Nat), l.foldl (fun b t => max b (f t)) z = (l.map f).foldl max z
  | [], _ => rfl
  | x :: r, z => foldl_max_map f r (max z (f x))
theorem best_bound_eq (c : Nat) (ls : List Nat) : bestBound c ls = ((List.range (c / 2 + 1)).map (thresholdBound c ls)).foldl max 0 := by
  unfold bestBound
  exact foldl_max_map _ _ _
theorem max_is : ∀ (l : List Nat) (m : Nat), m ∈ l → (∀ x ∈ l, x ≤ m) → l.foldl max 0 = m
  | [], m, h, _ => by cases h
  | x :: r, m, h, hle => by
    rw [List.foldl_cons, foldl_max]
    have hx := hle x (List.mem_cons_self ..)
    by_cases hr : m ∈ r
    · rw [max_is r m hr fun y hy => hle y (List.mem_cons_of_mem _ hy)]
      omega
    · have e : m = x := by
        rcases List.mem_cons.mp h with e | h
        · exact e
        · exact (hr h).elim
      have h3 : r.foldl max 0 ≤ m := by
        clear hr h
        have key : ∀ l : List Nat, (∀ y ∈ l, y ≤ m) → l.foldl max 0 ≤ m := by
          intro l
          induction l with
          | nil => intro _; exact Nat.zero_le _
          | cons y s ih =>
            intro hl
            rw [List.foldl_cons, foldl_max]
            have := ih fun z hz => hl z (List.mem_cons_of_mem _ hz)
            have := hl y (List.mem_cons_self ..)
            omega
        exact key r fun y hy => hle y (List.mem_cons_of_mem _ hy)
      omega
theorem max_is_int (l : List Nat) (m : Int) (h : m ∈ toInts l) (hle : ∀ x ∈ toInts l, x ≤ m) : m = ((l.foldl max 0 : Nat) : Int) := by
  obtain ⟨n, hn, e⟩ := List.mem_map.mp h
  have e : m = (n : Int) := e.symm
  subst e
  rw [max_is l n hn fun x hx => by
    have := hle (x : Int) (List.mem_map.mpr ⟨x, hx, rfl⟩)
    omega]
/-- count_trucks -/
theorem count_is (a : List Nat) : (0 :: a.map (· + 1)).foldl max 0 = truckCount a := by
  rw [List.foldl_cons]
  have key : ∀ l : List Nat, (l.map (· + 1)).foldl max 0 = truckCount l := by
    intro l
    induction l with
    | nil => rfl
    | cons x r ih =>
      rw [List.map_cons, List.foldl_cons, foldl_max, ih, truckCount_cons]
      omega
  exact key a
theorem count_le (n : Nat) : ∀ a : List Nat, (∀ x ∈ a, x ≤ n) → truckCount a ≤ n + 1
  | [], _ => by simp [truckCount]
  | x :: r, h => by
    rw [truckCount_cons]
    have := count_le n r fun y hy => h y (List.mem_cons_of_mem _ hy)
    have := h x (List.mem_cons_self ..)
    omega
/-- load_of by places -/
theorem load_is : ∀ (ls a : List Nat) (k : Nat), a.length = ls.length →
    loadOf ls a k = sumOf (((List.range ls.length).filter fun p => decide (a.getD p 0 = k)).map fun p => ls.getD p 0)
  | [], a, k, _ => by rw [loadOf_nil_left]; rfl
  | n :: ls, [], k, h => by simp at h
  | n :: ls, t :: a, k, h => by
    rw [loadOf_cons, load_is ls a k (by simpa using h)]
    rw [List.length_cons, List.range_succ_eq_map, List.filter_cons, List.filter_map]
    have e : ((fun p => decide ((t :: a).getD p 0 = k)) ∘ Nat.succ) = fun p => decide (a.getD p 0 = k) := by
      funext p
      simp
    rw [e]
    by_cases h0 : t = k
    · rw [if_pos h0, if_pos (by simpa using h0), List.map_cons, sumOf_cons, List.map_map]
      rfl
    · rw [if_neg h0, if_neg (by simpa using h0), List.map_map]
      simp [Function.comp_def]
end TF

/-! ### short words over the hand layer -/
namespace TW
open PySem PySem.Spec PyProof.Rows L2
open Kbe6 (toInts)
abbrev iv (l : List Nat) : List V := (toInts l).map V.int
theorem iv_eq (l : List Nat) : iv l = l.map fun n : Nat => V.int (n : Int) := by
  unfold iv Kbe6.toInts
  rw [List.map_map]
  rfl
theorem iv_len (l : List Nat) : (iv l).length = l.length := by rw [iv_eq, List.length_map]
theorem iv_get {l : List Nat} {i n : Nat} (h : l[i]? = some n) : (iv l)[i]? = some (V.int (n : Int)) := by
  rw [iv_eq, List.getElem?_map, h]
  rfl
theorem iv_at {l : List Nat} {i : Nat} {x : V} (h : (iv l)[i]? = some x) : ∃ n, l[i]? = some n ∧ x = V.int (n : Int) := by
  rw [iv_eq, List.getElem?_map] at h
  cases e : l[i]? with
  | none =>
    rw [e] at h
    cases h
  | some n =>
    rw [e] at h
    exact ⟨n, rfl, (Option.some.inj h).symm⟩
theorem iv_app (l m : List Nat) : iv (l ++ m) = iv l ++ iv m := by rw [iv_eq, iv_eq, iv_eq, List.map_append]
theorem iv_one (n : Nat) : iv [n] = [V.int (n : Int)] := rfl
theorem iv_set (l : List Nat) (i n : Nat) : iv (l.set i n) = (iv l).set i (V.int (n : Int)) := by rw [iv_eq, iv_eq, List.map_set]
theorem iv_take (l : List Nat) (i : Nat) : iv (l.take i) = (iv l).take i := by rw [iv_eq, iv_eq, List.map_take]
theorem iv_drop (l : List Nat) (i : Nat) : iv (l.drop i) = (iv l).drop i := by rw [iv_eq, iv_eq, List.map_drop]
theorem take_snoc {α : Type} {l : List α} {i : Nat} {x : α} (h : l[i]? = some x) : l.take (i + 1) = l.take i ++ [x] := by
  rw [List.take_add_one, h]
  rfl
theorem snoc_eq {xs : List V} {y z : V} (h : y = z) : xs ++ [y] = xs ++ [z] := by rw [h]
theorem same_upd {H : Hp} {p : Addr} {o : HO} (h : H p = none) : Same H (upd H p o) := fun b x e => by
  rw [upd_ne (ne_of_none e h)]
  exact e
theorem small {n : Nat} (m : Nat) (h : n ≤ m) (hm : m < sizeLine := by decide) : n < sizeLine := Nat.lt_of_le_of_lt h hm
theorem small_le {n : Nat} (m : Nat) (h : n ≤ m) (hm : m < sizeLine := by decide) : n ≤ sizeLine := Nat.le_of_lt (small m h hm)
/-- since H a new list stands at D, nothing else was turned -/
structure Made (H : Hp) (D : Addr) (xs : List V) (H' : Hp) : Prop where
  same : Same H H'
  new : H D = none
  at_ : H' D = some (.lst xs)
theorem Made.start {H : Hp} {D : Addr} {xs : List V} (h : H D = none) : Made H D xs (upd H D (.lst xs)) := ⟨same_upd h, h, upd_same⟩
theorem Made.go {H H1 H2 : Hp} {D : Addr} {xs : List V} (m : Made H D xs H1) (s : Same H1 H2) : Made H D xs H2 := ⟨m.same.trans s, m.new, s _ _ m.at_⟩
theorem Made.put {H H1 : Hp} {D : Addr} {xs : List V} (ys : List V) (m : Made H D xs H1) : Made H D ys (upd H1 D (.lst ys)) :=
  ⟨fun b o e => by
    rw [upd_ne (ne_of_none e m.new)]
    exact m.same b o e, m.new, upd_same⟩
/-- a turn of a comprehension that appends -/
theorem Made.turn {H H1 : Hp} {D : Addr} {xs ys : List V} {y : V} (m : Made H D xs H1) (hl : xs.length < sizeLine) (e : ys = xs ++ [y]) :
    ∃ acc, H1 D = some (.lst acc) ∧ acc.length < sizeLine ∧ Made H D ys (upd H1 D (.lst (acc ++ [y]))) := ⟨xs, m.at_, hl, by rw [e]; exact m.put _⟩
theorem seqL {K : PySem.W.Frag} {H : Hp} {a : Addr} {xs : List V} (h : H a = some (.lst xs)) : SqL K H a xs := SqL.of h
theorem ix_listK {X : Cx} {K : PySem.W.Frag} (h : X.K = K := by rfl) : IxR X (rIxL K) := by
  subst h
  exact ix_list
/-- a def of the text that may be called -/
structure Callee (P : Program) (w : World) (K : PySem.W.Frag) (mg : Str → Option Value) (base : Heap) (k : Nat) (x : Str) (ps : List Str) (sp : Sp) : Prop where
  ex : ∃ (f : Addr) (fd : FuncData), FnOk P w K mg base CX0 k f fd ps sp ∧ mg x = some (.ref f) ∧ PySem.W.keepIn K (.ref f) = true ∧ Binds K fd ps []
/-- a written whole number of the text -/
def Num (mg : Str → Option Value) (x : Str) (n : Int) : Prop := ∃ t, mg x = some (.int n t)
end TW
namespace TW
open PySem PySem.Spec PyProof.Rows L2
def topS (i : Nat) : Stmt := PySem.Challenge.pw_truckfill_s04_lower_bounds.main.body.getD i (.Pass ⟨0, 0, 0, 0⟩)
abbrev sRound : Stmt := topS 1
abbrev sLarge : Stmt := topS 2
abbrev sMedium : Stmt := topS 3
abbrev sSmall : Stmt := topS 4
abbrev sBoundAt : Stmt := topS 5
abbrev sLenBound : Stmt := topS 6
abbrev sBest : Stmt := topS 7
abbrev sWithin : Stmt := topS 14
abbrev sAre : Stmt := topS 15
abbrev sLoad : Stmt := topS 16
abbrev sMain : Stmt := topS 18
end TW

/-! ### checks -/
namespace TW
open PySem PySem.Spec PyProof.Rows L2 TF
open Kbe6 (toInts validLengths)
section
variable {P : Program} {w : World} {K : PySem.W.Frag} {mg : Str → Option Value} {base : Heap}
def spWithin : Sp := fun vs H Q _ => ∃ n lo hi : Int, vs = [.int n, .int lo, .int hi] ∧ Q (.bl (decide (lo ≤ n) && decide (n ≤ hi))) H
theorem scWithin : FnScope ["number", "low", "high"] ["number", "low", "high"] (defScope sWithin) := ⟨rfl, rfl, rfl, by decide +kernel, rfl, by decide +kernel, by decide +kernel⟩
theorem ok_within {f : Addr} {fd : FuncData} (F : Fun K "is_within" "is_within" sWithin f fd) : FnOk P w K mg base CX0 1 f fd ["number", "low", "high"] spWithin := by
  refine F.ok scWithin (fun vs H Q E h => ?_) (fun cdv A outer s H vs Q E hr h => ?_)
  · obtain ⟨n, lo, hi, rfl, _⟩ := h
    rfl
  · obtain ⟨n, lo, hi, rfl, k⟩ := h
    refine ⟨_, pss_one (ps_ret (pe_chain op_le op_le (pv 1) (pv 0) (pv 2))), ?_⟩
    refine ⟨_, rfl, _, rfl, _, _, rfl, rfl, _, rfl, ite2 (fun e => ?_) (fun e => ?_)⟩
    · refine ⟨_, rfl, _, _, rfl, rfl, ?_⟩
      rw [e, Bool.true_and] at k
      exact k
    · rw [Bool.eq_false_iff.mpr e, Bool.false_and] at k
      exact k
def okLen (n : Nat) : Bool := decide (1 ≤ n) && decide (n ≤ 100)
theorem valid_all (ls : List Nat) : validLengths ls = (decide (ls.length ≤ 7) && (ls.map okLen).all id) := by
  unfold validLengths
  rw [List.all_map]
  rfl
theorem okLen_int (n : Nat) : (decide ((1 : Int) ≤ (n : Int)) && decide ((n : Int) ≤ 100)) = okLen n := by
  unfold okLen
  congr 1
  · exact decide_eq_decide.mpr (by omega)
  · exact decide_eq_decide.mpr (by omega)
def spAre (K : PySem.W.Frag) : Sp := fun vs H Q _ => ∃ (a : Addr) (ls : List Nat), vs = [.ref a] ∧ SqL K H a (iv ls) ∧ ls.length ≤ 12 ∧ ∀ H', Same H H' → Q (.bl (validLengths ls)) H'
theorem scAre : FnScope ["lengths", "length"] ["lengths"] (defScope sAre) := ⟨rfl, rfl, rfl, by decide +kernel, rfl, by decide +kernel, by decide +kernel⟩
theorem ok_are {f : Addr} {fd : FuncData} (F : Fun K "are_lengths" "are_lengths" sAre f fd) (CW : Callee P w K mg base 1 "is_within" ["number", "low", "high"] spWithin) (ml : mg "len" = none) (ma : mg "all" = none)
    (nP : Num mg "MAX_PALLETS" 7) (nL : Num mg "MAX_LENGTH" 100) : FnOk P w K mg base CX0 2 f fd ["lengths"] (spAre K) := by
  obtain ⟨fW, fdW, GW, gW, kW, bW⟩ := CW.ex
  obtain ⟨tP, cP⟩ := nP
  obtain ⟨tL, cL⟩ := nL
  refine F.ok scAre (fun vs H Q E h => ?_) (fun cdv A outer s H vs Q E hr h => ?_)
  · obtain ⟨a, ls, rfl, _⟩ := h
    rfl
  · obtain ⟨a, ls, rfl, hS, hlen, k⟩ := h
    refine ⟨_, pss_one (ps_ret (pe_and (pe_cmpR op_le (pe_callB call_len_seq (by rfl) ml PySem.boot_len (pa_cons (pv 0) pa_nil)) (pe_glob (v := .int 7) rfl cP ⟨_, rfl⟩) (nomark _))
      (pe_one (pe_callB (cr_all rfl) (by rfl) ma (by decide +kernel) (pa_cons
        (pe_lc (own := [("length", 1)]) (g := gName 1) (tt := tYes) rfl scAre.nd (pi_list (pv 0)) (blkOk_by (own := [("length", 1)]) (N := ["lengths", "length"]) (sc := defScope sAre) (by decide +kernel))
          (fun _ _ _ _ _ => pg_name (i := 1) scAre.nd rfl (Or.inl rfl)) (fun _ _ _ _ _ => pts_nil)
          (fun _ _ _ _ _ => pe_call GW hr (by rfl) gW kW bW .nil pass0 (pa_cons (pv 1) (pa_cons pe_int (pa_cons (pe_glob (v := .int 100) rfl cL ⟨_, rfl⟩) pa_nil))))) pa_nil))))), ?_⟩
    refine ⟨.ref a, rfl, a, iv ls, rfl, .inl hS, _, _, rfl, rfl, _, rfl, ite2 (fun e => ?_) (fun e => ?_)⟩
    · refine ⟨.ref a, rfl, a, rfl, ⟨_, hS⟩, fun D hD => lc_list (K := K) (a := a) (xs := iv ls) (fun i H' => Made H D ((ls.take i).map fun n => V.bl (okLen n)) H') (Made.start hD) (fun i H' _ m => m.same.seq hS) ?_ ?_⟩
      · intro i x H' hx m
        obtain ⟨n, hn, rfl⟩ := iv_at hx
        refine ⟨rfl, V.int (n : Int), rfl, (n : Int), 1, 100, rfl, ?_⟩
        refine m.turn (small 12 (by rw [List.length_map, List.length_take]; omega)) ?_
        rw [take_snoc hn, List.map_append, okLen_int]
        rfl
      · intro H' m
        have e1 : decide (ls.length ≤ 7) = true := by
          rw [iv_len] at e
          have := of_decide_eq_true e
          exact decide_eq_true (by omega)
        refine ⟨D, ls.map okLen, rfl, SqL.of ?_, ?_⟩
        · rw [m.at_, iv_len, List.take_length, List.map_map]
          rfl
        · have q := k H' m.same
          rw [valid_all, e1, Bool.true_and] at q
          exact q
    · have e1 : decide (ls.length ≤ 7) = false := by
        rw [iv_len] at e
        refine decide_eq_false fun z => e (decide_eq_true ?_)
        omega
      have q := k H (Same.refl H)
      rw [valid_all, e1, Bool.false_and] at q
      exact q
def spLoad (K : PySem.W.Frag) : Sp := fun vs H Q _ => ∃ (c : Nat) (a : Addr) (ls : List Nat), vs = [.int (c : Int), .ref a] ∧ SqL K H a (iv ls) ∧ ls.length ≤ 12 ∧
  ∀ H' p, Same H H' → H p = none → H' p = some (.lst ((loadRef c ls).map V.int)) → Q (.ref p) H'
theorem scLoad : FnScope ["capacity", "lengths", "length"] ["capacity", "lengths"] (defScope sLoad) := ⟨rfl, rfl, rfl, by decide +kernel, rfl, by decide +kernel, by decide +kernel⟩
theorem ok_load {f : Addr} {fd : FuncData} (F : Fun K "load_refusal" "load_refusal" sLoad f fd) (CW : Callee P w K mg base 1 "is_within" ["number", "low", "high"] spWithin) (CA : Callee P w K mg base 2 "are_lengths" ["lengths"] (spAre K)) (ma : mg "all" = none)
    (nC : Num mg "MAX_CAPACITY" 100) (nO : Num mg "OUT_OF_RANGE" (-22)) (nI : Num mg "IMPOSSIBLE" (-33)) : FnOk P w K mg base CX0 3 f fd ["capacity", "lengths"] (spLoad K) := by
  obtain ⟨fW, fdW, GW, gW, kW, bW⟩ := CW.ex
  obtain ⟨fA, fdA, GA, gA, kA, bA⟩ := CA.ex
  obtain ⟨tC, cC⟩ := nC
  obtain ⟨tO, cO⟩ := nO
  obtain ⟨tI, cI⟩ := nI
  refine F.ok scLoad (fun vs H Q E h => ?_) (fun cdv A outer s H vs Q E hr h => ?_)
  · obtain ⟨c, a, ls, rfl, _⟩ := h
    rfl
  · obtain ⟨c, a, ls, rfl, hS, hlen, k⟩ := h
    have hr1 : Room 1 _ := hr.mono (by decide)
    refine ⟨_, pss_cons (ps_if (PW.pt (pw_or (pt_not (pt_val (pe_call GA hr (by rfl) gA kA bA .nil pass0 (pa_cons (pv 1) pa_nil))))
        (pw_or1 (pt_not (pt_val (pe_call GW hr1 (by rfl) gW kW bW .nil pass0 (pa_cons (pv 0) (pa_cons pe_int (pa_cons (pe_glob (v := .int 100) rfl cC ⟨_, rfl⟩) pa_nil)))))))))
        (pss_one (ps_ret (pe_lst (pa_cons (pe_glob (v := .int (-22)) rfl cO ⟨_, rfl⟩) pa_nil)))) pss_nil)
      (pss_cons (ps_if (pt_not (pt_val (pe_callB (cr_all rfl) (by rfl) ma (by decide +kernel) (pa_cons
          (pe_lc (own := [("length", 2)]) (g := gName 2) (tt := tYes) rfl scLoad.nd (pi_list (pv 1)) (blkOk_by (own := [("length", 2)]) (N := ["capacity", "lengths", "length"]) (sc := defScope sLoad) (by decide +kernel))
            (fun _ _ _ _ _ => pg_name (i := 2) scLoad.nd rfl (Or.inl rfl)) (fun _ _ _ _ _ => pts_nil)
            (fun _ _ _ _ _ => pe_cmpR op_le (pv 2) (pv 0) (nomark _))) pa_nil))))
        (pss_one (ps_ret (pe_lst (pa_cons (pe_glob (v := .int (-33)) rfl cI ⟨_, rfl⟩) pa_nil)))) pss_nil)
      (pss_one (ps_ret (pe_lst pa_nil)))), ?_⟩
    have out : ∀ H1, Same H H1 → ¬ (validLengths ls = true ∧ 1 ≤ c ∧ c ≤ 100) → (([V.int (-22)] : List V).length ≤ sizeLine ∧ ∀ p, H1 p = none → Q (.ref p) (upd H1 p (.lst [V.int (-22)]))) := fun H1 s1 hn => by
      refine ⟨by show 1 ≤ sizeLine; decide, fun p hp => k _ p (s1.trans (same_upd hp)) (s1.free hp) ?_⟩
      rw [upd_same]
      unfold loadRef
      rw [if_neg hn]
      rfl
    refine ⟨.ref a, rfl, a, ls, rfl, hS, hlen, fun H1 s1 => ⟨_, rfl, ?_⟩⟩
    have hS1 : SqL K H1 a (iv ls) := s1.seq hS
    cases hv : validLengths ls with
    | false =>
      refine iteT (iteT ?_)
      exact out H1 s1 (by rw [hv]; rintro ⟨z, _⟩; cases z)
    | true =>
      refine iteF ⟨_, rfl, (c : Int), 1, 100, rfl, _, rfl, ?_⟩
      by_cases hc : 1 ≤ c ∧ c ≤ 100
      · have e1 : (decide ((1 : Int) ≤ (c : Int)) && decide ((c : Int) ≤ 100)) = true := by
          rw [okLen_int]
          unfold okLen
          rw [decide_eq_true hc.1, decide_eq_true hc.2]
          rfl
        rw [e1]
        refine iteF ?_
        -- all([length <= capacity for length in lengths])
        refine ⟨.ref a, rfl, a, rfl, ⟨_, hS1⟩, fun D hD => lc_list (K := K) (a := a) (xs := iv ls) (fun i H' => Made H1 D ((ls.take i).map fun n => V.bl (decide (n ≤ c))) H') (Made.start hD) (fun i H' _ m => m.same.seq hS1) ?_ ?_⟩
        · intro i x H' hx m
          obtain ⟨n, hn, rfl⟩ := iv_at hx
          refine ⟨rfl, V.int (n : Int), rfl, V.int (c : Int), rfl, (n : Int), (c : Int), rfl, rfl, ?_⟩
          refine m.turn (small 12 (by rw [List.length_map, List.length_take]; omega)) ?_
          rw [take_snoc hn, List.map_append]
          exact snoc_eq (congrArg V.bl (decide_eq_decide.mpr (by omega)))
        · intro H2 m
          refine ⟨D, ls.map fun n => decide (n ≤ c), rfl, SqL.of ?_, _, rfl, ?_⟩
          · rw [m.at_, iv_len, List.take_length, List.map_map]
            rfl
          · have e3 : ((ls.map fun n => decide (n ≤ c)).all id) = ls.all fun n => decide (n ≤ c) := by
              rw [List.all_map]
              rfl
            rw [e3]
            have s2 : Same H H2 := s1.trans m.same
            cases ha : ls.all fun n => decide (n ≤ c) with
            | false =>
              refine iteT ⟨by show 1 ≤ sizeLine; decide, fun p hp => k _ p (s2.trans (same_upd hp)) (s2.free hp) ?_⟩
              rw [upd_same]
              unfold loadRef
              rw [if_pos (show validLengths ls = true ∧ 1 ≤ c ∧ c ≤ 100 from ⟨hv, hc⟩), ha]
              rfl
            | true =>
              refine iteF ⟨Nat.zero_le _, fun p hp => k _ p (s2.trans (same_upd hp)) (s2.free hp) ?_⟩
              rw [upd_same]
              unfold loadRef
              rw [if_pos (show validLengths ls = true ∧ 1 ≤ c ∧ c ≤ 100 from ⟨hv, hc⟩), ha]
              rfl
      · have e1 : (decide ((1 : Int) ≤ (c : Int)) && decide ((c : Int) ≤ 100)) = false := by
          rw [okLen_int]
          unfold okLen
          by_cases h1 : 1 ≤ c
          · rw [decide_eq_true h1, decide_eq_false (show ¬ c ≤ 100 from fun z => hc ⟨h1, z⟩)]
            rfl
          · rw [decide_eq_false h1]
            rfl
        rw [e1]
        refine iteT ?_
        exact out H1 s1 (fun z => hc z.2)
end
end TW

/-! ### bounds -/
namespace TW
open PySem PySem.Spec PyProof.Rows L2 TF
open Kbe6 (toInts sumOf thresholdBound lengthBound bestBound)
section
variable {P : Program} {w : World} {K : PySem.W.Frag} {mg : Str → Option Value} {base : Heap}
def spRound : Sp := fun vs H Q _ => ∃ n c : Nat, vs = [.int (n : Int), .int (c : Int)] ∧ 1 ≤ c ∧ c ≤ 100 ∧ Q (.int (roundedUp n c : Nat)) H
theorem scRound : FnScope ["number", "capacity"] ["number", "capacity"] (defScope sRound) := ⟨rfl, rfl, rfl, by decide +kernel, rfl, by decide +kernel, by decide +kernel⟩
theorem ok_round {f : Addr} {fd : FuncData} (F : Fun K "rounded_up" "rounded_up" sRound f fd) : FnOk P w K mg base CX0 1 f fd ["number", "capacity"] spRound := by
  refine F.ok scRound (fun vs H Q E h => ?_) (fun cdv A outer s H vs Q E hr h => ?_)
  · obtain ⟨n, c, rfl, _⟩ := h
    rfl
  · obtain ⟨n, c, rfl, h1, h2, k⟩ := h
    refine ⟨_, pss_one (ps_ret (pe_op op_fdivN (pe_op op_sub (pe_op op_add (pv 0) (pv 1)) pe_int) (pv 1))), ?_⟩
    refine ⟨_, rfl, _, rfl, (n : Int), (c : Int), rfl, rfl, (n : Int) + (c : Int), 1, rfl, rfl, _, rfl, (n : Int) + (c : Int) - 1, (c : Int), rfl, rfl, ⟨by omega, by omega⟩, ?_⟩
    show Q (.int (((n : Int) + (c : Int) - 1).fdiv (c : Int))) H
    rw [rounded_int n c h1]
    exact k
/-- a def that picks lengths -/
def spPick (K : PySem.W.Frag) (g : Nat → Nat → List Nat → List Nat) : Sp := fun vs H Q _ => ∃ (c t : Nat) (a : Addr) (ls : List Nat), vs = [.int (c : Int), .int (t : Int), .ref a] ∧ SqL K H a (iv ls) ∧ ls.length ≤ 12 ∧
  ∀ H' p, Same H H' → H' p = some (.lst (iv (g c t ls))) → Q (.ref p) H'
theorem scLarge : FnScope ["capacity", "threshold", "lengths", "length"] ["capacity", "threshold", "lengths"] (defScope sLarge) := ⟨rfl, rfl, rfl, by decide +kernel, rfl, by decide +kernel, by decide +kernel⟩
theorem ok_large {f : Addr} {fd : FuncData} (F : Fun K "large_ones" "large_ones" sLarge f fd) : FnOk P w K mg base CX0 1 f fd ["capacity", "threshold", "lengths"] (spPick K largeOnes) := by
  refine F.ok scLarge (fun vs H Q E h => ?_) (fun cdv A outer s H vs Q E hr h => ?_)
  · obtain ⟨c, t, a, ls, rfl, _⟩ := h
    rfl
  · obtain ⟨c, t, a, ls, rfl, hS, hlen, k⟩ := h
    refine ⟨_, pss_one (ps_ret (pe_lc (own := [("length", 3)]) (g := gName 3) rfl scLarge.nd (pi_list (pv 2)) (blkOk_by (own := [("length", 3)]) (N := ["capacity", "threshold", "lengths", "length"]) (sc := defScope sLarge) (by decide +kernel))
      (fun _ _ _ _ _ => pg_name (i := 3) scLarge.nd rfl (Or.inl rfl)) (fun _ _ _ _ _ => pts_one (pt_cmpR op_gt (pv 3) (pe_op op_sub (pv 0) (pv 1)) (nomark _))) (fun _ _ _ _ _ => pv 3))), ?_⟩
    refine ⟨.ref a, rfl, a, rfl, ⟨_, hS⟩, fun D hD => lc_list (K := K) (a := a) (xs := iv ls) (fun i H' => Made H D (iv (largeOnes c t (ls.take i))) H') (Made.start hD) (fun i H' _ m => m.same.seq hS) ?_ ?_⟩
    · intro i x H' hx m
      obtain ⟨n, hn, rfl⟩ := iv_at hx
      have e0 : largeOnes c t (ls.take (i + 1)) = largeOnes c t (ls.take i) ++ largeOnes c t [n] := by
        rw [take_snoc hn]
        exact List.filter_append ..
      refine ⟨rfl, .int (n : Int), rfl, .int (c : Int), rfl, .int (t : Int), rfl, _, _, rfl, rfl, _, _, rfl, rfl, _, rfl, ite2 (fun e => ?_) (fun e => ?_)⟩
      · have e1 := of_decide_eq_true e
        have e2 : largeOnes c t [n] = [n] := List.filter_cons_of_pos (decide_eq_true (by omega))
        refine ⟨.int (n : Int), rfl, m.turn (small 12 (Nat.le_trans (by rw [iv_len]; exact List.length_filter_le ..) (by rw [List.length_take]; omega))) ?_⟩
        rw [e0, e2, iv_app]
        rfl
      · have e2 : largeOnes c t [n] = [] := List.filter_cons_of_neg (fun z => e (decide_eq_true (by have := of_decide_eq_true z; omega)))
        rw [e0, e2, List.append_nil]
        exact m
    · intro H2 m
      rw [iv_len, List.take_length] at m
      exact k H2 D m.same m.at_
theorem scMedium : FnScope ["capacity", "threshold", "lengths", "length"] ["capacity", "threshold", "lengths"] (defScope sMedium) := ⟨rfl, rfl, rfl, by decide +kernel, rfl, by decide +kernel, by decide +kernel⟩
theorem ok_medium {f : Addr} {fd : FuncData} (F : Fun K "medium_ones" "medium_ones" sMedium f fd) : FnOk P w K mg base CX0 1 f fd ["capacity", "threshold", "lengths"] (spPick K mediumOnes) := by
  refine F.ok scMedium (fun vs H Q E h => ?_) (fun cdv A outer s H vs Q E hr h => ?_)
  · obtain ⟨c, t, a, ls, rfl, _⟩ := h
    rfl
  · obtain ⟨c, t, a, ls, rfl, hS, hlen, k⟩ := h
    refine ⟨_, pss_one (ps_ret (pe_lc (own := [("length", 3)]) (g := gName 3) rfl scMedium.nd (pi_list (pv 2)) (blkOk_by (own := [("length", 3)]) (N := ["capacity", "threshold", "lengths", "length"]) (sc := defScope sMedium) (by decide +kernel))
      (fun _ _ _ _ _ => pg_name (i := 3) scMedium.nd rfl (Or.inl rfl))
      (fun _ _ _ _ _ => pts_one (PW.pt (pw_and (pt_cmpR op_le (pv 3) (pe_op op_sub (pv 0) (pv 1)) (nomark _)) (pw_and1 (pt_cmpR op_gt (pe_op op_mul pe_int (pv 3)) (pv 0) (nomark _)))))) (fun _ _ _ _ _ => pv 3))), ?_⟩
    refine ⟨.ref a, rfl, a, rfl, ⟨_, hS⟩, fun D hD => lc_list (K := K) (a := a) (xs := iv ls) (fun i H' => Made H D (iv (mediumOnes c t (ls.take i))) H') (Made.start hD) (fun i H' _ m => m.same.seq hS) ?_ ?_⟩
    · intro i x H' hx m
      obtain ⟨n, hn, rfl⟩ := iv_at hx
      have e0 : mediumOnes c t (ls.take (i + 1)) = mediumOnes c t (ls.take i) ++ mediumOnes c t [n] := by
        rw [take_snoc hn]
        exact List.filter_append ..
      have no : ¬ (n + t ≤ c ∧ c < 2 * n) → Made H D (iv (mediumOnes c t (ls.take (i + 1)))) H' := fun e => by
        have e2 : mediumOnes c t [n] = [] := List.filter_cons_of_neg (fun z => e (by
          have := Bool.and_eq_true_iff.mp z
          exact ⟨of_decide_eq_true this.1, of_decide_eq_true this.2⟩))
        rw [e0, e2, List.append_nil]
        exact m
      refine ⟨rfl, .int (n : Int), rfl, .int (c : Int), rfl, .int (t : Int), rfl, _, _, rfl, rfl, _, _, rfl, rfl, _, rfl, ite2 (fun e => ?_) (fun e => ?_)⟩
      · have e1 := of_decide_eq_true e
        refine ⟨.int (n : Int), rfl, 2, (n : Int), rfl, rfl, .inl ⟨by decide, by decide⟩, .int (c : Int), rfl, _, _, rfl, rfl, _, rfl, ite2 (fun e3 => ?_) (fun e3 => ?_)⟩
        · have e4 := of_decide_eq_true e3
          have e2 : mediumOnes c t [n] = [n] := List.filter_cons_of_pos (Bool.and_eq_true_iff.mpr ⟨decide_eq_true (by omega), decide_eq_true (by omega)⟩)
          refine ⟨.int (n : Int), rfl, m.turn (small 12 (Nat.le_trans (by rw [iv_len]; exact List.length_filter_le ..) (by rw [List.length_take]; omega))) ?_⟩
          rw [e0, e2, iv_app]
          rfl
        · exact no fun z => e3 (decide_eq_true (by omega))
      · exact iteF (no fun z => e (decide_eq_true (by omega)))
    · intro H2 m
      rw [iv_len, List.take_length] at m
      exact k H2 D m.same m.at_
theorem scSmall : FnScope ["capacity", "threshold", "lengths", "length"] ["capacity", "threshold", "lengths"] (defScope sSmall) := ⟨rfl, rfl, rfl, by decide +kernel, rfl, by decide +kernel, by decide +kernel⟩
theorem ok_small {f : Addr} {fd : FuncData} (F : Fun K "small_ones" "small_ones" sSmall f fd) : FnOk P w K mg base CX0 1 f fd ["capacity", "threshold", "lengths"] (spPick K smallOnes) := by
  refine F.ok scSmall (fun vs H Q E h => ?_) (fun cdv A outer s H vs Q E hr h => ?_)
  · obtain ⟨c, t, a, ls, rfl, _⟩ := h
    rfl
  · obtain ⟨c, t, a, ls, rfl, hS, hlen, k⟩ := h
    refine ⟨_, pss_one (ps_ret (pe_lc (own := [("length", 3)]) (g := gName 3) rfl scSmall.nd (pi_list (pv 2)) (blkOk_by (own := [("length", 3)]) (N := ["capacity", "threshold", "lengths", "length"]) (sc := defScope sSmall) (by decide +kernel))
      (fun _ _ _ _ _ => pg_name (i := 3) scSmall.nd rfl (Or.inl rfl))
      (fun _ _ _ _ _ => pts_one (PW.pt (pw_and (pt_cmpR op_le (pv 1) (pv 3) (nomark _)) (pw_and1 (pt_cmpR op_le (pe_op op_mul pe_int (pv 3)) (pv 0) (nomark _)))))) (fun _ _ _ _ _ => pv 3))), ?_⟩
    refine ⟨.ref a, rfl, a, rfl, ⟨_, hS⟩, fun D hD => lc_list (K := K) (a := a) (xs := iv ls) (fun i H' => Made H D (iv (smallOnes c t (ls.take i))) H') (Made.start hD) (fun i H' _ m => m.same.seq hS) ?_ ?_⟩
    · intro i x H' hx m
      obtain ⟨n, hn, rfl⟩ := iv_at hx
      have e0 : smallOnes c t (ls.take (i + 1)) = smallOnes c t (ls.take i) ++ smallOnes c t [n] := by
        rw [take_snoc hn]
        exact List.filter_append ..
      have no : ¬ (t ≤ n ∧ 2 * n ≤ c) → Made H D (iv (smallOnes c t (ls.take (i + 1)))) H' := fun e => by
        have e2 : smallOnes c t [n] = [] := List.filter_cons_of_neg (fun z => e (by
          have := Bool.and_eq_true_iff.mp z
          exact ⟨of_decide_eq_true this.1, of_decide_eq_true this.2⟩))
        rw [e0, e2, List.append_nil]
        exact m
      refine ⟨rfl, .int (t : Int), rfl, .int (n : Int), rfl, _, _, rfl, rfl, _, rfl, ite2 (fun e => ?_) (fun e => ?_)⟩
      · have e1 := of_decide_eq_true e
        refine ⟨.int (n : Int), rfl, 2, (n : Int), rfl, rfl, .inl ⟨by decide, by decide⟩, .int (c : Int), rfl, _, _, rfl, rfl, _, rfl, ite2 (fun e3 => ?_) (fun e3 => ?_)⟩
        · have e4 := of_decide_eq_true e3
          have e2 : smallOnes c t [n] = [n] := List.filter_cons_of_pos (Bool.and_eq_true_iff.mpr ⟨decide_eq_true (by omega), decide_eq_true (by omega)⟩)
          refine ⟨.int (n : Int), rfl, m.turn (small 12 (Nat.le_trans (by rw [iv_len]; exact List.length_filter_le ..) (by rw [List.length_take]; omega))) ?_⟩
          rw [e0, e2, iv_app]
          rfl
        · exact no fun z => e3 (decide_eq_true (by omega))
      · exact iteF (no fun z => e (decide_eq_true (by omega)))
    · intro H2 m
      rw [iv_len, List.take_length] at m
      exact k H2 D m.same m.at_
def spBoundAt (K : PySem.W.Frag) : Sp := fun vs H Q _ => ∃ (c t : Nat) (a : Addr) (ls : List Nat), vs = [.int (c : Int), .int (t : Int), .ref a] ∧ SqL K H a (iv ls) ∧ ls.length ≤ 12 ∧ 1 ≤ c ∧ c ≤ 100 ∧ (∀ l ∈ ls, l ≤ c) ∧
  ∀ H', Same H H' → Q (.int (thresholdBound c ls t : Nat)) H'
theorem scBoundAt : FnScope ["capacity", "threshold", "lengths", "large", "medium", "small", "space"] ["capacity", "threshold", "lengths"] (defScope sBoundAt) := ⟨rfl, rfl, rfl, by decide +kernel, rfl, by decide +kernel, by decide +kernel⟩
theorem ok_boundAt {f : Addr} {fd : FuncData} (F : Fun K "bound_at" "bound_at" sBoundAt f fd) (CL : Callee P w K mg base 1 "large_ones" ["capacity", "threshold", "lengths"] (spPick K largeOnes)) (CM : Callee P w K mg base 1 "medium_ones" ["capacity", "threshold", "lengths"] (spPick K mediumOnes))
    (CS : Callee P w K mg base 1 "small_ones" ["capacity", "threshold", "lengths"] (spPick K smallOnes)) (CR : Callee P w K mg base 1 "rounded_up" ["number", "capacity"] spRound) (ml : mg "len" = none) (ms : mg "sum" = none) (mm : mg "max" = none) :
    FnOk P w K mg base CX0 2 f fd ["capacity", "threshold", "lengths"] (spBoundAt K) := by
  obtain ⟨fL, fdL, GL, gL, kL, bL⟩ := CL.ex
  obtain ⟨fM, fdM, GM, gM, kM, bM⟩ := CM.ex
  obtain ⟨fS, fdS, GS, gS, kS, bS⟩ := CS.ex
  obtain ⟨fR, fdR, GR, gR, kR, bR⟩ := CR.ex
  refine F.ok scBoundAt (fun vs H Q E h => ?_) (fun cdv A outer s H vs Q E hr h => ?_)
  · obtain ⟨c, t, a, ls, rfl, _⟩ := h
    rfl
  · obtain ⟨c, t, a, ls, rfl, hS, hlen, h1, h2, hle, k⟩ := h
    refine ⟨_, pss_cons (ps_set (i := 3) scBoundAt.nd rfl (Or.inl rfl) (pe_call GL hr (by rfl) gL kL bL .nil pass0 (pa_cons (pv 0) (pa_cons (pv 1) (pa_cons (pv 2) pa_nil)))))
      (pss_cons (ps_set (i := 4) scBoundAt.nd rfl (Or.inl rfl) (pe_call GM hr (by rfl) gM kM bM .nil pass0 (pa_cons (pv 0) (pa_cons (pv 1) (pa_cons (pv 2) pa_nil)))))
      (pss_cons (ps_set (i := 5) scBoundAt.nd rfl (Or.inl rfl) (pe_call GS hr (by rfl) gS kS bS .nil pass0 (pa_cons (pv 0) (pa_cons (pv 1) (pa_cons (pv 2) pa_nil)))))
      (pss_cons (ps_set (i := 6) scBoundAt.nd rfl (Or.inl rfl) (pe_op op_sub (pe_op op_mul (pe_callB call_len_seq (by rfl) ml PySem.boot_len (pa_cons (pv 4) pa_nil)) (pv 0)) (pe_callB (cr_sum rfl) (by rfl) ms (by decide +kernel) (pa_cons (pv 4) pa_nil))))
      (pss_one (ps_ret (pe_op op_add (pe_op op_add (pe_callB call_len_seq (by rfl) ml PySem.boot_len (pa_cons (pv 3) pa_nil)) (pe_callB call_len_seq (by rfl) ml PySem.boot_len (pa_cons (pv 4) pa_nil)))
        (pe_call GR hr (by rfl) gR kR bR .nil pass0 (pa_cons (pe_callB (call_max2 rfl) (by rfl) mm (by decide +kernel) (pa_cons pe_int (pa_cons (pe_op op_sub (pe_callB (cr_sum rfl) (by rfl) ms (by decide +kernel) (pa_cons (pv 5) pa_nil)) (pv 6)) pa_nil))) (pa_cons (pv 0) pa_nil))))))))), ?_⟩
    refine ⟨_, rfl, _, rfl, _, rfl, c, t, a, ls, rfl, hS, hlen, fun H1 pL s1 eL => ?_⟩
    refine ⟨_, rfl, _, rfl, _, rfl, c, t, a, ls, rfl, s1.seq hS, hlen, fun H2 pM s2 eM => ?_⟩
    refine ⟨_, rfl, _, rfl, _, rfl, c, t, a, ls, rfl, s2.seq (s1.seq hS), hlen, fun H3 pS s3 eS => ?_⟩
    have eL3 := s3 _ _ (s2 _ _ eL)
    have eM3 := s3 _ _ eM
    have lM : (mediumOnes c t ls).length ≤ 12 := Nat.le_trans (List.length_filter_le ..) hlen
    -- space
    refine ⟨.ref pM, rfl, pM, _, rfl, .inl (SqL.of eM3), .int (c : Int), rfl, _, (c : Int), rfl, rfl, .inr ⟨by omega, by omega⟩, .ref pM, rfl, pM, toInts (mediumOnes c t ls), rfl, SqL.of eM3, _, _, rfl, rfl, ?_⟩
    -- return
    refine ⟨.ref pL, rfl, pL, _, rfl, .inl (SqL.of eL3), .ref pM, rfl, pM, _, rfl, .inl (SqL.of eM3), _, _, rfl, rfl, .ref pS, rfl, pS, toInts (smallOnes c t ls), rfl, SqL.of eS, _, rfl, _, _, rfl, rfl, 0, _, rfl, .int (c : Int), rfl,
      sumOf (smallOnes c t ls) - ((mediumOnes c t ls).length * c - sumOf (mediumOnes c t ls)), c, ?_, h1, h2, _, _, rfl, rfl, ?_⟩
    · rw [sum_toInts, sum_toInts, iv_len]
      have hm : sumOf (mediumOnes c t ls) ≤ (mediumOnes c t ls).length * c := sum_le c _ fun x hx => hle x (List.mem_filter.mp hx).1
      have hm2 : (((mediumOnes c t ls).length : Nat) : Int) * (c : Int) = (((mediumOnes c t ls).length * c : Nat) : Int) := (Int.natCast_mul _ _).symm
      rw [hm2]
      generalize (mediumOnes c t ls).length * c = M at *
      generalize sumOf (mediumOnes c t ls) = A1 at *
      generalize sumOf (smallOnes c t ls) = B1 at *
      have e : (if ((B1 : Int) - ((M : Int) - (A1 : Int))) > 0 then ((B1 : Int) - ((M : Int) - (A1 : Int))) else 0) = ((B1 - (M - A1) : Nat) : Int) := by
        split <;> omega
      rw [e]
      rfl
    · rw [iv_len, iv_len]
      have q := k H3 ((s1.trans s2).trans s3)
      rw [bound_eq c t ls h1] at q
      exact q
def spLenBound (K : PySem.W.Frag) : Sp := fun vs H Q _ => ∃ (c : Nat) (a : Addr) (ls : List Nat), vs = [.int (c : Int), .ref a] ∧ SqL K H a (iv ls) ∧ 1 ≤ c ∧ c ≤ 100 ∧ Q (.int (lengthBound c ls : Nat)) H
theorem scLenBound : FnScope ["capacity", "lengths"] ["capacity", "lengths"] (defScope sLenBound) := ⟨rfl, rfl, rfl, by decide +kernel, rfl, by decide +kernel, by decide +kernel⟩
theorem ok_lenBound {f : Addr} {fd : FuncData} (F : Fun K "length_bound" "length_bound" sLenBound f fd) (CR : Callee P w K mg base 1 "rounded_up" ["number", "capacity"] spRound) (ms : mg "sum" = none) : FnOk P w K mg base CX0 2 f fd ["capacity", "lengths"] (spLenBound K) := by
  obtain ⟨fR, fdR, GR, gR, kR, bR⟩ := CR.ex
  refine F.ok scLenBound (fun vs H Q E h => ?_) (fun cdv A outer s H vs Q E hr h => ?_)
  · obtain ⟨c, a, ls, rfl, _⟩ := h
    rfl
  · obtain ⟨c, a, ls, rfl, hS, h1, h2, k⟩ := h
    refine ⟨_, pss_one (ps_ret (pe_call GR hr (by rfl) gR kR bR .nil pass0 (pa_cons (pe_callB (cr_sum rfl) (by rfl) ms (by decide +kernel) (pa_cons (pv 1) pa_nil)) (pa_cons (pv 0) pa_nil)))), ?_⟩
    refine ⟨.ref a, rfl, a, toInts ls, rfl, hS, .int (c : Int), rfl, sumOf ls, c, ?_, h1, h2, ?_⟩
    · rw [sum_toInts]
      rfl
    · rw [length_bound_eq c ls h1] at k
      exact k
def spBest (K : PySem.W.Frag) : Sp := fun vs H Q _ => ∃ (c : Nat) (a : Addr) (ls : List Nat), vs = [.int (c : Int), .ref a] ∧ SqL K H a (iv ls) ∧ ls.length ≤ 12 ∧ 1 ≤ c ∧ c ≤ 100 ∧ (∀ l ∈ ls, l ≤ c) ∧ ∀ H', Same H H' → Q (.int (bestBound c ls : Nat)) H'
theorem scBest : FnScope ["capacity", "lengths", "threshold"] ["capacity", "lengths"] (defScope sBest) := ⟨rfl, rfl, rfl, by decide +kernel, rfl, by decide +kernel, by decide +kernel⟩
theorem ok_best {f : Addr} {fd : FuncData} (F : Fun K "best_bound" "best_bound" sBest f fd) (CB : Callee P w K mg base 2 "bound_at" ["capacity", "threshold", "lengths"] (spBoundAt K)) (mm : mg "max" = none) (mr : mg "range" = none) : FnOk P w K mg base CX0 3 f fd ["capacity", "lengths"] (spBest K) := by
  obtain ⟨fB, fdB, GB, gB, kB, bB⟩ := CB.ex
  refine F.ok scBest (fun vs H Q E h => ?_) (fun cdv A outer s H vs Q E hr h => ?_)
  · obtain ⟨c, a, ls, rfl, _⟩ := h
    rfl
  · obtain ⟨c, a, ls, rfl, hS, hlen, h1, h2, hle, k⟩ := h
    refine ⟨_, pss_one (ps_ret (pe_callB (cr_max rfl) (by rfl) mm (by decide +kernel) (pa_cons
      (pe_lc (own := [("threshold", 2)]) (g := gName 2) (tt := tYes) rfl scBest.nd (pi_range1 (by rfl) mr (pa_cons (pe_op op_add (pe_op op_fdivN (pv 0) pe_int) pe_int) pa_nil)) (blkOk_by (own := [("threshold", 2)]) (N := ["capacity", "lengths", "threshold"]) (sc := defScope sBest) (by decide +kernel))
        (fun _ _ _ _ _ => pg_name (i := 2) scBest.nd rfl (Or.inl rfl)) (fun _ _ _ _ _ => pts_nil)
        (fun _ _ _ _ _ => pe_call GB hr (by rfl) gB kB bB .nil pass0 (pa_cons (pv 0) (pa_cons (pv 2) (pa_cons (pv 1) pa_nil))))) pa_nil))), ?_⟩
    have ed : ((c : Int)).fdiv 2 = ((c / 2 : Nat) : Int) := by
      rw [Int.fdiv_eq_ediv_of_nonneg _ (by omega)]
      rfl
    refine ⟨.int (c : Int), rfl, (c : Int), 2, rfl, rfl, ⟨by decide, by decide⟩, _, 1, rfl, rfl, ((c / 2 : Nat) : Int) + 1, (by rw [ed]), by omega, by omega, fun D hD => ?_⟩
    refine lc_range (lo := 0) (n := c / 2 + 1) (fun i H' => Made H D (iv ((List.range i).map (thresholdBound c ls))) H') (Made.start hD) ?_ ?_
    · intro i H' hi m
      refine ⟨rfl, .int (c : Int), rfl, .int (0 + (i : Int)), rfl, .ref a, rfl, c, i, a, ls, ?_, m.same.seq hS, hlen, h1, h2, hle, fun H3 s3 => (m.go s3).turn (small 51 (by rw [iv_len, List.length_map, List.length_range]; omega)) ?_⟩
      · rw [show (0 : Int) + (i : Int) = (i : Int) by omega]
        rfl
      · rw [List.range_succ, List.map_append, iv_app]
        rfl
    · intro H2 m
      refine ⟨D, toInts ((List.range (c / 2 + 1)).map (thresholdBound c ls)), rfl, SqL.of m.at_, (by unfold Kbe6.toInts; rw [List.length_map, List.length_map, List.length_range]; omega), fun z hz hle2 => ?_⟩
      have e := max_is_int _ z hz hle2
      rw [← best_bound_eq] at e
      rw [e]
      exact k _ m.same
end
end TW

/-! ### what the interface's defs share -/
namespace TW
open PySem PySem.Spec PyProof.Rows L2 TF
open Kbe6 (toInts)
theorem loadRef_cases (c : Nat) (ls : List Nat) : loadRef c ls = [] ∨ loadRef c ls = [-22] ∨ loadRef c ls = [-33] := by
  unfold loadRef
  split
  · split
    · exact .inl rfl
    · exact .inr (.inr rfl)
  · exact .inr (.inl rfl)
theorem dp_ints {K : PySem.W.Frag} {H : Hp} : ∀ ns : List Int, DpAll K H (ns.map V.int) (ns.map PyData.int)
  | [] => .nil
  | n :: r => .cons (.int n) (dp_ints r)
theorem dp_list {K : PySem.W.Frag} {H : Hp} {p : Addr} {ns : List Int} (h : H p = some (.lst (ns.map V.int))) : Dp K H (.ref p) (.list (ns.map PyData.int)) := .lst (SqL.of h) (dp_ints ns)
theorem rg_range (n : Nat) : rgV 0 (n : Int) = iv (List.range n) := by
  unfold rgV
  rw [iv_eq, show ((n : Int) - 0).toNat = n by omega]
  refine List.map_congr_left fun i _ => ?_
  rw [show (0 : Int) + (i : Nat) = (i : Int) by omega]
/-- the request's numbers -/
theorem nat_of {z hi : Int} (h : PySem.W.Codec.inInt 0 hi z = true) : ∃ n : Nat, z = (n : Int) := by
  have q : (decide (0 ≤ z) && decide (z ≤ hi)) = true := h
  rw [Bool.and_eq_true] at q
  exact ⟨z.toNat, (Int.toNat_of_nonneg (of_decide_eq_true q.1)).symm⟩
theorem nats_of {l : List Int} {hi : Int} (h : l.all (PySem.W.Codec.inInt 0 hi) = true) : ∃ m : List Nat, l = toInts m := ints_nats fun x hx => by
  obtain ⟨n, rfl⟩ := nat_of (List.all_eq_true.mp h x hx)
  omega
theorem len_of {m : List Nat} {least most : Nat} (h : PySem.W.Codec.inLen least most (toInts m) = true) : m.length ≤ most := by
  have q := (PySem.W.Codec.inNat_iff.mp h).2
  unfold Kbe6.toInts at q
  rw [List.length_map] at q
  exact q
end TW

/-! ### lower_bounds -/
namespace TW
open PySem PySem.Spec PyProof.Rows L2 TF
open Kbe6 (toInts truckCount)
section
variable {P : Program} {w : World} {K : PySem.W.Frag} {mg : Str → Option Value} {base : Heap}
def spMain (K : PySem.W.Frag) : Sp := fun vs H Q _ => ∃ (c : Nat) (a : Addr) (ls : List Nat), vs = [.int (c : Int), .ref a] ∧ SqL K H a (iv ls) ∧ ls.length ≤ 12 ∧
  ∀ H' p, H' p = some (.lst ((PyKbe6.lower_bounds (c : Int) (toInts ls)).map V.int)) → Q (.ref p) H'
theorem scMain : FnScope ["capacity", "lengths", "refusal"] ["capacity", "lengths"] (defScope sMain) := ⟨rfl, rfl, rfl, by decide +kernel, rfl, by decide +kernel, by decide +kernel⟩
theorem ok_main {f : Addr} {fd : FuncData} (F : Fun K "lower_bounds" "lower_bounds" sMain f fd) (CL : Callee P w K mg base 3 "load_refusal" ["capacity", "lengths"] (spLoad K)) (CN : Callee P w K mg base 2 "length_bound" ["capacity", "lengths"] (spLenBound K))
    (CB : Callee P w K mg base 3 "best_bound" ["capacity", "lengths"] (spBest K)) : FnOk P w K mg base CX0 4 f fd ["capacity", "lengths"] (spMain K) := by
  obtain ⟨fL, fdL, GL, gL, kL, bL⟩ := CL.ex
  obtain ⟨fN, fdN, GN, gN, kN, bN⟩ := CN.ex
  obtain ⟨fB, fdB, GB, gB, kB, bB⟩ := CB.ex
  refine F.ok scMain (fun vs H Q E h => ?_) (fun cdv A outer s H vs Q E hr h => ?_)
  · obtain ⟨c, a, ls, rfl, _⟩ := h
    rfl
  · obtain ⟨c, a, ls, rfl, hS, hlen, k⟩ := h
    have hr2 : Room 2 _ := hr.mono (by decide)
    refine ⟨_, pss_cons (ps_set (i := 2) scMain.nd rfl (Or.inl rfl) (pe_call GL hr (by rfl) gL kL bL .nil pass0 (pa_cons (pv 0) (pa_cons (pv 1) pa_nil))))
      (pss_cons (ps_if (pt_cmpR (op_neD hr.units) (pv 2) (pe_lst pa_nil) (nomark _)) (pss_one (ps_ret (pv 2))) pss_nil)
      (pss_one (ps_ret (pe_lst (pa_cons (pe_call GN hr2 (by rfl) gN kN bN .nil pass0 (pa_cons (pv 0) (pa_cons (pv 1) pa_nil))) (pa_cons (pe_call GB hr (by rfl) gB kB bB .nil pass0 (pa_cons (pv 0) (pa_cons (pv 1) pa_nil))) pa_nil)))))), ?_⟩
    rw [due_lower] at k
    refine ⟨_, rfl, _, rfl, c, a, ls, rfl, hS, hlen, fun H1 p s1 np ep => ?_⟩
    refine ⟨.ref p, rfl, Nat.zero_le _, fun q hq => ?_⟩
    have s2 := s1.trans (same_upd (o := .lst []) hq)
    have ep2 := same_upd (o := .lst []) hq _ _ ep
    refine ⟨_, _, dp_list ep2, dp_list (ns := []) upd_same, ?_⟩
    have no : loadRef c ls ≠ [] → Q (.ref p) (upd H1 q (.lst [])) := fun z => k _ p (by rw [if_neg z]; exact ep2)
    rcases loadRef_cases c ls with e | e | e
    · rw [e]
      refine ⟨by decide, by decide, _, rfl, iteF ?_⟩
      obtain ⟨h7, h1, h2, hle, _⟩ := loadRef_nil e
      refine ⟨_, rfl, _, rfl, c, a, ls, rfl, s2.seq hS, h1, h2, _, rfl, _, rfl, c, a, ls, rfl, s2.seq hS, hlen, h1, h2, hle, fun H2 s3 => ⟨(by show 2 ≤ sizeLine; decide), fun p1 hp1 => ?_⟩⟩
      refine k _ p1 ?_
      rw [upd_same, if_pos e]
      rfl
    · rw [e]
      refine ⟨by decide, by decide, _, rfl, iteT ⟨.ref p, rfl, no (by rw [e]; decide)⟩⟩
    · rw [e]
      refine ⟨by decide, by decide, _, rfl, iteT ⟨.ref p, rfl, no (by rw [e]; decide)⟩⟩
end
end TW

/-! ### what the top has written; the row's end -/
namespace TW
open PySem PySem.Spec PyProof.Rows L2 TF
theorem all_mk {P : Program} {w : World} {K : PySem.W.Frag} {h : Heap} {mg : Str → Option Value} {fa : Addr} (X : K.In h) (G : h.Ns mainGlobals mg) (hfa : mg "lower_bounds" = some (.ref fa))
    {f1 : Addr} {od1 an1 : Option Addr} {sl1 : Array (Option Value)} {oc1 kV1 dc1 pm1 cd1 ct1 : Value}
    {f2 : Addr} {od2 an2 : Option Addr} {sl2 : Array (Option Value)} {oc2 kV2 dc2 pm2 cd2 ct2 : Value}
    {f3 : Addr} {od3 an3 : Option Addr} {sl3 : Array (Option Value)} {oc3 kV3 dc3 pm3 cd3 ct3 : Value}
    {f4 : Addr} {od4 an4 : Option Addr} {sl4 : Array (Option Value)} {oc4 kV4 dc4 pm4 cd4 ct4 : Value}
    {f5 : Addr} {od5 an5 : Option Addr} {sl5 : Array (Option Value)} {oc5 kV5 dc5 pm5 cd5 ct5 : Value}
    {f6 : Addr} {od6 an6 : Option Addr} {sl6 : Array (Option Value)} {oc6 kV6 dc6 pm6 cd6 ct6 : Value}
    {f7 : Addr} {od7 an7 : Option Addr} {sl7 : Array (Option Value)} {oc7 kV7 dc7 pm7 cd7 ct7 : Value}
    {f8 : Addr} {od8 an8 : Option Addr} {sl8 : Array (Option Value)} {oc8 kV8 dc8 pm8 cd8 ct8 : Value}
    {f9 : Addr} {od9 an9 : Option Addr} {sl9 : Array (Option Value)} {oc9 kV9 dc9 pm9 cd9 ct9 : Value}
    {f10 : Addr} {od10 an10 : Option Addr} {sl10 : Array (Option Value)} {oc10 kV10 dc10 pm10 cd10 ct10 : Value}
    {f11 : Addr} {od11 an11 : Option Addr} {sl11 : Array (Option Value)} {oc11 kV11 dc11 pm11 cd11 ct11 : Value}
    {t1 : Tok}
    {t2 : Tok}
    {t3 : Tok}
    {t4 : Tok}
    {t5 : Tok}
    (a1 : PySem.W.nsIn K mainGlobals "rounded_up" = some (some (.ref f1))) (l1 : K.lookup f1 = some ⟨oc1, od1, .func (PySem.W.fnOf "rounded_up" "rounded_up" (defArgs sRound) (defBody sRound) (defScope sRound) .none kV1 dc1 pm1 an1 cd1 ct1), sl1⟩) (c1 : PySem.W.codeIn K cd1 "rounded_up" = true) (k1 : PySem.W.keepIn K (.ref f1) = true)
    (a2 : PySem.W.nsIn K mainGlobals "large_ones" = some (some (.ref f2))) (l2 : K.lookup f2 = some ⟨oc2, od2, .func (PySem.W.fnOf "large_ones" "large_ones" (defArgs sLarge) (defBody sLarge) (defScope sLarge) .none kV2 dc2 pm2 an2 cd2 ct2), sl2⟩) (c2 : PySem.W.codeIn K cd2 "large_ones" = true) (k2 : PySem.W.keepIn K (.ref f2) = true)
    (a3 : PySem.W.nsIn K mainGlobals "medium_ones" = some (some (.ref f3))) (l3 : K.lookup f3 = some ⟨oc3, od3, .func (PySem.W.fnOf "medium_ones" "medium_ones" (defArgs sMedium) (defBody sMedium) (defScope sMedium) .none kV3 dc3 pm3 an3 cd3 ct3), sl3⟩) (c3 : PySem.W.codeIn K cd3 "medium_ones" = true) (k3 : PySem.W.keepIn K (.ref f3) = true)
    (a4 : PySem.W.nsIn K mainGlobals "small_ones" = some (some (.ref f4))) (l4 : K.lookup f4 = some ⟨oc4, od4, .func (PySem.W.fnOf "small_ones" "small_ones" (defArgs sSmall) (defBody sSmall) (defScope sSmall) .none kV4 dc4 pm4 an4 cd4 ct4), sl4⟩) (c4 : PySem.W.codeIn K cd4 "small_ones" = true) (k4 : PySem.W.keepIn K (.ref f4) = true)
    (a5 : PySem.W.nsIn K mainGlobals "bound_at" = some (some (.ref f5))) (l5 : K.lookup f5 = some ⟨oc5, od5, .func (PySem.W.fnOf "bound_at" "bound_at" (defArgs sBoundAt) (defBody sBoundAt) (defScope sBoundAt) .none kV5 dc5 pm5 an5 cd5 ct5), sl5⟩) (c5 : PySem.W.codeIn K cd5 "bound_at" = true) (k5 : PySem.W.keepIn K (.ref f5) = true)
    (a6 : PySem.W.nsIn K mainGlobals "length_bound" = some (some (.ref f6))) (l6 : K.lookup f6 = some ⟨oc6, od6, .func (PySem.W.fnOf "length_bound" "length_bound" (defArgs sLenBound) (defBody sLenBound) (defScope sLenBound) .none kV6 dc6 pm6 an6 cd6 ct6), sl6⟩) (c6 : PySem.W.codeIn K cd6 "length_bound" = true) (k6 : PySem.W.keepIn K (.ref f6) = true)
    (a7 : PySem.W.nsIn K mainGlobals "best_bound" = some (some (.ref f7))) (l7 : K.lookup f7 = some ⟨oc7, od7, .func (PySem.W.fnOf "best_bound" "best_bound" (defArgs sBest) (defBody sBest) (defScope sBest) .none kV7 dc7 pm7 an7 cd7 ct7), sl7⟩) (c7 : PySem.W.codeIn K cd7 "best_bound" = true) (k7 : PySem.W.keepIn K (.ref f7) = true)
    (a8 : PySem.W.nsIn K mainGlobals "is_within" = some (some (.ref f8))) (l8 : K.lookup f8 = some ⟨oc8, od8, .func (PySem.W.fnOf "is_within" "is_within" (defArgs sWithin) (defBody sWithin) (defScope sWithin) .none kV8 dc8 pm8 an8 cd8 ct8), sl8⟩) (c8 : PySem.W.codeIn K cd8 "is_within" = true) (k8 : PySem.W.keepIn K (.ref f8) = true)
    (a9 : PySem.W.nsIn K mainGlobals "are_lengths" = some (some (.ref f9))) (l9 : K.lookup f9 = some ⟨oc9, od9, .func (PySem.W.fnOf "are_lengths" "are_lengths" (defArgs sAre) (defBody sAre) (defScope sAre) .none kV9 dc9 pm9 an9 cd9 ct9), sl9⟩) (c9 : PySem.W.codeIn K cd9 "are_lengths" = true) (k9 : PySem.W.keepIn K (.ref f9) = true)
    (a10 : PySem.W.nsIn K mainGlobals "load_refusal" = some (some (.ref f10))) (l10 : K.lookup f10 = some ⟨oc10, od10, .func (PySem.W.fnOf "load_refusal" "load_refusal" (defArgs sLoad) (defBody sLoad) (defScope sLoad) .none kV10 dc10 pm10 an10 cd10 ct10), sl10⟩) (c10 : PySem.W.codeIn K cd10 "load_refusal" = true) (k10 : PySem.W.keepIn K (.ref f10) = true)
    (a11 : PySem.W.nsIn K mainGlobals "lower_bounds" = some (some (.ref f11))) (l11 : K.lookup f11 = some ⟨oc11, od11, .func (PySem.W.fnOf "lower_bounds" "lower_bounds" (defArgs sMain) (defBody sMain) (defScope sMain) .none kV11 dc11 pm11 an11 cd11 ct11), sl11⟩) (c11 : PySem.W.codeIn K cd11 "lower_bounds" = true) (k11 : PySem.W.keepIn K (.ref f11) = true)
    (n1 : PySem.W.nsIn K mainGlobals "IMPOSSIBLE" = some (some (.int (-33) t1)))
    (n2 : PySem.W.nsIn K mainGlobals "MAX_CAPACITY" = some (some (.int (100) t2)))
    (n3 : PySem.W.nsIn K mainGlobals "MAX_LENGTH" = some (some (.int (100) t3)))
    (n4 : PySem.W.nsIn K mainGlobals "MAX_PALLETS" = some (some (.int (7) t4)))
    (n5 : PySem.W.nsIn K mainGlobals "OUT_OF_RANGE" = some (some (.int (-22) t5)))
    (z1 : PySem.W.nsIn K mainGlobals "all" = some none)
    (z2 : PySem.W.nsIn K mainGlobals "len" = some none)
    (z3 : PySem.W.nsIn K mainGlobals "max" = some none)
    (z4 : PySem.W.nsIn K mainGlobals "range" = some none)
    (z5 : PySem.W.nsIn K mainGlobals "sum" = some none)
    : ∃ fd : FuncData, (∀ (s : Shared) (us : List Value), us.length = (["capacity", "lengths"] : List Str).length → BindsTo s fd ⟨us, []⟩ ((["capacity", "lengths"] : List Str).zip us)) ∧ ∀ base : Heap, K.In base → base.Ns mainGlobals mg → FnOk P w K mg base CX0 4 fa fd ["capacity", "lengths"] (spMain K) := by
  have e := hfa.symm.trans (PySem.W.mg_of X G a11)
  cases e
  have F1 := fun_mk (st := sRound) l1 c1 k1
  have b1 := F1.binds (ps := ["number", "capacity"]) fun _ _ _ _ _ _ us hl => match us, hl with | [_, _], _ => rfl
  have F2 := fun_mk (st := sLarge) l2 c2 k2
  have b2 := F2.binds (ps := ["capacity", "threshold", "lengths"]) fun _ _ _ _ _ _ us hl => match us, hl with | [_, _, _], _ => rfl
  have F3 := fun_mk (st := sMedium) l3 c3 k3
  have b3 := F3.binds (ps := ["capacity", "threshold", "lengths"]) fun _ _ _ _ _ _ us hl => match us, hl with | [_, _, _], _ => rfl
  have F4 := fun_mk (st := sSmall) l4 c4 k4
  have b4 := F4.binds (ps := ["capacity", "threshold", "lengths"]) fun _ _ _ _ _ _ us hl => match us, hl with | [_, _, _], _ => rfl
  have F5 := fun_mk (st := sBoundAt) l5 c5 k5
  have b5 := F5.binds (ps := ["capacity", "threshold", "lengths"]) fun _ _ _ _ _ _ us hl => match us, hl with | [_, _, _], _ => rfl
  have F6 := fun_mk (st := sLenBound) l6 c6 k6
  have b6 := F6.binds (ps := ["capacity", "lengths"]) fun _ _ _ _ _ _ us hl => match us, hl with | [_, _], _ => rfl
  have F7 := fun_mk (st := sBest) l7 c7 k7
  have b7 := F7.binds (ps := ["capacity", "lengths"]) fun _ _ _ _ _ _ us hl => match us, hl with | [_, _], _ => rfl
  have F8 := fun_mk (st := sWithin) l8 c8 k8
  have b8 := F8.binds (ps := ["number", "low", "high"]) fun _ _ _ _ _ _ us hl => match us, hl with | [_, _, _], _ => rfl
  have F9 := fun_mk (st := sAre) l9 c9 k9
  have b9 := F9.binds (ps := ["lengths"]) fun _ _ _ _ _ _ us hl => match us, hl with | [_], _ => rfl
  have F10 := fun_mk (st := sLoad) l10 c10 k10
  have b10 := F10.binds (ps := ["capacity", "lengths"]) fun _ _ _ _ _ _ us hl => match us, hl with | [_, _], _ => rfl
  have F11 := fun_mk (st := sMain) l11 c11 k11
  have N_IMPOSSIBLE : Num mg "IMPOSSIBLE" (-33) := ⟨_, PySem.W.mg_of X G n1⟩
  have N_MAX_CAPACITY : Num mg "MAX_CAPACITY" (100) := ⟨_, PySem.W.mg_of X G n2⟩
  have N_MAX_LENGTH : Num mg "MAX_LENGTH" (100) := ⟨_, PySem.W.mg_of X G n3⟩
  have N_MAX_PALLETS : Num mg "MAX_PALLETS" (7) := ⟨_, PySem.W.mg_of X G n4⟩
  have N_OUT_OF_RANGE : Num mg "OUT_OF_RANGE" (-22) := ⟨_, PySem.W.mg_of X G n5⟩
  have Z_all : mg "all" = none := PySem.W.mg_none_of X G z1
  have Z_len : mg "len" = none := PySem.W.mg_none_of X G z2
  have Z_max : mg "max" = none := PySem.W.mg_none_of X G z3
  have Z_range : mg "range" = none := PySem.W.mg_none_of X G z4
  have Z_sum : mg "sum" = none := PySem.W.mg_none_of X G z5
  refine ⟨PySem.W.fnOf "lower_bounds" "lower_bounds" (defArgs sMain) (defBody sMain) (defScope sMain) .none kV11 dc11 pm11 an11 cd11 ct11, fun s us hu => match us, hu with | [_, _], _ => .of_eq rfl, fun base _ _ => ?_⟩
  have C_rounded_up : Callee P w K mg base 1 "rounded_up" ["number", "capacity"] spRound := ⟨f1, _, ok_round F1 , PySem.W.mg_of X G a1, k1, b1⟩
  have C_large_ones : Callee P w K mg base 1 "large_ones" ["capacity", "threshold", "lengths"] (spPick K TF.largeOnes) := ⟨f2, _, ok_large F2 , PySem.W.mg_of X G a2, k2, b2⟩
  have C_medium_ones : Callee P w K mg base 1 "medium_ones" ["capacity", "threshold", "lengths"] (spPick K TF.mediumOnes) := ⟨f3, _, ok_medium F3 , PySem.W.mg_of X G a3, k3, b3⟩
  have C_small_ones : Callee P w K mg base 1 "small_ones" ["capacity", "threshold", "lengths"] (spPick K TF.smallOnes) := ⟨f4, _, ok_small F4 , PySem.W.mg_of X G a4, k4, b4⟩
  have C_bound_at : Callee P w K mg base 2 "bound_at" ["capacity", "threshold", "lengths"] (spBoundAt K) := ⟨f5, _, ok_boundAt F5 C_large_ones C_medium_ones C_small_ones C_rounded_up Z_len Z_sum Z_max, PySem.W.mg_of X G a5, k5, b5⟩
  have C_length_bound : Callee P w K mg base 2 "length_bound" ["capacity", "lengths"] (spLenBound K) := ⟨f6, _, ok_lenBound F6 C_rounded_up Z_sum, PySem.W.mg_of X G a6, k6, b6⟩
  have C_best_bound : Callee P w K mg base 3 "best_bound" ["capacity", "lengths"] (spBest K) := ⟨f7, _, ok_best F7 C_bound_at Z_max Z_range, PySem.W.mg_of X G a7, k7, b7⟩
  have C_is_within : Callee P w K mg base 1 "is_within" ["number", "low", "high"] spWithin := ⟨f8, _, ok_within F8 , PySem.W.mg_of X G a8, k8, b8⟩
  have C_are_lengths : Callee P w K mg base 2 "are_lengths" ["lengths"] (spAre K) := ⟨f9, _, ok_are F9 C_is_within Z_len Z_all N_MAX_PALLETS N_MAX_LENGTH, PySem.W.mg_of X G a9, k9, b9⟩
  have C_load_refusal : Callee P w K mg base 3 "load_refusal" ["capacity", "lengths"] (spLoad K) := ⟨f10, _, ok_load F10 C_is_within C_are_lengths Z_all N_MAX_CAPACITY N_OUT_OF_RANGE N_IMPOSSIBLE, PySem.W.mg_of X G a10, k10, b10⟩
  exact ok_main F11 C_load_refusal C_length_bound C_best_bound
end TW
open PySem PySem.W PyProof.Rows
set_option maxRecDepth 100000 in
set_option maxHeartbeats 0 in
theorem PySem.Challenge.cw_truckfill_s04_lower_bounds_holds : PySem.Challenge.rw_truckfill_s04_lower_bounds.Holds := by
  w_on; k_headS; (case hw => exact ⟨[.int 1, .list []], by decide +kernel, by decide +kernel⟩)
  k_fillS
  refine L2.walk_specK (r := PySem.Challenge.rw_truckfill_s04_lower_bounds) (k := 4) (CX := L2.CX0) (ps := ["capacity", "lengths"]) (sp := TW.spMain) (by decide +kernel) rfl rfl ⟨rfl, by decide, by decide⟩ (fun w h Y => PySem.W.kIn_of Y) ?F ?S (fun _ _ _ _ z => z)
  case F =>
    intro w mg fa h Y KX G hmg
    refine' TW.all_mk KX G hmg ?a1 ?l1 ?c1 ?k1 ?a2 ?l2 ?c2 ?k2 ?a3 ?l3 ?c3 ?k3 ?a4 ?l4 ?c4 ?k4 ?a5 ?l5 ?c5 ?k5 ?a6 ?l6 ?c6 ?k6 ?a7 ?l7 ?c7 ?k7 ?a8 ?l8 ?c8 ?k8 ?a9 ?l9 ?c9 ?k9 ?a10 ?l10 ?c10 ?k10 ?a11 ?l11 ?c11 ?k11 ?n1 ?n2 ?n3 ?n4 ?n5 ?z1 ?z2 ?z3 ?z4 ?z5
    (case a1 => k_is)
    (case l1 => k_is)
    (case c1 => k_is)
    (case k1 => k_is)
    (case a2 => k_is)
    (case l2 => k_is)
    (case c2 => k_is)
    (case k2 => k_is)
    (case a3 => k_is)
    (case l3 => k_is)
    (case c3 => k_is)
    (case k3 => k_is)
    (case a4 => k_is)
    (case l4 => k_is)
    (case c4 => k_is)
    (case k4 => k_is)
    (case a5 => k_is)
    (case l5 => k_is)
    (case c5 => k_is)
    (case k5 => k_is)
    (case a6 => k_is)
    (case l6 => k_is)
    (case c6 => k_is)
    (case k6 => k_is)
    (case a7 => k_is)
    (case l7 => k_is)
    (case c7 => k_is)
    (case k7 => k_is)
    (case a8 => k_is)
    (case l8 => k_is)
    (case c8 => k_is)
    (case k8 => k_is)
    (case a9 => k_is)
    (case l9 => k_is)
    (case c9 => k_is)
    (case k9 => k_is)
    (case a10 => k_is)
    (case l10 => k_is)
    (case c10 => k_is)
    (case k10 => k_is)
    (case a11 => k_is)
    (case l11 => k_is)
    (case c11 => k_is)
    (case k11 => k_is)
    (case n1 => k_is)
    (case n2 => k_is)
    (case n3 => k_is)
    (case n4 => k_is)
    (case n5 => k_is)
    (case z1 => k_is)
    (case z2 => k_is)
    (case z3 => k_is)
    (case z4 => k_is)
    (case z5 => k_is)
  case S =>
    intro K H xs a hO hwi hask hx
    obtain ⟨c0, l0, u⟩ := a
    cases hx with
    | cons h1 h2 =>
      cases h2 with
      | cons h3 h4 =>
        cases h4
        cases h1
        cases h3 with
        | lst hs ha =>
          have e := L2.ints_dw l0 _ ha
          subst e
          have q : (Codec.inInt 0 4294967295 c0 && ((Codec.inLen 0 12 l0 && l0.all (Codec.inInt 0 4294967295)) && true)) = true := hwi
          rw [Bool.and_eq_true, Bool.and_eq_true, Bool.and_eq_true] at q
          obtain ⟨c, rfl⟩ := TW.nat_of q.1
          obtain ⟨ls, rfl⟩ := TW.nats_of q.2.1.2
          exact ⟨c, _, ls, rfl, hs, TW.len_of q.2.1.1, fun H' p hp => .lst (L2.SqL.of hp) (L2.dw_ints _)⟩
#print axioms PySem.Challenge.cw_truckfill_s04_lower_bounds_holds
