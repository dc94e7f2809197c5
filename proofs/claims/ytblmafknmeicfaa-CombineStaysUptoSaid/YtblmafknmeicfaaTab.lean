/-
  Tables of numbers: lists given by a function of the index. Of no program.
-/
import Derived.Test.YtblmafknmeicfaaStr
import Derived.Test.YtblmafknmeicfaaReadA
namespace Go.Proofs.Ytblmafknmeicfaa.Eng
open Go Go.RowKit
set_option linter.unusedVariables false
set_option linter.unusedSimpArgs false
def tab {α : Type} (n : Nat) (f : Nat → α) : List α := (List.range n).map f
variable {α : Type}
theorem tab_len (n : Nat) (f : Nat → α) : (tab n f).length = n := by simp [tab]
theorem tab_get (n : Nat) (f : Nat → α) {k : Nat} (h : k < n) : (tab n f)[k]? = some (f k) := by simp [tab, h]
theorem tab_nth [Inhabited α] (n : Nat) (f : Nat → α) {k : Nat} (h : k < n) : nth (tab n f) k = f k := by
  have := nth_get (l := tab n f) (i := k) (by rw [tab_len]; exact h)
  rw [tab_get n f h] at this
  exact (Option.some.inj this).symm
theorem tab_congr {n : Nat} {f g : Nat → α} (h : ∀ j, j < n → f j = g j) : tab n f = tab n g := by
  unfold tab
  exact List.map_congr_left fun j hj => h j (by simpa using hj)
theorem tab_set {n : Nat} {f : Nat → α} {k : Nat} {x : α} : (tab n f).set k x = tab n (fun j => if j = k then x else f j) := by
  refine List.ext_getElem? fun j => ?_
  rw [List.getElem?_set, tab_len]
  rcases Nat.lt_or_ge j n with hj | hj
  · rw [tab_get n f hj, tab_get n (fun j => if j = k then x else f j) hj]
    split
    · rename_i e; subst e; rw [if_pos hj, if_pos rfl]
    · rename_i e; rw [if_neg (Ne.symm e)]
  · have h1 : (tab n (fun j => if j = k then x else f j))[j]? = none := List.getElem?_eq_none (by rw [tab_len]; exact hj)
    have h2 : (tab n f)[j]? = none := List.getElem?_eq_none (by rw [tab_len]; exact hj)
    rw [h1, h2]
    split
    · rename_i e; subst e; rw [if_neg (by omega)]
    · rfl
theorem tab_succ (n : Nat) (f : Nat → α) : tab (n + 1) f = tab n f ++ [f n] := by simp [tab, List.range_succ]
theorem tab_zero (f : Nat → α) : tab 0 f = [] := rfl
theorem tab_of_list [Inhabited α] (l : List α) : l = tab l.length (nth l) := by
  refine List.ext_getElem? fun j => ?_
  rcases Nat.lt_or_ge j l.length with hj | hj
  · rw [tab_get _ _ hj, nth_get hj]
  · rw [List.getElem?_eq_none hj, List.getElem?_eq_none (by rw [tab_len]; exact hj)]
theorem rep_tab (n : Nat) (x : Int) : repCells [.int .i64 x] n = cellsOf encI (tab n fun _ => x) := by
  rw [replicate_eq, cellsOf_encI]
  refine List.ext_getElem? fun j => ?_
  simp [tab, List.getElem?_replicate]
  rcases Nat.lt_or_ge j n with hj | hj <;> simp [hj, Nat.not_lt.2]
theorem encI_set {l : List Int} {k : Nat} {x : Int} (h : k < l.length) : (cellsOf encI l).set (k * 1 + 0) (.int .i64 x) = cellsOf encI (l.set k x) :=
  cellsOf_set encI_len l k 0 (.int .i64 x) x h (by decide) rfl
theorem encI_get {l : List Int} {k : Nat} (h : k < l.length) : (cellsOf encI l)[k * 1 + 0]? = some (.int .i64 (nth l k)) := cellsOf_get encI_len l k 0 h (by decide)
theorem set_id [Inhabited α] {l : List α} {k : Nat} : l.set k (nth l k) = l := by
  refine List.ext_getElem? fun j => ?_
  rw [List.getElem?_set]
  split
  · rename_i e
    subst e
    split
    · rename_i h; rw [nth_get h]
    · rename_i h; rw [List.getElem?_eq_none (by omega)]
  · rfl
theorem nth_set [Inhabited α] {l : List α} {i j : Nat} {x : α} (h : i < l.length) : nth (l.set i x) j = if i = j then x else nth l j := by
  unfold nth
  simp only [List.getD_eq_getElem?_getD, List.getElem?_set]
  split
  · rename_i e
    subst e
    simp [h]
  · rfl
theorem sum_set : ∀ (l : List Int) (i : Nat) (x : Int), i < l.length → (l.set i x).sum = l.sum - nth l i + x
  | [], i, x, h => by simp at h
  | a :: r, 0, x, _ => by simp [nth]; omega
  | a :: r, i + 1, x, h => by
    have := sum_set r i x (by simpa using h)
    simp only [List.set_cons_succ, List.sum_cons, this]
    show a + (r.sum - nth r i + x) = a + r.sum - nth r i + x
    omega
theorem sum_nonneg : ∀ {l : List Int}, (∀ x ∈ l, 0 ≤ x) → 0 ≤ l.sum
  | [], _ => by simp
  | a :: r, h => by
    have h1 := h a (by simp)
    have h2 := sum_nonneg (l := r) (fun x hx => h x (by simp [hx]))
    simp only [List.sum_cons]; omega
theorem sum_le {l : List Int} {m : Int} : (∀ x ∈ l, x ≤ m) → l.sum ≤ l.length * m := by
  intro h
  induction l with
  | nil => simp
  | cons a r ih =>
    have h1 := h a (by simp)
    have h2 := ih (fun x hx => h x (by simp [hx]))
    simp only [List.sum_cons, List.length_cons]
    have : ((r.length + 1 : Nat) : Int) * m = (r.length : Int) * m + m := by rw [Int.natCast_add, Int.add_mul]; simp
    omega
end Go.Proofs.Ytblmafknmeicfaa.Eng
