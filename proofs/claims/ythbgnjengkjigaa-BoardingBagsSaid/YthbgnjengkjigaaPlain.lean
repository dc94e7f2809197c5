/-
  Boarding: what a gate computes, in plain Lean.
-/
import Derived.Test.YthbgnjengkjigaaObj
import Derived.Test.YthbgnjengkjigaaRead
namespace Go.Proofs.Ythbgnjengkjigaa
open Go Go.RowKit Eng
set_option linter.unusedVariables false
set_option linter.unusedSimpArgs false
abbrev Bag := Int × Int × Int
def encBag (b : Bag) : List Value := [.int .i64 b.1, .int .i64 b.2.1, .int .i64 b.2.2]
theorem encBag_len (b : Bag) : (encBag b).length = 3 := rfl
def encBo (b : Bool) : List Value := [.bool b]
theorem encBo_len (b : Bool) : (encBo b).length = 1 := rfl
theorem encBo_set {l : List Bool} {k : Nat} {x : Bool} (h : k < l.length) : (cellsOf encBo l).set (k * 1 + 0) (.bool x) = cellsOf encBo (l.set k x) := by
  have e : ∀ l : List Bool, cellsOf encBo l = l.map Value.bool := fun l => by
    induction l with
    | nil => rfl
    | cons x r ih => rw [show x :: r = [x] ++ r from rfl, cellsOf_append, ih, cellsOf_one]; rfl
  rw [e, e, Nat.mul_one, Nat.add_zero, List.map_set]
theorem encBo_get {l : List Bool} {k : Nat} (h : k < l.length) : (cellsOf encBo l)[k * 1 + 0]? = some (.bool (nth l k)) := cellsOf_get encBo_len l k 0 h (by decide)
theorem encBag_get {l : List Bag} {k j : Nat} (h : k < l.length) (hj : j < 3) : (cellsOf encBag l)[k * 3 + j]? = some (rowsF encBag l k j) := cellsOf_get encBag_len l k j h hj
theorem rep_bo (n : Nat) : repCells [.bool false] n = cellsOf encBo (List.replicate n false) := by
  induction n with
  | zero => rfl
  | succ n ih => rw [List.replicate_succ, repCells, ih]; rfl
theorem nth_append_left {α : Type} [Inhabited α] {l k : List α} {i : Nat} (h : i < l.length) : nth (l ++ k) i = nth l i := by
  unfold nth
  simp only [List.getD_eq_getElem?_getD, List.getElem?_append_left h]
theorem nth_append_len {α : Type} [Inhabited α] {l : List α} {x : α} : nth (l ++ [x]) l.length = x := by
  unfold nth
  simp [List.getD_eq_getElem?_getD]
theorem nth_take {α : Type} [Inhabited α] {l : List α} {i k : Nat} (h : i < k) : nth (l.take k) i = nth l i := by
  unfold nth
  simp only [List.getD_eq_getElem?_getD, List.getElem?_take, if_pos h]
/-- the least index below n with p, or -1 -/
def fnd (p : Nat → Bool) : Nat → Int
  | 0 => -1
  | n + 1 => if 0 ≤ fnd p n then fnd p n else if p n = true then (n : Int) else -1
theorem fnd_cases (p : Nat → Bool) : ∀ n, (fnd p n = -1 ∧ ∀ j, j < n → p j = false) ∨ ∃ k, k < n ∧ fnd p n = (k : Int) ∧ p k = true ∧ ∀ j, j < k → p j = false
  | 0 => .inl ⟨rfl, fun _ h => absurd h (Nat.not_lt_zero _)⟩
  | n + 1 => by
    rcases fnd_cases p n with ⟨h1, h2⟩ | ⟨k, h1, h2, h3, h4⟩
    · by_cases q : p n = true
      · exact .inr ⟨n, by omega, by rw [fnd, h1]; simp [q], q, h2⟩
      · refine .inl ⟨by rw [fnd, h1]; simp [q], fun j hj => ?_⟩
        by_cases e : j = n
        · rw [e]; simpa using q
        · exact h2 j (by omega)
    · exact .inr ⟨k, by omega, by rw [fnd, h2, if_pos (by omega)], h3, h4⟩
theorem fnd_miss {p : Nat → Bool} {n : Nat} (h : ∀ j, j < n → p j = false) : fnd p n = -1 := by
  rcases fnd_cases p n with ⟨h1, _⟩ | ⟨k, h1, _, h3, _⟩
  · exact h1
  · rw [h k h1] at h3; cases h3
theorem fnd_hit {p : Nat → Bool} {n k : Nat} (hk : k < n) (h : p k = true) (hm : ∀ j, j < k → p j = false) : fnd p n = (k : Int) := by
  rcases fnd_cases p n with ⟨_, h2⟩ | ⟨i, h1, h2, h3, h4⟩
  · rw [h2 k hk] at h; cases h
  · rcases Nat.lt_trichotomy i k with q | q | q
    · rw [hm i q] at h3; cases h3
    · rw [h2, q]
    · rw [h4 k q] at h; cases h
theorem fnd_congr {p q : Nat → Bool} {n : Nat} (h : ∀ j, j < n → p j = q j) : fnd p n = fnd q n := by
  rcases fnd_cases p n with ⟨h1, h2⟩ | ⟨k, h1, h2, h3, h4⟩
  · rw [h1, fnd_miss fun j hj => by rw [← h j hj]; exact h2 j hj]
  · rw [h2, fnd_hit h1 (by rw [← h k h1]; exact h3) fun j hj => by rw [← h j (by omega)]; exact h4 j hj]
theorem fnd_lt (p : Nat → Bool) (n : Nat) : -1 ≤ fnd p n ∧ fnd p n < n := by
  rcases fnd_cases p n with ⟨h1, _⟩ | ⟨k, h1, h2, _⟩ <;> omega
theorem fnd_spec {p : Nat → Bool} {n : Nat} (h : 0 ≤ fnd p n) : (fnd p n).toNat < n ∧ p (fnd p n).toNat = true ∧ fnd p n = (((fnd p n).toNat : Nat) : Int) := by
  rcases fnd_cases p n with ⟨h1, _⟩ | ⟨k, h1, h2, h3, _⟩
  · omega
  · rw [h2]; exact ⟨h1, h3, by omega⟩
def ixT (T : List Int) (t : Int) : Int := fnd (fun j => decide (nth T j = t)) T.length
def ixB (G : List Bag) (g : Int) : Int := fnd (fun j => decide ((nth G j).1 = g)) G.length
theorem ixT_hit {T : List Int} {t : Int} (h : 0 ≤ ixT T t) : (ixT T t).toNat < T.length ∧ nth T (ixT T t).toNat = t ∧ ixT T t = (((ixT T t).toNat : Nat) : Int) := by
  have q := fnd_spec h
  exact ⟨q.1, of_decide_eq_true q.2.1, q.2.2⟩
theorem ixB_hit {G : List Bag} {t : Int} (h : 0 ≤ ixB G t) : (ixB G t).toNat < G.length ∧ (nth G (ixB G t).toNat).1 = t ∧ ixB G t = (((ixB G t).toNat : Nat) : Int) := by
  have q := fnd_spec h
  exact ⟨q.1, of_decide_eq_true q.2.1, q.2.2⟩
theorem ixT_lt (T : List Int) (t : Int) : -1 ≤ ixT T t ∧ ixT T t < T.length := fnd_lt _ _
theorem ixB_lt (G : List Bag) (t : Int) : -1 ≤ ixB G t ∧ ixB G t < G.length := fnd_lt _ _
/-- the greatest of the first rows -/
def maxR (R : List Int) : Nat → Int
  | 0 => 0
  | k + 1 => max (maxR R k) (nth R k)
def Rows (R : List Int) : Prop := ∀ i, i < R.length → 1 ≤ nth R i ∧ nth R i ≤ 999
theorem maxR_in {R : List Int} (h : Rows R) : ∀ k, k ≤ R.length → 0 ≤ maxR R k ∧ maxR R k ≤ 999 ∧ (0 < k → 1 ≤ maxR R k)
  | 0, _ => by simp [maxR]
  | k + 1, hk => by
    have := maxR_in h k (by omega)
    have := h k (by omega)
    rw [maxR]; omega
theorem maxR_ge {R : List Int} : ∀ k i, i < k → nth R i ≤ maxR R k
  | k + 1, i, h => by
    rw [maxR]
    by_cases e : i = k
    · subst e; omega
    · have := maxR_ge (R := R) k i (by omega); omega
theorem maxR_is {R : List Int} : ∀ k, maxR R k = 0 ∨ ∃ i, i < k ∧ maxR R k = nth R i
  | 0 => .inl rfl
  | k + 1 => by
    rw [maxR]
    rcases maxR_is (R := R) k with h | ⟨i, h1, h2⟩
    · by_cases q : nth R k ≤ 0
      · exact .inl (by omega)
      · exact .inr ⟨k, by omega, by omega⟩
    · by_cases q : nth R k ≤ maxR R k
      · exact .inr ⟨i, by omega, by omega⟩
      · exact .inr ⟨k, by omega, by omega⟩
theorem zone_bd {x y : Int} (h0 : 0 ≤ x) (h1 : x ≤ y) (hy : 1 ≤ y) : 0 ≤ (x * 4).tdiv y ∧ (x * 4).tdiv y ≤ 4 := by
  rw [Int.tdiv_eq_ediv_of_nonneg (by omega)]
  refine ⟨Int.ediv_nonneg (by omega) (by omega), ?_⟩
  have := Int.ediv_le_of_le_mul (a := x * 4) (b := 4) (c := y) (by omega) (by omega)
  exact this
def zoneV (T R : List Int) (t : Int) : Int := if ixT T t < 0 then 0 else 1 + ((maxR R R.length - nth R (ixT T t).toNat) * 4).tdiv (maxR R R.length)
/-- making -/
def newK (T R : List Int) : Nat → Int
  | 0 => 0
  | k + 1 => if newK T R k ≠ 0 then newK T R k else if nth R k < 1 ∨ 999 < nth R k then 2 else if 0 ≤ fnd (fun j => decide (nth T j = nth T k)) k then 6 else 0
theorem newK_stay {T R : List Int} {k : Nat} {e : Int} (h : newK T R k = e) (he : e ≠ 0) : ∀ n, k ≤ n → newK T R n = e
  | 0, hk => by obtain rfl : k = 0 := by omega
                exact h
  | n + 1, hk => by
    by_cases q : k = n + 1
    · rw [← q]; exact h
    · have := newK_stay h he n (by omega)
      rw [newK, if_pos (by rw [this]; exact he), this]
theorem newK_zero {T R : List Int} : ∀ n, newK T R n = 0 → ∀ k, k < n → (1 ≤ nth R k ∧ nth R k ≤ 999) ∧ ∀ j, j < k → nth T j ≠ nth T k
  | n + 1, h, k, hk => by
    have h0 : newK T R n = 0 := by
      rw [newK] at h
      split at h
      · rename_i q; exact absurd h q
      · rename_i q; simpa using q
    by_cases e : k = n
    · subst e
      rw [newK, if_neg (by simp [h0])] at h
      split at h
      · cases h
      · rename_i q
        refine ⟨by omega, fun j hj hc => ?_⟩
        split at h
        · cases h
        · rename_i q2
          refine q2 ?_
          rcases fnd_cases (fun j => decide (nth T j = nth T k)) k with ⟨_, h2⟩ | ⟨i, _, h2, _⟩
          · have := h2 j hj; simp [hc] at this
          · rw [h2]; omega
    · exact newK_zero n h0 k (by omega)
def newE (T R : List Int) : Int := if 999 < T.length then 4 else if T.length ≠ R.length then 2 else newK T R T.length
structure Made (T R : List Int) : Prop where
  size : T.length ≤ 999
  len : R.length = T.length
  rows : Rows R
  dist : ∀ i j, i < T.length → j < T.length → nth T i = nth T j → i = j
theorem made_of {T R : List Int} (h : newE T R = 0) : Made T R := by
  unfold newE at h
  split at h
  · cases h
  · split at h
    · cases h
    · rename_i q1 q2
      have hl : T.length = R.length := by simpa using q2
      have hz := newK_zero T.length h
      refine ⟨by omega, hl.symm, fun i hi => (hz i (by omega)).1, fun i j hi hj e => ?_⟩
      rcases Nat.lt_trichotomy i j with q | q | q
      · exact absurd e ((hz j hj).2 i q)
      · exact q
      · exact absurd e.symm ((hz i hi).2 j q)
theorem ixT_take {T : List Int} {k : Nat} {t : Int} (h : k ≤ T.length) : ixT ((T.drop 0).take (k - 0)) t = fnd (fun j => decide (nth T j = t)) k := by
  rw [List.drop_zero, Nat.sub_zero, ixT, List.length_take, Nat.min_eq_left h]
  exact fnd_congr fun j hj => by rw [nth_take hj]
theorem newE_of {T R : List Int} {k : Nat} {e : Int} (h1 : T.length ≤ 999) (h2 : T.length = R.length) (h3 : newK T R k = e) (he : e ≠ 0) (hk : k ≤ T.length) : newE T R = e := by
  rw [newE, if_neg (by omega), if_neg (by simp [h2]), newK_stay h3 he _ hk]
theorem newE_end {T R : List Int} (h1 : T.length ≤ 999) (h2 : T.length = R.length) (h3 : newK T R T.length = 0) : newE T R = 0 := by
  rw [newE, if_neg (by omega), if_neg (by simp [h2]), h3]
theorem newK_row {T R : List Int} {k : Nat} (h : newK T R k = 0) (hr : nth R k < 1 ∨ 999 < nth R k) : newK T R (k + 1) = 2 := by
  rw [newK, if_neg (by simp [h]), if_pos hr]
theorem newK_twice {T R : List Int} {k : Nat} (h : newK T R k = 0) (hr : ¬ (nth R k < 1 ∨ 999 < nth R k)) (ht : 0 ≤ fnd (fun j => decide (nth T j = nth T k)) k) : newK T R (k + 1) = 6 := by
  rw [newK, if_neg (by simp [h]), if_neg hr, if_pos ht]
theorem newK_next {T R : List Int} {k : Nat} (h : newK T R k = 0) (hr : ¬ (nth R k < 1 ∨ 999 < nth R k)) (ht : ¬ 0 ≤ fnd (fun j => decide (nth T j = nth T k)) k) : newK T R (k + 1) = 0 := by
  rw [newK, if_neg (by simp [h]), if_neg hr, if_neg ht]
/-- calls -/
def loadE (T : List Int) (c : Bool) (G : List Bag) (b : Bag) : Int := if c = true then 10 else if ixT T b.2.1 < 0 then 7 else if 0 ≤ ixB G b.1 then 6 else 0
def loadG (T : List Int) (c : Bool) (G : List Bag) (b : Bag) : List Bag := if loadE T c G b = 0 then G ++ [b] else G
def unE (c : Bool) (G : List Bag) (g : Int) : Int := if c = true then 10 else if ixB G g < 0 then 7 else 0
def unG (c : Bool) (G : List Bag) (g : Int) : List Bag := if unE c G g = 0 then G.take (ixB G g).toNat ++ G.drop ((ixB G g).toNat + 1) else G
def unB (c : Bool) (G : List Bag) (g : Int) : Bag := if unE c G g = 0 then nth G (ixB G g).toNat else (0, 0, 0)
def movE (T : List Int) (A : List Bool) (c : Bool) (t : Int) (x : Bool) (al : Int) : Int := if c = true then 10 else if ixT T t < 0 then 7 else if nth A (ixT T t).toNat = x then al else 0
def movA (T : List Int) (A : List Bool) (c : Bool) (t : Int) (x : Bool) : List Bool := if movE T A c t x 1 = 0 then A.set (ixT T t).toNat x else A
theorem movA_of {T : List Int} {A : List Bool} {c : Bool} {t : Int} {x : Bool} {al : Int} (h : al ≠ 0) : movA T A c t x = if movE T A c t x al = 0 then A.set (ixT T t).toNat x else A := by
  unfold movA movE
  (repeat' split) <;> simp_all
theorem movA_len {T : List Int} {A : List Bool} {c : Bool} {t : Int} {x : Bool} : (movA T A c t x).length = A.length := by
  unfold movA; split <;> simp
/-- bags without their passengers -/
def lostB (T : List Int) (A : List Bool) (b : Bag) : Bool := !nth A (ixT T b.2.1).toNat
def missL (T : List Int) (A : List Bool) (G : List Bag) : List Bag := G.filter (lostB T A)
def listL (T : List Int) (A : List Bool) (x : Bool) : Nat → List Int
  | 0 => []
  | k + 1 => if nth A k = x then listL T A x k ++ [nth T k] else listL T A x k
def closeE (T : List Int) (A : List Bool) (c : Bool) (G : List Bag) : Int := if c = true then 10 else if 0 < (missL T A G).length then 34 else 0
def closeC (T : List Int) (A : List Bool) (c : Bool) (G : List Bag) : Bool := if closeE T A c G = 0 then true else c
def closeL (T : List Int) (A : List Bool) (c : Bool) (G : List Bag) : List Int := if closeE T A c G = 0 then listL T A true T.length else []
theorem missL_take {T : List Int} {A : List Bool} {G : List Bag} {k : Nat} (h : k < G.length) : missL T A (G.take (k + 1)) = if lostB T A (nth G k) = true then missL T A (G.take k) ++ [nth G k] else missL T A (G.take k) := by
  unfold missL
  rw [take_nth h, List.filter_append]
  by_cases q : lostB T A (nth G k) = true
  · simp [q]
  · simp [q]
theorem missL_le (T : List Int) (A : List Bool) (G : List Bag) : (missL T A G).length ≤ G.length := List.length_filter_le _ _
theorem listL_le (T : List Int) (A : List Bool) (x : Bool) : ∀ k, (listL T A x k).length ≤ k
  | 0 => Nat.le_refl _
  | k + 1 => by
    have := listL_le T A x k
    rw [listL]; split <;> simp <;> omega
theorem closeL_le {T : List Int} {A : List Bool} {c : Bool} {G : List Bag} (h : T.length ≤ 100000) : (closeL T A c G).length ≤ 100000 := by
  unfold closeL
  split
  · have := listL_le T A true T.length; omega
  · exact Nat.zero_le _
/-- every bag's ticket is known -/
def Known (T : List Int) (G : List Bag) : Prop := ∀ b ∈ G, 0 ≤ ixT T b.2.1
theorem Known.nth {T : List Int} {G : List Bag} (h : Known T G) {k : Nat} (hk : k < G.length) : (ixT T (nth G k).2.1).toNat < T.length ∧ ixT T (Eng.nth G k).2.1 = (((ixT T (Eng.nth G k).2.1).toNat : Nat) : Int) := by
  have := ixT_hit (h _ (nth_mem hk))
  exact ⟨this.1, this.2.2⟩
theorem Known.load {T : List Int} {G : List Bag} {c : Bool} {b : Bag} (h : Known T G) : Known T (loadG T c G b) := by
  unfold loadG
  split
  · rename_i q
    intro x hx
    rcases List.mem_append.1 hx with hx | hx
    · exact h x hx
    · obtain rfl : x = b := by simpa using hx
      unfold loadE at q
      split at q
      · cases q
      · split at q
        · cases q
        · omega
  · exact h
theorem Known.un {T : List Int} {G : List Bag} {c : Bool} {g : Int} (h : Known T G) : Known T (unG c G g) := by
  unfold unG
  split
  · intro x hx
    rcases List.mem_append.1 hx with hx | hx
    · exact h x (List.mem_of_mem_take hx)
    · exact h x (List.mem_of_mem_drop hx)
  · exact h
theorem loadG_le {T : List Int} {G : List Bag} {c : Bool} {b : Bag} : (loadG T c G b).length ≤ G.length + 1 := by
  unfold loadG; split <;> simp
theorem unG_le {G : List Bag} {c : Bool} {g : Int} : (unG c G g).length ≤ G.length := by
  unfold unG
  split
  · simp only [List.length_append, List.length_take, List.length_drop]; omega
  · exact Nat.le_refl _
/-! ### zones -/
theorem ixT_at {T R : List Int} (h : Made T R) {i : Nat} (hi : i < T.length) : ixT T (nth T i) = (i : Int) :=
  fnd_hit hi (by simp) fun j hj => by
    simp only [decide_eq_false_iff_not]
    intro e
    have := h.dist j i (by omega) hi e
    omega
theorem zone_at {T R : List Int} (h : Made T R) {i : Nat} (hi : i < T.length) : zoneV T R (nth T i) = 1 + ((maxR R R.length - nth R i) * 4).tdiv (maxR R R.length) := by
  have e := ixT_at h hi
  rw [zoneV, e, if_neg (by omega), show ((i : Nat) : Int).toNat = i from by omega]
theorem zone_in {T R : List Int} (h : Made T R) {i : Nat} (hi : i < T.length) : 1 ≤ zoneV T R (nth T i) ∧ zoneV T R (nth T i) ≤ 4 := by
  have hl := h.len
  have h1 := maxR_in h.rows R.length (Nat.le_refl _)
  have h2 := h.rows i (by omega)
  have h3 := maxR_ge (R := R) R.length i (by omega)
  rw [zone_at h hi, Int.tdiv_eq_ediv_of_nonneg (by omega)]
  have h4 : (maxR R R.length - nth R i) * 4 < 4 * maxR R R.length := by omega
  have h5 := Int.ediv_lt_of_lt_mul (by omega) h4
  have h6 := Int.ediv_nonneg (a := (maxR R R.length - nth R i) * 4) (b := maxR R R.length) (by omega) (by omega)
  omega
theorem zone_mono {T R : List Int} (h : Made T R) {i k : Nat} (hi : i < T.length) (hk : k < T.length) (hr : nth R i < nth R k) : zoneV T R (nth T k) ≤ zoneV T R (nth T i) := by
  have hl := h.len
  have h1 := maxR_in h.rows R.length (Nat.le_refl _)
  have h3 := maxR_ge (R := R) R.length k (by omega)
  rw [zone_at h hi, zone_at h hk, Int.tdiv_eq_ediv_of_nonneg (by omega), Int.tdiv_eq_ediv_of_nonneg (by omega)]
  have := Int.ediv_le_ediv (a := (maxR R R.length - nth R k) * 4) (b := (maxR R R.length - nth R i) * 4) (c := maxR R R.length) (by omega) (by omega)
  omega
theorem zone_last {T R : List Int} (h : Made T R) {i : Nat} (hi : i < T.length) (hr : ∀ k, k < T.length → nth R k ≤ nth R i) : zoneV T R (nth T i) = 1 := by
  have hl := h.len
  have h2 := h.rows i (by omega)
  have h3 := maxR_ge (R := R) R.length i (by omega)
  have h4 : maxR R R.length = nth R i := by
    rcases maxR_is (R := R) R.length with q | ⟨j, q1, q2⟩
    · omega
    · have := hr j (by omega); omega
  rw [zone_at h hi, h4, Int.sub_self, Int.zero_mul, Int.zero_tdiv, Int.add_zero]
/-! ### what a closed gate has -/
theorem ixT_mem {l : List Int} {t : Int} : 0 ≤ ixT l t ↔ t ∈ l := by
  constructor
  · intro h
    have q := ixT_hit h
    rw [← q.2.1]; exact nth_mem q.1
  · intro h
    obtain ⟨i, hi, e⟩ := mem_nth h
    rcases fnd_cases (fun j => decide (nth l j = t)) l.length with ⟨_, h2⟩ | ⟨k, _, h2, _⟩
    · have := h2 i hi; simp [e] at this
    · unfold ixT; rw [h2]; omega
theorem listL_mem {T : List Int} {A : List Bool} {x : Bool} {t : Int} : ∀ k, t ∈ listL T A x k ↔ ∃ i, i < k ∧ nth A i = x ∧ nth T i = t
  | 0 => by simp [listL]
  | k + 1 => by
    rw [listL]
    constructor
    · intro h
      by_cases q : nth A k = x
      · rw [if_pos q] at h
        rcases List.mem_append.1 h with h | h
        · obtain ⟨i, h1, h2⟩ := (listL_mem k).1 h
          exact ⟨i, by omega, h2⟩
        · exact ⟨k, by omega, q, (List.mem_singleton.1 h).symm⟩
      · rw [if_neg q] at h
        obtain ⟨i, h1, h2⟩ := (listL_mem k).1 h
        exact ⟨i, by omega, h2⟩
    · rintro ⟨i, h1, h2, h3⟩
      by_cases e : i = k
      · subst e
        rw [if_pos h2]
        exact List.mem_append_right _ (by simp [h3])
      · have := (listL_mem (T := T) (A := A) (x := x) (t := t) k).2 ⟨i, by omega, h2, h3⟩
        split
        · exact List.mem_append_left _ this
        · exact this
theorem has_list {T R : List Int} {A : List Bool} {x : Bool} {t : Int} {n : Nat} (h : Made T R) (hn : n = T.length) (ht : 0 ≤ ixT T t) : decide (0 ≤ ixT (listL T A x n) t) = decide (nth A (ixT T t).toNat = x) := by
  have q := ixT_hit ht
  refine decide_eq_decide.2 ?_
  rw [ixT_mem, listL_mem]
  constructor
  · rintro ⟨i, h1, h2, h3⟩
    rw [h.dist (ixT T t).toNat i q.1 (by omega) (by rw [q.2.1, h3])]; exact h2
  · intro e
    exact ⟨_, by omega, e, q.2.1⟩
theorem has_at {T R : List Int} {A : List Bool} {x : Bool} {n i : Nat} (h : Made T R) (hn : n = T.length) (hi : i < n) : decide (0 ≤ ixT (listL T A x n) (nth T i)) = decide (nth A i = x) := by
  have e := ixT_at h (i := i) (by omega)
  rw [has_list h hn (by omega), e, show ((i : Nat) : Int).toNat = i from by omega]
theorem has_lost {T R : List Int} {A : List Bool} {n : Nat} {G : List Bag} {k : Nat} (h : Made T R) (hn : n = T.length) (hK : Known T G) (hk : k < G.length) : decide (0 ≤ ixT (listL T A false n) (nth G k).2.1) = lostB T A (nth G k) := by
  rw [has_list h hn (hK _ (nth_mem hk)), lostB]
  cases nth A (ixT T (nth G k).2.1).toNat <;> rfl
theorem list_sum {T : List Int} {A : List Bool} : ∀ k, (listL T A false k).length + (listL T A true k).length = k
  | 0 => rfl
  | k + 1 => by
    have := list_sum (T := T) (A := A) k
    rw [listL, listL]
    cases nth A k <;> simp <;> omega
theorem load_ok {T : List Int} {G : List Bag} {x : Bag} (h : loadE T false G x = 0) : 0 ≤ ixT T x.2.1 ∧ ixB G x.1 < 0 := by
  unfold loadE at h
  rw [if_neg (by decide)] at h
  split at h
  · cases h
  · split at h
    · cases h
    · omega
theorem un_new {T : List Int} {G : List Bag} {x : Bag} (h : loadE T false G x = 0) : unE false (G ++ [x]) x.1 = 0 ∧ unG false (G ++ [x]) x.1 = G ∧ unB false (G ++ [x]) x.1 = x := by
  have hb := (load_ok h).2
  have hm : ∀ j, j < G.length → (nth G j).1 ≠ x.1 := by
    intro j hj e
    rcases fnd_cases (fun j => decide ((nth G j).1 = x.1)) G.length with ⟨_, h2⟩ | ⟨k, _, h2, _⟩
    · have := h2 j hj; simp [e] at this
    · unfold ixB at hb; rw [h2] at hb; omega
  have hi : ixB (G ++ [x]) x.1 = (G.length : Int) := by
    refine fnd_hit (by simp) (by rw [nth_append_len]; simp) fun j hj => ?_
    rw [nth_append_left hj]
    simpa using hm j hj
  have he : unE false (G ++ [x]) x.1 = 0 := by rw [unE, if_neg (by decide), hi, if_neg (by omega)]
  refine ⟨he, ?_, ?_⟩
  · rw [unG, if_pos he, hi, show ((G.length : Nat) : Int).toNat = G.length from by omega, List.take_left, List.drop_of_length_le (by simp), List.append_nil]
  · rw [unB, if_pos he, hi, show ((G.length : Nat) : Int).toNat = G.length from by omega, nth_append_len]
theorem mov_after {T : List Int} {A : List Bool} {t : Int} {x : Bool} {al be : Int} (hA : A.length = T.length) (hal : al ≠ 0) (h : movE T A false t x al = 0) : movE T (movA T A false t x) false t (!x) be = 0 := by
  have h0 := h
  unfold movE at h
  rw [if_neg (by decide)] at h
  split at h
  · cases h
  · rename_i q
    have qx := ixT_hit (T := T) (t := t) (by omega)
    rw [movA_of hal, if_pos h0, movE, if_neg (by decide), if_neg q, nth_set (by omega), if_pos rfl, if_neg (by cases x <;> decide)]
theorem close_lost {T : List Int} {A : List Bool} {G : List Bag} (h : 0 < (missL T A G).length) : closeE T A false G = 34 ∧ closeC T A false G = false ∧ closeL T A false G = [] := by
  have e : closeE T A false G = 34 := by rw [closeE, if_neg (by decide), if_pos h]
  exact ⟨e, by rw [closeC, if_neg (by rw [e]; decide)], by rw [closeL, if_neg (by rw [e]; decide)]⟩
theorem close_all {T : List Int} {A : List Bool} {G : List Bag} {n : Nat} (hn : n = T.length) (h : (missL T A G).length = 0) : closeE T A false G = 0 ∧ closeC T A false G = true ∧ closeL T A false G = listL T A true n := by
  have e : closeE T A false G = 0 := by rw [closeE, if_neg (by decide), if_neg (by omega)]
  exact ⟨e, by rw [closeC, if_pos e], by rw [closeL, if_pos e, hn]⟩
end Go.Proofs.Ythbgnjengkjigaa
