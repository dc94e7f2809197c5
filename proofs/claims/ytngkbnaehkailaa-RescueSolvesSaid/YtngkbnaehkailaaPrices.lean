/-
  Flows: prices, the program's and the reference's, in plain Lean.
-/
import Derived.Test.YtngkbnaehkailaaFlow
namespace Go.Proofs.Ytngkbnaehkailaa
open Go Go.RowKit Eng
set_option linter.unusedVariables false
set_option linter.unusedSimpArgs false
def app (c : List Int) (x : Sp) : List Int := c.set x.2.1.toNat (min (nth c x.2.1.toNat) (nth c x.1.toNat + x.2.2.1))
theorem app_len {c : List Int} {x : Sp} : (app c x).length = c.length := by simp [app]
theorem fold_len : ∀ (S : List Sp) (c : List Int), (S.foldl app c).length = c.length
  | [], c => rfl
  | x :: r, c => by rw [List.foldl_cons, fold_len r, app_len]
theorem app_le {c : List Int} {x : Sp} (v : Nat) : nth (app c x) v ≤ nth c v := by
  unfold app
  rcases Nat.lt_or_ge x.2.1.toNat c.length with q | q
  · rw [nth_set q]
    split
    · rename_i e; subst e; exact Int.min_le_left _ _
    · exact Int.le_refl _
  · rw [List.set_eq_of_length_le q]; exact Int.le_refl _
theorem fold_le : ∀ (S : List Sp) (c : List Int) (v : Nat), nth (S.foldl app c) v ≤ nth c v
  | [], c, v => Int.le_refl _
  | x :: r, c, v => Int.le_trans (fold_le r (app c x) v) (app_le v)
theorem app_bd {n : Nat} {lo : Int} {c : List Int} {x : Sp} (h : Bd n lo c) (hx : x.1.toNat < n ∧ x.2.1.toNat < n) (hc : -4294967296 ≤ x.2.2.1) : Bd n (lo - 4294967296) (app c x) := by
  unfold app
  have h1 := h.bd x.1.toNat hx.1
  have h2 := h.bd x.2.1.toNat hx.2
  refine (h.mono (by omega)).set ⟨by omega, by omega⟩
def rndK (l : List Ed) (f : List Int) (nu : Nat) : Nat → List Int
  | 0 => List.replicate nu 0
  | r + 1 => (stepsK l f l.length).foldl app (rndK l f nu r)
theorem rndK_len {l : List Ed} {f : List Int} {nu : Nat} : ∀ r, (rndK l f nu r).length = nu
  | 0 => by simp [rndK]
  | r + 1 => by rw [rndK, fold_len, rndK_len r]
theorem rndK_le {l : List Ed} {f : List Int} {nu : Nat} : ∀ r v, nth (rndK l f nu r) v ≤ 0
  | 0, v => by
    rcases Nat.lt_or_ge v nu with q | q
    · rw [rndK, nth_rep q]; exact Int.le_refl _
    · rw [rndK, nth_out (by simpa using q)]; exact Int.le_refl _
  | r + 1, v => Int.le_trans (fold_le _ _ v) (rndK_le r v)
theorem fold_take {S : List Sp} {c : List Int} {j : Nat} (h : j < S.length) : (S.take (j + 1)).foldl app c = app ((S.take j).foldl app c) (nth S j) := by
  rw [take_nth h, List.foldl_append]; rfl
def rpricesF (n : Int) (l : List Ed) (f : List Int) : List Int × Bool :=
  if rightB n l f = true ∧ provesB n l f (rndK l f n.toNat n.toNat) = true then (rndK l f n.toNat n.toNat, true) else ([], false)
/-! ### a sweep does what the steps do -/
def Low (c : List Int) : Prop := ∀ v, nth c v ≤ 0
theorem fw_app {l : List Ed} {f c : List Int} {i : Nat} (hc : Low c) : fwS l f i c = (spF l f i).foldl app c := by
  have h1 := hc (nth l i).1.toNat
  unfold fwS spF
  by_cases q : nth f i < (nth l i).2.2.1
  · rw [if_pos q, List.foldl_cons, List.foldl_nil]
    unfold app
    dsimp only
    by_cases q2 : nth c (nth l i).1.toNat + (nth l i).2.2.2 < nth c (nth l i).2.1.toNat
    · rw [if_pos (by rw [fwC, Bool.and_eq_true, Bool.and_eq_true, decide_eq_true_iff, decide_eq_true_iff, decide_eq_true_iff]; omega), Int.min_eq_right (by omega)]
    · rw [if_neg (by rw [fwC, Bool.and_eq_true, Bool.and_eq_true, decide_eq_true_iff, decide_eq_true_iff, decide_eq_true_iff]; omega), Int.min_eq_left (by omega), set_id]
  · rw [if_neg q, if_neg (by rw [fwC, Bool.and_eq_true, Bool.and_eq_true, decide_eq_true_iff]; exact fun h => q h.1)]; rfl
theorem bw_app {l : List Ed} {f c : List Int} {i : Nat} (hc : Low c) : bwS l f i c = (spB l f i).foldl app c := by
  have h1 := hc (nth l i).2.1.toNat
  unfold bwS spB
  by_cases q : 0 < nth f i
  · rw [if_pos q, List.foldl_cons, List.foldl_nil]
    unfold app
    dsimp only
    by_cases q2 : nth c (nth l i).2.1.toNat - (nth l i).2.2.2 < nth c (nth l i).1.toNat
    · rw [if_pos (by rw [bwC, Bool.and_eq_true, Bool.and_eq_true, decide_eq_true_iff, decide_eq_true_iff, decide_eq_true_iff]; omega), Int.min_eq_right (by omega), Int.sub_eq_add_neg]
    · rw [if_neg (by rw [bwC, Bool.and_eq_true, Bool.and_eq_true, decide_eq_true_iff, decide_eq_true_iff, decide_eq_true_iff]; omega), Int.min_eq_left (by omega), set_id]
  · rw [if_neg q, if_neg (by rw [bwC, Bool.and_eq_true, Bool.and_eq_true, decide_eq_true_iff]; exact fun h => q h.1)]; rfl
theorem Low.fold {c : List Int} (h : Low c) (S : List Sp) : Low (S.foldl app c) := fun v => Int.le_trans (fold_le S c v) (h v)
theorem sweep_succ {l : List Ed} {f c la : List Int} {k : Nat} : (sweep l f c la (k + 1)).1 = bwS l f k (fwS l f k (sweep l f c la k).1) ∧ (sweep l f c la (k + 1)).2.2 = (((sweep l f c la k).2.2 || fwC l f (sweep l f c la k).1 k) || bwC l f (fwS l f k (sweep l f c la k).1) k) := ⟨rfl, rfl⟩
theorem sweep_fold {l : List Ed} {f c la : List Int} (hc : Low c) : ∀ k, (sweep l f c la k).1 = (stepsK l f k).foldl app c
  | 0 => rfl
  | k + 1 => by
    have ih := sweep_fold (l := l) (f := f) (la := la) hc k
    have h1 := hc.fold (stepsK l f k)
    rw [sweep_succ.1, ih, fw_app h1, bw_app (h1.fold _), stepsK, List.foldl_append, List.foldl_append]
theorem sweep_same {l : List Ed} {f c la : List Int} : ∀ k, (sweep l f c la k).2.2 = false → (sweep l f c la k).1 = c ∧ ∀ i, i < k → fwC l f c i = false ∧ bwC l f c i = false
  | 0, _ => ⟨rfl, fun i h => absurd h (Nat.not_lt_zero _)⟩
  | k + 1, h => by
    rw [sweep_succ.2, Bool.or_eq_false_iff, Bool.or_eq_false_iff] at h
    obtain ⟨⟨h1, h2⟩, h3⟩ := h
    obtain ⟨i1, i2⟩ := sweep_same k h1
    rw [i1] at h2 h3
    have e1 : fwS l f k c = c := by rw [fwS, if_neg (by rw [h2]; decide)]
    rw [e1] at h3
    have e2 : bwS l f k c = c := by rw [bwS, if_neg (by rw [h3]; decide)]
    refine ⟨by rw [sweep_succ.1, i1, e1, e2], fun i hi => ?_⟩
    by_cases e : i = k
    · rw [e]; exact ⟨h2, h3⟩
    · exact i2 i (by omega)
theorem sweep_still {l : List Ed} {f c la : List Int} : ∀ k, (∀ i, i < k → fwC l f c i = false ∧ bwC l f c i = false) → (sweep l f c la k).1 = c ∧ (sweep l f c la k).2.2 = false
  | 0, _ => ⟨rfl, rfl⟩
  | k + 1, h => by
    obtain ⟨i1, i2⟩ := sweep_still (l := l) (f := f) (c := c) (la := la) k fun i hi => h i (by omega)
    obtain ⟨h2, h3⟩ := h k (by omega)
    have e1 : fwS l f k c = c := by rw [fwS, if_neg (by rw [h2]; decide)]
    have e2 : bwS l f k c = c := by rw [bwS, if_neg (by rw [h3]; decide)]
    exact ⟨by rw [sweep_succ.1, i1, e1, e2], by rw [sweep_succ.2, i1, i2, h2, e1, h3]; rfl⟩
theorem tight_iff {l : List Ed} {f c : List Int} {i : Nat} (hc : Low c) : tightB l f c i = true ↔ fwC l f c i = false ∧ bwC l f c i = false := by
  have h1 := hc (nth l i).1.toNat
  have h2 := hc (nth l i).2.1.toNat
  rw [tightB, Bool.not_eq_true', Bool.or_eq_false_iff, fwC, bwC]
  simp only [Bool.and_eq_false_iff, decide_eq_false_iff_not]
  constructor
  · rintro ⟨a, b⟩
    exact ⟨a.imp id (fun h => .inr h), b.imp id (fun h => .inr h)⟩
  · rintro ⟨a, b⟩
    refine ⟨a.imp id (fun h => h.resolve_left (by omega)), b.imp id (fun h => h.resolve_left (by omega))⟩
theorem rndK_low {l : List Ed} {f : List Int} {nu r : Nat} : Low (rndK l f nu r) := fun v => rndK_le r v
theorem rndK_sweep {l : List Ed} {f la : List Int} {nu r : Nat} : (sweep l f (rndK l f nu r) la l.length).1 = rndK l f nu (r + 1) := sweep_fold rndK_low _
/-- what 'run' leaves -/
theorem run_cases {l : List Ed} {f : List Int} {nu : Nat} : ∀ k r la, (∃ j, j < k ∧ (runF l f k (rndK l f nu r) la).1 = rndK l f nu (r + j) ∧ (runF l f k (rndK l f nu r) la).2.2 = true ∧ allK (tightB l f (rndK l f nu (r + j))) l.length = true) ∨ ((runF l f k (rndK l f nu r) la).2.2 = false ∧ ∀ j, j < k → allK (tightB l f (rndK l f nu (r + j))) l.length = false)
  | 0, r, la => .inr ⟨rfl, fun j h => absurd h (Nat.not_lt_zero _)⟩
  | k + 1, r, la => by
    by_cases q : (sweep l f (rndK l f nu r) la l.length).2.2 = true
    · have e : runF l f (k + 1) (rndK l f nu r) la = runF l f k (rndK l f nu (r + 1)) (sweep l f (rndK l f nu r) la l.length).2.1 := by rw [runF, if_pos q, rndK_sweep]
      have hn : allK (tightB l f (rndK l f nu r)) l.length = false := by
        cases hq : allK (tightB l f (rndK l f nu r)) l.length with
        | false => rfl
        | true =>
          have := (sweep_still (l := l) (f := f) (c := rndK l f nu r) (la := la) l.length fun i hi => (tight_iff rndK_low).1 ((allK_iff _).1 hq i hi)).2
          rw [this] at q; cases q
      rw [e]
      rcases run_cases k (r + 1) (sweep l f (rndK l f nu r) la l.length).2.1 with ⟨j, h1, h2, h3, h4⟩ | ⟨h1, h2⟩
      · exact .inl ⟨j + 1, by omega, by rw [h2]; congr 1; omega, h3, by rw [show r + (j + 1) = r + 1 + j from by omega]; exact h4⟩
      · refine .inr ⟨h1, fun j hj => ?_⟩
        cases j with
        | zero => exact hn
        | succ j => rw [show r + (j + 1) = r + 1 + j from by omega]; exact h2 j (by omega)
    · have q' : (sweep l f (rndK l f nu r) la l.length).2.2 = false := by simpa using q
      have h := sweep_same l.length q'
      refine .inl ⟨0, by omega, ?_, ?_, ?_⟩
      · rw [runF, if_neg q]; exact h.1
      · rw [runF, if_neg q]
      · exact (allK_iff _).2 fun i hi => (tight_iff rndK_low).2 (h.2 i hi)
theorem rndK_fix {l : List Ed} {f : List Int} {nu j : Nat} (h : allK (tightB l f (rndK l f nu j)) l.length = true) : ∀ d, rndK l f nu (j + d) = rndK l f nu j
  | 0 => rfl
  | d + 1 => by
    have ih := rndK_fix h d
    rw [← Nat.add_assoc, ← rndK_sweep (la := []), ih]
    exact (sweep_still l.length fun i hi => (tight_iff rndK_low).1 ((allK_iff _).1 h i hi)).1
theorem rndK_bd {l : List Ed} {f : List Int} {nu : Nat} (hE : EdOk nu l) (hW : ∀ i, i < l.length → 0 ≤ nth f i ∧ nth f i ≤ (nth l i).2.2.1) (B : Int) (hB : (l.length : Int) * 8589934592 ≤ B) : ∀ r : Nat, Bd nu (-((r : Int) * B)) (rndK l f nu r)
  | 0 => by
    have := rep_bd (nu := nu) (x := 0) (by omega)
    exact this.mono (by simp)
  | r + 1 => by
    have ih := rndK_bd hE hW B hB r
    have key : ∀ k, k ≤ l.length → Bd nu (-((r : Int) * B) - (k : Int) * 8589934592) (sweep l f (rndK l f nu r) [] k).1 := by
      intro k
      induction k with
      | zero => intro _; exact ih.mono (by omega)
      | succ k ihk =>
        intro hk
        rw [sweep_succ.1]
        exact (bwS_bd hE (by omega) (fwS_bd hE (by omega) (ihk (by omega)))).mono (by omega)
    have := key l.length (Nat.le_refl _)
    rw [rndK_sweep] at this
    refine this.mono ?_
    have e : (((r + 1 : Nat) : Int)) * B = (r : Int) * B + B := by rw [Int.natCast_add, Int.add_mul]; simp
    rw [e]; omega
theorem prices_eq {n : Int} {l : List Ed} {f : List Int} (h : rightB n l f = false ∨ (n ≤ 16 ∧ (l.length : Int) ≤ 40)) : pricesF n l f = rpricesF n l f := by
  unfold pricesF rpricesF
  by_cases hr : rightB n l f = true
  · obtain ⟨hn, hm⟩ := h.resolve_left (by rw [hr]; decide)
    obtain ⟨hc0, hw0⟩ := right_parts hr
    obtain ⟨hc, hE⟩ := check_ok hc0
    have hW := (within_ok hw0).2
    obtain ⟨nu, rfl⟩ : ∃ k : Nat, n = (k : Int) := ⟨n.toNat, by omega⟩
    rw [show (nu : Int).toNat = nu from rfl]
    have hbd := rndK_bd hE hW 343597383680 (by omega) nu
    have hp : allK (tightB l f (rndK l f nu nu)) l.length = true → provesB nu l f (rndK l f nu nu) = true := fun ht => by
      refine proves_yes hr (by rw [rndK_len]) ?_ ht
      refine (allK_iff _).2 fun i hi => ?_
      rw [rndK_len] at hi
      have h1 := hbd.bd i hi
      have h2 := rndK_le (l := l) (f := f) (nu := nu) nu i
      rw [priceB, Bool.and_eq_true, decide_eq_true_iff, decide_eq_true_iff]
      have h3 : (nu : Int) * 343597383680 ≤ 16 * 343597383680 := by omega
      omega
    have e0 : List.replicate nu (0 : Int) = rndK l f nu 0 := rfl
    rcases run_cases (l := l) (f := f) (nu := nu) (nu + 1) 0 (List.replicate nu 0) with ⟨j, h1, h2, h3, h4⟩ | ⟨h1, h2⟩
    · rw [Nat.zero_add] at h2 h4
      have ef : rndK l f nu nu = rndK l f nu j := by
        have := rndK_fix h4 (nu - j)
        rw [show j + (nu - j) = nu from by omega] at this; exact this
      have ht : allK (tightB l f (rndK l f nu nu)) l.length = true := by rw [ef]; exact h4
      rw [if_pos ⟨hr, by rw [e0]; rw [← e0] at h3 ⊢; exact h3⟩, if_pos ⟨hr, hp ht⟩, ef]
      rw [← e0] at h2
      rw [h2]
    · have h3 := h2 nu (by omega)
      rw [Nat.zero_add] at h3
      rw [← e0] at h1
      rw [if_neg (by rw [h1]; simp), if_neg (by rw [proves_no3 h3]; simp)]
  · rw [if_neg (fun hx => hr hx.1), if_neg (fun hx => hr hx.1)]
theorem prices_len {n : Int} {l : List Ed} {f : List Int} : (pricesF n l f).1.length ≤ 100000 := by
  unfold pricesF
  split
  · rename_i h
    obtain ⟨hc, hE⟩ := check_ok (right_parts h.1).1
    obtain ⟨nu, rfl⟩ : ∃ k : Nat, n = (k : Int) := ⟨n.toNat, by omega⟩
    rcases run_cases (l := l) (f := f) (nu := nu) (nu + 1) 0 (List.replicate nu 0) with ⟨j, h1, h2, _⟩ | ⟨h1, _⟩
    · have e : (runF l f ((nu : Int).toNat + 1) (List.replicate (nu : Int).toNat 0) (List.replicate (nu : Int).toNat 0)).1 = rndK l f nu (0 + j) := h2
      dsimp only
      rw [e, rndK_len]; omega
    · have h3 := h.2
      rw [show (runF l f ((nu : Int).toNat + 1) (List.replicate (nu : Int).toNat 0) (List.replicate (nu : Int).toNat 0)).2.2 = false from h1] at h3
      cases h3
  · exact Nat.zero_le _
end Go.Proofs.Ytngkbnaehkailaa
