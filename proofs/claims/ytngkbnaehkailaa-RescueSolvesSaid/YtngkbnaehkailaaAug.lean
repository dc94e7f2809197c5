/-
  Flows: the search finds ways; what a way changes. Plain Lean.
-/
import Derived.Test.YtngkbnaehkailaaPot
namespace Go.Proofs.Ytngkbnaehkailaa
open Go Go.RowKit Eng
set_option linter.unusedVariables false
set_option linter.unusedSimpArgs false
/-- the steps of one edge -/
def ArcI (l : List Ed) (f : List Int) (i u v : Nat) (w : Int) : Prop := (nth f i < (nth l i).2.2.1 ∧ u = (nth l i).1.toNat ∧ v = (nth l i).2.1.toNat ∧ w = (nth l i).2.2.2) ∨ (0 < nth f i ∧ u = (nth l i).2.1.toNat ∧ v = (nth l i).1.toNat ∧ w = -(nth l i).2.2.2)
theorem ArcI.arc {l : List Ed} {f : List Int} {i u v : Nat} {w : Int} (h : ArcI l f i u v w) (hi : i < l.length) : Arc l f u v w := ⟨i, hi, h⟩
structure Prd (l : List Ed) (f : List Int) (π : Nat → Int) (nu s : Nat) (W : Int) (N : Nat) (T : Nat → Nat) (c la : List Int) : Prop where
  len : c.length = nu
  lenl : la.length = nu
  src : nth c s = 0
  low : ∀ v, v < nu → nth c v = FAR ∨ (π v - π s ≤ nth c v ∧ -((N : Int) * W) ≤ nth c v ∧ nth c v ≤ (N : Int) * W)
  pre : ∀ v, v < nu → v ≠ s → nth c v ≠ FAR → ∃ i u w, i < l.length ∧ nth la v = (i : Int) ∧ u < nu ∧ ArcI l f i u v w ∧ nth c u ≠ FAR ∧ nth c u + w ≤ nth c v ∧ (nth c u + w = nth c v → T u < T v)
  tle : ∀ v, T v ≤ N
  las : nth la s = -1
  laf : ∀ v, v < nu → nth c v = FAR → nth la v = -1
theorem mul_succ_ {N : Nat} {W : Int} : ((N + 1 : Nat) : Int) * W = (N : Int) * W + W := by rw [Int.natCast_add, Int.add_mul]; simp
theorem Prd.step {l : List Ed} {f : List Int} {π : Nat → Int} {nu s N : Nat} {W : Int} {T : Nat → Nat} {c la : List Int} {i x y : Nat} {w : Int} (h : Prd l f π nu s W N T c la) (hP : Pot l f π) (hs : s < nu) (hW : 0 ≤ W) (hB : ((N + 1 : Nat) : Int) * W < FAR) (hi : i < l.length) (hA : ArcI l f i x y w) (hw : -W ≤ w ∧ w ≤ W) (hx : x < nu) (hy : y < nu) (hup : nth c x ≠ FAR ∧ nth c x + w < nth c y) :
    Prd l f π nu s W (N + 1) (fun v => if v = y then N + 1 else T v) (c.set y (nth c x + w)) (la.set y (i : Int)) := by
  have hp := hP x y w (hA.arc hi)
  have hlx := (h.low x hx).resolve_left hup.1
  have e1 := mul_succ_ (N := N) (W := W)
  have hys : y ≠ s := by
    rintro rfl
    have := h.src
    omega
  have hxy : x ≠ y := by
    rintro rfl
    omega
  have hc : ∀ v, nth (c.set y (nth c x + w)) v = if y = v then nth c x + w else nth c v := fun v => nth_set (by rw [h.len]; exact hy)
  have hl : ∀ v, nth (la.set y (i : Int)) v = if y = v then (i : Int) else nth la v := fun v => nth_set (by rw [h.lenl]; exact hy)
  refine ⟨by rw [List.length_set, h.len], by rw [List.length_set, h.lenl], by rw [hc, if_neg hys]; exact h.src, fun v hv => ?_, fun v hv hvs hvf => ?_, fun v => ?_, by rw [hl, if_neg hys]; exact h.las, fun v hv hvf => ?_⟩
  · rw [hc]
    split
    · rename_i e; subst e
      right
      omega
    · rcases h.low v hv with q | q
      · exact .inl q
      · right; omega
  · rw [hc] at hvf
    by_cases e : y = v
    · subst e
      refine ⟨i, x, w, hi, by rw [hl, if_pos rfl], hx, hA, by rw [hc, if_neg (fun q => hxy q.symm)]; exact hup.1, by rw [hc, hc, if_pos rfl, if_neg (fun q => hxy q.symm)]; exact Int.le_refl _, fun _ => ?_⟩
      try dsimp only
      rw [if_neg hxy, if_pos rfl]
      have := h.tle x; omega
    · rw [if_neg e] at hvf
      obtain ⟨j, u, w', h1, h2, h3, h4, h5, h6, h7⟩ := h.pre v hv hvs hvf
      have hv' : ¬ v = y := fun q => e q.symm
      by_cases eu : y = u
      · subst eu
        refine ⟨j, y, w', h1, by rw [hl, if_neg e]; exact h2, h3, h4, by rw [hc, if_pos rfl]; omega, by rw [hc, hc, if_pos rfl, if_neg e]; omega, fun q => ?_⟩
        rw [hc, hc, if_pos rfl, if_neg e] at q
        omega
      · refine ⟨j, u, w', h1, by rw [hl, if_neg e]; exact h2, h3, h4, by rw [hc, if_neg eu]; exact h5, by rw [hc, hc, if_neg eu, if_neg e]; exact h6, fun q => ?_⟩
        rw [hc, hc, if_neg eu, if_neg e] at q
        try dsimp only
        rw [if_neg (fun z => eu z.symm), if_neg hv']
        exact h7 q
  · try dsimp only
    split
    · exact Nat.le_refl _
    · have := h.tle v; omega
  · rw [hc] at hvf
    by_cases e : y = v
    · rw [if_pos e] at hvf; omega
    · rw [if_neg e] at hvf
      rw [hl, if_neg e]; exact h.laf v hv hvf
theorem Prd.mono {l : List Ed} {f : List Int} {π : Nat → Int} {nu s N M : Nat} {W : Int} {T : Nat → Nat} {c la : List Int} (h : Prd l f π nu s W N T c la) (hN : N ≤ M) (hW : 0 ≤ W) : Prd l f π nu s W M T c la := by
  have e : (N : Int) * W ≤ (M : Int) * W := Int.mul_le_mul_of_nonneg_right (by omega) hW
  refine ⟨h.len, h.lenl, h.src, fun v hv => (h.low v hv).imp id (fun q => ⟨q.1, by omega, by omega⟩), h.pre, fun v => by have := h.tle v; omega, h.las, h.laf⟩
/-- some times will do -/
def PrdE (l : List Ed) (f : List Int) (π : Nat → Int) (nu s : Nat) (W : Int) (N : Nat) (c la : List Int) : Prop := ∃ T, Prd l f π nu s W N T c la
section
variable {l : List Ed} {f : List Int} {π : Nat → Int} {nu s : Nat} {W : Int}
def CostIn (l : List Ed) (W : Int) : Prop := ∀ i, i < l.length → (nth l i).2.2.2 ≤ W
theorem prdE_edge {N k : Nat} {c la : List Int} (h : PrdE l f π nu s W N c la) (hE : EdOk nu l) (hC : CostIn l W) (hP : Pot l f π) (hs : s < nu) (hW : 0 ≤ W) (hB : ((N + 2 : Nat) : Int) * W < FAR) (hk : k < l.length) : PrdE l f π nu s W (N + 2) (bwS l f k (fwS l f k c)) (bwL l f k (fwS l f k c) (fwL l f k c la)) := by
  have hEk := hE k hk
  have hCk := hC k hk
  have hB1 : ((N + 1 : Nat) : Int) * W < FAR := by
    have : ((N + 2 : Nat) : Int) * W = ((N + 1 : Nat) : Int) * W + W := mul_succ_ (N := N + 1) (W := W)
    omega
  have h1 : PrdE l f π nu s W (N + 1) (fwS l f k c) (fwL l f k c la) := by
    obtain ⟨T, h⟩ := h
    by_cases q : fwC l f c k = true
    · have q' := q
      rw [fwC, Bool.and_eq_true, Bool.and_eq_true, decide_eq_true_iff, decide_eq_true_iff, decide_eq_true_iff] at q'
      rw [fwS, fwL, if_pos q, if_pos q]
      exact ⟨_, h.step (w := (nth l k).2.2.2) hP hs hW hB1 hk (.inl ⟨q'.1, rfl, rfl, rfl⟩) (by omega) (by omega) (by omega) q'.2⟩
    · rw [fwS, fwL, if_neg q, if_neg q]
      exact ⟨T, h.mono (by omega) hW⟩
  obtain ⟨T, h⟩ := h1
  by_cases q : bwC l f (fwS l f k c) k = true
  · have q' := q
    rw [bwC, Bool.and_eq_true, Bool.and_eq_true, decide_eq_true_iff, decide_eq_true_iff, decide_eq_true_iff] at q'
    rw [bwS, bwL, if_pos q, if_pos q, Int.sub_eq_add_neg]
    exact ⟨_, h.step (w := -(nth l k).2.2.2) hP hs hW hB hk (.inr ⟨q'.1, rfl, rfl, rfl⟩) (by omega) (by omega) (by omega) (by rw [← Int.sub_eq_add_neg]; exact q'.2)⟩
  · rw [bwS, bwL, if_neg q, if_neg q]
    exact ⟨T, h.mono (by omega) hW⟩
theorem sweep_succ2 {c la : List Int} {k : Nat} : (sweep l f c la (k + 1)).2.1 = bwL l f k (fwS l f k (sweep l f c la k).1) (fwL l f k (sweep l f c la k).1 (sweep l f c la k).2.1) := rfl
theorem le_mul {a b : Nat} {W : Int} (h : a ≤ b) (hW : 0 ≤ W) : (a : Int) * W ≤ (b : Int) * W := Int.mul_le_mul_of_nonneg_right (by omega) hW
theorem prdE_sweep {N : Nat} {c la : List Int} (h : PrdE l f π nu s W N c la) (hE : EdOk nu l) (hC : CostIn l W) (hP : Pot l f π) (hs : s < nu) (hW : 0 ≤ W) (hB : ((N + 2 * l.length : Nat) : Int) * W < FAR) : ∀ k, k ≤ l.length → PrdE l f π nu s W (N + 2 * k) (sweep l f c la k).1 (sweep l f c la k).2.1
  | 0, _ => h
  | k + 1, hk => by
    rw [sweep_succ.1, sweep_succ2, show N + 2 * (k + 1) = N + 2 * k + 2 from by omega]
    refine prdE_edge (prdE_sweep h hE hC hP hs hW hB k (by omega)) hE hC hP hs hW ?_ (by omega)
    have := le_mul (a := N + 2 * k + 2) (b := N + 2 * l.length) (W := W) (by omega) hW
    omega
theorem prdE_run (hE : EdOk nu l) (hC : CostIn l W) (hP : Pot l f π) (hs : s < nu) (hW : 0 ≤ W) : ∀ k N c la, PrdE l f π nu s W N c la → ((N + k * (2 * l.length) : Nat) : Int) * W < FAR → PrdE l f π nu s W (N + k * (2 * l.length)) (runF l f k c la).1 (runF l f k c la).2.1
  | 0, N, c, la, h, _ => by rw [Nat.zero_mul]; exact h
  | k + 1, N, c, la, h, hB => by
    have e : N + (k + 1) * (2 * l.length) = N + 2 * l.length + k * (2 * l.length) := by rw [Nat.succ_mul]; omega
    rw [e] at hB ⊢
    have h1 := prdE_sweep h hE hC hP hs hW (by
      have := le_mul (a := N + 2 * l.length) (b := N + 2 * l.length + k * (2 * l.length)) (W := W) (by omega) hW
      omega) l.length (Nat.le_refl _)
    rw [runF]
    split
    · exact prdE_run hE hC hP hs hW k _ _ _ h1 hB
    · obtain ⟨T, h2⟩ := h1
      exact ⟨T, h2.mono (by omega) hW⟩
theorem prdE_start (hs : s < nu) (hW : 0 ≤ W) : PrdE l f π nu s W 0 (initC nu (s : Int)) (List.replicate nu (-1)) := by
  have hc : ∀ v, v < nu → nth (initC nu (s : Int)) v = if s = v then 0 else FAR := fun v hv => by
    rw [initC, show ((s : Nat) : Int).toNat = s from by omega, nth_set (by simpa using hs), nth_rep hv]
  refine ⟨fun _ => 0, by simp [initC], by simp, by rw [hc s hs, if_pos rfl], fun v hv => ?_, fun v hv hvs hvf => ?_, fun v => Nat.le_refl _, nth_rep hs, fun v hv _ => nth_rep hv⟩
  · rw [hc v hv]
    split
    · rename_i e; subst e; right; simp
    · exact .inl rfl
  · rw [hc v hv, if_neg (fun e => hvs e.symm)] at hvf
    exact absurd rfl hvf
/-- what the search leaves: reachable nodes have a node before them, at the right distance -/
structure Fnd (l : List Ed) (f : List Int) (nu s : Nat) (B : Int) (T : Nat → Nat) (c la : List Int) : Prop where
  len : c.length = nu
  lenl : la.length = nu
  src : nth c s = 0
  rel : ∀ u v w, Arc l f u v w → Rel c u v w
  bd : ∀ v, v < nu → nth c v = FAR ∨ (-B ≤ nth c v ∧ nth c v ≤ B)
  pre : ∀ v, v < nu → v ≠ s → nth c v ≠ FAR → ∃ i u w, i < l.length ∧ nth la v = (i : Int) ∧ u < nu ∧ ArcI l f i u v w ∧ nth c u ≠ FAR ∧ nth c v = nth c u + w ∧ T u < T v
  las : nth la s = -1
  laf : ∀ v, v < nu → nth c v = FAR → nth la v = -1
theorem found (hE : EdOk nu l) (hC : CostIn l W) (hP : Pot l f π) (hs : s < nu) (hW : 0 ≤ W) (hB : (((nu + 1) * (2 * l.length) : Nat) : Int) * W < FAR) : ∃ T, Fnd l f nu s ((((nu + 1) * (2 * l.length) : Nat) : Int) * W) T (srch l f nu (s : Int)).1 (srch l f nu (s : Int)).2.1 := by
  have h0 := prdE_run hE hC hP hs hW (nu + 1) 0 _ _ (prdE_start (l := l) (f := f) (π := π) hs hW) (by rw [Nat.zero_add]; exact hB)
  rw [Nat.zero_add] at h0
  obtain ⟨T, h⟩ := h0
  have hr : ∀ u v w, Arc l f u v w → Rel (srch l f nu (s : Int)).1 u v w := (run_ends (c := initC nu (s : Int)) (la := List.replicate nu (-1)) hE hP (by simp [initC])).2
  have h : Prd l f π nu s W ((nu + 1) * (2 * l.length)) T (srch l f nu (s : Int)).1 (srch l f nu (s : Int)).2.1 := h
  refine ⟨T, h.len, h.lenl, h.src, hr, fun v hv => (h.low v hv).imp id (fun q => q.2), fun v hv hvs hvf => ?_, h.las, h.laf⟩
  obtain ⟨i, u, w, h1, h2, h3, h4, h5, h6, h7⟩ := h.pre v hv hvs hvf
  have h8 := (hr u v w (h4.arc h1)).resolve_left h5
  exact ⟨i, u, w, h1, h2, h3, h4, h5, by omega, h7 (by omega)⟩
end
end Go.Proofs.Ytngkbnaehkailaa
