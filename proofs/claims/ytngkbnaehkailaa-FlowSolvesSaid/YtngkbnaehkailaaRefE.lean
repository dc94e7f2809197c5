/-
  Flows: the reference's Solve goes the same ways. Plain Lean.
-/
import Derived.Test.YtngkbnaehkailaaLink
namespace Go.Proofs.Ytngkbnaehkailaa
open Go Go.RowKit Eng
set_option linter.unusedVariables false
set_option linter.unusedSimpArgs false
structure R2 (l : List Ed) (f : List Int) (nu : Nat) (S : List Sp) (c la d b : List Int) : Prop where
  same : d = c
  len : c.length = nu
  lenl : la.length = nu
  lenb : b.length = nu
  up : ∀ v, nth c v ≤ FAR
  go : Goes l f nu S la b
theorem goes_set {l : List Ed} {f : List Int} {nu : Nat} {S : List Sp} {la b : List Int} {y j : Nat} (h : Goes l f nu S la b) (hl : la.length = nu) (hb : b.length = nu) (hy : y < nu) (hj : j < S.length) (h1 : (nth S j).2.1.toNat = y) (h2 : IsStep l f (nth S j)) : Goes l f nu S (la.set y (nth S j).2.2.2.2.1) (b.set y (j : Int)) := by
  intro v hv
  rw [nth_set (by rw [hl]; exact hy), nth_set (by rw [hb]; exact hy)]
  by_cases e : y = v
  · subst e
    rw [if_pos rfl, if_pos rfl]
    exact .inr ⟨j, hj, rfl, rfl, h1, h2⟩
  · rw [if_neg e, if_neg e]; exact h v hv
section
variable {l : List Ed} {f : List Int} {nu : Nat} {S : List Sp} {c la d b : List Int} {k j : Nat}
theorem ref_fw (hE : EdOk nu l) (h : R2 l f nu S c la d b) (hk : k < l.length) (q : nth f k < (nth l k).2.2.1) (hj : j < S.length) (hx : nth S j = ((nth l k).1, (nth l k).2.1, (nth l k).2.2.2, (nth l k).2.2.1 - nth f k, (k : Int), false)) : R2 l f nu S (fwS l f k c) (fwL l f k c la) (rsD S j d) (rsB S j d b) := by
  obtain ⟨rfl, h1, h2, h3, h4, h5⟩ := h
  have hEk := hE k hk
  have hu := h4 (nth l k).1.toNat
  have hFAR : FAR = 1152921504606846976 := rfl
  by_cases e : nth d (nth l k).1.toNat ≠ FAR ∧ nth d (nth l k).1.toNat + (nth l k).2.2.2 < nth d (nth l k).2.1.toNat
  · have e1 : fwC l f d k = true := by rw [fwC, Bool.and_eq_true, Bool.and_eq_true, decide_eq_true_iff, decide_eq_true_iff, decide_eq_true_iff]; exact ⟨q, e⟩
    have e2 : rsC S j d = true := by rw [rsC, hx, Bool.and_eq_true, decide_eq_true_iff, decide_eq_true_iff]; dsimp only; omega
    rw [fwS, fwL, rsD, rsB, if_pos e1, if_pos e1, if_pos e2, if_pos e2]
    have hg := goes_set (y := (nth l k).2.1.toNat) h5 h2 h3 (by omega) hj (by rw [hx]) (by rw [hx]; exact ⟨k, hk, .inl ⟨q, rfl⟩⟩)
    have e3 : (nth S j).2.2.2.2.1 = (k : Int) := by rw [hx]
    rw [e3] at hg
    refine ⟨by rw [hx], by rw [List.length_set]; exact h1, by rw [List.length_set]; exact h2, by rw [List.length_set]; exact h3, fun v => ?_, by rw [hx]; exact hg⟩
    rw [nth_set (by omega)]
    split
    · have := h4 (nth l k).2.1.toNat; omega
    · exact h4 v
  · have e1 : ¬ fwC l f d k = true := by rw [fwC, Bool.and_eq_true, Bool.and_eq_true, decide_eq_true_iff, decide_eq_true_iff, decide_eq_true_iff]; exact fun z => e z.2
    have e2 : ¬ rsC S j d = true := by rw [rsC, hx, Bool.and_eq_true, decide_eq_true_iff, decide_eq_true_iff]; dsimp only; intro z; exact e ⟨by omega, z.2⟩
    rw [fwS, fwL, rsD, rsB, if_neg e1, if_neg e1, if_neg e2, if_neg e2]
    exact ⟨rfl, h1, h2, h3, h4, h5⟩
theorem ref_bw (hE : EdOk nu l) (h : R2 l f nu S c la d b) (hk : k < l.length) (q : 0 < nth f k) (hj : j < S.length) (hx : nth S j = ((nth l k).2.1, (nth l k).1, -(nth l k).2.2.2, nth f k, (k : Int), true)) : R2 l f nu S (bwS l f k c) (bwL l f k c la) (rsD S j d) (rsB S j d b) := by
  obtain ⟨rfl, h1, h2, h3, h4, h5⟩ := h
  have hEk := hE k hk
  have hu := h4 (nth l k).2.1.toNat
  have hFAR : FAR = 1152921504606846976 := rfl
  by_cases e : nth d (nth l k).2.1.toNat ≠ FAR ∧ nth d (nth l k).2.1.toNat - (nth l k).2.2.2 < nth d (nth l k).1.toNat
  · have e1 : bwC l f d k = true := by rw [bwC, Bool.and_eq_true, Bool.and_eq_true, decide_eq_true_iff, decide_eq_true_iff, decide_eq_true_iff]; exact ⟨q, e⟩
    have e2 : rsC S j d = true := by rw [rsC, hx, Bool.and_eq_true, decide_eq_true_iff, decide_eq_true_iff]; dsimp only; omega
    rw [bwS, bwL, rsD, rsB, if_pos e1, if_pos e1, if_pos e2, if_pos e2]
    have hg := goes_set (y := (nth l k).1.toNat) h5 h2 h3 (by omega) hj (by rw [hx]) (by rw [hx]; exact ⟨k, hk, .inr ⟨q, rfl⟩⟩)
    have e3 : (nth S j).2.2.2.2.1 = (k : Int) := by rw [hx]
    rw [e3] at hg
    refine ⟨by rw [hx]; dsimp only; rw [Int.sub_eq_add_neg], by rw [List.length_set]; exact h1, by rw [List.length_set]; exact h2, by rw [List.length_set]; exact h3, fun v => ?_, by rw [hx]; exact hg⟩
    rw [nth_set (by omega)]
    split
    · have := h4 (nth l k).1.toNat; omega
    · exact h4 v
  · have e1 : ¬ bwC l f d k = true := by rw [bwC, Bool.and_eq_true, Bool.and_eq_true, decide_eq_true_iff, decide_eq_true_iff, decide_eq_true_iff]; exact fun z => e z.2
    have e2 : ¬ rsC S j d = true := by rw [rsC, hx, Bool.and_eq_true, decide_eq_true_iff, decide_eq_true_iff]; dsimp only; intro z; exact e ⟨by omega, by omega⟩
    rw [bwS, bwL, rsD, rsB, if_neg e1, if_neg e1, if_neg e2, if_neg e2]
    exact ⟨rfl, h1, h2, h3, h4, h5⟩
end
theorem nth_app_r {α : Type} [Inhabited α] {x y : List α} {i : Nat} : nth (x ++ y) (x.length + i) = nth y i := by
  unfold nth
  simp only [List.getD_eq_getElem?_getD]
  rw [List.getElem?_append_right (by omega), Nat.add_sub_cancel_left]
theorem steps_pre {l : List Ed} {f : List Int} {k : Nat} : ∀ d, ∃ r, stepsK l f (k + d) = stepsK l f k ++ r
  | 0 => ⟨[], by simp⟩
  | d + 1 => by
    obtain ⟨r, hr⟩ := steps_pre (l := l) (f := f) (k := k) d
    exact ⟨(r ++ spF l f (k + d)) ++ spB l f (k + d), by rw [← Nat.add_assoc, stepsK, hr]; simp only [List.append_assoc]⟩
theorem ref_round {l : List Ed} {f : List Int} {nu : Nat} {c la d b : List Int} (hE : EdOk nu l) (h : R2 l f nu (stepsK l f l.length) c la d b) : ∀ k, k ≤ l.length → R2 l f nu (stepsK l f l.length) (sweep l f c la k).1 (sweep l f c la k).2.1 (rrnd (stepsK l f l.length) d b (stepsK l f k).length).1 (rrnd (stepsK l f l.length) d b (stepsK l f k).length).2
  | 0, _ => h
  | k + 1, hk => by
    have ih := ref_round hE h k (by omega)
    obtain ⟨r, hr⟩ := steps_pre (l := l) (f := f) (k := k + 1) (l.length - (k + 1))
    rw [show k + 1 + (l.length - (k + 1)) = l.length from by omega] at hr
    have hr' : stepsK l f l.length = stepsK l f k ++ (spF l f k ++ (spB l f k ++ r)) := by rw [hr, stepsK]; simp only [List.append_assoc]
    rw [sweep_succ.1, sweep_succ2]
    by_cases q1 : nth f k < (nth l k).2.2.1
    · have eF : spF l f k = [((nth l k).1, (nth l k).2.1, (nth l k).2.2.2, (nth l k).2.2.1 - nth f k, (k : Int), false)] := by rw [spF, if_pos q1]
      have hj1 : (stepsK l f k).length < (stepsK l f l.length).length := by rw [hr', eF]; simp
      have hx1 : nth (stepsK l f l.length) (stepsK l f k).length = ((nth l k).1, (nth l k).2.1, (nth l k).2.2.2, (nth l k).2.2.1 - nth f k, (k : Int), false) := by
        have := nth_app_r (x := stepsK l f k) (y := spF l f k ++ (spB l f k ++ r)) (i := 0)
        rw [← hr', Nat.add_zero, eF] at this
        rw [this]; rfl
      have h1 := ref_fw hE ih (by omega) q1 hj1 hx1
      by_cases q2 : 0 < nth f k
      · have eB : spB l f k = [((nth l k).2.1, (nth l k).1, -(nth l k).2.2.2, nth f k, (k : Int), true)] := by rw [spB, if_pos q2]
        have hj2 : (stepsK l f k).length + 1 < (stepsK l f l.length).length := by rw [hr', eF, eB]; simp
        have hx2 : nth (stepsK l f l.length) ((stepsK l f k).length + 1) = ((nth l k).2.1, (nth l k).1, -(nth l k).2.2.2, nth f k, (k : Int), true) := by
          have := nth_app_r (x := stepsK l f k) (y := spF l f k ++ (spB l f k ++ r)) (i := 1)
          rw [← hr', eF, eB] at this
          rw [this]; rfl
        have h2 := ref_bw hE h1 (by omega) q2 hj2 hx2
        rw [show (stepsK l f (k + 1)).length = (stepsK l f k).length + 1 + 1 from by rw [stepsK, eF, eB]; simp]
        exact h2
      · have e1 : bwC l f (fwS l f k (sweep l f c la k).1) k = false := by rw [bwC, decide_eq_false q2]; rfl
        rw [bwS, bwL, if_neg (by rw [e1]; decide), if_neg (by rw [e1]; decide), show (stepsK l f (k + 1)).length = (stepsK l f k).length + 1 from by rw [stepsK, eF, spB, if_neg q2]; simp]
        exact h1
    · have e1 : fwC l f (sweep l f c la k).1 k = false := by rw [fwC, decide_eq_false q1]; rfl
      have eF : spF l f k = [] := by rw [spF, if_neg q1]
      rw [fwS, fwL, if_neg (by rw [e1]; decide), if_neg (by rw [e1]; decide)]
      by_cases q2 : 0 < nth f k
      · have eB : spB l f k = [((nth l k).2.1, (nth l k).1, -(nth l k).2.2.2, nth f k, (k : Int), true)] := by rw [spB, if_pos q2]
        have hj2 : (stepsK l f k).length < (stepsK l f l.length).length := by rw [hr', eF, eB]; simp
        have hx2 : nth (stepsK l f l.length) (stepsK l f k).length = ((nth l k).2.1, (nth l k).1, -(nth l k).2.2.2, nth f k, (k : Int), true) := by
          have := nth_app_r (x := stepsK l f k) (y := spF l f k ++ (spB l f k ++ r)) (i := 0)
          rw [← hr', Nat.add_zero, eF, eB] at this
          rw [this]; rfl
        have h2 := ref_bw hE ih (by omega) q2 hj2 hx2
        rw [show (stepsK l f (k + 1)).length = (stepsK l f k).length + 1 from by rw [stepsK, eF, eB]; simp]
        exact h2
      · have e2 : bwC l f (sweep l f c la k).1 k = false := by rw [bwC, decide_eq_false q2]; rfl
        rw [bwS, bwL, if_neg (by rw [e2]; decide), if_neg (by rw [e2]; decide), show (stepsK l f (k + 1)).length = (stepsK l f k).length from by rw [stepsK, eF, spB, if_neg q2]; simp]
        exact ih
def siter (l : List Ed) (f : List Int) (nu : Nat) (s : Int) : Nat → List Int × List Int
  | 0 => (initC nu s, List.replicate nu (-1))
  | r + 1 => ((sweep l f (siter l f nu s r).1 (siter l f nu s r).2 l.length).1, (sweep l f (siter l f nu s r).1 (siter l f nu s r).2 l.length).2.1)
theorem initC_up {nu : Nat} {s : Int} (v : Nat) : nth (initC nu s) v ≤ FAR := by
  rcases Nat.lt_or_ge v nu with q | q
  · exact (initC_bd.bd v q).2
  · rw [nth_out (by simpa [initC] using q)]; decide
theorem ref_iter {l : List Ed} {f : List Int} {nu : Nat} {s : Int} (hE : EdOk nu l) : ∀ r, R2 l f nu (stepsK l f l.length) (siter l f nu s r).1 (siter l f nu s r).2 (riter (stepsK l f l.length) nu s r).1 (riter (stepsK l f l.length) nu s r).2
  | 0 => ⟨rfl, by simp [siter, initC], by simp [siter], by simp [riter], initC_up, fun v hv => .inl ⟨nth_rep hv, nth_rep hv⟩⟩
  | r + 1 => ref_round hE (ref_iter hE r) l.length (Nat.le_refl _)
theorem sweep_same2 {l : List Ed} {f c la : List Int} : ∀ k, (sweep l f c la k).2.2 = false → (sweep l f c la k).2.1 = la
  | 0, _ => rfl
  | k + 1, h => by
    rw [sweep_succ.2, Bool.or_eq_false_iff, Bool.or_eq_false_iff] at h
    obtain ⟨⟨h1, h2⟩, h3⟩ := h
    have i1 := sweep_same2 k h1
    rw [sweep_succ2, bwL, if_neg (by rw [h3]; decide), fwL, if_neg (by rw [h2]; decide), i1]
theorem run_iter {l : List Ed} {f : List Int} {nu : Nat} {s : Int} : ∀ k r, (runF l f k (siter l f nu s r).1 (siter l f nu s r).2).2.2 = true → ∃ j, j < k ∧ (runF l f k (siter l f nu s r).1 (siter l f nu s r).2).1 = (siter l f nu s (r + j)).1 ∧ (runF l f k (siter l f nu s r).1 (siter l f nu s r).2).2.1 = (siter l f nu s (r + j)).2 ∧ (sweep l f (siter l f nu s (r + j)).1 (siter l f nu s (r + j)).2 l.length).2.2 = false
  | 0, r, h => by cases h
  | k + 1, r, h => by
    by_cases q : (sweep l f (siter l f nu s r).1 (siter l f nu s r).2 l.length).2.2 = true
    · have e : runF l f (k + 1) (siter l f nu s r).1 (siter l f nu s r).2 = runF l f k (siter l f nu s (r + 1)).1 (siter l f nu s (r + 1)).2 := by rw [runF, if_pos q]; rfl
      rw [e] at h ⊢
      obtain ⟨j, h1, h2, h3, h4⟩ := run_iter k (r + 1) h
      have e2 : r + (j + 1) = r + 1 + j := by omega
      exact ⟨j + 1, by omega, by rw [e2]; exact h2, by rw [e2]; exact h3, by rw [e2]; exact h4⟩
    · have q' : (sweep l f (siter l f nu s r).1 (siter l f nu s r).2 l.length).2.2 = false := by simpa using q
      refine ⟨0, by omega, ?_, ?_, q'⟩
      · rw [runF, if_neg q]; exact (sweep_same l.length q').1
      · rw [runF, if_neg q]; exact sweep_same2 l.length q'
theorem siter_fix {l : List Ed} {f : List Int} {nu : Nat} {s : Int} {j : Nat} (h : (sweep l f (siter l f nu s j).1 (siter l f nu s j).2 l.length).2.2 = false) : ∀ d, siter l f nu s (j + d) = siter l f nu s j
  | 0 => rfl
  | d + 1 => by
    have ih := siter_fix h d
    rw [← Nat.add_assoc, siter, ih, (sweep_same l.length h).1, sweep_same2 l.length h]
theorem srch_iter {l : List Ed} {f : List Int} {nu : Nat} {s : Int} {π : Nat → Int} (hE : EdOk nu l) (hP : Pot l f π) : (srch l f nu s).1 = (siter l f nu s nu).1 ∧ (srch l f nu s).2.1 = (siter l f nu s nu).2 := by
  have h := (run_ends (c := initC nu s) (la := List.replicate nu (-1)) hE hP (by simp [initC])).1
  obtain ⟨j, h1, h2, h3, h4⟩ := run_iter (l := l) (f := f) (nu := nu) (s := s) (nu + 1) 0 h
  rw [Nat.zero_add] at h2 h3 h4
  have e := siter_fix h4 (nu - j)
  rw [show j + (nu - j) = nu from by omega] at e
  rw [e]
  exact ⟨h2, h3⟩
theorem goes_end {l : List Ed} {f : List Int} {nu : Nat} {s : Int} {π : Nat → Int} (hE : EdOk nu l) (hP : Pot l f π) : Goes l f nu (stepsK l f l.length) (srch l f nu s).2.1 (riter (stepsK l f l.length) nu s nu).2 := by
  rw [(srch_iter hE hP).2]
  exact (ref_iter hE nu).go
/-- both ways of Solve return the same -/
theorem slv_same {l : List Ed} {nu s t : Nat} {most W : Int} (hE : EdOk nu l) (hC : CostIn l W) (hs : s < nu) (ht : t < nu) (hst : s ≠ t) (hW : 0 ≤ W) (hm : (l.length : Int) ≤ 2048) (hB : (((nu + 1) * (2 * l.length) : Nat) : Int) * W ≤ 17592186044416) : ∀ (K : Nat) (f : List Int) (a z : Int), Feas l nu s t f a z → (∃ π, Pot l f π) → 0 ≤ a → a ≤ most → slvR l nu (s : Int) (t : Int) most K f a z = slv l nu (s : Int) (t : Int) most K f a z
  | 0, f, a, z, _, _, _, _ => rfl
  | K + 1, f, a, z, hf, ⟨π, hP⟩, h0, h1 => by
    have hFAR : FAR = 1152921504606846976 := rfl
    have htn : ((t : Nat) : Int).toNat = t := by omega
    rw [slv, slvR]
    by_cases ha : a < most
    · rw [if_pos ha, if_pos ha]
      obtain ⟨T, F⟩ := found (f := f) (s := s) hE hC hP hs hW (by omega)
      have hGo := goes_end (s := (s : Int)) hE hP
      rw [htn]
      by_cases hfar : nth (srch l f nu (s : Int)).1 t = 1152921504606846976
      · rw [if_pos hfar]
        have hlt := F.laf t ht hfar
        have hbt : nth (riter (stepsK l f l.length) nu (s : Int) nu).2 t = -1 := by
          rcases hGo t ht with q | ⟨j, _, _, j3, _, hst⟩
          · exact q.2
          · obtain ⟨i, hi, h2⟩ := hst
            rcases h2 with ⟨_, e2⟩ | ⟨_, e2⟩ <;> (rw [e2] at j3; dsimp only at j3; omega)
        have hp : rpath l f nu (s : Int) (t : Int) = some [] := by
          rw [rpath, rtr, htn, hbt, if_neg (by decide)]
        rw [hp]
        rfl
      · rw [if_neg hfar]
        obtain ⟨Y, g1, g2, g3, g4⟩ := way F hE hf.wit (nu + 1) t ht hfar (Nat.lt_succ_of_le rk_le) (most - a) (by omega)
        obtain ⟨G, k1, k2, k3⟩ := aug F hE hf.wit g2 (nu + 1) t (most - a) f g1 ht hfar hf.len hf.wit (fun _ _ _ _ _ => rfl)
        obtain ⟨q, q1, q2, q3, q4, q5⟩ := k3 _ _ hGo []
        have hct := (F.bd t ht).resolve_left hfar
        have hz := costK_bd hE hf.wit l.length (Nat.le_refl _)
        have hz2 := hf.cost
        have g5 := g4 (fun e => hst e.symm)
        have hp : rpath l f nu (s : Int) (t : Int) = some q := q1
        have hwG : withinB l G = true := by
          rw [withinB, Bool.and_eq_true, decide_eq_true_iff, allK_iff]
          refine ⟨k2.len, fun i hi => ?_⟩
          rw [capB, Bool.and_eq_true, decide_eq_true_iff, decide_eq_true_iff]
          exact k2.wit i hi
        have hqn : ¬ q.length = 0 := fun e => q5 (fun e => hst e.symm) (List.eq_nil_of_length_eq_zero e)
        rw [hp, g1]
        dsimp only
        rw [if_neg hqn, q2, q3, q4, F.src, Int.sub_zero, if_pos ⟨by omega, by omega, by omega, by omega, by omega, hwG⟩, if_pos ⟨by omega, by omega, by omega, by omega, by omega, by omega, by omega⟩, k1]
        dsimp only
        have hG : Feas l nu s t G (a + Y) (z + Y * nth (srch l f nu (s : Int)).1 t) := by
          refine ⟨k2.len, k2.wit, fun x => ?_, ?_⟩
          · rw [k2.bal x, hf.bal x]
            split <;> split <;> omega
          · rw [k2.cost, ← hf.cost, F.src, Int.sub_zero]
        exact slv_same hE hC hs ht hst hW hm hB K G (a + Y) _ hG (pot_after F hE (by omega) hP k2.arc) (by omega) (by omega)
    · rw [if_neg ha, if_neg ha]
theorem solveR_small {n : Int} {l : List Ed} {s t most : Int} {K : Nat} (hck : checkE n l s t = 0) (hn : n ≤ 16) (hm : (l.length : Int) ≤ 40) (hmost : 0 ≤ most) : slvR l n.toNat s t most K (List.replicate l.length 0) 0 0 = slv l n.toNat s t most K (List.replicate l.length 0) 0 0 := by
  obtain ⟨hc, hE⟩ := check_ok hck
  obtain ⟨nu, rfl⟩ : ∃ k : Nat, n = (k : Int) := ⟨n.toNat, by omega⟩
  obtain ⟨s', rfl⟩ : ∃ k : Nat, s = (k : Int) := ⟨s.toNat, by omega⟩
  obtain ⟨t', rfl⟩ : ∃ k : Nat, t = (k : Int) := ⟨t.toNat, by omega⟩
  refine slv_same hE (cost32 hE) (by omega) (by omega) (by omega) (by decide) (by omega) ?_ K _ 0 0 (feas_zero hE) ⟨_, pot_zero hE⟩ (Int.le_refl _) hmost
  have h1 : (nu + 1) * (2 * l.length) ≤ 17 * 80 := Nat.mul_le_mul (by omega) (by omega)
  have h2 := le_mul (W := 4294967296) h1 (by decide)
  omega
end Go.Proofs.Ytngkbnaehkailaa
