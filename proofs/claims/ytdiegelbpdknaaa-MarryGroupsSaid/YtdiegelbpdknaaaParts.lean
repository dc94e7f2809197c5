/-
  Part reverses Join, and the check accepts what Join returns: plain lists.
-/
import Derived.Test.YtdiegelbpdknaaaLaws
namespace Go.Proofs.Ytdiegelbpdknaaa
open Go Go.RowKit Eng
set_option linter.unusedVariables false
set_option linter.unusedSimpArgs false
theorem ext_nth {l m : List Int} (h : l.length = m.length) (e : ∀ i, i < l.length → nth l i = nth m i) : l = m := by
  apply List.ext_getElem?
  intro i
  rcases Nat.lt_or_ge i l.length with q | q
  · rw [nth_get q, nth_get (by omega), e i q]
  · rw [List.getElem?_eq_none q, List.getElem?_eq_none (by omega)]
theorem js_nth {l : List Int} {f : Nat} {v : Int} : ∀ (j i : Nat), f + j ≤ l.length → nth (js l f v j) i = if f ≤ i ∧ i < f + j then v else nth l i
  | 0, i, _ => by rw [js, if_neg (by omega)]
  | j + 1, i, h => by
    rw [js, nth_set (by rw [js_length]; omega), js_nth j i (by omega)]
    by_cases e : i = f + j
    · rw [if_pos e, if_pos (by omega)]
    · rw [if_neg e]
      by_cases z : f ≤ i ∧ i < f + j
      · rw [if_pos z, if_pos (by omega)]
      · rw [if_neg z, if_neg (by omega)]
theorem zs_nth : ∀ (p l : List Int) (i : Nat), (∀ y ∈ p, 0 ≤ y ∧ y < l.length) → nth (zs l p) i = if (i : Int) ∈ p then 0 else nth l i
  | [], l, i, _ => by simp [zs]
  | y :: r, l, i, h => by
    have hy := h y (by simp)
    rw [zs, zs_nth r (l.set y.toNat 0) i (fun z hz => by rw [List.length_set]; exact h z (by simp [hz])), nth_set (by omega)]
    by_cases e : (i : Int) ∈ r
    · rw [if_pos e, if_pos (by simp [e])]
    · rw [if_neg e]
      by_cases z : i = y.toNat
      · rw [if_pos z, if_pos (by simp; left; omega)]
      · rw [if_neg z, if_neg (by simp only [List.mem_cons, not_or]; exact ⟨by omega, e⟩)]
structure Joined (l : List Int) (f t : Int) : Prop where
  c0 : checkF l = 0
  f0 : 0 ≤ f
  ft : f < t
  tn : t < l.length
  no : ∀ p : Nat, f ≤ p → (p : Int) ≤ t → nth l p = 0
  x : joinX l f t = js l f.toNat (mx 0 l + 1) (t + 1 - f).toNat
theorem joined_of {l : List Int} {f t : Int} (h : joinE l f t = 0) : Joined l f t := by
  have hx : joinX l f t = js l f.toNat (mx 0 l + 1) (t + 1 - f).toNat := by rw [joinX, if_pos h]
  unfold joinE at h
  split at h
  · rename_i h1; exact absurd h h1
  · rename_i h1
    split at h
    · omega
    · rename_i h2
      split at h
      · omega
      · rename_i h3
        have hc : checkF l = 0 := by omega
        refine ⟨hc, by omega, by omega, by omega, fun p p1 p2 => ?_, hx⟩
        have h4 := (check_ok_nonneg hc).1 p (by omega)
        by_cases z : 0 < nth l p
        · exact absurd ((anyP_mid (by omega) (by omega)).2 ⟨p, p1, p2, z⟩) h3
        · omega
theorem Joined.nth {l : List Int} {f t : Int} (h : Joined l f t) (i : Nat) : nth (joinX l f t) i = if f ≤ i ∧ (i : Int) ≤ t then mx 0 l + 1 else Eng.nth l i := by
  have h1 := h.f0; have h2 := h.ft; have h3 := h.tn
  rw [h.x, js_nth _ _ (by omega)]
  by_cases z : f ≤ i ∧ (i : Int) ≤ t
  · rw [if_pos z, if_pos (by omega)]
  · rw [if_neg z, if_neg (by omega)]
theorem Joined.len {l : List Int} {f t : Int} (h : Joined l f t) : (joinX l f t).length = l.length := by rw [h.x, js_length]
theorem le_mx {l : List Int} (i : Nat) (hi : i < l.length) : Eng.nth l i ≤ mx 0 l := mx_mem l 0 _ (nth_mem hi)
theorem checkF_zero {l : List Int} (h1 : ∀ i, i < l.length → 0 ≤ Eng.nth l i) (h2 : ∀ i, i < l.length → ¬ BadR l i) : checkF l = 0 := by
  rw [checkF, if_neg ?_, if_neg ?_]
  · intro q
    obtain ⟨i, hi, hb⟩ := (bad_iff l).1 q
    exact h2 i hi hb
  · intro q
    rw [negs, List.any_eq_true] at q
    obtain ⟨y, hy, hp⟩ := q
    obtain ⟨i, hi⟩ := List.mem_iff_getElem?.1 hy
    obtain ⟨hil, he⟩ := List.getElem?_eq_some_iff.1 hi
    have := nth_get hil
    rw [hi] at this
    injection this with this
    have := h1 i hil
    simp at hp
    omega
theorem notBad_of {l : List Int} (h : checkF l = 0) : ∀ i, i < l.length → ¬ BadR l i := by
  intro i hi hb
  unfold checkF at h
  split at h
  · omega
  · split at h
    · omega
    · rename_i h2; exact h2 ((bad_iff l).2 ⟨i, hi, hb⟩)
theorem Joined.check {l : List Int} {f t : Int} (h : Joined l f t) : checkF (joinX l f t) = 0 := by
  have hnn := (check_ok_nonneg h.c0).1
  have hnb := notBad_of h.c0
  have hg := mx_ge l 0
  have h1 := h.f0; have h2 := h.ft; have h3 := h.tn
  refine checkF_zero (fun i hi => ?_) (fun i hi => ?_)
  · rw [h.len] at hi
    rw [h.nth]
    split
    · omega
    · exact hnn i hi
  · rw [h.len] at hi
    have hi' := h.nth i
    by_cases z : f ≤ i ∧ (i : Int) ≤ t
    · rw [if_pos z] at hi'
      rintro (⟨_, b⟩ | ⟨k, k1, k2, b⟩)
      · simp only [neighB, Bool.or_eq_false_iff, Bool.and_eq_false_iff, decide_eq_false_iff_not, h.len] at b
        by_cases y : (i : Int) < t
        · rcases b.2 with q | q
          · omega
          · apply q; rw [hi', h.nth, if_pos (by omega)]
        · rcases b.1 with q | q
          · omega
          · apply q; rw [hi', h.nth, if_pos (by omega)]
      · rw [h.len] at k2
        simp only [farB, Bool.and_eq_true, decide_eq_true_eq] at b
        obtain ⟨⟨_, b2⟩, b3⟩ := b
        rw [hi', h.nth] at b2 b3
        split at b2
        · rename_i y
          rw [if_pos (by omega)] at b3
          exact b3 rfl
        · have := le_mx k k2; omega
    · rw [if_neg z] at hi'
      rintro (⟨b0, b⟩ | ⟨k, k1, k2, b⟩)
      · rw [hi'] at b0
        apply hnb i hi
        refine .inl ⟨b0, ?_⟩
        simp only [neighB, Bool.or_eq_false_iff, Bool.and_eq_false_iff, decide_eq_false_iff_not, h.len, hi'] at b ⊢
        constructor
        · rcases b.1 with q | q
          · exact .inl q
          · by_cases y : f ≤ (i - 1 : Nat) ∧ ((i - 1 : Nat) : Int) ≤ t
            · right; rw [h.no _ y.1 y.2]; omega
            · rw [h.nth, if_neg y] at q; exact .inr q
        · rcases b.2 with q | q
          · exact .inl q
          · by_cases y : f ≤ (i + 1 : Nat) ∧ ((i + 1 : Nat) : Int) ≤ t
            · right; rw [h.no _ y.1 y.2]; omega
            · rw [h.nth, if_neg y] at q; exact .inr q
      · rw [h.len] at k2
        simp only [farB, Bool.and_eq_true, decide_eq_true_eq, hi'] at b
        obtain ⟨⟨b1, b2⟩, b3⟩ := b
        have hle := le_mx i hi
        rw [h.nth] at b2
        split at b2
        · omega
        · apply hnb i hi
          refine .inr ⟨k, k1, k2, ?_⟩
          simp only [farB, Bool.and_eq_true, decide_eq_true_eq]
          refine ⟨⟨b1, b2⟩, fun e => b3 ?_⟩
          rw [h.nth]
          split
          · rename_i y
            rw [h.no _ y.1 y.2] at e; omega
          · exact e
theorem Joined.with_ {l : List Int} {f t : Int} (h : Joined l f t) {i : Int} (h1 : f ≤ i) (h2 : i ≤ t) : withE (joinX l f t) i = 0 ∧ withX (joinX l f t) i = il f.toNat (t + 1 - f).toNat := by
  have g1 := h.f0; have g2 := h.ft; have g3 := h.tn
  have hg := mx_ge l 0
  obtain ⟨e1, e2⟩ := withE_in h.check (x := i) (by rw [h.len]; omega)
  refine ⟨e1, ?_⟩
  rw [e2, fl, h.len, filter_range (a := f.toNat) (m := (t + 1 - f).toNat) (by omega) _ (fun p hp => ?_)]
  · rfl
  · have hi : Eng.nth (joinX l f t) i.toNat = mx 0 l + 1 := by rw [h.nth, if_pos (by omega)]
    simp only [selB, Bool.or_eq_true, Bool.and_eq_true, decide_eq_true_eq, hi]
    rw [h.nth]
    constructor
    · rintro (q | ⟨q1, q2⟩)
      · omega
      · split at q2
        · omega
        · have := le_mx p hp; omega
    · intro q
      right
      rw [if_pos (by omega)]
      omega
theorem Joined.part {l : List Int} {f t : Int} (h : Joined l f t) {i : Int} (h1 : f ≤ i) (h2 : i ≤ t) : partX (joinX l f t) i = l := by
  have g1 := h.f0; have g2 := h.ft; have g3 := h.tn
  obtain ⟨e1, e2⟩ := h.with_ h1 h2
  rw [partX, if_pos e1, e2]
  refine ext_nth (by rw [zs_length, h.len]) fun p hp => ?_
  rw [zs_length, h.len] at hp
  rw [zs_nth _ _ _ (fun y hy => by rw [mem_il] at hy; rw [h.len]; omega), h.nth]
  by_cases z : f ≤ p ∧ (p : Int) ≤ t
  · rw [if_pos (mem_il.2 (by omega)), h.no p z.1 z.2]
  · rw [if_neg (fun q => z (by rw [mem_il] at q; omega)), if_neg z]
end Go.Proofs.Ytdiegelbpdknaaa
