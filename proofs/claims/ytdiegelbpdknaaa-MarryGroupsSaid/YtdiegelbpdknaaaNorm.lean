/-
  Normal keeps the groups: plain lists.
-/
import Derived.Test.YtdiegelbpdknaaaParts
namespace Go.Proofs.Ytdiegelbpdknaaa
open Go Go.RowKit Eng
set_option linter.unusedVariables false
set_option linter.unusedSimpArgs false
def vl (l : List Int) (q : Nat) : Int := if 0 < nth l (nth (gi l l.length) q).1 then ((cn l q + 1 : Nat) : Int) else 0
theorem nth_append_l {x y : List Int} {i : Nat} (h : i < x.length) : nth (x ++ y) i = nth x i := by
  unfold nth; rw [List.getD_eq_getElem?_getD, List.getD_eq_getElem?_getD, List.getElem?_append_left h]
theorem nth_append_r {x y : List Int} {i : Nat} (h : x.length ≤ i) : nth (x ++ y) i = nth y (i - x.length) := by
  unfold nth; rw [List.getD_eq_getElem?_getD, List.getD_eq_getElem?_getD, List.getElem?_append_right h]
theorem nth_rep {v : Int} {m i : Nat} (h : i < m) : nth (List.replicate m v) i = v := by
  unfold nth; rw [List.getD_eq_getElem?_getD]; simp [h]
theorem ends {l : List Int} {k : Nat} {L : List (Nat × Nat)} (h : Inv l k L) : ∀ d q, q + d < L.length → 0 < d → (nth L q).1 + (nth L q).2 ≤ (nth L (q + d)).1
  | 0, q, _, h0 => absurd h0 (by omega)
  | d + 1, q, hq, _ => by
    have e := h.next (q + d) (by omega)
    rcases Nat.eq_zero_or_pos d with z | z
    · subst z; rw [show q + (0 + 1) = q + 0 + 1 from rfl, e]; exact Nat.le_refl _
    · have := ends h d q (by omega) z
      rw [show q + (d + 1) = q + d + 1 from rfl, e]
      omega
theorem xk_nth (l : List Int) : ∀ K, K ≤ (gi l l.length).length → ∀ q, q < K → ∀ j, j < (nth (gi l l.length) q).2 → nth (xk l K) ((nth (gi l l.length) q).1 + j) = vl l q
  | 0, _, q, hq, _, _ => absurd hq (by omega)
  | K + 1, hK, q, hq, j, hj => by
    have hl := xk_len l K (by omega)
    rw [xk]
    by_cases e : q = K
    · subst e
      rw [nth_append_r (by omega), show (nth (gi l l.length) q).1 + j - (xk l q).length = j from by omega, nth_rep hj]
      rfl
    · have := ends (gi_inv l l.length) (K - q) q (by omega) (by omega)
      rw [show q + (K - q) = K from by omega] at this
      rw [nth_append_l (by omega)]
      exact xk_nth l K (by omega) q (by omega) j hj
theorem cn_mono (l : List Int) (q : Nat) : ∀ d, cn l q ≤ cn l (q + d)
  | 0 => Nat.le_refl _
  | d + 1 => by
    have := cn_mono l q d
    rw [show q + (d + 1) = q + d + 1 from rfl, cn]
    split <;> omega
theorem gi_congr {l m : List Int} : ∀ k, (∀ i, i < k → joinB l i = joinB m i) → gi l k = gi m k
  | 0, _ => rfl
  | k + 1, h => by rw [gi, gi, gi_congr k (fun i hi => h i (by omega)), h k (by omega)]
section
variable {l : List Int} (h : checkF l = 0)
include h
theorem normX_eq : normX l = xk l (gi l l.length).length := by rw [normX, if_pos h]
theorem normX_len : (normX l).length = l.length := by rw [normX_eq h, xk_all]
theorem norm_nth {q j : Nat} (hq : q < (gi l l.length).length) (hj : j < (nth (gi l l.length) q).2) : nth (normX l) ((nth (gi l l.length) q).1 + j) = vl l q := by
  rw [normX_eq h]; exact xk_nth l _ (Nat.le_refl _) q hq j hj
theorem norm_join {k : Nat} (hk : k < l.length) : joinB (normX l) k = joinB l k := by
  have hI := gi_inv l l.length
  obtain ⟨q, hq, h1, h2⟩ := hI.cover k hk
  have e1 := norm_nth h hq (j := k - (nth (gi l l.length) q).1) (by omega)
  rw [show (nth (gi l l.length) q).1 + (k - (nth (gi l l.length) q).1) = k from by omega] at e1
  have e2 := hI.same q hq (k - (nth (gi l l.length) q).1) (by omega)
  rw [show (nth (gi l l.length) q).1 + (k - (nth (gi l l.length) q).1) = k from by omega] at e2
  rw [Bool.eq_iff_iff]
  simp only [joinB, Bool.and_eq_true, decide_eq_true_eq]
  by_cases z : (nth (gi l l.length) q).1 < k
  · have e3 := norm_nth h hq (j := k - 1 - (nth (gi l l.length) q).1) (by omega)
    rw [show (nth (gi l l.length) q).1 + (k - 1 - (nth (gi l l.length) q).1) = k - 1 from by omega] at e3
    have e4 := hI.same q hq (k - 1 - (nth (gi l l.length) q).1) (by omega)
    rw [show (nth (gi l l.length) q).1 + (k - 1 - (nth (gi l l.length) q).1) = k - 1 from by omega] at e4
    rw [e1, e2, e3, e4]
    have : 0 < vl l q ↔ 0 < nth l (nth (gi l l.length) q).1 := by
      unfold vl; split <;> omega
    rw [this]
    simp
  · have hk1 : k = (nth (gi l l.length) q).1 := by omega
    constructor
    · rintro ⟨⟨a1, a2⟩, a3⟩
      exfalso
      -- the run before
      rcases Nat.eq_zero_or_pos q with y | y
      · subst y
        have := hI.fst hq
        omega
      · have e5 := hI.next (q - 1) (by omega)
        rw [show q - 1 + 1 = q from by omega] at e5
        have e6 := hI.m1 (q - 1) (by omega)
        have e3 := norm_nth h (q := q - 1) (j := (nth (gi l l.length) (q - 1)).2 - 1) (by omega) (by omega)
        rw [show (nth (gi l l.length) (q - 1)).1 + ((nth (gi l l.length) (q - 1)).2 - 1) = k - 1 from by omega] at e3
        rw [e1] at a2
        rw [e1, e3] at a3
        have hc : cn l q = if 0 < nth l (nth (gi l l.length) (q - 1)).1 then cn l (q - 1) + 1 else cn l (q - 1) := by
          have : cn l (q - 1 + 1) = _ := cn.eq_2 l (q - 1)
          rw [show q - 1 + 1 = q from by omega] at this
          exact this
        unfold vl at a2 a3
        split at a3 <;> rename_i p1 <;> split at a3 <;> rename_i p2
        · rw [if_pos p1] at hc; omega
        · omega
        · omega
        · rw [if_neg p2] at a2; omega
    · rintro ⟨⟨a1, a2⟩, a3⟩
      exfalso
      rw [hk1] at a1 a2 a3
      exact hI.new q hq a1 a2 a3
theorem norm_gi : gi (normX l) (normX l).length = gi l l.length := by
  rw [normX_len h]
  exact gi_congr l.length fun i hi => norm_join h hi
theorem norm_start {q : Nat} (hq : q < (gi l l.length).length) : nth (normX l) (nth (gi l l.length) q).1 = vl l q := by
  have := norm_nth h hq (j := 0) (by have := (gi_inv l l.length).m1 q hq; omega)
  simpa using this
theorem norm_pos {q : Nat} (hq : q < (gi l l.length).length) : 0 < nth (normX l) (nth (gi l l.length) q).1 ↔ 0 < nth l (nth (gi l l.length) q).1 := by
  rw [norm_start h hq]; unfold vl; split <;> omega
theorem norm_cn : ∀ k, k ≤ (gi l l.length).length → cn (normX l) k = cn l k
  | 0, _ => rfl
  | k + 1, hk => by
    rw [cn, cn, norm_cn k (by omega), norm_gi h]
    by_cases z : 0 < nth l (nth (gi l l.length) k).1
    · rw [if_pos z, if_pos ((norm_pos h (by omega)).2 z)]
    · rw [if_neg z, if_neg (fun q => z ((norm_pos h (by omega)).1 q))]
theorem norm_xk : ∀ k, k ≤ (gi l l.length).length → xk (normX l) k = xk l k
  | 0, _ => rfl
  | k + 1, hk => by
    rw [xk, xk, norm_xk k (by omega), norm_gi h, norm_cn h k (by omega)]
    by_cases z : 0 < nth l (nth (gi l l.length) k).1
    · rw [if_pos z, if_pos ((norm_pos h (by omega)).2 z)]
    · rw [if_neg z, if_neg (fun q => z ((norm_pos h (by omega)).1 q))]
theorem norm_check : checkF (normX l) = 0 := by
  have hI := gi_inv l l.length
  rw [checkF, if_neg ?_, if_neg ?_]
  · intro q
    rw [List.any_eq_true, norm_gi h] at q
    obtain ⟨x, hx, hb⟩ := q
    obtain ⟨i, hi⟩ := List.mem_iff_getElem?.1 hx
    obtain ⟨hil, he⟩ := List.getElem?_eq_some_iff.1 hi
    have hx' : nth (gi l l.length) i = x := by have := nth_get hil; rw [hi] at this; injection this with this; exact this.symm
    rw [← hx'] at hb
    simp only [badI, Bool.and_eq_true, Bool.or_eq_true, decide_eq_true_eq] at hb
    have hp := (norm_pos h hil).1 hb.1
    have hm := (pos_iff h hil).1 hp
    rcases hb.2 with b | b
    · omega
    · obtain ⟨p, p1, p2, p3⟩ := mem_drop.1 b
      rw [normX_len h] at p2
      obtain ⟨r, hr, r1, r2⟩ := hI.cover p p2
      have e1 := norm_nth h hr (j := p - (nth (gi l l.length) r).1) (by omega)
      rw [show (nth (gi l l.length) r).1 + (p - (nth (gi l l.length) r).1) = p from by omega, p3, norm_start h hil] at e1
      have hri : i < r := by
        rcases Nat.lt_or_ge i r with z | z
        · exact z
        · exfalso
          rcases Nat.eq_or_lt_of_le z with y | y
          · subst y; omega
          · have := ends hI (i - r) r (by omega) (by omega)
            rw [show r + (i - r) = i from by omega] at this
            omega
      have hc := cn_mono l (i + 1) (r - (i + 1))
      rw [show i + 1 + (r - (i + 1)) = r from by omega, cn, if_pos hp] at hc
      unfold vl at e1
      rw [if_pos hp] at e1
      split at e1 <;> omega
  · intro q
    rw [negs, List.any_eq_true] at q
    obtain ⟨y, hy, hp⟩ := q
    obtain ⟨i, hi⟩ := List.mem_iff_getElem?.1 hy
    obtain ⟨hil, he⟩ := List.getElem?_eq_some_iff.1 hi
    have := nth_get hil
    rw [hi] at this
    injection this with this
    rw [normX_len h] at hil
    obtain ⟨r, hr, r1, r2⟩ := hI.cover i hil
    have e1 := norm_nth h hr (j := i - (nth (gi l l.length) r).1) (by omega)
    rw [show (nth (gi l l.length) r).1 + (i - (nth (gi l l.length) r).1) = i from by omega, ← this] at e1
    simp at hp
    unfold vl at e1
    split at e1 <;> omega
theorem norm_norm : normX (normX l) = normX l := by
  rw [normX_eq (norm_check h), norm_gi h, norm_xk h _ (Nat.le_refl _), normX_eq h]
theorem rk_norm {rs2 : List FRow} (hr : Rc (normX l) rs2) : Rk (normX l) (normX l).length rs2 ∧ rs2.length = (gi l l.length).length := by
  rw [Rc, if_pos (norm_check h)] at hr
  have := hr.len
  rw [norm_gi h] at this
  exact ⟨hr, this⟩
end
end Go.Proofs.Ytdiegelbpdknaaa
