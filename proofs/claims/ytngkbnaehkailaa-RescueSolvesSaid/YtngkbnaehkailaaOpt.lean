/-
  Flows: what Solve returns is a greatest flow of least cost. Plain Lean.
-/
import Derived.Test.YtngkbnaehkailaaWay
namespace Go.Proofs.Ytngkbnaehkailaa
open Go Go.RowKit Eng
set_option linter.unusedVariables false
set_option linter.unusedSimpArgs false
theorem arc_lt {l : List Ed} {f : List Int} {nu a b : Nat} {w : Int} (hE : EdOk nu l) (h : Arc l f a b w) : a < nu ∧ b < nu ∧ -4294967296 ≤ w ∧ w ≤ 4294967296 := by
  obtain ⟨i, hi, h⟩ := h
  have := hE i hi
  rcases h with ⟨_, e1, e2, e3⟩ | ⟨_, e1, e2, e3⟩ <;> omega
theorem below_all (π : Nat → Int) : ∀ n : Nat, ∃ M : Int, ∀ v, v < n → -M ≤ π v
  | 0 => ⟨0, fun v h => absurd h (Nat.not_lt_zero _)⟩
  | n + 1 => by
    obtain ⟨M, hM⟩ := below_all π n
    refine ⟨max M (-(π n)), fun v hv => ?_⟩
    by_cases e : v = n
    · subst e; omega
    · have := hM v (by omega); omega
theorem pot_after {l : List Ed} {f G : List Int} {nu s : Nat} {B : Int} {T : Nat → Nat} {c la : List Int} {π : Nat → Int} (F : Fnd l f nu s B T c la) (hE : EdOk nu l) (hB : B + 4294967296 < FAR) (hP : Pot l f π) (hA : ∀ a b w, Arc l G a b w → Arc l f a b w ∨ (nth c a ≠ FAR ∧ nth c b ≠ FAR ∧ nth c b = nth c a + w)) : ∃ π', Pot l G π' := by
  obtain ⟨M, hM⟩ := below_all π nu
  refine ⟨fun v => if nth c v = FAR then π v + (M + B + 4294967296) else nth c v, fun a b w h => ?_⟩
  obtain ⟨ha, hb, hw1, hw2⟩ := arc_lt hE h
  dsimp only
  rcases hA a b w h with q | ⟨q1, q2, q3⟩
  · have hr := F.rel a b w q
    have hp := hP a b w q
    have hMa := hM a ha
    by_cases ea : nth c a = FAR
    · rw [if_pos ea]
      by_cases eb : nth c b = FAR
      · rw [if_pos eb]; omega
      · rw [if_neg eb]
        have := (F.bd b hb).resolve_left eb
        omega
    · have h1 := hr.resolve_left ea
      have h2 := (F.bd a ha).resolve_left ea
      rw [if_neg ea, if_neg (by omega)]
      exact h1
  · rw [if_neg q1, if_neg q2, q3]; exact Int.le_refl _
/-- a feasible flow from s to t of this amount and cost -/
structure Feas (l : List Ed) (nu s t : Nat) (f : List Int) (a z : Int) : Prop where
  len : f.length = l.length
  wit : ∀ i, i < l.length → 0 ≤ nth f i ∧ nth f i ≤ (nth l i).2.2.1
  bal : ∀ x, balF l f l.length x = (if s = x then a else 0) - (if t = x then a else 0)
  cost : z = costK l f l.length
def Cut (l : List Ed) (f : List Int) (s t : Nat) : Prop := ∃ R : Nat → Bool, R s = true ∧ R t = false ∧ ∀ a b w, Arc l f a b w → R a = true → R b = true
structure Best (l : List Ed) (nu s t : Nat) (most : Int) (R : List Int × Int × Int) : Prop where
  feas : Feas l nu s t R.1 R.2.1 R.2.2
  pot : ∃ π, Pot l R.1 π
  le : 0 ≤ R.2.1 ∧ R.2.1 ≤ most
  max : R.2.1 = most ∨ Cut l R.1 s t
theorem slv_best {l : List Ed} {nu s t : Nat} {most W : Int} (hE : EdOk nu l) (hC : CostIn l W) (hs : s < nu) (ht : t < nu) (hst : s ≠ t) (hW : 0 ≤ W) (hm : (l.length : Int) ≤ 2048) (hB : (((nu + 1) * (2 * l.length) : Nat) : Int) * W ≤ 17592186044416) : ∀ (K : Nat) (f : List Int) (a z : Int), Feas l nu s t f a z → (∃ π, Pot l f π) → 0 ≤ a → a ≤ most → most - a < K → ∃ R, slv l nu (s : Int) (t : Int) most K f a z = some R ∧ Best l nu s t most R
  | 0, f, a, z, _, _, _, h1, h2 => absurd h2 (by omega)
  | K + 1, f, a, z, hf, ⟨π, hP⟩, h0, h1, h2 => by
    have hFAR : FAR = 1152921504606846976 := rfl
    rw [slv]
    by_cases ha : a < most
    · rw [if_pos ha]
      obtain ⟨T, F⟩ := found (f := f) (s := s) hE hC hP hs hW (by omega)
      by_cases hfar : nth (srch l f nu (s : Int)).1 (t : Int).toNat = 1152921504606846976
      · rw [if_pos hfar]
        refine ⟨_, rfl, hf, ⟨π, hP⟩, ⟨h0, h1⟩, .inr ⟨fun v => decide (nth (srch l f nu (s : Int)).1 v ≠ FAR), ?_, ?_, fun x y w hA hx => ?_⟩⟩
        · exact decide_eq_true (by rw [F.src]; decide)
        · rw [show ((t : Nat) : Int).toNat = t from by omega] at hfar
          simp [hfar]
        · have hx' := of_decide_eq_true hx
          obtain ⟨hx1, hy1, hw1, hw2⟩ := arc_lt hE hA
          have r1 := (F.rel x y w hA).resolve_left hx'
          have r2 := (F.bd x hx1).resolve_left hx'
          exact decide_eq_true (by show nth _ y ≠ FAR; omega)
      · rw [if_neg hfar]
        have htn : ((t : Nat) : Int).toNat = t := by omega
        rw [htn] at hfar ⊢
        obtain ⟨Y, g1, g2, g3, g4⟩ := way F hE hf.wit (nu + 1) t ht hfar (Nat.lt_succ_of_le rk_le) (most - a) (by omega)
        obtain ⟨G, k1, k2, _⟩ := aug F hE hf.wit g2 (nu + 1) t (most - a) f g1 ht hfar hf.len hf.wit (fun _ _ _ _ _ => rfl)
        have hct := (F.bd t ht).resolve_left hfar
        have hz := costK_bd hE hf.wit l.length (Nat.le_refl _)
        have hz2 := hf.cost
        have g5 := g4 (fun e => hst e.symm)
        rw [g1]
        dsimp only
        rw [if_pos ⟨by omega, by omega, by omega, by omega, by omega, by omega, by omega⟩, k1]
        dsimp only
        have hG : Feas l nu s t G (a + Y) (z + Y * nth (srch l f nu (s : Int)).1 t) := by
          refine ⟨k2.len, k2.wit, fun x => ?_, ?_⟩
          · rw [k2.bal x, hf.bal x]
            split <;> split <;> omega
          · rw [k2.cost, ← hf.cost, F.src, Int.sub_zero]
        exact slv_best hE hC hs ht hst hW hm hB K G (a + Y) _ hG (pot_after F hE (by omega) hP k2.arc) (by omega) (by omega) (by omega)
    · rw [if_neg ha]
      exact ⟨_, rfl, hf, ⟨π, hP⟩, ⟨h0, h1⟩, .inl (by dsimp only; omega)⟩
theorem feas_zero {l : List Ed} {nu s t : Nat} (hE : EdOk nu l) : Feas l nu s t (List.replicate l.length 0) 0 0 := by
  have hb : ∀ k, k ≤ l.length → (∀ x, balF l (List.replicate l.length 0) k x = 0) ∧ costK l (List.replicate l.length 0) k = 0 := by
    intro k
    induction k with
    | zero => intro _; exact ⟨fun x => rfl, rfl⟩
    | succ k ih =>
      intro hk
      obtain ⟨i1, i2⟩ := ih (by omega)
      refine ⟨fun x => ?_, ?_⟩
      · rw [balF, i1, nth_rep (by omega)]; split <;> split <;> rfl
      · rw [costK, i2, nth_rep (by omega), Int.zero_mul]; rfl
  refine ⟨by simp, flow_zero hE, fun x => ?_, (hb _ (Nat.le_refl _)).2.symm⟩
  rw [(hb _ (Nat.le_refl _)).1]; split <;> split <;> rfl
theorem pot_zero {l : List Ed} {nu : Nat} (hE : EdOk nu l) : Pot l (List.replicate l.length 0) (fun _ => 0) := by
  rintro u v w ⟨i, hi, h⟩
  have := hE i hi
  rcases h with ⟨_, _, _, e⟩ | ⟨q, _, _, _⟩
  · show (0 : Int) ≤ 0 + w
    omega
  · rw [nth_rep hi] at q; omega
theorem solve_best {l : List Ed} {nu s t : Nat} {most W : Int} (hE : EdOk nu l) (hC : CostIn l W) (hs : s < nu) (ht : t < nu) (hst : s ≠ t) (hW : 0 ≤ W) (hm : (l.length : Int) ≤ 2048) (hB : (((nu + 1) * (2 * l.length) : Nat) : Int) * W ≤ 17592186044416) (hmost : 0 ≤ most) : ∃ R, slv l nu (s : Int) (t : Int) most (most.toNat + 1) (List.replicate l.length 0) 0 0 = some R ∧ Best l nu s t most R :=
  slv_best hE hC hs ht hst hW hm hB _ _ _ _ (feas_zero hE) ⟨_, pot_zero hE⟩ (Int.le_refl _) hmost (by omega)
/-! ### no other flow is better -/
def sumN (F : Nat → Int) : Nat → Int
  | 0 => 0
  | n + 1 => sumN F n + F n
theorem sumN_add {F G : Nat → Int} : ∀ n, sumN (fun v => F v + G v) n = sumN F n + sumN G n
  | 0 => rfl
  | n + 1 => by rw [sumN, sumN, sumN, sumN_add n]; omega
theorem sumN_congr {F G : Nat → Int} : ∀ n, (∀ v, v < n → F v = G v) → sumN F n = sumN G n
  | 0, _ => rfl
  | n + 1, h => by rw [sumN, sumN, sumN_congr n fun v hv => h v (by omega), h n (by omega)]
theorem sumN_zero : ∀ n, sumN (fun _ => 0) n = 0
  | 0 => rfl
  | n + 1 => by rw [sumN, sumN_zero n]; rfl
theorem sumN_at {a : Nat} {x : Int} : ∀ n, sumN (fun v => if a = v then x else 0) n = if a < n then x else 0
  | 0 => by simp [sumN]
  | n + 1 => by
    rw [sumN, sumN_at n]
    by_cases e : a = n
    · subst e; rw [if_neg (Nat.lt_irrefl _), if_pos rfl, if_pos (Nat.lt_succ_self _)]; omega
    · rw [if_neg e]
      by_cases q : a < n
      · rw [if_pos q, if_pos (show a < n + 1 by omega)]; omega
      · rw [if_neg q, if_neg (show ¬ a < n + 1 by omega)]; rfl
def flowP (l : List Ed) (g : List Int) (π : Nat → Int) : Nat → Int
  | 0 => 0
  | k + 1 => flowP l g π k + nth g k * (π (nth l k).1.toNat - π (nth l k).2.1.toNat)
theorem sum_bal {l : List Ed} {g : List Int} {nu : Nat} (hE : EdOk nu l) (π : Nat → Int) : ∀ k, k ≤ l.length → sumN (fun v => π v * balF l g k v) nu = flowP l g π k
  | 0, _ => by rw [flowP, sumN_congr (G := fun _ => 0) nu (fun v _ => by rw [balF, Int.mul_zero]), sumN_zero]
  | k + 1, hk => by
    have hEk := hE k (by omega)
    rw [flowP, ← sum_bal hE π k (by omega)]
    have h1 : sumN (fun v => π v * balF l g (k + 1) v) nu = sumN (fun v => π v * balF l g k v + ((if (nth l k).1.toNat = v then π (nth l k).1.toNat * nth g k else 0) + (if (nth l k).2.1.toNat = v then -(π (nth l k).2.1.toNat * nth g k) else 0))) nu := by
      refine sumN_congr nu fun v _ => ?_
      rw [balF, Int.mul_add]
      congr 1
      by_cases e1 : (nth l k).1.toNat = v
      · by_cases e2 : (nth l k).2.1.toNat = v
        · rw [if_pos e1, if_pos e2, if_pos e1, if_pos e2, e1, e2]; simp; omega
        · rw [if_pos e1, if_neg e2, if_pos e1, if_neg e2, e1]; simp
      · by_cases e2 : (nth l k).2.1.toNat = v
        · rw [if_neg e1, if_pos e2, if_neg e1, if_pos e2, e2, Int.zero_sub, Int.mul_neg, Int.zero_add]
        · rw [if_neg e1, if_neg e2, if_neg e1, if_neg e2]; simp
    rw [h1, sumN_add, sumN_add, sumN_at, sumN_at, if_pos (by omega), if_pos (by omega), Int.mul_sub, Int.mul_comm (nth g k) (π (nth l k).1.toNat), Int.mul_comm (nth g k) (π (nth l k).2.1.toNat)]
    omega
theorem sum_feas {l : List Ed} {nu s t : Nat} {f : List Int} {a z : Int} (h : Feas l nu s t f a z) (hE : EdOk nu l) (hs : s < nu) (ht : t < nu) (π : Nat → Int) : flowP l f π l.length = π s * a - π t * a := by
  rw [← sum_bal hE π l.length (Nat.le_refl _)]
  have h1 : sumN (fun v => π v * balF l f l.length v) nu = sumN (fun v => (if s = v then π s * a else 0) + (if t = v then -(π t * a) else 0)) nu := by
    refine sumN_congr nu fun v _ => ?_
    rw [h.bal v, Int.mul_sub]
    by_cases e1 : s = v
    · by_cases e2 : t = v
      · rw [if_pos e1, if_pos e2, if_pos e1, if_pos e2, e1, e2]; omega
      · rw [if_pos e1, if_neg e2, if_pos e1, if_neg e2, e1]; simp
    · by_cases e2 : t = v
      · rw [if_neg e1, if_pos e2, if_neg e1, if_pos e2, e2]; simp
      · rw [if_neg e1, if_neg e2, if_neg e1, if_neg e2]; simp
  rw [h1, sumN_add, sumN_at, sumN_at, if_pos hs, if_pos ht]; omega
/-- weak duality -/
theorem cost_le {l : List Ed} {nu s t : Nat} {f g : List Int} {a z z' : Int} {π : Nat → Int} (hE : EdOk nu l) (hs : s < nu) (ht : t < nu) (hf : Feas l nu s t f a z) (hg : Feas l nu s t g a z') (hP : Pot l f π) : z ≤ z' := by
  have key : ∀ k, k ≤ l.length → costK l f k + flowP l f π k ≤ costK l g k + flowP l g π k := by
    intro k
    induction k with
    | zero => intro _; exact Int.le_refl _
    | succ k ih =>
      intro hk
      have i1 := ih (by omega)
      have h1 := hf.wit k (by omega)
      have h2 := hg.wit k (by omega)
      have h3 : nth f k * ((nth l k).2.2.2 + (π (nth l k).1.toNat - π (nth l k).2.1.toNat)) ≤ nth g k * ((nth l k).2.2.2 + (π (nth l k).1.toNat - π (nth l k).2.1.toNat)) := by
        rcases Int.lt_trichotomy (nth f k) (nth g k) with q | q | q
        · have := hP _ _ _ (ArcK.fw (f := f) (show k < l.length by omega) (by omega))
          exact Int.mul_le_mul_of_nonneg_right (by omega) (by omega)
        · rw [q]; exact Int.le_refl _
        · have := hP _ _ _ (ArcK.bw (f := f) (show k < l.length by omega) (by omega))
          exact Int.mul_le_mul_of_nonpos_right (by omega) (by omega)
      rw [Int.mul_add, Int.mul_add] at h3
      rw [costK, costK, flowP, flowP]
      omega
  have h1 := key l.length (Nat.le_refl _)
  rw [sum_feas hf hE hs ht, sum_feas hg hE hs ht, ← hf.cost, ← hg.cost] at h1
  omega
/-- a cut bounds every flow -/
theorem amount_le {l : List Ed} {nu s t : Nat} {f g : List Int} {a b z z' : Int} (hE : EdOk nu l) (hs : s < nu) (ht : t < nu) (hf : Feas l nu s t f a z) (hg : Feas l nu s t g b z') (hC : Cut l f s t) : b ≤ a := by
  obtain ⟨R, r1, r2, r3⟩ := hC
  have key : ∀ k, k ≤ l.length → flowP l g (fun v => if R v = true then 1 else 0) k ≤ flowP l f (fun v => if R v = true then 1 else 0) k := by
    intro k
    induction k with
    | zero => intro _; exact Int.le_refl _
    | succ k ih =>
      intro hk
      have i1 := ih (by omega)
      have h1 := hf.wit k (by omega)
      have h2 := hg.wit k (by omega)
      rw [flowP, flowP]
      try dsimp only
      by_cases q1 : R (nth l k).1.toNat = true
      · by_cases q2 : R (nth l k).2.1.toNat = true
        · rw [if_pos q1, if_pos q2]; simp; exact i1
        · rw [if_pos q1, if_neg q2]
          have : ¬ nth f k < (nth l k).2.2.1 := fun q => q2 (r3 _ _ _ (ArcK.fw (f := f) (show k < l.length by omega) q) q1)
          omega
      · by_cases q2 : R (nth l k).2.1.toNat = true
        · rw [if_neg q1, if_pos q2]
          have : ¬ 0 < nth f k := fun q => q1 (r3 _ _ _ (ArcK.bw (f := f) (show k < l.length by omega) q) q2)
          omega
        · rw [if_neg q1, if_neg q2]; simp; exact i1
  have h1 := key l.length (Nat.le_refl _)
  rw [sum_feas hf hE hs ht, sum_feas hg hE hs ht] at h1
  try dsimp only at h1
  rw [if_pos r1, if_neg (by rw [r2]; decide)] at h1
  omega
end Go.Proofs.Ytngkbnaehkailaa
