/-
  Flows: the augmenting of a flow, in plain Lean.
-/
import Derived.Test.YtngkbnaehkailaaPlain
namespace Go.Proofs.Ytngkbnaehkailaa
open Go Go.RowKit Eng
set_option linter.unusedVariables false
set_option linter.unusedSimpArgs false
def filK (x : Int) (n k : Nat) : List Int := List.replicate k x ++ List.replicate (n - k) 0
theorem filK_len {x : Int} {n k : Nat} (h : k ≤ n) : (filK x n k).length = n := by simp [filK]; omega
theorem filK_set {x : Int} {n k : Nat} (h : k < n) : (filK x n k).set k x = filK x n (k + 1) := by
  unfold filK
  rw [List.set_append_right _ _ (by simp), List.length_replicate, Nat.sub_self, show n - k = (n - (k + 1)) + 1 from by omega, List.replicate_succ, List.set_cons_zero, List.replicate_succ', List.append_assoc]; rfl
theorem filK_full {x : Int} {n : Nat} : filK x n n = List.replicate n x := by simp [filK]
theorem filK_zero {x : Int} {n : Nat} : filK x n 0 = List.replicate n 0 := by simp [filK]
def initC (nu : Nat) (s : Int) : List Int := (List.replicate nu 1152921504606846976).set s.toNat 0
theorem rep_bd {nu : Nat} {x : Int} (h : 0 ≤ x ∧ x ≤ 1152921504606846976) : Bd nu 0 (List.replicate nu x) := ⟨by simp, fun j hj => by rw [nth_rep hj]; exact h⟩
theorem initC_bd {nu : Nat} {s : Int} : Bd nu 0 (initC nu s) := (rep_bd (by omega)).set (by omega)
def tr1 (l : List Ed) (f c la : List Int) (s : Int) : Nat → Int → Int → Option Int
  | 0, _, _ => none
  | k + 1, v, y => if v = s then some y else if 0 ≤ nth la v.toNat ∧ nth la v.toNat < l.length then tr1 l f c la s k (backV l f c la v) (min y (backR l f c la v)) else none
def tr2C (l : List Ed) (g c la : List Int) (v : Int) : Bool := decide (backV l g c la v = (nth l (backI la v)).1) && decide ((nth l (backI la v)).2.1 = v) && decide (nth g (backI la v) < (nth l (backI la v)).2.2.1) && decide (nth c (backV l g c la v).toNat + (nth l (backI la v)).2.2.2 = nth c v.toNat)
def tr2N (l : List Ed) (g c la : List Int) (v y : Int) : Int := if tr2C l g c la v = true then nth g (backI la v) + y else nth g (backI la v) - y
def tr2 (l : List Ed) (c la : List Int) (s y : Int) : Nat → Int → List Int → Option (List Int)
  | 0, _, _ => none
  | k + 1, v, g => if v = s then some g else if (0 ≤ nth la v.toNat ∧ nth la v.toNat < l.length) ∧ (0 ≤ tr2N l g c la v y ∧ tr2N l g c la v y ≤ (nth l (backI la v)).2.2.1) then tr2 l c la s y k (backV l g c la v) (g.set (backI la v) (tr2N l g c la v y)) else none
def srch (l : List Ed) (f : List Int) (nu : Nat) (s : Int) : Sg := runF l f (nu + 1) (initC nu s) (List.replicate nu (-1))
def slv (l : List Ed) (nu : Nat) (s t most : Int) : Nat → List Int → Int → Int → Option (List Int × Int × Int)
  | 0, _, _, _ => none
  | k + 1, f, a, z =>
    if a < most then
      if nth (srch l f nu s).1 t.toNat = 1152921504606846976 then some (f, a, z)
      else match tr1 l f (srch l f nu s).1 (srch l f nu s).2.1 s (nu + 1) t (most - a) with
        | none => none
        | some y =>
          if 0 ≤ y ∧ y ≤ 65536 ∧ y ≤ most - a ∧ -17592186044416 ≤ nth (srch l f nu s).1 t.toNat ∧ nth (srch l f nu s).1 t.toNat ≤ 17592186044416 ∧ -2305843009213693952 ≤ z ∧ z ≤ 2305843009213693952 then
            match tr2 l (srch l f nu s).1 (srch l f nu s).2.1 s y (nu + 1) t f with
            | none => none
            | some g => slv l nu s t most k g (a + y) (z + y * nth (srch l f nu s).1 t.toNat)
          else none
    else some (f, a, z)
theorem slv_pos {l : List Ed} {nu K : Nat} {s t most a z : Int} {f : List Int} {R : List Int × Int × Int} (h : slv l nu s t most K f a z = some R) : ∃ k, K = k + 1 := by
  cases K with
  | zero => cases h
  | succ k => exact ⟨k, rfl⟩
theorem slv_done {l : List Ed} {nu K : Nat} {s t most a z : Int} {f : List Int} {R : List Int × Int × Int} (h : slv l nu s t most K f a z = some R) (ha : most ≤ a) : R = (f, a, z) := by
  obtain ⟨k, rfl⟩ := slv_pos h
  rw [slv, if_neg (by omega)] at h
  exact (Option.some.inj h).symm
theorem slv_far {l : List Ed} {nu K : Nat} {s t most a z : Int} {f : List Int} {R : List Int × Int × Int} (h : slv l nu s t most K f a z = some R) (ha : a < most) (hf : nth (srch l f nu s).1 t.toNat = 1152921504606846976) : R = (f, a, z) := by
  obtain ⟨k, rfl⟩ := slv_pos h
  rw [slv, if_pos ha, if_pos hf] at h
  exact (Option.some.inj h).symm
theorem slv_step {l : List Ed} {nu K : Nat} {s t most a z : Int} {f : List Int} {R : List Int × Int × Int} (h : slv l nu s t most K f a z = some R) (ha : a < most) (hf : ¬ nth (srch l f nu s).1 t.toNat = 1152921504606846976) :
    ∃ k y g, K = k + 1 ∧ tr1 l f (srch l f nu s).1 (srch l f nu s).2.1 s (nu + 1) t (most - a) = some y ∧ (0 ≤ y ∧ y ≤ 65536 ∧ y ≤ most - a ∧ -17592186044416 ≤ nth (srch l f nu s).1 t.toNat ∧ nth (srch l f nu s).1 t.toNat ≤ 17592186044416 ∧ -2305843009213693952 ≤ z ∧ z ≤ 2305843009213693952) ∧ tr2 l (srch l f nu s).1 (srch l f nu s).2.1 s y (nu + 1) t f = some g ∧ slv l nu s t most k g (a + y) (z + y * nth (srch l f nu s).1 t.toNat) = some R := by
  obtain ⟨k, rfl⟩ := slv_pos h
  rw [slv, if_pos ha, if_neg hf] at h
  split at h
  · cases h
  · rename_i y hy
    split at h
    · rename_i hb
      split at h
      · cases h
      · rename_i g hg
        exact ⟨k, y, g, rfl, hy, hb, hg, h⟩
    · cases h
theorem tr1_step {l : List Ed} {f c la : List Int} {s v y Y : Int} {K : Nat} (h : tr1 l f c la s K v y = some Y) (hv : ¬ v = s) : ∃ k, K = k + 1 ∧ (0 ≤ nth la v.toNat ∧ nth la v.toNat < l.length) ∧ tr1 l f c la s k (backV l f c la v) (min y (backR l f c la v)) = some Y := by
  cases K with
  | zero => cases h
  | succ k =>
    rw [tr1, if_neg hv] at h
    split at h
    · rename_i q; exact ⟨k, rfl, q, h⟩
    · cases h
theorem tr1_end {l : List Ed} {f c la : List Int} {s v y Y : Int} {K : Nat} (h : tr1 l f c la s K v y = some Y) (hv : v = s) : y = Y := by
  cases K with
  | zero => cases h
  | succ k => rw [tr1, if_pos hv] at h; exact Option.some.inj h
theorem tr2_step {l : List Ed} {c la g G : List Int} {s v y : Int} {K : Nat} (h : tr2 l c la s y K v g = some G) (hv : ¬ v = s) : ∃ k, K = k + 1 ∧ (0 ≤ nth la v.toNat ∧ nth la v.toNat < l.length) ∧ (0 ≤ tr2N l g c la v y ∧ tr2N l g c la v y ≤ (nth l (backI la v)).2.2.1) ∧ tr2 l c la s y k (backV l g c la v) (g.set (backI la v) (tr2N l g c la v y)) = some G := by
  cases K with
  | zero => cases h
  | succ k =>
    rw [tr2, if_neg hv] at h
    split at h
    · rename_i q; exact ⟨k, rfl, q.1, q.2, h⟩
    · cases h
theorem tr2_end {l : List Ed} {c la g G : List Int} {s v y : Int} {K : Nat} (h : tr2 l c la s y K v g = some G) (hv : v = s) : g = G := by
  cases K with
  | zero => cases h
  | succ k => rw [tr2, if_pos hv] at h; exact Option.some.inj h
theorem backV_in {l : List Ed} {f c la : List Int} {v : Int} {n : Int} (hE : EdOk n l) (hl : 0 ≤ nth la v.toNat ∧ nth la v.toNat < l.length) : 0 ≤ backV l f c la v ∧ backV l f c la v < n := by
  have h := hE (backI la v) (by unfold backI; omega)
  unfold backV
  split <;> omega
theorem backR_in {l : List Ed} {f c la : List Int} {v : Int} {n : Int} (hE : EdOk n l) (hW : ∀ i, i < l.length → 0 ≤ nth f i ∧ nth f i ≤ (nth l i).2.2.1) (hl : 0 ≤ nth la v.toNat ∧ nth la v.toNat < l.length) : 0 ≤ backR l f c la v ∧ backR l f c la v ≤ 65536 := by
  have h := hE (backI la v) (by unfold backI; omega)
  have h2 := hW (backI la v) (by unfold backI; omega)
  unfold backR
  split <;> omega
theorem flow_set {l : List Ed} {g : List Int} {i : Nat} {x : Int} (hW : ∀ i, i < l.length → 0 ≤ nth g i ∧ nth g i ≤ (nth l i).2.2.1) (hi : i < g.length) (hx : 0 ≤ x ∧ x ≤ (nth l i).2.2.1) : ∀ j, j < l.length → 0 ≤ nth (g.set i x) j ∧ nth (g.set i x) j ≤ (nth l j).2.2.1 := by
  intro j hj
  rw [nth_set hi]
  split
  · rename_i e; rw [← e]; exact hx
  · exact hW j hj
theorem flow_zero {n : Int} {l : List Ed} (hE : EdOk n l) : ∀ i, i < l.length → 0 ≤ nth (List.replicate l.length (0 : Int)) i ∧ nth (List.replicate l.length (0 : Int)) i ≤ (nth l i).2.2.1 := by
  intro i hi
  have := hE i hi
  rw [nth_rep hi]; omega
theorem mul_bd2 {a b A B : Int} (h0 : 0 ≤ a) (h1 : a ≤ A) (h2 : -B ≤ b) (h3 : b ≤ B) : -(A * B) ≤ a * b ∧ a * b ≤ A * B := by
  have hB : 0 ≤ B := by omega
  constructor
  · have h4 : a * (-B) ≤ a * b := Int.mul_le_mul_of_nonneg_left h2 h0
    have h5 : a * B ≤ A * B := Int.mul_le_mul_of_nonneg_right h1 hB
    rw [Int.mul_neg] at h4; omega
  · have h4 : a * b ≤ a * B := Int.mul_le_mul_of_nonneg_left h3 h0
    have h5 : a * B ≤ A * B := Int.mul_le_mul_of_nonneg_right h1 hB
    omega
def pricesF (n : Int) (l : List Ed) (f : List Int) : List Int × Bool :=
  if rightB n l f = true ∧ (runF l f (n.toNat + 1) (List.replicate n.toNat 0) (List.replicate n.toNat 0)).2.2 = true then ((runF l f (n.toNat + 1) (List.replicate n.toNat 0) (List.replicate n.toNat 0)).1, true) else ([], false)
end Go.Proofs.Ytngkbnaehkailaa
