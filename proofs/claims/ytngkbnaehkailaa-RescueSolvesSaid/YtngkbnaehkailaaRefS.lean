/-
  Flows: the reference's Solve, as a function with fuel. Plain Lean.
-/
import Derived.Test.YtngkbnaehkailaaPrices
namespace Go.Proofs.Ytngkbnaehkailaa
open Go Go.RowKit Eng
set_option linter.unusedVariables false
set_option linter.unusedSimpArgs false
def rsC (S : List Sp) (j : Nat) (d : List Int) : Bool := decide (nth d (nth S j).1.toNat < 1152921504606846976) && decide (nth d (nth S j).1.toNat + (nth S j).2.2.1 < nth d (nth S j).2.1.toNat)
def rsD (S : List Sp) (j : Nat) (d : List Int) : List Int := if rsC S j d = true then d.set (nth S j).2.1.toNat (nth d (nth S j).1.toNat + (nth S j).2.2.1) else d
def rsB (S : List Sp) (j : Nat) (d b : List Int) : List Int := if rsC S j d = true then b.set (nth S j).2.1.toNat (j : Int) else b
def rrnd (S : List Sp) (d b : List Int) : Nat → List Int × List Int
  | 0 => (d, b)
  | j + 1 => (rsD S j (rrnd S d b j).1, rsB S j (rrnd S d b j).1 (rrnd S d b j).2)
def riter (S : List Sp) (nu : Nat) (s : Int) : Nat → List Int × List Int
  | 0 => (initC nu s, List.replicate nu (-1))
  | r + 1 => rrnd S (riter S nu s r).1 (riter S nu s r).2 S.length
theorem rsD_bd {n : Nat} {lo : Int} {S : List Sp} {j : Nat} {d : List Int} (h : Bd n lo d) (hx : (nth S j).1.toNat < n ∧ (nth S j).2.1.toNat < n) (hc : -4294967296 ≤ (nth S j).2.2.1) : Bd n (lo - 4294967296) (rsD S j d) := by
  unfold rsD
  split
  · rename_i q
    rw [rsC, Bool.and_eq_true, decide_eq_true_iff, decide_eq_true_iff] at q
    have h1 := h.bd _ hx.1
    have h2 := h.bd _ hx.2
    exact (h.mono (by omega)).set ⟨by omega, by omega⟩
  · exact h.mono (by omega)
theorem rsB_len {S : List Sp} {j : Nat} {d b : List Int} : (rsB S j d b).length = b.length := by unfold rsB; split <;> simp
def rtr (S : List Sp) (b : List Int) : Nat → Int → List Sp → Option (List Sp)
  | 0, _, _ => none
  | k + 1, v, acc => if 0 ≤ nth b v.toNat then (if nth b v.toNat < S.length then rtr S b k (nth S (nth b v.toNat).toNat).1 (acc ++ [nth S (nth b v.toNat).toNat]) else none) else some acc
theorem rtr_step {S : List Sp} {b : List Int} {K : Nat} {v : Int} {acc p : List Sp} (h : rtr S b K v acc = some p) (hb : 0 ≤ nth b v.toNat) : ∃ k, K = k + 1 ∧ nth b v.toNat < S.length ∧ rtr S b k (nth S (nth b v.toNat).toNat).1 (acc ++ [nth S (nth b v.toNat).toNat]) = some p := by
  cases K with
  | zero => cases h
  | succ k =>
    rw [rtr, if_pos hb] at h
    split at h
    · rename_i q; exact ⟨k, rfl, q, h⟩
    · cases h
theorem rtr_end {S : List Sp} {b : List Int} {K : Nat} {v : Int} {acc p : List Sp} (h : rtr S b K v acc = some p) (hb : nth b v.toNat < 0) : acc = p := by
  cases K with
  | zero => cases h
  | succ k => rw [rtr, if_neg (by omega)] at h; exact Option.some.inj h
theorem rtr_mem {S : List Sp} {b : List Int} : ∀ K v acc p, rtr S b K v acc = some p → (∀ x ∈ acc, x ∈ S) → (∀ x ∈ p, x ∈ S) ∧ p.length ≤ acc.length + K
  | 0, v, acc, p, h, _ => by cases h
  | k + 1, v, acc, p, h, ha => by
    rw [rtr] at h
    split at h
    · split at h
      · rename_i h1 h2
        have := rtr_mem k _ _ p h (fun x hx => by
          rcases List.mem_append.1 hx with hx | hx
          · exact ha x hx
          · obtain rfl : x = _ := List.mem_singleton.1 hx
            exact nth_mem (by omega))
        refine ⟨this.1, ?_⟩
        have h3 := this.2
        rw [List.length_append] at h3
        simp at h3; omega
      · cases h
    · rw [← Option.some.inj h]; exact ⟨ha, by omega⟩
def updF (y : Int) (f : List Int) (x : Sp) : List Int := f.set x.2.2.2.2.1.toNat (if x.2.2.2.2.2 = true then nth f x.2.2.2.2.1.toNat - y else nth f x.2.2.2.2.1.toNat + y)
def minF (y : Int) (x : Sp) : Int := min y x.2.2.2.1
def cosF (y z : Int) (x : Sp) : Int := z + y * x.2.2.1
theorem updF_len {y : Int} {f : List Int} {x : Sp} : (updF y f x).length = f.length := by simp [updF]
theorem foldl_take {α : Type} {g : α → Sp → α} {p : List Sp} {a : α} {i : Nat} (h : i < p.length) : (p.take (i + 1)).foldl g a = g ((p.take i).foldl g a) (nth p i) := by
  rw [take_nth h, List.foldl_append]; rfl
theorem updF_bd {y B : Int} {f : List Int} {x : Sp} (hy : 0 ≤ y ∧ y ≤ 65536) (h : ∀ j, j < f.length → -B ≤ nth f j ∧ nth f j ≤ B) : ∀ j, j < (updF y f x).length → -(B + 65536) ≤ nth (updF y f x) j ∧ nth (updF y f x) j ≤ B + 65536 := by
  intro j hj
  rw [updF_len] at hj
  unfold updF
  rcases Nat.lt_or_ge x.2.2.2.2.1.toNat f.length with q | q
  · have h1 := h _ q
    have h2 := h j hj
    rw [nth_set q]
    split
    · split <;> omega
    · omega
  · rw [List.set_eq_of_length_le q]
    have := h j hj; omega
def rpath (l : List Ed) (f : List Int) (nu : Nat) (s t : Int) : Option (List Sp) := rtr (stepsK l f l.length) (riter (stepsK l f l.length) nu s nu).2 (nu + 1) t []
def slvR (l : List Ed) (nu : Nat) (s t most : Int) : Nat → List Int → Int → Int → Option (List Int × Int × Int)
  | 0, _, _, _ => none
  | k + 1, f, a, z =>
    if a < most then
      match rpath l f nu s t with
      | none => none
      | some p =>
        if p.length = 0 then some (f, a, z)
        else if 0 ≤ p.foldl minF (most - a) ∧ p.foldl minF (most - a) ≤ 65536 ∧ p.foldl minF (most - a) ≤ most - a ∧ -1152921504606846976 ≤ z ∧ z ≤ 1152921504606846976 ∧ withinB l (p.foldl (updF (p.foldl minF (most - a))) f) = true then
          slvR l nu s t most k (p.foldl (updF (p.foldl minF (most - a))) f) (a + p.foldl minF (most - a)) (p.foldl (cosF (p.foldl minF (most - a))) z)
        else none
    else some (f, a, z)
theorem slvR_pos {l : List Ed} {nu K : Nat} {s t most a z : Int} {f : List Int} {R : List Int × Int × Int} (h : slvR l nu s t most K f a z = some R) : ∃ k, K = k + 1 := by
  cases K with
  | zero => cases h
  | succ k => exact ⟨k, rfl⟩
theorem slvR_done {l : List Ed} {nu K : Nat} {s t most a z : Int} {f : List Int} {R : List Int × Int × Int} (h : slvR l nu s t most K f a z = some R) (ha : most ≤ a) : R = (f, a, z) := by
  obtain ⟨k, rfl⟩ := slvR_pos h
  rw [slvR, if_neg (by omega)] at h
  exact (Option.some.inj h).symm
theorem slvR_step {l : List Ed} {nu K : Nat} {s t most a z : Int} {f : List Int} {R : List Int × Int × Int} (h : slvR l nu s t most K f a z = some R) (ha : a < most) : ∃ k p, K = k + 1 ∧ rpath l f nu s t = some p ∧ (p.length = 0 → R = (f, a, z)) ∧ (p.length ≠ 0 → (0 ≤ p.foldl minF (most - a) ∧ p.foldl minF (most - a) ≤ 65536 ∧ p.foldl minF (most - a) ≤ most - a ∧ -1152921504606846976 ≤ z ∧ z ≤ 1152921504606846976 ∧ withinB l (p.foldl (updF (p.foldl minF (most - a))) f) = true) ∧ slvR l nu s t most k (p.foldl (updF (p.foldl minF (most - a))) f) (a + p.foldl minF (most - a)) (p.foldl (cosF (p.foldl minF (most - a))) z) = some R) := by
  obtain ⟨k, rfl⟩ := slvR_pos h
  rw [slvR, if_pos ha] at h
  split at h
  · cases h
  · rename_i p hp
    refine ⟨k, p, rfl, hp, fun h0 => ?_, fun h0 => ?_⟩
    · rw [if_pos h0] at h; exact (Option.some.inj h).symm
    · rw [if_neg h0] at h
      split at h
      · rename_i q; exact ⟨q, h⟩
      · cases h
theorem within_zero {n : Int} {l : List Ed} (hE : EdOk n l) : withinB l (List.replicate l.length 0) = true := by
  rw [withinB, Bool.and_eq_true, decide_eq_true_iff, allK_iff]
  refine ⟨by simp, fun i hi => ?_⟩
  rw [capB, Bool.and_eq_true, decide_eq_true_iff, decide_eq_true_iff]
  exact flow_zero hE i hi
end Go.Proofs.Ytngkbnaehkailaa
