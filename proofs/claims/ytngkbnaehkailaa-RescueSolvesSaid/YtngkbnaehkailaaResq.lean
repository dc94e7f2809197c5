/- Plain facts of chapter 52. Own work. -/
import Derived.Test.YtngkbnaehkailaaPlain
import Derived.Test.YtngkbnaehkailaaRead
import Derived.Test.YtngkbnaehkailaaFam
namespace Go.Proofs.Ytngkbnaehkailaa
open Go Go.RowKit Eng
set_option linter.unusedVariables false
set_option linter.unusedSimpArgs false
abbrev Wy := Int × Int
abbrev Pa := Int × Int × SliceV (Int × Int)
def wayW (l : List Pa) : Nat → Int
  | 0 => 0
  | k + 1 => wrap64 (wayW l k + ((nth l k).2.2.l.length : Int))
def wiB (n a b : Int) : Bool := decide (a ≤ n) && decide (n ≤ b)
theorem wiB_iff {n a b : Int} : wiB n a b = true ↔ a ≤ n ∧ n ≤ b := by
  rw [wiB, Bool.and_eq_true, decide_eq_true_iff, decide_eq_true_iff]
theorem wiB_not {n a b : Int} : wiB n a b = false ↔ ¬ (a ≤ n ∧ n ≤ b) := by
  rw [← wiB_iff]; simp
def cpB (c : List Int) (i : Nat) : Bool := wiB (nth c i) 0 999
def wyB (q : Nat) (x : List Wy) (j : Nat) : Bool := wiB (nth x j).1 0 ((q : Int) - 1) && wiB (nth x j).2 0 10000
def paB (q : Nat) (l : List Pa) (i : Nat) : Bool := (wiB (nth l i).1 1 99 && wiB (nth l i).2.1 0 1000) && allK (wyB q (nth l i).2.2.l) (nth l i).2.2.l.length
def rchk (l : List Pa) (c : List Int) : Int := if 60 < (l.length : Int) ∨ 60 < (c.length : Int) ∨ 1024 < wayW l l.length then 4 else if allK (cpB c) c.length = true ∧ allK (paB c.length l) l.length = true then 0 else 2
theorem wyB_iff {q : Nat} {x : List Wy} {j : Nat} : wyB q x j = true ↔ (0 ≤ (nth x j).1 ∧ (nth x j).1 < q) ∧ 0 ≤ (nth x j).2 ∧ (nth x j).2 ≤ 10000 := by
  rw [wyB, Bool.and_eq_true, wiB_iff, wiB_iff]; omega
theorem wyB_not {q : Nat} {x : List Wy} {j : Nat} : wyB q x j = false ↔ ¬ ((0 ≤ (nth x j).1 ∧ (nth x j).1 < q) ∧ 0 ≤ (nth x j).2 ∧ (nth x j).2 ≤ 10000) := by
  rw [← wyB_iff]; simp
theorem rchk_size {l : List Pa} {c : List Int} (h : 60 < (l.length : Int) ∨ 60 < (c.length : Int) ∨ 1024 < wayW l l.length) : rchk l c = 4 := by rw [rchk, if_pos h]
theorem rchk_cap {l : List Pa} {c : List Int} {k : Nat} (h : ¬ (60 < (l.length : Int) ∨ 60 < (c.length : Int) ∨ 1024 < wayW l l.length)) (hk : k < c.length) (hp : cpB c k = false) : rchk l c = 2 := by
  rw [rchk, if_neg h, if_neg (fun hx => by have := allK_not hk hp; rw [hx.1] at this; cases this)]
theorem rchk_pa {l : List Pa} {c : List Int} {k : Nat} (h : ¬ (60 < (l.length : Int) ∨ 60 < (c.length : Int) ∨ 1024 < wayW l l.length)) (hk : k < l.length) (hp : paB c.length l k = false) : rchk l c = 2 := by
  rw [rchk, if_neg h, if_neg (fun hx => by have := allK_not hk hp; rw [hx.2] at this; cases this)]
theorem paB_no1 {q : Nat} {l : List Pa} {i : Nat} (h : wiB (nth l i).1 1 99 = false ∨ wiB (nth l i).2.1 0 1000 = false) : paB q l i = false := by
  rw [paB]; rcases h with h | h <;> simp [h]
theorem paB_no2 {q : Nat} {l : List Pa} {i j : Nat} (hj : j < (nth l i).2.2.l.length) (h : wyB q (nth l i).2.2.l j = false) : paB q l i = false := by
  rw [paB, allK_not hj h]; simp
theorem paB_yes {q : Nat} {l : List Pa} {i : Nat} (h : wiB (nth l i).1 1 99 = true) (h2 : wiB (nth l i).2.1 0 1000 = true) (h3 : allK (wyB q (nth l i).2.2.l) (nth l i).2.2.l.length = true) : paB q l i = true := by
  rw [paB, h, h2, h3]; rfl
theorem rchk_ok {l : List Pa} {c : List Int} (h : ¬ (60 < (l.length : Int) ∨ 60 < (c.length : Int) ∨ 1024 < wayW l l.length)) (h1 : allK (cpB c) c.length = true) (h2 : allK (paB c.length l) l.length = true) : rchk l c = 0 := by
  rw [rchk, if_neg h, if_pos ⟨h1, h2⟩]
/-- what a right check tells -/
structure PaOk (l : List Pa) (c : List Int) : Prop where
  nl : l.length ≤ 60
  nc : c.length ≤ 60
  cap : ∀ k, k < c.length → 0 ≤ nth c k ∧ nth c k ≤ 999
  cnt : ∀ i, i < l.length → 1 ≤ (nth l i).1 ∧ (nth l i).1 ≤ 99
  wt : ∀ i, i < l.length → 0 ≤ (nth l i).2.1 ∧ (nth l i).2.1 ≤ 1000
  way : ∀ i, i < l.length → ∀ j, j < (nth l i).2.2.l.length → (0 ≤ (nth (nth l i).2.2.l j).1 ∧ (nth (nth l i).2.2.l j).1 < c.length) ∧ 0 ≤ (nth (nth l i).2.2.l j).2 ∧ (nth (nth l i).2.2.l j).2 ≤ 10000
theorem PaOk.of {l : List Pa} {c : List Int} (h : rchk l c = 0) : PaOk l c := by
  unfold rchk at h
  split at h
  · cases h
  split at h
  · rename_i h1 h2
    have hc := (allK_iff _).1 h2.1
    have hp := (allK_iff _).1 h2.2
    have hp2 : ∀ i, i < l.length → (wiB (nth l i).1 1 99 = true ∧ wiB (nth l i).2.1 0 1000 = true) ∧ allK (wyB c.length (nth l i).2.2.l) (nth l i).2.2.l.length = true := fun i hi => by
      have := hp i hi
      rw [paB, Bool.and_eq_true, Bool.and_eq_true] at this
      exact this
    exact ⟨by omega, by omega, fun k hk => wiB_iff.1 (hc k hk), fun i hi => wiB_iff.1 (hp2 i hi).1.1, fun i hi => wiB_iff.1 (hp2 i hi).1.2, fun i hi j hj => wyB_iff.1 ((allK_iff _).1 (hp2 i hi).2 j hj)⟩
  · cases h
-- shaped
def rowB (x : Pa) (p : List Int) : Bool := decide (p.length = x.2.2.l.length) && allK (fun j => decide (0 ≤ nth p j)) p.length
def shpB (l : List Pa) (P : List (SliceV Int)) : Bool := decide (P.length = l.length) && allK (fun i => rowB (nth l i) (nth P i).l) l.length
theorem shp_no {l : List Pa} {P : List (SliceV Int)} {i : Nat} (hi : i < l.length) (h : rowB (nth l i) (nth P i).l = false) : shpB l P = false := by
  rw [shpB, allK_not (p := fun i => rowB (nth l i) (nth P i).l) hi h]; simp
theorem row_no1 {x : Pa} {p : List Int} (h : p.length ≠ x.2.2.l.length) : rowB x p = false := by rw [rowB]; simp [h]
theorem row_no2 {x : Pa} {p : List Int} {j : Nat} (hj : j < p.length) (h : nth p j < 0) : rowB x p = false := by
  rw [rowB, allK_not (p := fun j => decide (0 ≤ nth p j)) hj (by simpa using h)]; simp
theorem row_yes {x : Pa} {p : List Int} (h : p.length = x.2.2.l.length) (h2 : allK (fun j => decide (0 ≤ nth p j)) p.length = true) : rowB x p = true := by rw [rowB, h2]; simp [h]
theorem shp_yes {l : List Pa} {P : List (SliceV Int)} (h : P.length = l.length) (h2 : allK (fun i => rowB (nth l i) (nth P i).l) l.length = true) : shpB l P = true := by rw [shpB, h2]; simp [h]
theorem shp_ok {l : List Pa} {P : List (SliceV Int)} (h : shpB l P = true) : P.length = l.length ∧ ∀ i, i < l.length → (nth P i).l.length = (nth l i).2.2.l.length ∧ ∀ j, j < (nth P i).l.length → 0 ≤ nth (nth P i).l j := by
  rw [shpB, Bool.and_eq_true, decide_eq_true_iff] at h
  refine ⟨h.1, fun i hi => ?_⟩
  have : rowB (nth l i) (nth P i).l = true := (allK_iff _).1 h.2 i hi
  rw [rowB, Bool.and_eq_true, decide_eq_true_iff] at this
  exact ⟨this.1, fun j hj => by simpa using (allK_iff _).1 this.2 j hj⟩
-- Valid
def pn (x : Pa) (p : List Int) (j : Nat) : Int := min (nth p j) (x.1 + 1)
def sumIn (x : Pa) (p : List Int) : Nat → Int
  | 0 => 0
  | j + 1 => sumIn x p j + pn x p j
def dlyIn (x : Pa) (p : List Int) (d : Int) : Nat → Int
  | 0 => d
  | j + 1 => dlyIn x p d j + pn x p j * x.2.1 * (nth x.2.2.l j).2
def useIn (x : Pa) (p : List Int) (u : List Int) : Nat → List Int
  | 0 => u
  | j + 1 => addAt (useIn x p u j) (nth x.2.2.l j).1 (pn x p j)
def sumO (l : List Pa) (P : List (SliceV Int)) : Nat → Int
  | 0 => 0
  | i + 1 => sumO l P i + sumIn (nth l i) (nth P i).l (nth l i).2.2.l.length
def sumA (x : Pa) (p : List Int) (d : Int) : Nat → Int
  | 0 => d
  | j + 1 => sumA x p d j + pn x p j
def sumR (l : List Pa) (P : List (SliceV Int)) : Nat → Int
  | 0 => 0
  | i + 1 => sumA (nth l i) (nth P i).l (sumR l P i) (nth l i).2.2.l.length
theorem sumA_eq {x : Pa} {p : List Int} {d : Int} : ∀ j, sumA x p d j = d + sumIn x p j
  | 0 => by simp [sumA, sumIn]
  | j + 1 => by rw [sumA, sumIn, sumA_eq j]; omega
theorem sumR_eq {l : List Pa} {P : List (SliceV Int)} : ∀ i, sumR l P i = sumO l P i
  | 0 => rfl
  | i + 1 => by rw [sumR, sumO, sumA_eq, sumR_eq i]
def dlyO (l : List Pa) (P : List (SliceV Int)) : Nat → Int
  | 0 => 0
  | i + 1 => dlyIn (nth l i) (nth P i).l (dlyO l P i) (nth l i).2.2.l.length
def useO (n : Nat) (l : List Pa) (P : List (SliceV Int)) : Nat → List Int
  | 0 => List.replicate n 0
  | i + 1 => useIn (nth l i) (nth P i).l (useO n l P i) (nth l i).2.2.l.length
def crw (l : List Pa) (P : List (SliceV Int)) (i : Nat) : Bool := decide ((nth l i).1 < sumIn (nth l i) (nth P i).l (nth l i).2.2.l.length)
def crwO (l : List Pa) (P : List (SliceV Int)) : Nat → Bool
  | 0 => false
  | i + 1 => crwO l P i || crw l P i
def fitB (c u : List Int) (k : Nat) : Bool := decide (nth u k ≤ nth c k)
def rval (l : List Pa) (c : List Int) (P : List (SliceV Int)) : Int × Int × Int :=
  if rchk l c ≠ 0 then (0, 0, rchk l c) else if shpB l P = false then (0, 0, 2) else if crwO l P l.length = true then (0, 0, 25) else if allK (fitB c (useO c.length l P l.length)) c.length = false then (0, 0, 9) else (sumO l P l.length, dlyO l P l.length, 0)
theorem crwO_of {l : List Pa} {P : List (SliceV Int)} {i : Nat} (h : crw l P i = true) : ∀ n, i < n → crwO l P n = true
  | 0, hi => by omega
  | n + 1, hi => by
    by_cases e : i = n
    · subst e; rw [crwO, h]; simp
    · rw [crwO, crwO_of h n (by omega)]; rfl
theorem useIn_len {x : Pa} {p u : List Int} : ∀ j, (useIn x p u j).length = u.length
  | 0 => rfl
  | j + 1 => by rw [useIn, addAt_len, useIn_len j]
theorem useO_len {n : Nat} {l : List Pa} {P : List (SliceV Int)} : ∀ i, (useO n l P i).length = n
  | 0 => by simp [useO]
  | i + 1 => by rw [useO, useIn_len, useO_len i]
theorem pn_bd {x : Pa} {p : List Int} {j : Nat} (hc : 1 ≤ x.1 ∧ x.1 ≤ 99) (hp : 0 ≤ nth p j) : 0 ≤ pn x p j ∧ pn x p j ≤ 100 := by unfold pn; omega
theorem sumIn_bd {x : Pa} {p : List Int} (hc : 1 ≤ x.1 ∧ x.1 ≤ 99) : ∀ j, (∀ i, i < j → 0 ≤ nth p i) → 0 ≤ sumIn x p j ∧ sumIn x p j ≤ (j : Int) * 100
  | 0, _ => by simp [sumIn]
  | j + 1, h => by
    have h1 := sumIn_bd hc j (fun i hi => h i (by omega))
    have h2 := pn_bd (x := x) hc (h j (by omega))
    rw [sumIn]; omega
theorem addAt_get {o : List Int} {i x : Int} {j : Nat} (hi : i.toNat < o.length) (hj : j < o.length) : nth (addAt o i x) j = if j = i.toNat then nth o j + x else nth o j := by
  rw [addAt, nth_set hi]
  by_cases e : j = i.toNat
  · rw [if_pos e.symm, if_pos e, e]
  · rw [if_neg (fun h => e h.symm), if_neg e]
theorem useIn_bd {x : Pa} {p u : List Int} {B : Int} (hc : 1 ≤ x.1 ∧ x.1 ≤ 99) (hu : ∀ i, i < u.length → 0 ≤ nth u i ∧ nth u i ≤ B) : ∀ j, (∀ i, i < j → 0 ≤ nth p i) → (∀ i, i < j → 0 ≤ (nth x.2.2.l i).1 ∧ (nth x.2.2.l i).1 < u.length) → ∀ i, i < u.length → 0 ≤ nth (useIn x p u j) i ∧ nth (useIn x p u j) i ≤ B + (j : Int) * 100
  | 0, _, _ => fun i hi => by have := hu i hi; rw [useIn]; omega
  | j + 1, h, hw => fun i hi => by
    have h1 := useIn_bd hc hu j (fun i hi => h i (by omega)) (fun i hi => hw i (by omega)) i hi
    have h2 := pn_bd (x := x) hc (h j (by omega))
    have h3 := hw j (by omega)
    rw [useIn, addAt_get (by rw [useIn_len]; omega) (by rw [useIn_len]; exact hi)]
    split <;> omega
theorem dlyIn_bd {x : Pa} {p : List Int} {d : Int} (hc : 1 ≤ x.1 ∧ x.1 ≤ 99) (hw : 0 ≤ x.2.1 ∧ x.2.1 ≤ 1000) (hd : 0 ≤ d) : ∀ j, (∀ i, i < j → 0 ≤ nth p i) → (∀ i, i < j → 0 ≤ (nth x.2.2.l i).2 ∧ (nth x.2.2.l i).2 ≤ 10000) → 0 ≤ dlyIn x p d j ∧ dlyIn x p d j ≤ d + (j : Int) * 1000000000
  | 0, _, _ => by simp [dlyIn, hd]
  | j + 1, h, hy => by
    have h1 := dlyIn_bd hc hw hd j (fun i hi => h i (by omega)) (fun i hi => hy i (by omega))
    have h2 := pn_bd (x := x) hc (h j (by omega))
    have h3 := hy j (by omega)
    have h4 := mul_bd h2.1 h2.2 hw.1 hw.2
    have h5 := mul_bd h4.1 h4.2 h3.1 h3.2
    rw [dlyIn]; omega
theorem sumO_bd {l : List Pa} {P : List (SliceV Int)} {b : Int} (hb : 0 ≤ b) : ∀ i, (∀ k, k < i → (1 ≤ (nth l k).1 ∧ (nth l k).1 ≤ 99) ∧ (∀ j, j < (nth l k).2.2.l.length → 0 ≤ nth (nth P k).l j) ∧ ((nth l k).2.2.l.length : Int) ≤ b) → 0 ≤ sumO l P i ∧ sumO l P i ≤ (i : Int) * (b * 100)
  | 0, _ => by simp [sumO]
  | i + 1, h => by
    have h1 := sumO_bd hb i (fun k hk => h k (by omega))
    have h2 := h i (by omega)
    have h3 := sumIn_bd h2.1 _ h2.2.1
    have e : ((i + 1 : Nat) : Int) * (b * 100) = (i : Int) * (b * 100) + b * 100 := by push_cast; rw [Int.add_mul]; omega
    rw [sumO, e]; omega
theorem dlyO_bd {l : List Pa} {P : List (SliceV Int)} {b : Int} (hb : 0 ≤ b) : ∀ i, (∀ k, k < i → (1 ≤ (nth l k).1 ∧ (nth l k).1 ≤ 99) ∧ (0 ≤ (nth l k).2.1 ∧ (nth l k).2.1 ≤ 1000) ∧ (∀ j, j < (nth l k).2.2.l.length → 0 ≤ nth (nth P k).l j) ∧ (∀ j, j < (nth l k).2.2.l.length → 0 ≤ (nth (nth l k).2.2.l j).2 ∧ (nth (nth l k).2.2.l j).2 ≤ 10000) ∧ ((nth l k).2.2.l.length : Int) ≤ b) → 0 ≤ dlyO l P i ∧ dlyO l P i ≤ (i : Int) * (b * 1000000000)
  | 0, _ => by simp [dlyO]
  | i + 1, h => by
    have h1 := dlyO_bd hb i (fun k hk => h k (by omega))
    have h2 := h i (by omega)
    have h3 := dlyIn_bd (p := (nth P i).l) h2.1 h2.2.1 h1.1 _ h2.2.2.1 h2.2.2.2.1
    have e : ((i + 1 : Nat) : Int) * (b * 1000000000) = (i : Int) * (b * 1000000000) + b * 1000000000 := by push_cast; rw [Int.add_mul]; omega
    rw [dlyO, e]; omega
theorem useO_bd {n : Nat} {l : List Pa} {P : List (SliceV Int)} {b : Int} (hb : 0 ≤ b) : ∀ i, (∀ k, k < i → (1 ≤ (nth l k).1 ∧ (nth l k).1 ≤ 99) ∧ (∀ j, j < (nth l k).2.2.l.length → 0 ≤ nth (nth P k).l j) ∧ (∀ j, j < (nth l k).2.2.l.length → 0 ≤ (nth (nth l k).2.2.l j).1 ∧ (nth (nth l k).2.2.l j).1 < n) ∧ ((nth l k).2.2.l.length : Int) ≤ b) → ∀ t, t < n → 0 ≤ nth (useO n l P i) t ∧ nth (useO n l P i) t ≤ (i : Int) * (b * 100)
  | 0, _ => fun t ht => by rw [useO, nth_rep ht]; omega
  | i + 1, h => fun t ht => by
    have h2 := h i (by omega)
    have h1 := useO_bd hb i (fun k hk => h k (by omega))
    have h3 := useIn_bd (x := nth l i) (p := (nth P i).l) (u := useO n l P i) (B := (i : Int) * (b * 100)) h2.1 (fun t ht => h1 t (by rw [useO_len] at ht; exact ht)) _ h2.2.1 (fun j hj => by rw [useO_len]; exact h2.2.2.1 j hj) t (by rw [useO_len]; exact ht)
    have e : ((i + 1 : Nat) : Int) * (b * 100) = (i : Int) * (b * 100) + b * 100 := by push_cast; rw [Int.add_mul]; omega
    rw [useO, e]; omega
-- the network of Solve
def wayS (l : List Pa) : Nat → Nat
  | 0 => 0
  | i + 1 => wayS l i + (nth l i).2.2.l.length
def peoT (l : List Pa) : Nat → Int
  | 0 => 0
  | i + 1 => peoT l i + (nth l i).1
def edA (l : List Pa) : Nat → List Ed
  | 0 => []
  | i + 1 => edA l i ++ [(0, 1 + (i : Int), (nth l i).1, 0)]
def edB (m q : Nat) (l : List Pa) (c : List Int) : Nat → List Ed
  | 0 => edA l m
  | k + 1 => edB m q l c k ++ [(1 + (m : Int) + (k : Int), (m : Int) + (q : Int) + 1, nth c k, 0)]
def edI (m : Nat) (x : Pa) (i : Nat) (e0 : List Ed) : Nat → List Ed
  | 0 => e0
  | j + 1 => edI m x i e0 j ++ [(1 + (i : Int), 1 + (m : Int) + (nth x.2.2.l j).1, x.1, x.2.1 * (nth x.2.2.l j).2)]
def edO (m q : Nat) (l : List Pa) (c : List Int) : Nat → List Ed
  | 0 => edB m q l c q
  | i + 1 => edI m (nth l i) i (edO m q l c i) (nth l i).2.2.l.length
theorem edA_len {l : List Pa} : ∀ i, (edA l i).length = i
  | 0 => rfl
  | i + 1 => by rw [edA, List.length_append, edA_len i]; rfl
theorem edB_len {m q : Nat} {l : List Pa} {c : List Int} : ∀ k, (edB m q l c k).length = m + k
  | 0 => by rw [edB, edA_len]; rfl
  | k + 1 => by rw [edB, List.length_append, edB_len k]; rfl
theorem edI_len {m i : Nat} {x : Pa} {e0 : List Ed} : ∀ j, (edI m x i e0 j).length = e0.length + j
  | 0 => rfl
  | j + 1 => by rw [edI, List.length_append, edI_len j]; rfl
theorem edO_len {m q : Nat} {l : List Pa} {c : List Int} : ∀ i, (edO m q l c i).length = m + q + wayS l i
  | 0 => by rw [edO, edB_len]; rfl
  | i + 1 => by rw [edO, edI_len, edO_len i, wayS]; omega
theorem nth_snoc {α : Type} [Inhabited α] {l : List α} {x : α} {i : Nat} : nth (l ++ [x]) i = if i = l.length then x else nth l i := by
  unfold nth
  simp only [List.getD_eq_getElem?_getD]
  by_cases h : i < l.length
  · rw [List.getElem?_append_left h, if_neg (by omega)]
  · rw [List.getElem?_append_right (by omega)]
    by_cases e : i = l.length
    · subst e; simp
    · rw [if_neg e, List.getElem?_eq_none (by simp; omega), List.getElem?_eq_none (by omega)]
/-- all of a list -/
def AllE (p : Ed → Prop) (l : List Ed) : Prop := ∀ i, i < l.length → p (nth l i)
theorem AllE.snoc {p : Ed → Prop} {l : List Ed} {x : Ed} (h : AllE p l) (hx : p x) : AllE p (l ++ [x]) := fun i hi => by
  rw [List.length_append, List.length_singleton] at hi
  rw [nth_snoc]
  split
  · exact hx
  · exact h i (by omega)
theorem peoT_bd {l : List Pa} : ∀ i, (∀ k, k < i → 1 ≤ (nth l k).1 ∧ (nth l k).1 ≤ 99) → (i : Int) ≤ peoT l i ∧ peoT l i ≤ (i : Int) * 99
  | 0, _ => by simp [peoT]
  | i + 1, h => by have h1 := peoT_bd i (fun k hk => h k (by omega)); have h2 := h i (by omega); rw [peoT]; omega
theorem wayS_mono {l : List Pa} {i : Nat} : ∀ n, i ≤ n → wayS l i ≤ wayS l n
  | 0, h => by have : i = 0 := by omega
               subst this; exact Nat.le_refl _
  | n + 1, h => by
    by_cases e : i = n + 1
    · subst e; exact Nat.le_refl _
    · have := wayS_mono (l := l) (i := i) n (by omega); rw [wayS]; omega
theorem wayS_at {l : List Pa} {i n : Nat} (h : i < n) : wayS l i + (nth l i).2.2.l.length ≤ wayS l n := wayS_mono (l := l) (i := i + 1) n h
theorem edA_all {p : Ed → Prop} {l : List Pa} : ∀ (i : Nat), (∀ k : Nat, k < i → p (0, 1 + (k : Int), (nth l k).1, 0)) → AllE p (edA l i)
  | 0, _ => fun i hi => absurd hi (by simp [edA])
  | i + 1, h => (edA_all i (fun k hk => h k (by omega))).snoc (h i (by omega))
theorem edB_all {p : Ed → Prop} {m q : Nat} {l : List Pa} {c : List Int} (h0 : ∀ k : Nat, k < m → p (0, 1 + (k : Int), (nth l k).1, 0)) : ∀ (k : Nat), (∀ i : Nat, i < k → p (1 + (m : Int) + (i : Int), (m : Int) + (q : Int) + 1, nth c i, 0)) → AllE p (edB m q l c k)
  | 0, _ => edA_all m h0
  | k + 1, h => (edB_all h0 k (fun i hi => h i (by omega))).snoc (h k (by omega))
theorem edI_all {p : Ed → Prop} {m i : Nat} {x : Pa} {e0 : List Ed} (h0 : AllE p e0) : ∀ (j : Nat), (∀ k : Nat, k < j → p (1 + (i : Int), 1 + (m : Int) + (nth x.2.2.l k).1, x.1, x.2.1 * (nth x.2.2.l k).2)) → AllE p (edI m x i e0 j)
  | 0, _ => h0
  | j + 1, h => (edI_all h0 j (fun k hk => h k (by omega))).snoc (h j (by omega))
theorem edO_all {p : Ed → Prop} {m q : Nat} {l : List Pa} {c : List Int} (h0 : ∀ k : Nat, k < m → p (0, 1 + (k : Int), (nth l k).1, 0)) (h1 : ∀ i : Nat, i < q → p (1 + (m : Int) + (i : Int), (m : Int) + (q : Int) + 1, nth c i, 0)) : ∀ (n : Nat), (∀ i : Nat, i < n → ∀ k : Nat, k < (nth l i).2.2.l.length → p (1 + (i : Int), 1 + (m : Int) + (nth (nth l i).2.2.l k).1, (nth l i).1, (nth l i).2.1 * (nth (nth l i).2.2.l k).2)) → AllE p (edO m q l c n)
  | 0, _ => edB_all h0 q h1
  | n + 1, h => edI_all (edO_all h0 h1 n (fun i hi => h i (by omega))) _ (h n (by omega))
theorem firstE_all {f : Nat → Int} : ∀ n, (∀ k, k < n → f k = 0) → firstE f n = 0
  | 0, _ => rfl
  | n + 1, h => firstE_next (firstE_all n (fun k hk => h k (by omega))) (h n (by omega))
theorem edge_zero {n : Int} {x : Ed} (h : (0 ≤ x.1 ∧ x.1 < n) ∧ (0 ≤ x.2.1 ∧ x.2.1 < n) ∧ (0 ≤ x.2.2.1 ∧ x.2.2.1 ≤ 65536) ∧ 0 ≤ x.2.2.2 ∧ x.2.2.2 ≤ 4294967296) : edgeE n x = 0 := by
  unfold edgeE; rw [if_neg (by omega), if_neg (by omega)]
theorem ed_check {l : List Pa} {c : List Int} {m q : Nat} (hm : m = l.length) (hq : q = c.length) (h : PaOk l c) (hS : wayS l m ≤ 1024) : checkE ((m : Int) + (q : Int) + 1 + 1) (edO m q l c m) 0 ((m : Int) + (q : Int) + 1) = 0 := by
  have h1 := h.nl
  have h2 := h.nc
  unfold checkE
  rw [edO_len, if_neg (by omega), if_neg (by omega)]
  refine firstE_all _ fun k hk => edge_zero ?_
  refine edO_all (p := fun x => (0 ≤ x.1 ∧ x.1 < ((m : Int) + (q : Int) + 1 + 1)) ∧ (0 ≤ x.2.1 ∧ x.2.1 < ((m : Int) + (q : Int) + 1 + 1)) ∧ (0 ≤ x.2.2.1 ∧ x.2.2.1 ≤ 65536) ∧ 0 ≤ x.2.2.2 ∧ x.2.2.2 ≤ 4294967296) ?_ ?_ m ?_ k (by rw [edO_len]; exact hk)
  · intro k hk
    have := h.cnt k (by omega)
    dsimp only; omega
  · intro k hk
    have := h.cap k (by omega)
    dsimp only; omega
  · intro i hi j hj
    have h3 := h.cnt i (by omega)
    have h4 := h.wt i (by omega)
    have h5 := h.way i (by omega) j hj
    have h6 := mul_bd h4.1 h4.2 h5.2.1 h5.2.2
    dsimp only; omega
theorem wayW_eq {l : List Pa} : ∀ i, wayS l i ≤ 4611686018427387904 → wayW l i = (wayS l i : Int)
  | 0, _ => rfl
  | i + 1, h => by
    rw [wayS] at h
    rw [wayW, wayS, wayW_eq i (by omega), IntWalk.wrap64_in _ (by omega)]
    omega
theorem wayS_le {l : List Pa} {c : List Int} (h : rchk l c = 0) (hS : wayS l l.length ≤ 4611686018427387904) : wayS l l.length ≤ 1024 := by
  unfold rchk at h
  split at h
  · cases h
  · rename_i h1
    rw [wayW_eq _ hS] at h1
    omega
-- parts of one slice
def SubS (fa : Option Addr) (T fc : Nat) (X : List Int) (A : Option Addr) (n C : Nat) (Y : List Int) : Prop := ∀ w, SliceIn w 1 fa T fc (rowsF encI X) → SliceIn w 1 A n C (rowsF encI Y)
theorem SubS.refl {fa : Option Addr} {T fc : Nat} {X : List Int} : SubS fa T fc X fa T fc X := fun _ h => h
theorem SubS.low {fa A : Option Addr} {T fc n C : Nat} {X Y : List Int} (h : SubS fa T fc X A n C Y) (hn : n = Y.length) {lo : Nat} (hl : lo ≤ n) : SubS fa T fc X (subAo A C lo 1) (n - lo) (C - lo) (Y.drop lo) := fun w hw => by
  have h1 := (h w hw).subrows hn lo n hl (Nat.le_refl _)
  rw [List.take_of_length_le (by rw [List.length_drop]; omega)] at h1
  exact h1
theorem SubS.high {fa A : Option Addr} {T fc n C : Nat} {X Y : List Int} (h : SubS fa T fc X A n C Y) (hn : n = Y.length) {hi : Nat} (hl : hi ≤ n) : SubS fa T fc X (subAo A hi 0 1) (hi - 0) (hi - 0) (Y.take hi) := fun w hw => by
  have h1 := h w hw
  have h2 := h1.le
  have h3 := h1.max
  have h4 : SliceIn w 1 A hi hi (rowsF encI (Y.take hi)) := ⟨Nat.le_refl _, by omega, h1.there.imp (fun e => by omega) id, fun i hi' j hj => by
    have := h1.cell i (by omega) j hj
    rw [this]
    unfold rowsF
    rw [nth_take hi']⟩
  have h5 := h4.subrows (by rw [List.length_take]; omega) 0 hi (Nat.zero_le _) (Nat.le_refl _)
  rw [List.drop_zero, List.take_of_length_le (by rw [List.length_take]; omega)] at h5
  exact h5
def chunkS (X : List Int) (l : List Pa) (z i : Nat) : List Int := (X.drop (z + wayS l i)).take (nth l i).2.2.l.length
structure PlanIs (fa : Option Addr) (T fc : Nat) (X : List Int) (l : List Pa) (z k : Nat) (P : List (SliceV Int)) : Prop where
  len : P.length = k
  row : ∀ i, i < k → (nth P i).l = chunkS X l z i
  sub : ∀ i, i < k → SubS fa T fc X (nth P i).ao (nth P i).l.length (nth P i).cap (nth P i).l
theorem PlanIs.nil {fa : Option Addr} {T fc : Nat} {X : List Int} {l : List Pa} {z : Nat} : PlanIs fa T fc X l z 0 [] := ⟨rfl, fun i hi => by omega, fun i hi => by omega⟩
theorem PlanIs.snoc {fa A : Option Addr} {T fc z k n C : Nat} {X : List Int} {l : List Pa} {P : List (SliceV Int)} (h : PlanIs fa T fc X l z k P) (hs : SubS fa T fc X A n C (chunkS X l z k)) (hn : n = (chunkS X l z k).length) : PlanIs fa T fc X l z (k + 1) (P ++ [⟨A, C, chunkS X l z k⟩]) := by
  refine ⟨by rw [List.length_append, h.len]; rfl, fun i hi => ?_, fun i hi => ?_⟩
  · rw [nth_snoc, h.len]
    split
    · rename_i e; subst e; rfl
    · exact h.row i (by omega)
  · rw [nth_snoc, h.len]
    split
    · subst hn; exact hs
    · exact h.sub i (by omega)
theorem chunkS_len {X : List Int} {l : List Pa} {z i m : Nat} (hi : i < m) (h : z + wayS l m ≤ X.length) : (chunkS X l z i).length = (nth l i).2.2.l.length := by
  have := wayS_at (l := l) hi
  rw [chunkS, List.length_take, List.length_drop]; omega
def peoK (l : List Pa) : Nat → Int
  | 0 => 0
  | i + 1 => peoK l i + max 0 (min (nth l i).1 1000)
theorem peoK_bd {l : List Pa} : ∀ i, 0 ≤ peoK l i ∧ peoK l i ≤ (i : Int) * 1000
  | 0 => by simp [peoK]
  | i + 1 => by have := peoK_bd (l := l) i; rw [peoK]; omega
def bigB (l : List Pa) (c : List Int) : Bool := (decide (70 < (l.length : Int)) || decide (70 < (c.length : Int))) || (decide (60 < wayW l l.length) || (decide (60 < peoK l l.length) && decide (12 < (l.length : Int))))
theorem bigB_yes {l : List Pa} {c : List Int} (h : 70 < (l.length : Int) ∨ 70 < (c.length : Int)) : bigB l c = true := by
  rw [bigB]; rcases h with h | h <;> simp [h]
theorem bigB_no {l : List Pa} {c : List Int} (h : ¬ (70 < (l.length : Int) ∨ 70 < (c.length : Int))) : bigB l c = (decide (60 < wayW l l.length) || (decide (60 < peoK l l.length) && decide (12 < (l.length : Int)))) := by
  rw [bigB, decide_eq_false (by omega), decide_eq_false (by omega)]; rfl
end Go.Proofs.Ytngkbnaehkailaa
