/- Plans and flows of Solve's network. Own work. -/
import Derived.Test.YtngkbnaehkailaaNet
namespace Go.Proofs.Ytngkbnaehkailaa
open Go Go.RowKit Eng
set_option linter.unusedVariables false
set_option linter.unusedSimpArgs false
theorem outW_end {l : List Pa} {P : List (SliceV Int)} {m v : Nat} : outW l P m 0 v = if 1 ≤ v ∧ v ≤ m then sumIn (nth l (v - 1)) (nth P (v - 1)).l (nth l (v - 1)).2.2.l.length else 0 := by
  unfold outW
  split
  · rfl
  · split <;> rfl
theorem inW_end {m q : Nat} {l : List Pa} {P : List (SliceV Int)} {v : Nat} : inW m q l P m 0 v = if m + 1 ≤ v ∧ v ≤ m + q then nth (useO q l P m) (v - (m + 1)) else 0 := rfl
theorem bal_all {m q : Nat} {l : List Pa} {c g : List Int} {P : List (SliceV Int)} (hok : PaOk l c) (hm : m = l.length) (hq : q = c.length) (hF : ∀ i, i < m → ∀ j, j < (nth l i).2.2.l.length → pn (nth l i) (nth P i).l j = nth g (m + q + wayS l i + j)) (v : Nat) :
    balF (edO m q l c m) g (m + q + wayS l m) v = (if v = 0 then sumG g 0 m else 0) - (if 1 ≤ v ∧ v ≤ m then nth g (v - 1) else 0) + (if m + 1 ≤ v ∧ v ≤ m + q then nth g (v - 1) else 0) - (if v = m + q + 1 then sumG g m q else 0) + (if 1 ≤ v ∧ v ≤ m then sumIn (nth l (v - 1)) (nth P (v - 1)).l (nth l (v - 1)).2.2.l.length else 0) - (if m + 1 ≤ v ∧ v ≤ m + q then nth (useO q l P m) (v - (m + 1)) else 0) := by
  rw [bal_W hok hm hq hF v m (Nat.le_refl _), bal_B v q (Nat.le_refl _), bal_A v m (Nat.le_refl _), outW_end, inW_end]
-- cost
theorem cost_A {m q : Nat} {l : List Pa} {c g : List Int} : ∀ k, k ≤ m + q → costK (edO m q l c m) g k = 0
  | 0, _ => rfl
  | k + 1, hk => by
    rw [costK, cost_A k (by omega)]
    by_cases h : k < m
    · rw [ed_A h]; simp
    · have e : k = m + (k - m) := by omega
      rw [e, ed_B (by omega)]; simp
theorem cost_I {m q : Nat} {l : List Pa} {c g : List Int} {P : List (SliceV Int)} {i : Nat} {d : Int} (hi : i < m) (hF : ∀ j, j < (nth l i).2.2.l.length → pn (nth l i) (nth P i).l j = nth g (m + q + wayS l i + j)) (h0 : costK (edO m q l c m) g (m + q + wayS l i) = d) : ∀ j, j ≤ (nth l i).2.2.l.length → costK (edO m q l c m) g (m + q + wayS l i + j) = dlyIn (nth l i) (nth P i).l d j
  | 0, _ => h0
  | j + 1, hj => by
    rw [← Nat.add_assoc, costK, cost_I hi hF h0 j (by omega), ed_W (by omega) m hi, ← hF j (by omega), dlyIn, Int.mul_assoc]
theorem cost_W {m q : Nat} {l : List Pa} {c g : List Int} {P : List (SliceV Int)} (hF : ∀ i, i < m → ∀ j, j < (nth l i).2.2.l.length → pn (nth l i) (nth P i).l j = nth g (m + q + wayS l i + j)) : ∀ i, i ≤ m → costK (edO m q l c m) g (m + q + wayS l i) = dlyO l P i
  | 0, _ => cost_A _ (Nat.le_refl _)
  | i + 1, hi => by
    rw [wayS, ← Nat.add_assoc, cost_I (by omega) (hF i (by omega)) (cost_W hF i (by omega)) _ (Nat.le_refl _), dlyO]
theorem sumIn_ge {x : Pa} {p : List Int} : ∀ k, (∀ j, j < k → 0 ≤ pn x p j) → 0 ≤ sumIn x p k ∧ ∀ j, j < k → pn x p j ≤ sumIn x p k
  | 0, _ => ⟨Int.le_refl _, fun j hj => by omega⟩
  | k + 1, h => by
    have ih := sumIn_ge k (fun j hj => h j (by omega))
    have h1 := h k (by omega)
    rw [sumIn]
    refine ⟨by omega, fun j hj => ?_⟩
    by_cases e : j = k
    · subst e; omega
    · have := ih.2 j (by omega); omega
-- from a flow to a plan
theorem plan_of_flow {m q : Nat} {l : List Pa} {c g : List Int} {P : List (SliceV Int)} {a z : Int} (hck : rchk l c = 0) (hm : m = l.length) (hq : q = c.length) (hf : Feas (edO m q l c m) (m + q + 2) 0 (m + q + 1) g a z) (hP : P.length = m) (hrow : ∀ i, i < m → (nth P i).l = chunkS g l (m + q) i) : rval l c P = (a, z, 0) := by
  have hok := PaOk.of hck
  have hgl : g.length = m + q + wayS l m := by rw [hf.len, edO_len]
  have hlen : ∀ i, i < m → (nth P i).l.length = (nth l i).2.2.l.length := fun i hi => by
    rw [hrow i hi]; exact chunkS_len hi (by omega)
  have hnth : ∀ i, i < m → ∀ j, j < (nth l i).2.2.l.length → nth (nth P i).l j = nth g (m + q + wayS l i + j) := fun i hi j hj => by
    rw [hrow i hi, chunkS, nth_take hj]
    unfold nth
    rw [List.getD_eq_getElem?_getD, List.getD_eq_getElem?_getD, List.getElem?_drop]
  have hin : ∀ i, i < m → ∀ j, j < (nth l i).2.2.l.length → 0 ≤ nth g (m + q + wayS l i + j) ∧ nth g (m + q + wayS l i + j) ≤ (nth l i).1 := fun i hi j hj => by
    have h1 := wayS_at (l := l) hi
    have h2 := hf.wit (m + q + wayS l i + j) (by rw [edO_len]; omega)
    rw [ed_W hj m hi] at h2
    exact h2
  have hF : ∀ i, i < m → ∀ j, j < (nth l i).2.2.l.length → pn (nth l i) (nth P i).l j = nth g (m + q + wayS l i + j) := fun i hi j hj => by
    have := hin i hi j hj
    unfold pn
    rw [hnth i hi j hj]
    omega
  have hb : ∀ v, balF (edO m q l c m) g (m + q + wayS l m) v = (if 0 = v then a else 0) - (if m + q + 1 = v then a else 0) := fun v => by
    have := hf.bal v
    rw [edO_len] at this
    exact this
  have hS : ∀ i, i < m → sumIn (nth l i) (nth P i).l (nth l i).2.2.l.length = nth g i := fun i hi => by
    have h := hb (i + 1)
    rw [bal_all hok hm hq hF, if_neg (show ¬ (i + 1 = 0) by omega), if_pos (show 1 ≤ i + 1 ∧ i + 1 ≤ m by omega), if_neg (show ¬ (m + 1 ≤ i + 1 ∧ i + 1 ≤ m + q) by omega), if_neg (show ¬ (i + 1 = m + q + 1) by omega), if_pos (show 1 ≤ i + 1 ∧ i + 1 ≤ m by omega), if_neg (show ¬ (m + 1 ≤ i + 1 ∧ i + 1 ≤ m + q) by omega), if_neg (show ¬ (0 = i + 1) by omega), if_neg (show ¬ (m + q + 1 = i + 1) by omega), Nat.add_sub_cancel] at h
    omega
  have hU : ∀ t, t < q → nth (useO q l P m) t = nth g (m + t) := fun t ht => by
    have h := hb (m + t + 1)
    rw [bal_all hok hm hq hF, if_neg (show ¬ (m + t + 1 = 0) by omega), if_neg (show ¬ (1 ≤ m + t + 1 ∧ m + t + 1 ≤ m) by omega), if_pos (show m + 1 ≤ m + t + 1 ∧ m + t + 1 ≤ m + q by omega), if_neg (show ¬ (m + t + 1 = m + q + 1) by omega), if_neg (show ¬ (1 ≤ m + t + 1 ∧ m + t + 1 ≤ m) by omega), if_pos (show m + 1 ≤ m + t + 1 ∧ m + t + 1 ≤ m + q by omega), if_neg (show ¬ (0 = m + t + 1) by omega), if_neg (show ¬ (m + q + 1 = m + t + 1) by omega), Nat.add_sub_cancel, show m + t + 1 - (m + 1) = t from by omega] at h
    omega
  have hA : a = sumG g 0 m := by
    have h := hb 0
    rw [bal_all hok hm hq hF, if_pos (show 0 = 0 from rfl), if_neg (show ¬ (1 ≤ 0 ∧ 0 ≤ m) by omega), if_neg (show ¬ (m + 1 ≤ 0 ∧ 0 ≤ m + q) by omega), if_neg (show ¬ (0 = m + q + 1) by omega), if_neg (show ¬ (1 ≤ 0 ∧ 0 ≤ m) by omega), if_neg (show ¬ (m + 1 ≤ 0 ∧ 0 ≤ m + q) by omega), if_neg (show ¬ (m + q + 1 = 0) by omega)] at h
    rw [if_pos rfl] at h
    omega
  have hO : ∀ i, i ≤ m → sumO l P i = sumG g 0 i := by
    intro i
    induction i with
    | zero => intro _; rfl
    | succ i ih => intro hi; rw [sumO, sumG, ih (by omega), hS i (by omega), Nat.zero_add]
  have hshp : shpB l P = true := shp_yes (by omega) ((allK_iff _).2 fun i hi => row_yes (hlen i (by omega)) ((allK_iff _).2 fun j hj => decide_eq_true (by rw [hlen i (by omega)] at hj; rw [hnth i (by omega) j hj]; exact (hin i (by omega) j hj).1)))
  have hcrw : crwO l P l.length = false := by
    have : ∀ n, n ≤ l.length → crwO l P n = false := by
      intro n
      induction n with
      | zero => intro _; rfl
      | succ n ih =>
        intro hn
        rw [crwO, ih (by omega), crw, hS n (by omega)]
        have h2 := hf.wit n (by rw [edO_len]; omega)
        rw [ed_A (by omega)] at h2
        rw [decide_eq_false (by have := h2.2; dsimp only at this; omega)]; rfl
    exact this _ (Nat.le_refl _)
  have hfit : allK (fitB c (useO c.length l P l.length)) c.length = true := by
    rw [← hq, ← hm]
    refine (allK_iff _).2 fun t ht => decide_eq_true ?_
    rw [hU t ht]
    have h2 := hf.wit (m + t) (by rw [edO_len]; omega)
    rw [ed_B ht] at h2
    exact h2.2
  rw [rval, if_neg (by simp [hck]), if_neg (by simp [hshp]), if_neg (by simp [hcrw]), if_neg (by simp [hfit]), ← hm, hO m (Nat.le_refl _), ← hA, hf.cost, edO_len, cost_W hF m (Nat.le_refl _)]
-- from a plan to a flow
def sumsL (l : List Pa) (P : List (SliceV Int)) : Nat → List Int
  | 0 => []
  | i + 1 => sumsL l P i ++ [sumIn (nth l i) (nth P i).l (nth l i).2.2.l.length]
def catP (P : List (SliceV Int)) : Nat → List Int
  | 0 => []
  | i + 1 => catP P i ++ (nth P i).l
def flowOf (m q : Nat) (l : List Pa) (P : List (SliceV Int)) : List Int := sumsL l P m ++ (useO q l P m ++ catP P m)
theorem nth_app1 {a b : List Int} {k : Nat} (h : k < a.length) : nth (a ++ b) k = nth a k := by
  unfold nth; rw [List.getD_eq_getElem?_getD, List.getD_eq_getElem?_getD, List.getElem?_append_left h]
theorem nth_app2 {a b : List Int} {k : Nat} : nth (a ++ b) (a.length + k) = nth b k := by
  unfold nth; rw [List.getD_eq_getElem?_getD, List.getD_eq_getElem?_getD, List.getElem?_append_right (by omega), Nat.add_sub_cancel_left]
theorem sumsL_len {l : List Pa} {P : List (SliceV Int)} : ∀ i, (sumsL l P i).length = i
  | 0 => rfl
  | i + 1 => by rw [sumsL, List.length_append, sumsL_len i]; rfl
theorem sumsL_nth {l : List Pa} {P : List (SliceV Int)} {k : Nat} : ∀ i, k < i → nth (sumsL l P i) k = sumIn (nth l k) (nth P k).l (nth l k).2.2.l.length
  | 0, h => by omega
  | i + 1, h => by
    rw [sumsL, nth_snoc, sumsL_len]
    split
    · rename_i e; rw [e]
    · exact sumsL_nth i (by omega)
theorem catP_len {l : List Pa} {P : List (SliceV Int)} : ∀ i, (∀ k, k < i → (nth P k).l.length = (nth l k).2.2.l.length) → (catP P i).length = wayS l i
  | 0, _ => rfl
  | i + 1, h => by rw [catP, List.length_append, catP_len i (fun k hk => h k (by omega)), h i (by omega), wayS]
theorem catP_nth {l : List Pa} {P : List (SliceV Int)} {k j : Nat} (hj : j < (nth l k).2.2.l.length) : ∀ i, (∀ k, k < i → (nth P k).l.length = (nth l k).2.2.l.length) → k < i → nth (catP P i) (wayS l k + j) = nth (nth P k).l j
  | 0, _, h => by omega
  | i + 1, hl, h => by
    have h1 := catP_len (l := l) i (fun k hk => hl k (by omega))
    by_cases e : k = i
    · subst e
      rw [catP, ← h1, nth_app2]
    · have := wayS_at (l := l) (i := k) (n := i) (by omega)
      rw [catP, nth_app1 (by omega)]
      exact catP_nth hj i (fun k hk => hl k (by omega)) (by omega)
theorem sumG_set {u : List Int} {i : Nat} {x : Int} (hi : i < u.length) : ∀ n, n ≤ u.length → sumG (u.set i x) 0 n = sumG u 0 n + if i < n then x - nth u i else 0
  | 0, _ => by simp [sumG]
  | n + 1, hn => by
    rw [sumG, sumG, sumG_set hi n (by omega), Nat.zero_add, nth_set hi]
    by_cases e : i = n
    · subst e
      rw [if_neg (show ¬ (i < i) by omega), if_pos (show i = i from rfl), if_pos (show i < i + 1 by omega)]; omega
    · rw [if_neg e]
      by_cases h : i < n
      · rw [if_pos h, if_pos (show i < n + 1 by omega)]; omega
      · rw [if_neg h, if_neg (show ¬ (i < n + 1) by omega)]; omega
theorem sum_useIn {x : Pa} {p u : List Int} : ∀ j, (∀ i, i < j → 0 ≤ (nth x.2.2.l i).1 ∧ (nth x.2.2.l i).1 < u.length) → sumG (useIn x p u j) 0 u.length = sumG u 0 u.length + sumIn x p j
  | 0, _ => by simp [useIn, sumIn]
  | j + 1, h => by
    have h1 := h j (by omega)
    rw [useIn, addAt, sumG_set (by rw [useIn_len]; omega) _ (by rw [useIn_len]; exact Nat.le_refl _), sum_useIn j (fun i hi => h i (by omega)), if_pos (by omega), sumIn]
    omega
theorem sum_useO {q : Nat} {l : List Pa} {P : List (SliceV Int)} : ∀ i, (∀ k, k < i → ∀ j, j < (nth l k).2.2.l.length → 0 ≤ (nth (nth l k).2.2.l j).1 ∧ (nth (nth l k).2.2.l j).1 < q) → sumG (useO q l P i) 0 q = sumO l P i
  | 0, _ => by
    have : ∀ n, n ≤ q → sumG (List.replicate q 0) 0 n = 0 := by
      intro n
      induction n with
      | zero => intro _; rfl
      | succ n ih => intro hn; rw [sumG, ih (by omega), Nat.zero_add, nth_rep (by omega)]; rfl
    exact this q (Nat.le_refl _)
  | i + 1, h => by
    have h1 := sum_useIn (x := nth l i) (p := (nth P i).l) (u := useO q l P i) (nth l i).2.2.l.length (fun j hj => by rw [useO_len]; exact h i (by omega) j hj)
    rw [useO_len] at h1
    rw [useO, h1, sum_useO i (fun k hk => h k (by omega)), sumO]
theorem sumG_app {a b : List Int} : ∀ n, n ≤ a.length → sumG (a ++ b) 0 n = sumG a 0 n
  | 0, _ => rfl
  | n + 1, hn => by rw [sumG, sumG, sumG_app n (by omega), Nat.zero_add, nth_app1 (by omega)]
theorem sumG_off {a b : List Int} : ∀ n, sumG (a ++ b) a.length n = sumG b 0 n
  | 0 => rfl
  | n + 1 => by rw [sumG, sumG, sumG_off n, nth_app2, Nat.zero_add]
/-- what a right plan tells -/
structure PlanOk (l : List Pa) (c : List Int) (P : List (SliceV Int)) : Prop where
  len : P.length = l.length
  row : ∀ i, i < l.length → (nth P i).l.length = (nth l i).2.2.l.length
  pos : ∀ i, i < l.length → ∀ j, j < (nth l i).2.2.l.length → 0 ≤ nth (nth P i).l j
  sum : ∀ i, i < l.length → sumIn (nth l i) (nth P i).l (nth l i).2.2.l.length ≤ (nth l i).1
  use : ∀ t, t < c.length → nth (useO c.length l P l.length) t ≤ nth c t
theorem crwO_no {l : List Pa} {P : List (SliceV Int)} {n : Nat} (h : crwO l P n = false) : ∀ i, i < n → crw l P i = false := by
  intro i hi
  cases e : crw l P i with
  | false => rfl
  | true => rw [crwO_of e n hi] at h; cases h
theorem rval_ok {l : List Pa} {c : List Int} {P : List (SliceV Int)} {a z : Int} (h : rval l c P = (a, z, 0)) : (rchk l c = 0 ∧ PlanOk l c P) ∧ a = sumO l P l.length ∧ z = dlyO l P l.length := by
  unfold rval at h
  split at h
  · rename_i h1; exact absurd (congrArg (fun x => x.2.2) h) h1
  rename_i h1
  have h1 : rchk l c = 0 := by simpa using h1
  split at h
  · exact absurd (congrArg (fun x => x.2.2) h) (by show ¬ ((2 : Int) = 0); decide)
  rename_i h2
  split at h
  · exact absurd (congrArg (fun x => x.2.2) h) (by show ¬ ((25 : Int) = 0); decide)
  rename_i h3
  split at h
  · exact absurd (congrArg (fun x => x.2.2) h) (by show ¬ ((9 : Int) = 0); decide)
  rename_i h4
  have hs := shp_ok (by simpa using h2 : shpB l P = true)
  have hc := crwO_no (by simpa using h3 : crwO l P l.length = false)
  have hf := (allK_iff _).1 (by simpa using h4 : allK (fitB c (useO c.length l P l.length)) c.length = true)
  refine ⟨⟨h1, hs.1, fun i hi => (hs.2 i hi).1, fun i hi j hj => (hs.2 i hi).2 j (by rw [(hs.2 i hi).1]; exact hj), fun i hi => ?_, fun t ht => ?_⟩, ?_, ?_⟩
  · have := hc i hi
    rw [crw, decide_eq_false_iff_not] at this
    omega
  · exact of_decide_eq_true (hf t ht)
  · exact (congrArg (fun x => x.1) h).symm
  · exact (congrArg (fun x => x.2.1) h).symm
theorem way_split {l : List Pa} {x : Nat} : ∀ n, x < wayS l n → ∃ i j, i < n ∧ j < (nth l i).2.2.l.length ∧ x = wayS l i + j
  | 0, h => absurd h (Nat.not_lt_zero _)
  | n + 1, h => by
    by_cases e : x < wayS l n
    · obtain ⟨i, j, h1, h2, h3⟩ := way_split n e
      exact ⟨i, j, by omega, h2, h3⟩
    · rw [wayS] at h
      exact ⟨n, x - wayS l n, by omega, by omega, by omega⟩
theorem flow_of_plan {m q : Nat} {l : List Pa} {c : List Int} {P : List (SliceV Int)} (hck : rchk l c = 0) (hm : m = l.length) (hq : q = c.length) (hp : PlanOk l c P) : Feas (edO m q l c m) (m + q + 2) 0 (m + q + 1) (flowOf m q l P) (sumO l P m) (dlyO l P m) := by
  have hok := PaOk.of hck
  have hrow : ∀ k, k < m → (nth P k).l.length = (nth l k).2.2.l.length := fun k hk => hp.row k (by omega)
  have hcl := catP_len (l := l) m hrow
  have hgl : (flowOf m q l P).length = m + q + wayS l m := by rw [flowOf, List.length_append, List.length_append, sumsL_len, useO_len, hcl]; omega
  have hpn0 : ∀ i, i < m → ∀ j, j < (nth l i).2.2.l.length → 0 ≤ pn (nth l i) (nth P i).l j := fun i hi j hj => (pn_bd (hok.cnt i (by omega)) (hp.pos i (by omega) j hj)).1
  have hpe : ∀ i, i < m → ∀ j, j < (nth l i).2.2.l.length → pn (nth l i) (nth P i).l j = nth (nth P i).l j ∧ nth (nth P i).l j ≤ (nth l i).1 := fun i hi j hj => by
    have h1 := (sumIn_ge (nth l i).2.2.l.length (hpn0 i hi)).2 j hj
    have h2 := hp.sum i (by omega)
    have h3 : pn (nth l i) (nth P i).l j = min (nth (nth P i).l j) ((nth l i).1 + 1) := rfl
    omega
  have gA : ∀ i, i < m → nth (flowOf m q l P) i = sumIn (nth l i) (nth P i).l (nth l i).2.2.l.length := fun i hi => by
    rw [flowOf, nth_app1 (by rw [sumsL_len]; exact hi)]; exact sumsL_nth m hi
  have gB : ∀ t, t < q → nth (flowOf m q l P) (m + t) = nth (useO q l P m) t := fun t ht => by
    have h := nth_app2 (a := sumsL l P m) (b := useO q l P m ++ catP P m) (k := t)
    rw [sumsL_len] at h
    rw [flowOf, h, nth_app1 (by rw [useO_len]; exact ht)]
  have gW : ∀ i, i < m → ∀ j, j < (nth l i).2.2.l.length → nth (flowOf m q l P) (m + q + wayS l i + j) = nth (nth P i).l j := fun i hi j hj => by
    have h := nth_app2 (a := sumsL l P m) (b := useO q l P m ++ catP P m) (k := q + (wayS l i + j))
    have h2 := nth_app2 (a := useO q l P m) (b := catP P m) (k := wayS l i + j)
    rw [useO_len] at h2
    rw [sumsL_len, h2] at h
    rw [flowOf, show m + q + wayS l i + j = m + (q + (wayS l i + j)) from by omega, h]
    exact catP_nth hj m hrow hi
  have hF : ∀ i, i < m → ∀ j, j < (nth l i).2.2.l.length → pn (nth l i) (nth P i).l j = nth (flowOf m q l P) (m + q + wayS l i + j) := fun i hi j hj => by
    rw [gW i hi j hj]; exact (hpe i hi j hj).1
  have hway : ∀ k, k < m → ∀ j, j < (nth l k).2.2.l.length → 0 ≤ (nth (nth l k).2.2.l j).1 ∧ (nth (nth l k).2.2.l j).1 < q := fun k hk j hj => by have := (hok.way k (by omega) j hj).1; omega
  have hsum0 : sumG (flowOf m q l P) 0 m = sumO l P m := by
    have : ∀ n, n ≤ m → sumG (flowOf m q l P) 0 n = sumO l P n := by
      intro n
      induction n with
      | zero => intro _; rfl
      | succ n ih => intro hn; rw [sumG, sumO, ih (by omega), Nat.zero_add, gA n (by omega)]
    exact this m (Nat.le_refl _)
  have hsum1 : sumG (flowOf m q l P) m q = sumO l P m := by
    have h := sumG_off (a := sumsL l P m) (b := useO q l P m ++ catP P m) q
    rw [sumsL_len, sumG_app q (by rw [useO_len]; exact Nat.le_refl _), sum_useO m hway] at h
    exact h
  have hu0 : ∀ t, t < q → 0 ≤ nth (useO q l P m) t := fun t ht => (useO_bd (n := q) (b := ((wayS l m : Nat) : Int)) (by omega) m (fun k hk => ⟨hok.cnt k (by omega), hp.pos k (by omega), hway k hk, by have := wayS_at (l := l) (i := k) hk; omega⟩) t ht).1
  refine ⟨by rw [hgl, edO_len], fun k hk => ?_, fun v => ?_, by rw [edO_len, cost_W hF m (Nat.le_refl _)]⟩
  · rw [edO_len] at hk
    by_cases h1 : k < m
    · rw [gA k h1, ed_A h1]
      exact ⟨(sumIn_ge _ (hpn0 k h1)).1, hp.sum k (by omega)⟩
    · by_cases h2 : k < m + q
      · obtain ⟨t, rfl⟩ : ∃ t, k = m + t := ⟨k - m, by omega⟩
        have ht : t < q := by omega
        rw [gB t ht, ed_B ht]
        have h3 := hp.use t (by omega)
        rw [← hq, ← hm] at h3
        exact ⟨hu0 t ht, h3⟩
      · obtain ⟨i, j, hi, hj, e⟩ := way_split (l := l) (x := k - (m + q)) m (by omega)
        obtain rfl : k = m + q + wayS l i + j := by omega
        rw [gW i hi j hj, ed_W hj m hi]
        exact ⟨hp.pos i (by omega) j hj, (hpe i hi j hj).2⟩
  · rw [edO_len, bal_all hok hm hq hF v, hsum0, hsum1]
    by_cases h0 : v = 0
    · subst h0
      rw [if_neg (show ¬ (1 ≤ 0 ∧ 0 ≤ m) by omega), if_neg (show ¬ (m + 1 ≤ 0 ∧ 0 ≤ m + q) by omega), if_neg (show ¬ (0 = m + q + 1) by omega), if_neg (show ¬ (1 ≤ 0 ∧ 0 ≤ m) by omega), if_neg (show ¬ (m + 1 ≤ 0 ∧ 0 ≤ m + q) by omega), if_neg (show ¬ (m + q + 1 = 0) by omega)]
      omega
    · rw [if_neg h0, if_neg (show ¬ (0 = v) by omega)]
      by_cases h1 : 1 ≤ v ∧ v ≤ m
      · rw [if_pos h1, if_neg (show ¬ (m + 1 ≤ v ∧ v ≤ m + q) by omega), if_neg (show ¬ (v = m + q + 1) by omega), if_pos h1, if_neg (show ¬ (m + 1 ≤ v ∧ v ≤ m + q) by omega), if_neg (show ¬ (m + q + 1 = v) by omega), gA (v - 1) (by omega)]
        omega
      · rw [if_neg h1, if_neg h1]
        by_cases h2 : m + 1 ≤ v ∧ v ≤ m + q
        · have h3 := gB (v - (m + 1)) (by omega)
          rw [show m + (v - (m + 1)) = v - 1 from by omega] at h3
          rw [if_pos h2, if_neg (show ¬ (v = m + q + 1) by omega), if_pos h2, if_neg (show ¬ (m + q + 1 = v) by omega), h3]
          omega
        · rw [if_neg h2, if_neg h2]
          by_cases h3 : v = m + q + 1
          · rw [if_pos h3, if_pos h3.symm]; omega
          · rw [if_neg h3, if_neg (show ¬ (m + q + 1 = v) by omega)]; rfl
-- the best plan
theorem ed_cost {m q : Nat} {l : List Pa} {c : List Int} (hm : m = l.length) (h : PaOk l c) : CostIn (edO m q l c m) 10000000 := by
  refine edO_all (p := fun x => x.2.2.2 ≤ 10000000) ?_ ?_ m ?_
  · intro k hk; show (0 : Int) ≤ 10000000; omega
  · intro k hk; show (0 : Int) ≤ 10000000; omega
  · intro i hi j hj
    have h4 := h.wt i (by omega)
    have h5 := h.way i (by omega) j hj
    exact (mul_bd h4.1 h4.2 h5.2.1 h5.2.2).2
theorem plan_best {m q : Nat} {l : List Pa} {c : List Int} (hck : rchk l c = 0) (hm : m = l.length) (hq : q = c.length) (hS : wayS l m ≤ 1024) : ∃ R, slv (edO m q l c m) ((m : Int) + (q : Int) + 1 + 1).toNat 0 ((m : Int) + (q : Int) + 1) (peoT l m) ((peoT l m).toNat + 1) (List.replicate (edO m q l c m).length 0) 0 0 = some R ∧ Best (edO m q l c m) (m + q + 2) 0 (m + q + 1) (peoT l m) R := by
  have hok := PaOk.of hck
  have h1 := hok.nl
  have h2 := hok.nc
  have hE := (check_ok (ed_check hm hq hok hS)).2
  have hE2 : EdOk ((m + q + 2 : Nat) : Int) (edO m q l c m) := by
    rw [show ((m + q + 2 : Nat) : Int) = (m : Int) + (q : Int) + 1 + 1 from by omega]; exact hE
  have hpt := peoT_bd (l := l) m (fun k hk => hok.cnt k (by omega))
  have hL := edO_len (q := q) (l := l) (c := c) (m := m) m
  have hB : (m + q + 2 + 1) * (2 * (edO m q l c m).length) ≤ 123 * 2288 := Nat.mul_le_mul (by omega) (by omega)
  obtain ⟨R, e, b⟩ := solve_best (s := 0) (t := m + q + 1) (most := peoT l m) hE2 (ed_cost hm hok) (by omega) (by omega) (by omega) (by omega) (by omega) (by omega) (by omega)
  refine ⟨R, ?_, b⟩
  rw [show ((m : Int) + (q : Int) + 1 + 1).toNat = m + q + 2 from by omega, show ((m : Int) + (q : Int) + 1) = ((m + q + 1 : Nat) : Int) from by omega]
  exact e
theorem sumO_le {l : List Pa} {c : List Int} {P : List (SliceV Int)} (hp : PlanOk l c P) : ∀ i, i ≤ l.length → sumO l P i ≤ peoT l i
  | 0, _ => Int.le_refl _
  | i + 1, hi => by
    have h1 := sumO_le hp i (by omega)
    have h2 := hp.sum i (by omega)
    rw [sumO, peoT]; omega
theorem plan_no_better {m q : Nat} {l : List Pa} {c : List Int} {R : List Int × Int × Int} {P : List (SliceV Int)} {b d : Int} (hck : rchk l c = 0) (hm : m = l.length) (hq : q = c.length) (hS : wayS l m ≤ 1024) (hR : Best (edO m q l c m) (m + q + 2) 0 (m + q + 1) (peoT l m) R) (hv : rval l c P = (b, d, 0)) : b < R.2.1 ∨ (R.2.1 = b ∧ R.2.2 ≤ d) := by
  obtain ⟨⟨_, hp⟩, rfl, rfl⟩ := rval_ok hv
  have hok := PaOk.of hck
  have hc := ed_check hm hq hok hS
  rw [show (m : Int) + (q : Int) + 1 + 1 = ((m + q + 2 : Nat) : Int) from by omega, show ((m : Int) + (q : Int) + 1) = ((m + q + 1 : Nat) : Int) from by omega] at hc
  have hf := valid_of_feas (s := 0) hc (flow_of_plan hck hm hq hp)
  rw [← hm]
  exact (best_plain (s := ((0 : Nat) : Int)) hc hR hf (by have := sumO_le hp m (by omega); exact this)).2
/-- the plan that Solve hands back -/
theorem plan_is {m q T fc : Nat} {fa : Option Addr} {l : List Pa} {c : List Int} {R : List Int × Int × Int} {P : List (SliceV Int)} (hck : rchk l c = 0) (hm : m = l.length) (hq : q = c.length) (hR : Best (edO m q l c m) (m + q + 2) 0 (m + q + 1) (peoT l m) R) (hP : PlanIs fa T fc R.1 l (m + q) m P) : rval l c P = (R.2.1, R.2.2, 0) :=
  plan_of_flow hck hm hq hR.feas hP.len hP.row
end Go.Proofs.Ytngkbnaehkailaa
