/- The network of Solve: what each node passes on. Own work. -/
import Derived.Test.YtngkbnaehkailaaResq
import Derived.Test.YtngkbnaehkailaaLink
namespace Go.Proofs.Ytngkbnaehkailaa
open Go Go.RowKit Eng
set_option linter.unusedVariables false
set_option linter.unusedSimpArgs false
theorem edA_nth {l : List Pa} {k : Nat} : ∀ i, k < i → nth (edA l i) k = (0, 1 + (k : Int), (nth l k).1, 0)
  | 0, h => by omega
  | i + 1, h => by
    rw [edA, nth_snoc, edA_len]
    split
    · rename_i e; rw [e]
    · exact edA_nth i (by omega)
theorem edB_lo {m q : Nat} {l : List Pa} {c : List Int} {k : Nat} (hk : k < m) : ∀ i, nth (edB m q l c i) k = (0, 1 + (k : Int), (nth l k).1, 0)
  | 0 => edA_nth m hk
  | i + 1 => by rw [edB, nth_snoc, edB_len, if_neg (by omega)]; exact edB_lo hk i
theorem edB_hi {m q : Nat} {l : List Pa} {c : List Int} {k : Nat} : ∀ i, k < i → nth (edB m q l c i) (m + k) = (1 + (m : Int) + (k : Int), (m : Int) + (q : Int) + 1, nth c k, 0)
  | 0, h => by omega
  | i + 1, h => by
    rw [edB, nth_snoc, edB_len]
    by_cases e : k = i
    · rw [if_pos (by omega), e]
    · rw [if_neg (by omega)]; exact edB_hi i (by omega)
theorem edI_lo {m i : Nat} {x : Pa} {e0 : List Ed} {k : Nat} (hk : k < e0.length) : ∀ j, nth (edI m x i e0 j) k = nth e0 k
  | 0 => rfl
  | j + 1 => by rw [edI, nth_snoc, edI_len, if_neg (by omega)]; exact edI_lo hk j
theorem edI_hi {m i : Nat} {x : Pa} {e0 : List Ed} {k : Nat} : ∀ j, k < j → nth (edI m x i e0 j) (e0.length + k) = (1 + (i : Int), 1 + (m : Int) + (nth x.2.2.l k).1, x.1, x.2.1 * (nth x.2.2.l k).2)
  | 0, h => by omega
  | j + 1, h => by
    rw [edI, nth_snoc, edI_len]
    by_cases e : k = j
    · rw [if_pos (by omega), e]
    · rw [if_neg (by omega)]; exact edI_hi j (by omega)
theorem edO_lo {m q : Nat} {l : List Pa} {c : List Int} {k : Nat} (hk : k < m + q) : ∀ n, nth (edO m q l c n) k = nth (edB m q l c q) k
  | 0 => rfl
  | n + 1 => by rw [edO, edI_lo (by rw [edO_len]; omega)]; exact edO_lo hk n
theorem ed_A {m q n : Nat} {l : List Pa} {c : List Int} {k : Nat} (hk : k < m) : nth (edO m q l c n) k = (0, 1 + (k : Int), (nth l k).1, 0) := by
  rw [edO_lo (by omega)]; exact edB_lo hk q
theorem ed_B {m q n : Nat} {l : List Pa} {c : List Int} {k : Nat} (hk : k < q) : nth (edO m q l c n) (m + k) = (1 + (m : Int) + (k : Int), (m : Int) + (q : Int) + 1, nth c k, 0) := by
  rw [edO_lo (by omega)]; exact edB_hi q hk
theorem ed_W {m q : Nat} {l : List Pa} {c : List Int} {i j : Nat} (hj : j < (nth l i).2.2.l.length) : ∀ n, i < n → nth (edO m q l c n) (m + q + wayS l i + j) = (1 + (i : Int), 1 + (m : Int) + (nth (nth l i).2.2.l j).1, (nth l i).1, (nth l i).2.1 * (nth (nth l i).2.2.l j).2)
  | 0, h => by omega
  | n + 1, h => by
    by_cases e : i = n
    · subst e
      rw [edO, show m + q + wayS l i + j = (edO m q l c i).length + j from by rw [edO_len]]
      exact edI_hi _ hj
    · rw [edO, edI_lo (by rw [edO_len]; have := wayS_at (l := l) (i := i) (n := n) (by omega); omega)]
      exact ed_W hj n (by omega)
/-- what leaves the parties' nodes by the ways -/
def outW (l : List Pa) (P : List (SliceV Int)) (i j v : Nat) : Int := if 1 ≤ v ∧ v ≤ i then sumIn (nth l (v - 1)) (nth P (v - 1)).l (nth l (v - 1)).2.2.l.length else if v = i + 1 then sumIn (nth l i) (nth P i).l j else 0
def inW (m q : Nat) (l : List Pa) (P : List (SliceV Int)) (i j v : Nat) : Int := if m + 1 ≤ v ∧ v ≤ m + q then nth (useIn (nth l i) (nth P i).l (useO q l P i) j) (v - (m + 1)) else 0
theorem outW_step {l : List Pa} {P : List (SliceV Int)} {i j v : Nat} : outW l P i (j + 1) v = outW l P i j v + if i + 1 = v then pn (nth l i) (nth P i).l j else 0 := by
  unfold outW
  by_cases h : 1 ≤ v ∧ v ≤ i
  · rw [if_pos h, if_pos h, if_neg (by omega)]; omega
  · rw [if_neg h, if_neg h]
    by_cases e : v = i + 1
    · rw [if_pos e, if_pos e, if_pos e.symm, sumIn]
    · rw [if_neg e, if_neg e, if_neg (fun h => e h.symm)]; rfl
theorem outW_next {l : List Pa} {P : List (SliceV Int)} {i v : Nat} : outW l P (i + 1) 0 v = outW l P i (nth l i).2.2.l.length v := by
  unfold outW
  by_cases h : 1 ≤ v ∧ v ≤ i
  · rw [if_pos h, if_pos (by omega)]
  · rw [if_neg h]
    by_cases e : v = i + 1
    · subst e; rw [if_pos (by omega), if_pos rfl]; rfl
    · rw [if_neg (by omega), if_neg e]
      split <;> rfl
theorem inW_step {m q : Nat} {l : List Pa} {P : List (SliceV Int)} {i j v : Nat} (hw : 0 ≤ (nth (nth l i).2.2.l j).1 ∧ (nth (nth l i).2.2.l j).1 < q) : inW m q l P i (j + 1) v = inW m q l P i j v + if m + 1 + (nth (nth l i).2.2.l j).1.toNat = v then pn (nth l i) (nth P i).l j else 0 := by
  unfold inW
  by_cases h : m + 1 ≤ v ∧ v ≤ m + q
  · rw [if_pos h, if_pos h, useIn, addAt_get (by rw [useIn_len, useO_len]; omega) (by rw [useIn_len, useO_len]; omega)]
    by_cases e : m + 1 + (nth (nth l i).2.2.l j).1.toNat = v
    · rw [if_pos (by omega), if_pos e]
    · rw [if_neg (by omega), if_neg e]; omega
  · rw [if_neg h, if_neg h, if_neg (by omega)]; rfl
theorem bal_I {m q : Nat} {l : List Pa} {c g : List Int} {P : List (SliceV Int)} (hok : PaOk l c) (hm : m = l.length) (hq : q = c.length) {i : Nat} (hi : i < m) (hF : ∀ j, j < (nth l i).2.2.l.length → pn (nth l i) (nth P i).l j = nth g (m + q + wayS l i + j)) (v : Nat) : ∀ j, j ≤ (nth l i).2.2.l.length → balF (edO m q l c m) g (m + q + wayS l i + j) v = balF (edO m q l c m) g (m + q + wayS l i) v + (outW l P i j v - outW l P i 0 v) - (inW m q l P i j v - inW m q l P i 0 v)
  | 0, _ => by rw [Nat.add_zero]; omega
  | j + 1, hj => by
    have ih := bal_I hok hm hq hi hF v j (by omega)
    have hw := hok.way i (by omega) j (by omega)
    rw [← Nat.add_assoc, balF, ih, ed_W (by omega) m hi, ← hF j (by omega), outW_step, inW_step (by rw [hq]; exact hw.1)]
    dsimp only
    rw [show (1 + (i : Int)).toNat = i + 1 from by omega, show (1 + (m : Int) + (nth (nth l i).2.2.l j).1).toNat = m + 1 + (nth (nth l i).2.2.l j).1.toNat from by omega]
    omega
theorem bal_W {m q : Nat} {l : List Pa} {c g : List Int} {P : List (SliceV Int)} (hok : PaOk l c) (hm : m = l.length) (hq : q = c.length) (hF : ∀ i, i < m → ∀ j, j < (nth l i).2.2.l.length → pn (nth l i) (nth P i).l j = nth g (m + q + wayS l i + j)) (v : Nat) : ∀ i, i ≤ m → balF (edO m q l c m) g (m + q + wayS l i) v = balF (edO m q l c m) g (m + q) v + outW l P i 0 v - inW m q l P i 0 v
  | 0, _ => by
    have h1 : outW l P 0 0 v = 0 := by
      unfold outW; rw [if_neg (by omega)]; split <;> rfl
    have h2 : inW m q l P 0 0 v = 0 := by
      unfold inW
      split
      · exact nth_rep (by omega)
      · rfl
    rw [h1, h2]; show balF _ _ (m + q + 0) v = _; rw [Nat.add_zero]; omega
  | i + 1, hi => by
    have ih := bal_W hok hm hq hF v i (by omega)
    have h := bal_I hok hm hq (by omega) (hF i (by omega)) v _ (Nat.le_refl _)
    have e : inW m q l P (i + 1) 0 v = inW m q l P i (nth l i).2.2.l.length v := rfl
    rw [wayS, ← Nat.add_assoc, h, ih, outW_next, e]
    omega
def sumG (g : List Int) (a : Nat) : Nat → Int
  | 0 => 0
  | k + 1 => sumG g a k + nth g (a + k)
theorem bal_A {m q : Nat} {l : List Pa} {c g : List Int} (v : Nat) : ∀ i, i ≤ m → balF (edO m q l c m) g i v = (if v = 0 then sumG g 0 i else 0) - (if 1 ≤ v ∧ v ≤ i then nth g (v - 1) else 0)
  | 0, _ => by
    rw [balF, if_neg (show ¬ (1 ≤ v ∧ v ≤ 0) by omega)]; split <;> rfl
  | i + 1, hi => by
    rw [balF, bal_A v i (by omega), ed_A (by omega)]
    dsimp only
    rw [show (1 + (i : Int)).toNat = i + 1 from by omega, show (0 : Int).toNat = 0 from rfl, sumG, Nat.zero_add]
    by_cases h0 : v = 0
    · subst h0
      rw [if_pos (show 0 = 0 from rfl), if_pos (show 0 = 0 from rfl), if_neg (show ¬ (1 ≤ 0 ∧ 0 ≤ i) by omega), if_neg (show ¬ (1 ≤ 0 ∧ 0 ≤ i + 1) by omega), if_neg (show ¬ (i + 1 = 0) by omega)]
      rw [if_pos rfl]
      omega
    · rw [if_neg (show ¬ (v = 0) from h0), if_neg (show ¬ (v = 0) from h0), if_neg (show ¬ (0 = v) by omega)]
      by_cases h1 : v = i + 1
      · subst h1
        rw [if_neg (show ¬ (1 ≤ i + 1 ∧ i + 1 ≤ i) by omega), if_pos (show i + 1 = i + 1 from rfl), if_pos (show 1 ≤ i + 1 ∧ i + 1 ≤ i + 1 by omega)]
        show (0 : Int) - 0 + (0 - nth g i) = 0 - nth g i
        omega
      · rw [if_neg (show ¬ (i + 1 = v) by omega)]
        by_cases h2 : 1 ≤ v ∧ v ≤ i
        · rw [if_pos h2, if_pos (show 1 ≤ v ∧ v ≤ i + 1 by omega)]; omega
        · rw [if_neg h2, if_neg (show ¬ (1 ≤ v ∧ v ≤ i + 1) by omega)]; omega
theorem bal_B {m q : Nat} {l : List Pa} {c g : List Int} (v : Nat) : ∀ k, k ≤ q → balF (edO m q l c m) g (m + k) v = balF (edO m q l c m) g m v + (if m + 1 ≤ v ∧ v ≤ m + k then nth g (v - 1) else 0) - (if v = m + q + 1 then sumG g m k else 0)
  | 0, _ => by
    rw [Nat.add_zero, if_neg (show ¬ (m + 1 ≤ v ∧ v ≤ m) by omega)]; split <;> simp [sumG]
  | k + 1, hk => by
    rw [← Nat.add_assoc, balF, bal_B v k (by omega), ed_B (by omega)]
    dsimp only
    rw [show (1 + (m : Int) + (k : Int)).toNat = m + k + 1 from by omega, show ((m : Int) + (q : Int) + 1).toNat = m + q + 1 from by omega, sumG]
    by_cases h0 : v = m + q + 1
    · subst h0
      rw [if_neg (show ¬ (m + 1 ≤ m + q + 1 ∧ m + q + 1 ≤ m + k) by omega), if_neg (show ¬ (m + 1 ≤ m + q + 1 ∧ m + q + 1 ≤ m + k + 1) by omega), if_neg (show ¬ (m + k + 1 = m + q + 1) by omega), if_pos rfl, if_pos rfl]
      rw [if_pos rfl]
      omega
    · rw [if_neg h0, if_neg h0, if_neg (show ¬ (m + q + 1 = v) by omega)]
      by_cases h1 : v = m + k + 1
      · subst h1
        rw [if_neg (show ¬ (m + 1 ≤ m + k + 1 ∧ m + k + 1 ≤ m + k) by omega), if_pos (show m + k + 1 = m + k + 1 from rfl), if_pos (show m + 1 ≤ m + k + 1 ∧ m + k + 1 ≤ m + k + 1 by omega), show m + k + 1 - 1 = m + k from by omega]
        omega
      · rw [if_neg (show ¬ (m + k + 1 = v) by omega)]
        by_cases h2 : m + 1 ≤ v ∧ v ≤ m + k
        · rw [if_pos h2, if_pos (show m + 1 ≤ v ∧ v ≤ m + k + 1 by omega)]; omega
        · rw [if_neg h2, if_neg (show ¬ (m + 1 ≤ v ∧ v ≤ m + k + 1) by omega)]; omega
end Go.Proofs.Ytngkbnaehkailaa
