/-
  Pairs of components, in plain Lean: n components; rd: is it a round fare; mt: do two fares lead there and back. Of no program.
-/
import Derived.Test.YtblmafknmeicfaaTab
import Derived.Test.YtblmafknmeicfaaRead
namespace Go.Proofs.Ytblmafknmeicfaa
open Go Go.RowKit Eng
set_option linter.unusedVariables false
/-- all of the first -/
def allK (p : Nat → Bool) : Nat → Bool
  | 0 => true
  | k + 1 => allK p k && p k
theorem allK_iff {p : Nat → Bool} : ∀ n, allK p n = true ↔ ∀ k, k < n → p k = true
  | 0 => by simp [allK]
  | n + 1 => by
    rw [allK, Bool.and_eq_true, allK_iff n]
    constructor
    · rintro ⟨h1, h2⟩ k hk
      by_cases e : k = n
      · rw [e]; exact h2
      · exact h1 k (by omega)
    · intro h; exact ⟨fun k hk => h k (by omega), h n (by omega)⟩
theorem allK_not {p : Nat → Bool} {n k : Nat} (hk : k < n) (h : p k = false) : allK p n = false := by
  cases q : allK p n with
  | false => rfl
  | true => rw [(allK_iff n).1 q k hk] at h; cases h
theorem allK_next {p : Nat → Bool} {k : Nat} (h : allK p k = true) (hp : p k = true) : allK p (k + 1) = true := by rw [allK, h, hp]; rfl
theorem allK_congr {p q : Nat → Bool} {n : Nat} (h : ∀ k, k < n → p k = q k) : allK p n = allK q n := by
  refine Bool.eq_iff_iff.2 ?_
  rw [allK_iff, allK_iff]
  exact ⟨fun a k hk => by rw [← h k hk]; exact a k hk, fun a k hk => by rw [h k hk]; exact a k hk⟩
/-- the first k from n - d on that is as p says, or n -/
def fstD (p : Nat → Bool) (n : Nat) : Nat → Nat
  | 0 => n
  | d + 1 => if p (n - (d + 1)) = true then n - (d + 1) else fstD p n d
def fstK (p : Nat → Bool) (n k : Nat) : Nat := fstD p n (n - k)
theorem fstD_le {p : Nat → Bool} {n : Nat} : ∀ d, n - d ≤ fstD p n d ∧ fstD p n d ≤ n
  | 0 => ⟨Nat.sub_le _ _, Nat.le_refl _⟩
  | d + 1 => by
    have ih := fstD_le (p := p) (n := n) d
    unfold fstD
    split <;> omega
theorem fstD_yes {p : Nat → Bool} {n : Nat} : ∀ d, fstD p n d < n → p (fstD p n d) = true
  | 0, h => absurd h (Nat.lt_irrefl _)
  | d + 1, h => by
    unfold fstD at h ⊢
    split at h
    · rename_i q; rw [if_pos q]; exact q
    · rename_i q; rw [if_neg q]; exact fstD_yes d h
theorem fstD_at {p : Nat → Bool} {n r : Nat} : ∀ d, (∀ j, n - d ≤ j → j < r → p j = false) → n - d ≤ r → r ≤ n → (r < n → p r = true) → fstD p n d = r
  | 0, _, h1, h2, _ => by unfold fstD; omega
  | d + 1, h, h1, h2, h3 => by
    unfold fstD
    by_cases e : n - (d + 1) = r
    · by_cases hr : r < n
      · rw [e, if_pos (h3 hr)]
      · have hn : r = n := by omega
        have hd : fstD p n d = n := by have := fstD_le (p := p) (n := n) d; omega
        split
        · omega
        · omega
    · rw [if_neg (by rw [h _ (Nat.le_refl _) (by omega)]; simp)]
      exact fstD_at d (fun j hj hjr => h j (by omega) hjr) (by omega) h2 h3
theorem fstK_at {p : Nat → Bool} {n k r : Nat} (h : ∀ j, k ≤ j → j < r → p j = false) (h1 : k ≤ r) (h2 : r ≤ n) (h3 : r < n → p r = true) : fstK p n k = r :=
  fstD_at _ (fun j hj hjr => h j (by omega) hjr) (by omega) h2 h3
theorem fstK_le {p : Nat → Bool} {n k : Nat} (h : k ≤ n) : k ≤ fstK p n k ∧ fstK p n k ≤ n := by
  have := fstD_le (p := p) (n := n) (n - k)
  unfold fstK; omega
theorem fstK_yes {p : Nat → Bool} {n k : Nat} (h : fstK p n k < n) : p (fstK p n k) = true := fstD_yes _ h
def okK (rd : Nat → Bool) (mt : Nat → Nat → Bool) (pd : List Bool) (i k : Nat) : Bool := !(nth pd k) && (rd k && mt i k)
def stepP (n : Nat) (rd : Nat → Bool) (mt : Nat → Nat → Bool) (i : Nat) (s : List Bool × List (Nat × Nat)) : Option (List Bool × List (Nat × Nat)) :=
  if rd i = false ∨ nth s.1 i = true then some s
  else if fstK (okK rd mt s.1 i) n (i + 1) = n then none
  else some (s.1.set (fstK (okK rd mt s.1 i) n (i + 1)) true, s.2 ++ [(i, fstK (okK rd mt s.1 i) n (i + 1))])
def runP (n : Nat) (rd : Nat → Bool) (mt : Nat → Nat → Bool) : Nat → Option (List Bool × List (Nat × Nat))
  | 0 => some (List.replicate n false, [])
  | i + 1 => (runP n rd mt i).bind (stepP n rd mt i)
section
variable {n : Nat} {rd : Nat → Bool} {mt : Nat → Nat → Bool}
theorem runP_none {i : Nat} (h : runP n rd mt i = none) : ∀ d, runP n rd mt (i + d) = none
  | 0 => h
  | d + 1 => by rw [← Nat.add_assoc, runP, runP_none h d]; rfl
theorem runP_skip {i : Nat} {s : List Bool × List (Nat × Nat)} (h : runP n rd mt i = some s) (hs : rd i = false ∨ nth s.1 i = true) : runP n rd mt (i + 1) = some s := by
  rw [runP, h]; show stepP n rd mt i s = _; rw [stepP, if_pos hs]
theorem runP_fail {i : Nat} {s : List Bool × List (Nat × Nat)} (h : runP n rd mt i = some s) (h1 : rd i = true) (h2 : nth s.1 i = false) (hk : ∀ j, i + 1 ≤ j → j < n → okK rd mt s.1 i j = false) (hi : i < n) : runP n rd mt n = none := by
  have e : runP n rd mt (i + 1) = none := by
    rw [runP, h]; show stepP n rd mt i s = _
    rw [stepP, if_neg (by simp [h1, h2]), if_pos (fstK_at hk (by omega) (Nat.le_refl _) (fun h => absurd h (Nat.lt_irrefl _)))]
  have := runP_none e (n - (i + 1))
  rwa [show i + 1 + (n - (i + 1)) = n by omega] at this
theorem runP_pair {i k : Nat} {s : List Bool × List (Nat × Nat)} (h : runP n rd mt i = some s) (h1 : rd i = true) (h2 : nth s.1 i = false) (hk : ∀ j, i + 1 ≤ j → j < k → okK rd mt s.1 i j = false) (hik : i + 1 ≤ k) (hkn : k < n) (hy : okK rd mt s.1 i k = true) : runP n rd mt (i + 1) = some (s.1.set k true, s.2 ++ [(i, k)]) := by
  rw [runP, h]; show stepP n rd mt i s = _
  have e := fstK_at (p := okK rd mt s.1 i) hk hik (Nat.le_of_lt hkn) (fun _ => hy)
  rw [stepP, if_neg (by simp [h1, h2]), e, if_neg (by omega)]
/-- how often a component is in a pair -/
def inB (x : Nat × Nat) (j : Nat) : Bool := decide (x.1 = j) || decide (x.2 = j)
def cntP (j : Nat) : List (Nat × Nat) → Nat
  | [] => 0
  | x :: r => (if inB x j = true then 1 else 0) + cntP j r
theorem cntP_app {j : Nat} : ∀ a b : List (Nat × Nat), cntP j (a ++ b) = cntP j a + cntP j b
  | [], b => by simp [cntP]
  | x :: a, b => by rw [List.cons_append, cntP, cntP, cntP_app a b]; omega
structure RunIs (n : Nat) (rd : Nat → Bool) (mt : Nat → Nat → Bool) (i : Nat) (pd : List Bool) (out : List (Nat × Nat)) : Prop where
  len : pd.length = n
  num : out.length ≤ i
  cnt : ∀ j, j < n → cntP j out = if j < i then (if rd j = true then 1 else 0) else if nth pd j = true then 1 else 0
  rnd : ∀ j, j < n → nth pd j = true → rd j = true
  sec : ∀ j, j < n → (nth pd j = true ↔ ∃ x ∈ out, x.2 = j)
  pair : ∀ x ∈ out, x.1 < i ∧ x.1 < x.2 ∧ x.2 < n ∧ mt x.1 x.2 = true
  up : ∀ k, k + 1 < out.length → (nth out k).1 < (nth out (k + 1)).1
theorem nth_app_l {α : Type} [Inhabited α] {l : List α} {x : α} {i : Nat} (h : i < l.length) : nth (l ++ [x]) i = nth l i := by
  unfold nth
  rw [List.getD_eq_getElem?_getD, List.getD_eq_getElem?_getD, List.getElem?_append_left h]
theorem nth_app_last {α : Type} [Inhabited α] {l : List α} {x : α} : nth (l ++ [x]) l.length = x := by
  unfold nth
  rw [List.getD_eq_getElem?_getD, List.getElem?_append_right (Nat.le_refl _)]
  simp
theorem nthb_rep {n j : Nat} (h : j < n) : nth (List.replicate n false) j = false := by
  unfold nth; rw [List.getD_eq_getElem?_getD, List.getElem?_replicate, if_pos h]; rfl
theorem run_is : ∀ i, i ≤ n → ∀ pd out, runP n rd mt i = some (pd, out) → RunIs n rd mt i pd out
  | 0, _, pd, out, h => by
    rw [runP] at h
    obtain ⟨rfl, rfl⟩ := Prod.mk.inj (Option.some.inj h)
    refine ⟨by simp, Nat.zero_le _, fun j hj => by simp [cntP, nthb_rep hj], fun j hj e => (by rw [nthb_rep hj] at e; cases e), fun j hj => (by simp [nthb_rep hj]), fun x hx => (by cases hx), fun k hk => (by simp at hk)⟩
  | i + 1, hi, pd, out, h => by
    rw [runP] at h
    cases hr : runP n rd mt i with
    | none => rw [hr] at h; cases h
    | some s =>
      obtain ⟨pd0, out0⟩ := s
      have R := run_is i (by omega) pd0 out0 hr
      rw [hr] at h
      change stepP n rd mt i (pd0, out0) = some (pd, out) at h
      unfold stepP at h
      split at h
      · rename_i q
        obtain ⟨rfl, rfl⟩ := Prod.mk.inj (Option.some.inj h)
        refine ⟨R.len, by have := R.num; omega, fun j hj => ?_, R.rnd, R.sec, fun x hx => ⟨by have := (R.pair x hx).1; omega, (R.pair x hx).2⟩, R.up⟩
        rw [R.cnt j hj]
        by_cases e : j < i
        · rw [if_pos e, if_pos (show j < i + 1 by omega)]
        · rw [if_neg e]
          by_cases e2 : j = i
          · subst e2
            rw [if_pos (show j < j + 1 by omega)]
            rcases q with q | q
            · have q2 : nth pd0 j = false := by
                cases e3 : nth pd0 j with
                | false => rfl
                | true => rw [R.rnd j hj e3] at q; cases q
              rw [q, q2]
            · rw [show nth pd0 j = true from q, R.rnd j hj q]
          · rw [if_neg (show ¬ j < i + 1 by omega)]
      · rename_i q
        split at h
        · cases h
        · rename_i q2
          have h1 : rd i = true := by cases e : rd i with
            | true => rfl
            | false => exact absurd (.inl e) q
          have h2 : nth pd0 i = false := by cases e : nth pd0 i with
            | false => rfl
            | true => exact absurd (.inr e) q
          have hle := fstK_le (p := okK rd mt pd0 i) (show i + 1 ≤ n from hi)
          have hky := fstK_yes (p := okK rd mt pd0 i) (k := i + 1) (show fstK (okK rd mt pd0 i) n (i + 1) < n by have : fstK (okK rd mt pd0 i) n (i + 1) ≠ n := q2; omega)
          obtain ⟨k, ek⟩ : ∃ k, k = fstK (okK rd mt pd0 i) n (i + 1) := ⟨_, rfl⟩
          have q3 : k ≠ n := by rw [ek]; exact q2
          change some (pd0.set (fstK (okK rd mt pd0 i) n (i + 1)) true, out0 ++ [(i, fstK (okK rd mt pd0 i) n (i + 1))]) = some (pd, out) at h
          rw [← ek] at h hky hle
          obtain ⟨rfl, rfl⟩ := Prod.mk.inj (Option.some.inj h)
          rw [okK, Bool.and_eq_true, Bool.and_eq_true, Bool.not_eq_true'] at hky
          obtain ⟨k1, k2, k3⟩ := hky
          have hkl : k < pd0.length := by rw [R.len]; omega
          have hset : ∀ j, nth (pd0.set k true) j = if k = j then true else nth pd0 j := fun j => nth_set hkl
          refine ⟨by rw [List.length_set, R.len], by rw [List.length_append]; have := R.num; simp; omega, fun j hj => ?_, fun j hj e => ?_, fun j hj => ?_, fun x hx => ?_, fun t ht => ?_⟩
          · rw [cntP_app, R.cnt j hj, hset]
            have e0 : cntP j [(i, k)] = if inB (i, k) j = true then 1 else 0 := by simp [cntP]
            rw [e0]
            unfold inB
            by_cases e : j < i
            · rw [if_pos e, if_pos (show j < i + 1 by omega), decide_eq_false (show ¬ (i, k).1 = j by dsimp only; omega), decide_eq_false (show ¬ (i, k).2 = j by dsimp only; omega)]
              simp
            · rw [if_neg e]
              by_cases e2 : j = i
              · subst e2
                rw [if_pos (show j < j + 1 by omega), h1, h2]
                simp
              · rw [if_neg (show ¬ j < i + 1 by omega), decide_eq_false (show ¬ (i, k).1 = j by dsimp only; omega)]
                by_cases e3 : k = j
                · subst e3; rw [k1]; simp
                · rw [decide_eq_false (show ¬ (i, k).2 = j from e3), if_neg e3]; simp
          · rw [hset] at e
            split at e
            · rename_i e3; subst e3; exact k2
            · exact R.rnd j hj e
          · rw [hset]
            constructor
            · intro e
              split at e
              · rename_i e3; exact ⟨(i, k), by simp, e3⟩
              · obtain ⟨x, hx, hxe⟩ := (R.sec j hj).1 e
                exact ⟨x, List.mem_append_left _ hx, hxe⟩
            · rintro ⟨x, hx, hxe⟩
              rcases List.mem_append.1 hx with hx | hx
              · split
                · rfl
                · exact (R.sec j hj).2 ⟨x, hx, hxe⟩
              · obtain rfl := List.mem_singleton.1 hx
                rw [if_pos hxe]
          · rcases List.mem_append.1 hx with hx | hx
            · exact ⟨by have := (R.pair x hx).1; omega, (R.pair x hx).2⟩
            · obtain rfl := List.mem_singleton.1 hx
              exact ⟨by dsimp only; omega, by dsimp only; omega, by dsimp only; omega, k3⟩
          · rw [List.length_append] at ht
            have ht' : t + 1 < out0.length + 1 := by simpa using ht
            rcases Nat.lt_or_ge (t + 1) out0.length with e | e
            · rw [nth_app_l (by omega), nth_app_l e]; exact R.up t e
            · have e2 : t + 1 = out0.length := by omega
              rw [nth_app_l (by omega), e2, nth_app_last]
              exact (R.pair _ (nth_mem (by omega))).1
/-- is a component in no pair -/
def freeB (out : List (Nat × Nat)) (j : Nat) : Bool := allK (fun k => !(inB (nth out k) j)) out.length
theorem paired_free {i j : Nat} {pd : List Bool} {out : List (Nat × Nat)} (R : RunIs n rd mt i pd out) (hij : i ≤ j) (hj : j < n) : freeB out j = !(nth pd j) := by
  cases e : nth pd j with
  | true =>
    obtain ⟨x, hx, hxe⟩ := (R.sec j hj).1 e
    obtain ⟨k, hk, rfl⟩ := mem_nth hx
    exact allK_not (k := k) hk (by unfold inB; rw [hxe]; simp)
  | false =>
    refine (allK_iff _).2 fun k hk => ?_
    have h1 := R.pair _ (nth_mem hk)
    unfold inB
    rw [decide_eq_false (show ¬ (nth out k).1 = j by omega), decide_eq_false (fun h => by rw [(R.sec j hj).2 ⟨_, nth_mem hk, h⟩] at e; cases e)]
    rfl
/-- the count over the first k pairs -/
def cntK (j : Nat) (out : List (Nat × Nat)) : Nat → Nat
  | 0 => 0
  | k + 1 => cntK j out k + if inB (nth out k) j = true then 1 else 0
theorem take_nthP {α : Type} [Inhabited α] {l : List α} {k : Nat} (h : k < l.length) : l.take (k + 1) = l.take k ++ [nth l k] := by
  rw [List.take_succ_eq_append_getElem h]
  unfold nth
  rw [List.getD_eq_getElem?_getD, List.getElem?_eq_getElem h]; rfl
theorem cntK_take {j : Nat} {out : List (Nat × Nat)} : ∀ k, k ≤ out.length → cntK j out k = cntP j (out.take k)
  | 0, _ => by simp [cntK, cntP]
  | k + 1, h => by
    rw [cntK, cntK_take k (by omega), take_nthP (by omega), cntP_app]
    simp [cntP]
theorem cntK_all {j : Nat} {out : List (Nat × Nat)} : cntK j out out.length = cntP j out := by rw [cntK_take _ (Nat.le_refl _), List.take_length]
theorem cntK_le {j : Nat} {out : List (Nat × Nat)} : ∀ k, cntK j out k ≤ k
  | 0 => Nat.le_refl _
  | k + 1 => by have := cntK_le (j := j) (out := out) k; rw [cntK]; split <;> omega
theorem once_cnt {pd : List Bool} {out : List (Nat × Nat)} (R : RunIs n rd mt n pd out) {i : Nat} (hi : i < n) : cntP i out = if rd i = true then 1 else 0 := by
  rw [R.cnt i hi, if_pos hi]
theorem pair_rnd {i : Nat} {pd : List Bool} {out : List (Nat × Nat)} (R : RunIs n rd mt i pd out) {x : Nat × Nat} (hx : x ∈ out) : rd x.2 = true := R.rnd _ (R.pair x hx).2.2.1 ((R.sec _ (R.pair x hx).2.2.1).2 ⟨x, hx, rfl⟩)
/-- what Pairs answers: the error (e1 of the fares, e2 of a pair that lacks) and the pairs -/
def resP (pr : Bool) (e1 e2 : Int) (n : Nat) (rd : Nat → Bool) (mt : Nat → Nat → Bool) : Int × List (Nat × Nat) :=
  if pr = true then (match runP n rd mt n with | none => (e2, []) | some s => (0, s.2)) else (e1, [])
theorem resP_no {pr : Bool} {e1 e2 : Int} (h : pr = false) : resP pr e1 e2 n rd mt = (e1, []) := by rw [resP, if_neg (by rw [h]; simp)]
theorem resP_none {pr : Bool} {e1 e2 : Int} (h : pr = true) (h2 : runP n rd mt n = none) : resP pr e1 e2 n rd mt = (e2, []) := by rw [resP, if_pos h, h2]
theorem resP_some {pr : Bool} {e1 e2 : Int} {s : List Bool × List (Nat × Nat)} (h : pr = true) (h2 : runP n rd mt n = some s) : resP pr e1 e2 n rd mt = (0, s.2) := by rw [resP, if_pos h, h2]
end
def encBo (b : Bool) : List Value := [.bool b]
theorem encBo_len (b : Bool) : (encBo b).length = 1 := rfl
theorem encBo_set {l : List Bool} {k : Nat} {x : Bool} (h : k < l.length) : (cellsOf encBo l).set (k * 1 + 0) (.bool x) = cellsOf encBo (l.set k x) := by
  have e : ∀ l : List Bool, cellsOf encBo l = l.map Value.bool := fun l => by
    induction l with
    | nil => rfl
    | cons x r ih => rw [show x :: r = [x] ++ r from rfl, cellsOf_append, ih, cellsOf_one]; rfl
  rw [e, e, Nat.mul_one, Nat.add_zero, List.map_set]
theorem encBo_get {l : List Bool} {k : Nat} (h : k < l.length) : (cellsOf encBo l)[k * 1 + 0]? = some (.bool (nth l k)) := cellsOf_get encBo_len l k 0 h (by decide)
theorem rep_bo (n : Nat) : repCells [.bool false] n = cellsOf encBo (List.replicate n false) := by
  induction n with
  | zero => rfl
  | succ n ih => rw [List.replicate_succ, repCells, ih]; rfl
def encNN (x : Nat × Nat) : List Value := [.int .i64 (x.1 : Int), .int .i64 (x.2 : Int)]
theorem encNN_len (x : Nat × Nat) : (encNN x).length = 2 := rfl
end Go.Proofs.Ytblmafknmeicfaa
