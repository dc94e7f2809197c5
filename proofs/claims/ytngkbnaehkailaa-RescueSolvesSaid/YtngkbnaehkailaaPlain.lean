/-
  Flows: what the program computes, in plain Lean.
-/
import Derived.Test.YtngkbnaehkailaaObj
import Derived.Test.YtngkbnaehkailaaRead
namespace Go.Proofs.Ytngkbnaehkailaa
open Go Go.RowKit Eng
set_option linter.unusedVariables false
set_option linter.unusedSimpArgs false
abbrev Ed := Int × Int × Int × Int
def encEd (x : Ed) : List Value := [.int .i64 x.1, .int .i64 x.2.1, .int .i64 x.2.2.1, .int .i64 x.2.2.2]
theorem encEd_len (x : Ed) : (encEd x).length = 4 := rfl
theorem nth_take {α : Type} [Inhabited α] {l : List α} {i k : Nat} (h : i < k) : nth (l.take k) i = nth l i := by
  unfold nth
  simp only [List.getD_eq_getElem?_getD, List.getElem?_take, if_pos h]
theorem nth_rep {x : Int} {n i : Nat} (h : i < n) : nth (List.replicate n x) i = x := by
  unfold nth
  simp [List.getD_eq_getElem?_getD, List.getElem?_replicate, h]
theorem rep_int (x : Int) (n : Nat) : repCells [.int .i64 x] n = cellsOf encI (List.replicate n x) := by
  induction n with
  | zero => rfl
  | succ n ih => rw [List.replicate_succ, repCells, ih]; rfl
/-- the first error -/
def firstE (f : Nat → Int) : Nat → Int
  | 0 => 0
  | k + 1 => if firstE f k ≠ 0 then firstE f k else f k
theorem firstE_stay {f : Nat → Int} {k : Nat} {e : Int} (h : firstE f k = e) (he : e ≠ 0) : ∀ n, k ≤ n → firstE f n = e
  | 0, hk => by obtain rfl : k = 0 := by omega
                exact h
  | n + 1, hk => by
    by_cases q : k = n + 1
    · rw [← q]; exact h
    · have := firstE_stay h he n (by omega)
      rw [firstE, if_pos (by rw [this]; exact he), this]
theorem firstE_zero {f : Nat → Int} : ∀ n, firstE f n = 0 → ∀ k, k < n → f k = 0
  | n + 1, h, k, hk => by
    have h0 : firstE f n = 0 := by
      rw [firstE] at h
      split at h
      · rename_i q; exact absurd h q
      · rename_i q; simpa using q
    by_cases e : k = n
    · subst e; rw [firstE, if_neg (by simp [h0])] at h; exact h
    · exact firstE_zero n h0 k (by omega)
theorem firstE_at {f : Nat → Int} {k n : Nat} (h : firstE f k = 0) (hk : k < n) (he : f k ≠ 0) : firstE f n = f k :=
  firstE_stay (k := k + 1) (by rw [firstE, if_neg (by simp [h])]) he n hk
theorem firstE_next {f : Nat → Int} {k : Nat} (h : firstE f k = 0) (he : f k = 0) : firstE f (k + 1) = 0 := by rw [firstE, if_neg (by simp [h]), he]
/-- all of the first -/
def allK (p : Nat → Bool) : Nat → Bool
  | 0 => true
  | k + 1 => allK p k && p k
theorem allK_iff {p : Nat → Bool} : ∀ n, allK p n = true ↔ ∀ k, k < n → p k = true
  | 0 => by simp [allK]
  | n + 1 => by
    rw [allK, Bool.and_eq_true, allK_iff n]
    constructor
    · rintro ⟨h1, h2⟩ k hk
      by_cases e : k = n
      · rw [e]; exact h2
      · exact h1 k (by omega)
    · intro h; exact ⟨fun k hk => h k (by omega), h n (by omega)⟩
theorem allK_not {p : Nat → Bool} {n k : Nat} (hk : k < n) (h : p k = false) : allK p n = false := by
  cases q : allK p n with
  | false => rfl
  | true => rw [(allK_iff n).1 q k hk] at h; cases h
theorem allK_next {p : Nat → Bool} {k : Nat} (h : allK p k = true) (hp : p k = true) : allK p (k + 1) = true := by rw [allK, h, hp]; rfl
theorem allK_congr {p q : Nat → Bool} {n : Nat} (h : ∀ k, k < n → p k = q k) : allK p n = allK q n := by
  refine Bool.eq_iff_iff.2 ?_
  rw [allK_iff, allK_iff]
  exact ⟨fun a k hk => by rw [← h k hk]; exact a k hk, fun a k hk => by rw [h k hk]; exact a k hk⟩
/-! ### networks -/
def edgeE (n : Int) (x : Ed) : Int := if x.1 < 0 ∨ n ≤ x.1 ∨ x.2.1 < 0 ∨ n ≤ x.2.1 then 7 else if x.2.2.1 < 0 ∨ 65536 < x.2.2.1 ∨ x.2.2.2 < 0 ∨ 4294967296 < x.2.2.2 then 2 else 0
def edgesE (n : Int) (l : List Ed) : Nat → Int := firstE fun i => edgeE n (nth l i)
def checkE (n : Int) (l : List Ed) (s t : Int) : Int := if 128 < n ∨ 2048 < (l.length : Int) then 4 else if n < 2 ∨ s < 0 ∨ n ≤ s ∨ t < 0 ∨ n ≤ t ∨ s = t then 2 else edgesE n l l.length
def EdOk (n : Int) (l : List Ed) : Prop := ∀ i, i < l.length → 0 ≤ (nth l i).1 ∧ (nth l i).1 < n ∧ 0 ≤ (nth l i).2.1 ∧ (nth l i).2.1 < n ∧ 0 ≤ (nth l i).2.2.1 ∧ (nth l i).2.2.1 ≤ 65536 ∧ 0 ≤ (nth l i).2.2.2 ∧ (nth l i).2.2.2 ≤ 4294967296
theorem edge_ok {n : Int} {x : Ed} (h : edgeE n x = 0) : 0 ≤ x.1 ∧ x.1 < n ∧ 0 ≤ x.2.1 ∧ x.2.1 < n ∧ 0 ≤ x.2.2.1 ∧ x.2.2.1 ≤ 65536 ∧ 0 ≤ x.2.2.2 ∧ x.2.2.2 ≤ 4294967296 := by
  unfold edgeE at h
  split at h
  · cases h
  · split at h
    · cases h
    · omega
theorem edOk_of {n : Int} {l : List Ed} (h : edgesE n l l.length = 0) : EdOk n l := fun i hi => edge_ok (firstE_zero l.length h i hi)
theorem check_ok {n : Int} {l : List Ed} {s t : Int} (h : checkE n l s t = 0) : (n ≤ 128 ∧ (l.length : Int) ≤ 2048 ∧ 2 ≤ n ∧ 0 ≤ s ∧ s < n ∧ 0 ≤ t ∧ t < n ∧ s ≠ t) ∧ EdOk n l := by
  unfold checkE at h
  split at h
  · cases h
  · split at h
    · cases h
    · exact ⟨by omega, edOk_of h⟩
/-! ### flows -/
def capB (l : List Ed) (f : List Int) (i : Nat) : Bool := decide (0 ≤ nth f i) && decide (nth f i ≤ (nth l i).2.2.1)
def withinB (l : List Ed) (f : List Int) : Bool := decide (f.length = l.length) && allK (capB l f) l.length
theorem within_ok {l : List Ed} {f : List Int} (h : withinB l f = true) : f.length = l.length ∧ ∀ i, i < l.length → 0 ≤ nth f i ∧ nth f i ≤ (nth l i).2.2.1 := by
  rw [withinB, Bool.and_eq_true, decide_eq_true_iff, allK_iff] at h
  refine ⟨h.1, fun i hi => ?_⟩
  have := h.2 i hi
  rw [capB, Bool.and_eq_true, decide_eq_true_iff, decide_eq_true_iff] at this
  exact this
def addAt (o : List Int) (i x : Int) : List Int := o.set i.toNat (nth o i.toNat + x)
theorem addAt_len {o : List Int} {i x : Int} : (addAt o i x).length = o.length := by simp [addAt]
def outK (n : Nat) (l : List Ed) (f : List Int) : Nat → List Int
  | 0 => List.replicate n 0
  | k + 1 => addAt (addAt (outK n l f k) (nth l k).1 (nth f k)) (nth l k).2.1 (- nth f k)
theorem outK_len {n : Nat} {l : List Ed} {f : List Int} : ∀ k, (outK n l f k).length = n
  | 0 => by simp [outK]
  | k + 1 => by rw [outK, addAt_len, addAt_len, outK_len k]
def costK (l : List Ed) (f : List Int) : Nat → Int
  | 0 => 0
  | k + 1 => costK l f k + nth f k * (nth l k).2.2.2
theorem addAt_bd {o : List Int} {i x : Int} {n : Nat} {a b : Int} (hn : o.length = n) (h : ∀ j, j < n → -a ≤ nth o j ∧ nth o j ≤ a) (hx : -b ≤ x ∧ x ≤ b) : ∀ j, j < n → -(a + b) ≤ nth (addAt o i x) j ∧ nth (addAt o i x) j ≤ a + b := by
  intro j hj
  have hb : 0 ≤ b := by omega
  have := h j hj
  rcases Nat.lt_or_ge i.toNat n with q | q
  · rw [addAt, nth_set (by omega)]
    split
    · rename_i e; rw [e]; omega
    · omega
  · rw [addAt, List.set_eq_of_length_le (by omega)]; omega
theorem outK_bd {n : Nat} {l : List Ed} {f : List Int} (hE : EdOk n l) (hW : ∀ i, i < l.length → 0 ≤ nth f i ∧ nth f i ≤ (nth l i).2.2.1) : ∀ k, k ≤ l.length → ∀ j, j < n → -((k : Int) * 131072) ≤ nth (outK n l f k) j ∧ nth (outK n l f k) j ≤ (k : Int) * 131072
  | 0, _, j, hj => by rw [outK, nth_rep hj]; omega
  | k + 1, hk, j, hj => by
    have h1 := outK_bd hE hW k (by omega)
    have h2 := hW k (by omega)
    have h3 := hE k (by omega)
    have h4 := addAt_bd (i := (nth l k).1) (x := nth f k) (b := 65536) (outK_len k) h1 (by omega)
    have h5 := addAt_bd (i := (nth l k).2.1) (x := - nth f k) (b := 65536) (by rw [addAt_len, outK_len]) h4 (by omega) j hj
    rw [outK]; omega
theorem mul_bd {a b A B : Int} (h0 : 0 ≤ a) (h1 : a ≤ A) (h2 : 0 ≤ b) (h3 : b ≤ B) : 0 ≤ a * b ∧ a * b ≤ A * B := ⟨Int.mul_nonneg h0 h2, Int.mul_le_mul h1 h3 h2 (by omega)⟩
theorem costK_bd {n : Int} {l : List Ed} {f : List Int} (hE : EdOk n l) (hW : ∀ i, i < l.length → 0 ≤ nth f i ∧ nth f i ≤ (nth l i).2.2.1) : ∀ k, k ≤ l.length → 0 ≤ costK l f k ∧ costK l f k ≤ (k : Int) * 281474976710656
  | 0, _ => by simp [costK]
  | k + 1, hk => by
    have h1 := costK_bd hE hW k (by omega)
    have h2 := hW k (by omega)
    have h3 := hE k (by omega)
    have h4 := mul_bd (A := 65536) (B := 4294967296) h2.1 (by omega) h3.2.2.2.2.2.2.1 h3.2.2.2.2.2.2.2
    rw [costK]; omega
def nodeB (o : List Int) (s t : Int) (i : Nat) : Bool := decide (nth o i = 0) || decide ((i : Int) = s) || decide ((i : Int) = t)
def validR (n : Int) (l : List Ed) (s t : Int) (f : List Int) : Int × Int × Int :=
  if checkE n l s t ≠ 0 then (0, 0, checkE n l s t) else if f.length ≠ l.length then (0, 0, 2) else if withinB l f = false then (0, 0, 35)
  else if allK (nodeB (outK n.toNat l f l.length) s t) n.toNat = false then (0, 0, 35) else (nth (outK n.toNat l f l.length) s.toNat, costK l f l.length, 0)
/-! ### residual steps -/
abbrev Sp := Int × Int × Int × Int × Int × Bool
def encSp (x : Sp) : List Value := [.int .i64 x.1, .int .i64 x.2.1, .int .i64 x.2.2.1, .int .i64 x.2.2.2.1, .int .i64 x.2.2.2.2.1, .bool x.2.2.2.2.2]
theorem encSp_len (x : Sp) : (encSp x).length = 6 := rfl
def spF (l : List Ed) (f : List Int) (i : Nat) : List Sp := if nth f i < (nth l i).2.2.1 then [((nth l i).1, (nth l i).2.1, (nth l i).2.2.2, (nth l i).2.2.1 - nth f i, (i : Int), false)] else []
def spB (l : List Ed) (f : List Int) (i : Nat) : List Sp := if 0 < nth f i then [((nth l i).2.1, (nth l i).1, -(nth l i).2.2.2, nth f i, (i : Int), true)] else []
def stepsK (l : List Ed) (f : List Int) : Nat → List Sp
  | 0 => []
  | k + 1 => (stepsK l f k ++ spF l f k) ++ spB l f k
theorem stepsK_len {l : List Ed} {f : List Int} : ∀ k, (stepsK l f k).length ≤ 2 * k
  | 0 => by simp [stepsK]
  | k + 1 => by
    have := stepsK_len (l := l) (f := f) k
    rw [stepsK, spF, spB]
    (repeat' split) <;> simp <;> omega
/-! ### prices -/
def rightB (n : Int) (l : List Ed) (f : List Int) : Bool := decide (checkE n l 0 1 = 0) && withinB l f
def priceB (p : List Int) (i : Nat) : Bool := decide (-1125899906842624 ≤ nth p i) && decide (nth p i ≤ 1125899906842624)
def tightB (l : List Ed) (f p : List Int) (i : Nat) : Bool := !((decide (nth f i < (nth l i).2.2.1) && decide (nth p (nth l i).1.toNat + (nth l i).2.2.2 < nth p (nth l i).2.1.toNat)) || (decide (0 < nth f i) && decide (nth p (nth l i).2.1.toNat - (nth l i).2.2.2 < nth p (nth l i).1.toNat)))
def provesB (n : Int) (l : List Ed) (f p : List Int) : Bool := rightB n l f && decide ((p.length : Int) = n) && allK (priceB p) p.length && allK (tightB l f p) l.length
theorem right_parts {n : Int} {l : List Ed} {f : List Int} (h : rightB n l f = true) : checkE n l 0 1 = 0 ∧ withinB l f = true := by
  rw [rightB, Bool.and_eq_true, decide_eq_true_iff] at h; exact h
theorem proves_no1 {n : Int} {l : List Ed} {f p : List Int} (h : rightB n l f = false ∨ (p.length : Int) ≠ n) : provesB n l f p = false := by
  unfold provesB
  rcases h with h | h
  · rw [h]; rfl
  · rw [decide_eq_false h]; simp
theorem proves_no2 {n : Int} {l : List Ed} {f p : List Int} {k : Nat} (hk : k < p.length) (h : priceB p k = false) : provesB n l f p = false := by
  unfold provesB
  rw [allK_not hk h]; simp
theorem proves_no3 {n : Int} {l : List Ed} {f p : List Int} (h : allK (tightB l f p) l.length = false) : provesB n l f p = false := by
  unfold provesB
  rw [h]; simp
theorem proves_yes {n : Int} {l : List Ed} {f p : List Int} (h1 : rightB n l f = true) (h2 : (p.length : Int) = n) (h3 : allK (priceB p) p.length = true) (h4 : allK (tightB l f p) l.length = true) : provesB n l f p = true := by
  unfold provesB
  rw [h1, decide_eq_true h2, h3, h4]; rfl
theorem price_ok {p : List Int} {n : Nat} (h : allK (priceB p) n = true) : ∀ i, i < n → -1125899906842624 ≤ nth p i ∧ nth p i ≤ 1125899906842624 := by
  intro i hi
  have := (allK_iff n).1 h i hi
  rw [priceB, Bool.and_eq_true, decide_eq_true_iff, decide_eq_true_iff] at this
  exact this
theorem steps_all {l : List Ed} {f : List Int} {P : Sp → Prop} : ∀ k, (∀ x ∈ stepsK l f k, P x) ↔ ∀ i, i < k → (nth f i < (nth l i).2.2.1 → P ((nth l i).1, (nth l i).2.1, (nth l i).2.2.2, (nth l i).2.2.1 - nth f i, (i : Int), false)) ∧ (0 < nth f i → P ((nth l i).2.1, (nth l i).1, -(nth l i).2.2.2, nth f i, (i : Int), true))
  | 0 => by simp [stepsK]
  | k + 1 => by
    have ih := steps_all (l := l) (f := f) (P := P) k
    have hF : (∀ x ∈ spF l f k, P x) ↔ (nth f k < (nth l k).2.2.1 → P ((nth l k).1, (nth l k).2.1, (nth l k).2.2.2, (nth l k).2.2.1 - nth f k, (k : Int), false)) := by
      unfold spF
      split
      · rename_i q; simp [q]
      · rename_i q; simp [q]
    have hB : (∀ x ∈ spB l f k, P x) ↔ (0 < nth f k → P ((nth l k).2.1, (nth l k).1, -(nth l k).2.2.2, nth f k, (k : Int), true)) := by
      unfold spB
      split
      · rename_i q; simp [q]
      · rename_i q; simp [q]
    constructor
    · intro h i hi
      by_cases e : i = k
      · subst e
        exact ⟨hF.1 fun x hx => h x (by rw [stepsK]; simp [hx]), hB.1 fun x hx => h x (by rw [stepsK]; simp [hx])⟩
      · exact ih.1 (fun x hx => h x (by rw [stepsK]; simp [hx])) i (by omega)
    · intro h x hx
      rw [stepsK, List.mem_append, List.mem_append] at hx
      rcases hx with (hx | hx) | hx
      · exact ih.2 (fun i hi => h i (by omega)) x hx
      · exact hF.2 (h k (by omega)).1 x hx
      · exact hB.2 (h k (by omega)).2 x hx
theorem steps_ok_ {n : Int} {l : List Ed} {f : List Int} (hE : EdOk n l) (hW : ∀ i, i < l.length → 0 ≤ nth f i ∧ nth f i ≤ (nth l i).2.2.1) : ∀ x ∈ stepsK l f l.length, (0 ≤ x.1 ∧ x.1 < n) ∧ (0 ≤ x.2.1 ∧ x.2.1 < n) ∧ (-4294967296 ≤ x.2.2.1 ∧ x.2.2.1 ≤ 4294967296) ∧ (1 ≤ x.2.2.2.1 ∧ x.2.2.2.1 ≤ 65536) ∧ (0 ≤ x.2.2.2.2.1 ∧ x.2.2.2.2.1 < l.length) := by
  rw [steps_all]
  intro i hi
  have h1 := hE i hi
  have h2 := hW i hi
  refine ⟨fun h => ?_, fun h => ?_⟩ <;> dsimp only <;> omega
def tightS (p : List Int) (x : Sp) : Bool := !decide (nth p x.1.toNat + x.2.2.1 < nth p x.2.1.toNat)
theorem steps_tight {l : List Ed} {f p : List Int} : allK (fun i => tightS p (nth (stepsK l f l.length) i)) (stepsK l f l.length).length = allK (tightB l f p) l.length := by
  refine Bool.eq_iff_iff.2 ?_
  rw [allK_iff, allK_iff]
  have h1 : (∀ k, k < (stepsK l f l.length).length → tightS p (nth (stepsK l f l.length) k) = true) ↔ ∀ x ∈ stepsK l f l.length, tightS p x = true := by
    constructor
    · intro h x hx
      obtain ⟨i, hi, e⟩ := mem_nth hx
      rw [← e]; exact h i hi
    · intro h k hk; exact h _ (nth_mem hk)
  rw [h1, steps_all]
  refine forall_congr' fun i => forall_congr' fun hi => ?_
  rw [tightB, tightS, tightS]
  simp only [Bool.not_eq_true', decide_eq_false_iff_not, Bool.or_eq_false_iff, Bool.and_eq_false_iff]
  constructor
  · rintro ⟨h1, h2⟩
    exact ⟨by by_cases q : nth f i < (nth l i).2.2.1
              · exact .inr (h1 q)
              · exact .inl q, by by_cases q : 0 < nth f i
                                 · exact .inr (by have := h2 q; omega)
                                 · exact .inl q⟩
  · rintro ⟨h1, h2⟩
    refine ⟨fun q => ?_, fun q => ?_⟩
    · rcases h1 with h1 | h1
      · exact absurd q h1
      · exact h1
    · rcases h2 with h2 | h2
      · exact absurd q h2
      · omega
def knownB (n : Int) (l : List Ed) (f : List Int) : Bool := (decide (2 ≤ n) && (decide (n ≤ 128) && (decide ((l.length : Int) ≤ 2048) && (decide (edgesE n l l.length = 0) && decide (f.length = l.length))))) && withinB l f
theorem known_eq {n : Int} {l : List Ed} {f : List Int} : rightB n l f = knownB n l f := by
  have e : decide (checkE n l 0 1 = 0) = (decide (2 ≤ n) && (decide (n ≤ 128) && (decide ((l.length : Int) ≤ 2048) && decide (edgesE n l l.length = 0)))) := by
    unfold checkE
    by_cases h1 : 128 < n ∨ 2048 < (l.length : Int)
    · rw [if_pos h1]
      rcases h1 with h1 | h1
      · rw [show decide (n ≤ 128) = false from by simp; omega]; simp
      · rw [show decide ((l.length : Int) ≤ 2048) = false from by simp; omega]; simp
    · rw [if_neg h1]
      by_cases h2 : n < 2
      · rw [if_pos (by omega), show decide (2 ≤ n) = false from by simp; omega]; rfl
      · rw [if_neg (by omega), show decide (2 ≤ n) = true from by simp; omega, show decide (n ≤ 128) = true from by simp; omega, show decide ((l.length : Int) ≤ 2048) = true from by simp; omega]; rfl
  rw [rightB, knownB, e]
  by_cases h : f.length = l.length
  · simp [h]
  · have : withinB l f = false := by rw [withinB, show decide (f.length = l.length) = false from by simp [h], Bool.false_and]
    rw [this]; simp
theorem list_ext {x y : List Int} (h : x.length = y.length) (ha : ∀ j, j < x.length → nth x j = nth y j) : x = y := by
  refine List.ext_getElem? fun j => ?_
  rcases Nat.lt_or_ge j x.length with q | q
  · rw [nth_get q, nth_get (by omega), ha j q]
  · rw [List.getElem?_eq_none q, List.getElem?_eq_none (by omega)]
/-! ### the search -/
def fwC (l : List Ed) (f c : List Int) (i : Nat) : Bool := decide (nth f i < (nth l i).2.2.1) && (decide (nth c (nth l i).1.toNat ≠ 1152921504606846976) && decide (nth c (nth l i).1.toNat + (nth l i).2.2.2 < nth c (nth l i).2.1.toNat))
def bwC (l : List Ed) (f c : List Int) (i : Nat) : Bool := decide (0 < nth f i) && (decide (nth c (nth l i).2.1.toNat ≠ 1152921504606846976) && decide (nth c (nth l i).2.1.toNat - (nth l i).2.2.2 < nth c (nth l i).1.toNat))
def fwS (l : List Ed) (f : List Int) (i : Nat) (c : List Int) : List Int := if fwC l f c i = true then c.set (nth l i).2.1.toNat (nth c (nth l i).1.toNat + (nth l i).2.2.2) else c
def fwL (l : List Ed) (f : List Int) (i : Nat) (c la : List Int) : List Int := if fwC l f c i = true then la.set (nth l i).2.1.toNat (i : Int) else la
def bwS (l : List Ed) (f : List Int) (i : Nat) (c : List Int) : List Int := if bwC l f c i = true then c.set (nth l i).1.toNat (nth c (nth l i).2.1.toNat - (nth l i).2.2.2) else c
def bwL (l : List Ed) (f : List Int) (i : Nat) (c la : List Int) : List Int := if bwC l f c i = true then la.set (nth l i).1.toNat (i : Int) else la
abbrev Sg := List Int × List Int × Bool
def stp (l : List Ed) (f : List Int) (i : Nat) : Nat → Sg → Sg
  | 0, s => s
  | 1, s => (fwS l f i s.1, fwL l f i s.1 s.2.1, s.2.2 || fwC l f s.1 i)
  | _, s => (bwS l f i (fwS l f i s.1), bwL l f i (fwS l f i s.1) (fwL l f i s.1 s.2.1), (s.2.2 || fwC l f s.1 i) || bwC l f (fwS l f i s.1) i)
def sweep (l : List Ed) (f c la : List Int) : Nat → Sg
  | 0 => (c, la, false)
  | k + 1 => stp l f k 2 (sweep l f c la k)
def runF (l : List Ed) (f : List Int) : Nat → List Int → List Int → Sg
  | 0, c, la => (c, la, false)
  | k + 1, c, la => if (sweep l f c la l.length).2.2 = true then runF l f k (sweep l f c la l.length).1 (sweep l f c la l.length).2.1 else ((sweep l f c la l.length).1, (sweep l f c la l.length).2.1, true)
structure Bd (n : Nat) (lo : Int) (c : List Int) : Prop where
  len : c.length = n
  bd : ∀ j, j < n → lo ≤ nth c j ∧ nth c j ≤ 1152921504606846976
theorem Bd.mono {n : Nat} {lo lo' : Int} {c : List Int} (h : Bd n lo c) (hl : lo' ≤ lo) : Bd n lo' c := ⟨h.len, fun j hj => ⟨by have := (h.bd j hj).1; omega, (h.bd j hj).2⟩⟩
theorem Bd.set {n : Nat} {lo x : Int} {c : List Int} {i : Nat} (h : Bd n lo c) (hx : lo ≤ x ∧ x ≤ 1152921504606846976) : Bd n lo (c.set i x) := by
  refine ⟨by rw [List.length_set, h.len], fun j hj => ?_⟩
  rcases Nat.lt_or_ge i n with q | q
  · rw [nth_set (by rw [h.len]; exact q)]
    split
    · exact hx
    · exact h.bd j hj
  · rw [List.set_eq_of_length_le (by rw [h.len]; exact q)]; exact h.bd j hj
theorem fwS_bd {n : Nat} {lo : Int} {l : List Ed} {f c : List Int} {i : Nat} (hE : EdOk n l) (hi : i < l.length) (h : Bd n lo c) : Bd n (lo - 4294967296) (fwS l f i c) := by
  unfold fwS
  split
  · rename_i q
    rw [fwC, Bool.and_eq_true, Bool.and_eq_true, decide_eq_true_iff, decide_eq_true_iff, decide_eq_true_iff] at q
    have e := hE i hi
    have h1 := h.bd (nth l i).1.toNat (by omega)
    have h2 := h.bd (nth l i).2.1.toNat (by omega)
    exact (h.mono (by omega)).set (by omega)
  · exact h.mono (by omega)
theorem bwS_bd {n : Nat} {lo : Int} {l : List Ed} {f c : List Int} {i : Nat} (hE : EdOk n l) (hi : i < l.length) (h : Bd n lo c) : Bd n (lo - 4294967296) (bwS l f i c) := by
  unfold bwS
  split
  · rename_i q
    rw [bwC, Bool.and_eq_true, Bool.and_eq_true, decide_eq_true_iff, decide_eq_true_iff, decide_eq_true_iff] at q
    have e := hE i hi
    have h1 := h.bd (nth l i).1.toNat (by omega)
    have h2 := h.bd (nth l i).2.1.toNat (by omega)
    exact (h.mono (by omega)).set (by omega)
  · exact h.mono (by omega)
theorem fwL_len {l : List Ed} {f c la : List Int} {i : Nat} : (fwL l f i c la).length = la.length := by unfold fwL; split <;> simp
theorem bwL_len {l : List Ed} {f c la : List Int} {i : Nat} : (bwL l f i c la).length = la.length := by unfold bwL; split <;> simp
theorem stp_fw {l : List Ed} {f D M X Y : List Int} {mo mx mb : Bool} {i : Nat} (hs : stp l f i 0 (D, M, mo) = (X, Y, mx)) (hb : (mx || fwC l f X i) = mb) : stp l f i (0 + 1) (D, M, mo) = (fwS l f i X, fwL l f i X Y, mb) := by
  simp only [stp, Prod.mk.injEq] at hs
  obtain ⟨rfl, rfl, rfl⟩ := hs
  rw [← hb]; rfl
theorem stp_bw {l : List Ed} {f D M X Y : List Int} {mo mx mb : Bool} {i : Nat} (hs : stp l f i 1 (D, M, mo) = (X, Y, mx)) (hb : (mx || bwC l f X i) = mb) : stp l f i (1 + 1) (D, M, mo) = (bwS l f i X, bwL l f i X Y, mb) := by
  simp only [stp, Prod.mk.injEq] at hs
  obtain ⟨rfl, rfl, rfl⟩ := hs
  rw [← hb]; rfl
theorem sweep_next {l : List Ed} {f C La D M X Y : List Int} {mo mx : Bool} {i : Nat} (hw : sweep l f C La i = (D, M, mo)) (hs : stp l f i 2 (D, M, mo) = (X, Y, mx)) : sweep l f C La (i + 1) = (X, Y, mx) := by rw [sweep, hw, hs]
theorem run_stop {l : List Ed} {f C La D M : List Int} {k : Nat} (hw : sweep l f C La l.length = (D, M, false)) : runF l f (k + 1) C La = (D, M, true) := by rw [runF, hw]; rfl
theorem run_more {l : List Ed} {f C La D M : List Int} {k : Nat} (hw : sweep l f C La l.length = (D, M, true)) : runF l f (k + 1) C La = runF l f k D M := by rw [runF, hw]; rfl
/-! ### the node before -/
abbrev backI (la : List Int) (v : Int) : Nat := (nth la v.toNat).toNat
def backC (l : List Ed) (f c la : List Int) (v : Int) : Bool := decide ((nth l (backI la v)).2.1 = v) && decide (nth f (backI la v) < (nth l (backI la v)).2.2.1) && decide (nth c (nth l (backI la v)).1.toNat + (nth l (backI la v)).2.2.2 = nth c v.toNat)
def backV (l : List Ed) (f c la : List Int) (v : Int) : Int := if backC l f c la v = true then (nth l (backI la v)).1 else (nth l (backI la v)).2.1
def backR (l : List Ed) (f c la : List Int) (v : Int) : Int := if backC l f c la v = true then (nth l (backI la v)).2.2.1 - nth f (backI la v) else nth f (backI la v)
end Go.Proofs.Ytngkbnaehkailaa
