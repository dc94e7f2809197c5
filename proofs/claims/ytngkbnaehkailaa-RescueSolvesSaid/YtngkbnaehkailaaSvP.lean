import Derived.Test.YtngkbnaehkailaaPlan
import Derived.Test.YtngkbnaehkailaaRsH
import Derived.Test.YtngkbnaehkailaaFam
import Derived.Test.YtngkbnaehkailaaMore
/-
  The reference's reach: how one more passenger reaches each capacity at the least cost. Plain Lean.
-/
namespace Go.Proofs.Ytngkbnaehkailaa
open Go Go.RowKit Eng
set_option linter.unusedVariables false
set_option linter.unusedSimpArgs false
abbrev St := Int × Int × Int × Int
abbrev FX : Int := 1125899906842624
def atX (l : List Pa) (i k : Nat) : Nat := (nth (nth l i).2.2.l k).1.toNat
def dlX (l : List Pa) (i k : Nat) : Int := (nth (nth l i).2.2.l k).2
def wyX (l : List Pa) (i : Nat) : Nat := (nth l i).2.2.l.length
def cX (o : List St) (v : Nat) : Int := (nth o v).1
def pX (P : List (SliceV Int)) (i k : Nat) : Int := nth (nth P i).l k
def mvW (l : List Pa) (i a b : Nat) : Int := (nth l i).2.1 * (dlX l i b - dlX l i a)
def mvOn (P : List (SliceV Int)) (i a b : Nat) : Prop := 0 < pX P i a ∧ a ≠ b
instance {P : List (SliceV Int)} {i a b : Nat} : Decidable (mvOn P i a b) := by unfold mvOn; infer_instance
def mvS (l : List Pa) (P : List (SliceV Int)) (i a b : Nat) (o : List St) : List St :=
  if mvOn P i a b ∧ cX o (atX l i a) < FX ∧ cX o (atX l i a) + mvW l i a b < cX o (atX l i b) then o.set (atX l i b) (cX o (atX l i a) + mvW l i a b, (i : Int), (b : Int), (a : Int)) else o
def mvB (l : List Pa) (P : List (SliceV Int)) (i a : Nat) (o : List St) : Nat → List St
  | 0 => o
  | b + 1 => mvS l P i a b (mvB l P i a o b)
def mvA (l : List Pa) (P : List (SliceV Int)) (i : Nat) (o : List St) : Nat → List St
  | 0 => o
  | a + 1 => mvB l P i a (mvA l P i o a) (wyX l i)
def mvI (l : List Pa) (P : List (SliceV Int)) (o : List St) : Nat → List St
  | 0 => o
  | i + 1 => mvA l P i (mvI l P o i) (wyX l i)
def mvR (l : List Pa) (P : List (SliceV Int)) (m : Nat) (o : List St) : Nat → List St
  | 0 => o
  | n + 1 => mvI l P (mvR l P m o n) m
section
variable {l : List Pa} {P : List (SliceV Int)} {m : Nat}
/-- what each step keeps, the sweep keeps -/
theorem mvI_keep {I : List St → Prop} (hI : ∀ i a b o, i < m → a < wyX l i → b < wyX l i → I o → I (mvS l P i a b o)) {o : List St} (h : I o) : ∀ i, i ≤ m → I (mvI l P o i)
  | 0, _ => h
  | i + 1, hi => by
    have h1 : ∀ (o : List St) a, I o → a < wyX l i → ∀ b, b ≤ wyX l i → I (mvB l P i a o b) := fun o a ho ha b => by
      induction b with
      | zero => intro _; exact ho
      | succ b ih => intro hb; exact hI i a b _ (by omega) ha (by omega) (ih (by omega))
    have h2 : ∀ (o : List St), I o → ∀ a, a ≤ wyX l i → I (mvA l P i o a) := fun o ho a => by
      induction a with
      | zero => intro _; exact ho
      | succ a ih => intro ha; exact h1 _ a (ih (by omega)) (by omega) _ (Nat.le_refl _)
    exact h2 _ (mvI_keep hI h i (by omega)) _ (Nat.le_refl _)
/-- what a step does for its own arc, and no later step undoes, holds at the end -/
theorem mvI_all {I : List St → Prop} {D : Nat → Nat → Nat → List St → Prop} (hI : ∀ i a b o, i < m → a < wyX l i → b < wyX l i → I o → I (mvS l P i a b o)) (hD : ∀ i a b o, i < m → a < wyX l i → b < wyX l i → I o → D i a b (mvS l P i a b o))
    (hk : ∀ i a b i' a' b' o, i' < m → a' < wyX l i' → b' < wyX l i' → I o → D i a b o → D i a b (mvS l P i' a' b' o)) {o : List St} (h : I o) : ∀ n, n ≤ m → I (mvI l P o n) ∧ ∀ i a b, i < n → a < wyX l i → b < wyX l i → D i a b (mvI l P o n)
  | 0, _ => ⟨h, fun i a b hi => absurd hi (Nat.not_lt_zero _)⟩
  | n + 1, hn => by
    obtain ⟨g1, g2⟩ := mvI_all hI hD hk h n (by omega)
    have h1 : ∀ (o : List St) a, I o → a < wyX l n → ∀ b, b ≤ wyX l n → I (mvB l P n a o b) ∧ (∀ i a' b', D i a' b' o → D i a' b' (mvB l P n a o b)) ∧ ∀ b', b' < b → D n a b' (mvB l P n a o b) := fun o a ho ha b => by
      induction b with
      | zero => intro _; exact ⟨ho, fun _ _ _ q => q, fun b' hb => absurd hb (Nat.not_lt_zero _)⟩
      | succ b ih =>
        intro hb
        obtain ⟨k1, k2, k3⟩ := ih (by omega)
        refine ⟨hI n a b _ (by omega) ha (by omega) k1, fun i a' b' q => hk _ _ _ _ _ _ _ (by omega) ha (by omega) k1 (k2 i a' b' q), fun b' hb' => ?_⟩
        by_cases e : b' = b
        · subst e; exact hD n a b' _ (by omega) ha (by omega) k1
        · exact hk _ _ _ _ _ _ _ (by omega) ha (by omega) k1 (k3 b' (by omega))
    have h2 : ∀ (o : List St), I o → ∀ a, a ≤ wyX l n → I (mvA l P n o a) ∧ (∀ i a' b', D i a' b' o → D i a' b' (mvA l P n o a)) ∧ ∀ a' b', a' < a → b' < wyX l n → D n a' b' (mvA l P n o a) := fun o ho a => by
      induction a with
      | zero => intro _; exact ⟨ho, fun _ _ _ q => q, fun a' b' ha => absurd ha (Nat.not_lt_zero _)⟩
      | succ a ih =>
        intro ha
        obtain ⟨k1, k2, k3⟩ := ih (by omega)
        obtain ⟨j1, j2, j3⟩ := h1 _ a k1 (by omega) _ (Nat.le_refl (wyX l n))
        refine ⟨j1, fun i a' b' q => j2 _ _ _ (k2 i a' b' q), fun a' b' ha' hb' => ?_⟩
        by_cases e : a' = a
        · subst e; exact j3 b' hb'
        · exact j2 _ _ _ (k3 a' b' (by omega) hb')
    obtain ⟨j1, j2, j3⟩ := h2 _ g1 _ (Nat.le_refl (wyX l n))
    refine ⟨j1, fun i a b hi ha hb => ?_⟩
    by_cases e : i = n
    · subst e; exact j3 a b ha hb
    · exact j2 _ _ _ (g2 i a b (by omega) ha hb)
/-- a potential of the capacities -/
def PotX (l : List Pa) (P : List (SliceV Int)) (m : Nat) (π : Nat → Int) : Prop := ∀ i a b, i < m → a < wyX l i → b < wyX l i → mvOn P i a b → π (atX l i b) ≤ π (atX l i a) + mvW l i a b
def AtOk (l : List Pa) (m q : Nat) : Prop := ∀ i k, i < m → k < wyX l i → atX l i k < q
def RelX (l : List Pa) (P : List (SliceV Int)) (i a b : Nat) (o : List St) : Prop := mvOn P i a b → cX o (atX l i a) = FX ∨ cX o (atX l i b) ≤ cX o (atX l i a) + mvW l i a b
theorem mvS_at {i a b v : Nat} {o : List St} (hb : atX l i b < o.length) : cX (mvS l P i a b o) v = if (mvOn P i a b ∧ cX o (atX l i a) < FX ∧ cX o (atX l i a) + mvW l i a b < cX o (atX l i b)) ∧ atX l i b = v then cX o (atX l i a) + mvW l i a b else cX o v := by
  unfold mvS
  by_cases q : mvOn P i a b ∧ cX o (atX l i a) < FX ∧ cX o (atX l i a) + mvW l i a b < cX o (atX l i b)
  · rw [if_pos q]
    unfold cX
    rw [nth_set hb]
    by_cases e : atX l i b = v
    · rw [if_pos e, if_pos ⟨q, e⟩]
    · rw [if_neg e, if_neg (fun z => e z.2)]
  · rw [if_neg q, if_neg (fun z => q z.1)]
theorem mvS_len {i a b : Nat} {o : List St} : (mvS l P i a b o).length = o.length := by unfold mvS; split <;> simp
theorem mvS_le {i a b v : Nat} {o : List St} (hb : atX l i b < o.length) : cX (mvS l P i a b o) v ≤ cX o v := by
  rw [mvS_at hb]
  split
  · rename_i q; rw [← q.2]; omega
  · exact Int.le_refl _
def LEX (π : Nat → Int) (o : List St) (a v : Nat) : Prop := cX o v = FX ∨ (cX o a ≠ FX ∧ cX o a - π a ≤ cX o v - π v)
theorem LEX.total {π : Nat → Int} {o : List St} (a v : Nat) : LEX π o a v ∨ LEX π o v a := by
  unfold LEX
  by_cases h1 : cX o v = FX
  · exact .inl (.inl h1)
  · by_cases h2 : cX o a = FX
    · exact .inr (.inl h2)
    · rcases Int.le_total (cX o a - π a) (cX o v - π v) with h | h
      · exact .inl (.inr ⟨h2, h⟩)
      · exact .inr (.inr ⟨h1, h⟩)
theorem LEX.trans {π : Nat → Int} {o : List St} {a b v : Nat} (h1 : LEX π o a b) (h2 : LEX π o b v) : LEX π o a v := by
  unfold LEX at *
  rcases h2 with h | ⟨h3, h4⟩
  · exact .inl h
  · rcases h1 with h | ⟨h5, h6⟩
    · exact absurd h h3
    · exact .inr ⟨h5, by omega⟩
theorem leastX {π : Nat → Int} {o : List St} : ∀ (U : List Nat), U ≠ [] → ∃ u ∈ U, ∀ v ∈ U, LEX π o u v
  | [], h => absurd rfl h
  | [x], _ => ⟨x, by simp, fun v hv => by
    obtain rfl := List.mem_singleton.1 hv
    exact (LEX.total v v).elim id id⟩
  | x :: y :: r, _ => by
    obtain ⟨u, hu, hm⟩ := leastX (π := π) (o := o) (y :: r) (by simp)
    rcases LEX.total (π := π) (o := o) x u with h | h
    · refine ⟨x, by simp, fun v hv => ?_⟩
      rcases List.mem_cons.1 hv with rfl | hv
      · exact (LEX.total v v).elim id id
      · exact h.trans (hm v hv)
    · refine ⟨u, List.mem_cons_of_mem _ hu, fun v hv => ?_⟩
      rcases List.mem_cons.1 hv with rfl | hv
      · exact h
      · exact hm v hv
structure SetX (l : List Pa) (P : List (SliceV Int)) (m q : Nat) (π : Nat → Int) (U : List Nat) (o : List St) : Prop where
  ord : ∀ a, a < q → a ∉ U → ∀ v, v ∈ U → LEX π o a v
  rel : ∀ i a b, i < m → a < wyX l i → b < wyX l i → atX l i a ∉ U → RelX l P i a b o
structure MidX (q : Nat) (π : Nat → Int) (U : List Nat) (u : Nat) (o0 o : List St) : Prop where
  len : o.length = q
  same : ∀ a, a < q → (a ∉ U ∨ a = u) → cX o a = cX o0 a
  low : ∀ v, v < q → v ∈ U → cX o v = FX ∨ (cX o0 u ≠ FX ∧ cX o0 u - π u ≤ cX o v - π v)
  le : ∀ v, cX o v ≤ cX o0 v
theorem mid_stepX {q : Nat} {π : Nat → Int} {U : List Nat} {u : Nat} {o0 o : List St} (hA : AtOk l m q) (hP : PotX l P m π) (hS : SetX l P m q π U o0) (huU : u ∈ U) (hu : u < q) {i a b : Nat} (hi : i < m) (ha : a < wyX l i) (hb : b < wyX l i) (h : MidX q π U u o0 o) : MidX q π U u o0 (mvS l P i a b o) := by
  have hx := hA i a hi ha
  have hy := hA i b hi hb
  have hc := fun v => mvS_at (l := l) (P := P) (i := i) (a := a) (b := b) (v := v) (o := o) (by rw [h.len]; exact hy)
  by_cases hf : mvOn P i a b ∧ cX o (atX l i a) < FX ∧ cX o (atX l i a) + mvW l i a b < cX o (atX l i b)
  · obtain ⟨h1, h2, h3⟩ := hf
    have hp := hP i a b hi ha hb h1
    -- the end is one of the others
    have key : atX l i a ∉ U → False := fun hxU => by
      have e1 := h.same _ hx (.inl hxU)
      have e2 := h.le (atX l i b)
      rcases hS.rel i a b hi ha hb hxU h1 with q1 | q1
      · omega
      · omega
    have hxU : atX l i a ∈ U := Decidable.byContradiction fun z => key z
    have hlx := (h.low _ hx hxU).resolve_left (by omega)
    have hyU : atX l i b ∈ U := Decidable.byContradiction fun z => by
      have e1 := h.same _ hy (.inl z)
      rcases hS.ord _ hy z u huU with q1 | ⟨q1, q2⟩
      · exact hlx.1 q1
      · omega
    have hyu : atX l i b ≠ u := fun z => by
      have e1 := h.same u hu (.inr rfl)
      rw [z] at h3 hp
      omega
    refine ⟨by rw [mvS_len, h.len], fun v hv hvU => ?_, fun v hv hvU => ?_, fun v => Int.le_trans (mvS_le (by rw [h.len]; exact hy)) (h.le v)⟩
    · rw [hc, if_neg]
      · exact h.same v hv hvU
      · rintro ⟨_, e⟩
        rcases hvU with z | z
        · exact z (e ▸ hyU)
        · exact hyu (e.trans z)
    · rw [hc]
      split
      · rename_i q1
        refine .inr ⟨hlx.1, ?_⟩
        rw [← q1.2]; omega
      · exact h.low v hv hvU
  · have e : mvS l P i a b o = o := by unfold mvS; rw [if_neg hf]
    rw [e]; exact h
theorem settleX {q : Nat} {π : Nat → Int} {U : List Nat} {o0 : List St} (hA : AtOk l m q) (hP : PotX l P m π) (hl : o0.length = q) (hup : ∀ v, v < q → cX o0 v ≤ FX) (hS : SetX l P m q π U o0) (hU : ∀ v ∈ U, v < q) (hne : U ≠ []) : ∃ u ∈ U, SetX l P m q π (U.filter (· ≠ u)) (mvI l P o0 m) := by
  obtain ⟨u, huU, hmin⟩ := leastX (π := π) (o := o0) U hne
  have hu := hU u huU
  have h0 : MidX q π U u o0 o0 := ⟨hl, fun _ _ _ => rfl, fun v hv hvU => (hmin v hvU).imp id id, fun v => Int.le_refl _⟩
  obtain ⟨hM, hD⟩ := mvI_all (l := l) (P := P) (m := m) (I := MidX q π U u o0) (D := fun i a b o => atX l i a = u → RelX l P i a b o)
    (fun i a b o hi ha hb h => mid_stepX hA hP hS huU hu hi ha hb h)
    (fun i a b o hi ha hb h hau hon => by
      have h2 := mid_stepX hA hP hS huU hu hi ha hb h
      have e1 := h2.same u hu (.inr rfl)
      have e2 := h.same u hu (.inr rfl)
      have hbl : atX l i b < o.length := by rw [h.len]; exact hA i b hi hb
      rw [hau, e1]
      by_cases hF : cX o0 u = FX
      · exact .inl hF
      · have hlt : cX o0 u < FX := by have := hup u hu; omega
        right
        rw [mvS_at hbl]
        split
        · rw [hau, e2]; exact Int.le_refl _
        · rename_i q1
          rw [hau, e2] at q1
          have : ¬ (cX o0 u + mvW l i a b < cX o (atX l i b)) := fun z => q1 ⟨⟨hon, hlt, z⟩, rfl⟩
          omega)
    (fun i a b i' a' b' o hi' ha' hb' h hd hau hon => by
      have h2 := mid_stepX hA hP hS huU hu hi' ha' hb' h
      have e1 := h2.same u hu (.inr rfl)
      have e2 := h.same u hu (.inr rfl)
      have hle := mvS_le (l := l) (P := P) (i := i') (a := a') (b := b') (v := atX l i b) (o := o) (by rw [h.len]; exact hA i' b' hi' hb')
      rcases hd hau hon with q1 | q1
      · left; rw [hau] at q1 ⊢; rw [e1, ← e2]; exact q1
      · right
        rw [hau] at q1 ⊢
        omega) h0 m (Nat.le_refl _)
  have hsu := hM.same u hu (.inr rfl)
  refine ⟨u, huU, fun a ha haU v hvU => ?_, fun i a b hi ha hb haU => ?_⟩
  · have hv2 := List.mem_filter.1 hvU
    rcases hM.low v (hU v hv2.1) hv2.1 with z | ⟨z1, z2⟩
    · exact .inl z
    · by_cases e : a = u
      · subst e
        exact .inr ⟨by rw [hsu]; exact z1, by rw [hsu]; exact z2⟩
      · have haU' : a ∉ U := fun z => haU (List.mem_filter.2 ⟨z, by simpa using e⟩)
        have hsa := hM.same a ha (.inl haU')
        have h3 := (hS.ord a ha haU' u huU).resolve_left z1
        exact .inr ⟨by rw [hsa]; exact h3.1, by rw [hsa]; omega⟩
  · by_cases e : atX l i a = u
    · exact hD i a b hi ha hb e
    · have haU' : atX l i a ∉ U := fun z => haU (List.mem_filter.2 ⟨z, by simpa using e⟩)
      have hsa := hM.same _ (hA i a hi ha) (.inl haU')
      intro hon
      rcases hS.rel i a b hi ha hb haU' hon with z | z
      · left; rw [hsa]; exact z
      · right; rw [hsa]; exact Int.le_trans (hM.le _) z
theorem mvI_len {o : List St} : ∀ i, (mvI l P o i).length = o.length := fun i => by
  exact mvI_keep (m := i) (I := fun o' => o'.length = o.length) (fun _ _ _ _ _ _ _ h => by rw [mvS_len]; exact h) rfl i (Nat.le_refl _)
theorem mvI_up {q : Nat} (hA : AtOk l m q) {o : List St} (hl : o.length = q) (h : ∀ v, v < q → cX o v ≤ FX) : ∀ v, v < q → cX (mvI l P o m) v ≤ FX :=
  (mvI_keep (m := m) (I := fun o' => o'.length = q ∧ ∀ v, v < q → cX o' v ≤ FX) (fun i a b o' hi ha hb h' => ⟨by rw [mvS_len]; exact h'.1, fun v hv => Int.le_trans (mvS_le (by rw [h'.1]; exact hA i b hi hb)) (h'.2 v hv)⟩) ⟨hl, h⟩ m (Nat.le_refl _)).2
theorem filter_ltX {U : List Nat} {u : Nat} (h : u ∈ U) : (U.filter (· ≠ u)).length < U.length := filter_lt h
/-- as many sweeps as there are capacities settle all -/
theorem settledX {q : Nat} {π : Nat → Int} (hA : AtOk l m q) (hP : PotX l P m π) : ∀ (k : Nat) (U : List Nat) (o : List St), o.length = q → (∀ v, v < q → cX o v ≤ FX) → SetX l P m q π U o → (∀ v ∈ U, v < q) → U.length ≤ k → ∀ i a b, i < m → a < wyX l i → b < wyX l i → RelX l P i a b (mvR l P m o k)
  | 0, U, o, hl, hup, hS, hU, hk, i, a, b, hi, ha, hb => by
    have : U = [] := List.length_eq_zero_iff.1 (by omega)
    subst this
    exact hS.rel i a b hi ha hb (by simp)
  | k + 1, U, o, hl, hup, hS, hU, hk, i, a, b, hi, ha, hb => by
    -- one sweep first, then the rest
    have hR : ∀ n, mvR l P m o (n + 1) = mvR l P m (mvI l P o m) n := fun n => by
      induction n with
      | zero => rfl
      | succ n ih => rw [mvR, ih, mvR]
    rw [hR]
    have hl2 : (mvI l P o m).length = q := by rw [mvI_len, hl]
    have hup2 := mvI_up (P := P) hA hl hup
    by_cases hne : U = []
    · subst hne
      refine settledX hA hP k [] _ hl2 hup2 ?_ (by simp) (Nat.zero_le _) i a b hi ha hb
      have h0 : ∀ v, cX (mvI l P o m) v = cX o v ∧ (mvI l P o m) = o := fun v => by
        have e : mvI l P o m = o := mvI_keep (m := m) (I := fun o' => o' = o) (fun i a b o' hi ha hb h' => by
          subst h'
          unfold mvS
          rw [if_neg]
          rintro ⟨z1, z2, z3⟩
          rcases hS.rel i a b hi ha hb (by simp) z1 with z | z <;> omega) rfl m (Nat.le_refl _)
        rw [e]; exact ⟨rfl, rfl⟩
      rw [(h0 0).2]; exact hS
    · obtain ⟨u, huU, hS2⟩ := settleX hA hP hl hup hS hU hne
      have hlt := filter_ltX huU
      exact settledX hA hP k (U.filter (· ≠ u)) _ hl2 hup2 hS2 (fun v hv => hU v (List.mem_filter.1 hv).1) (by omega) i a b hi ha hb
end
end Go.Proofs.Ytngkbnaehkailaa

/-
  What stands before each capacity in the reference's reach. Plain Lean.
-/
namespace Go.Proofs.Ytngkbnaehkailaa
open Go Go.RowKit Eng
set_option linter.unusedVariables false
set_option linter.unusedSimpArgs false
def sdW (l : List Pa) (i k : Nat) : Int := (nth l i).2.1 * dlX l i k
def sdS (l : List Pa) (i k : Nat) (o : List St) : List St := if sdW l i k < cX o (atX l i k) then o.set (atX l i k) (sdW l i k, (i : Int), (k : Int), -1) else o
def sdK (l : List Pa) (i : Nat) (o : List St) : Nat → List St
  | 0 => o
  | k + 1 => sdS l i k (sdK l i o k)
def sdI (l : List Pa) (lf : Nat → Int) (o : List St) : Nat → List St
  | 0 => o
  | i + 1 => if 0 < lf i then sdK l i (sdI l lf o i) (wyX l i) else sdI l lf o i
def rch0 (q : Nat) : List St := List.replicate q (FX, 0, 0, 0)
def rchX (l : List Pa) (P : List (SliceV Int)) (m q : Nat) (lf : Nat → Int) : List St := mvR l P m (sdI l lf (rch0 q) m) q
section
variable {l : List Pa} {P : List (SliceV Int)} {m q : Nat} {lf : Nat → Int} {π : Nat → Int}
def PotS (l : List Pa) (lf : Nat → Int) (m : Nat) (π : Nat → Int) : Prop := ∀ i k, i < m → k < wyX l i → 0 < lf i → π (atX l i k) ≤ sdW l i k
/-- the seed of a capacity -/
def SeedX (l : List Pa) (lf : Nat → Int) (m : Nat) (o : List St) (v : Nat) : Prop := ∃ i k, i < m ∧ k < wyX l i ∧ 0 < lf i ∧ atX l i k = v ∧ nth o v = (sdW l i k, (i : Int), (k : Int), -1)
def MoveX (l : List Pa) (P : List (SliceV Int)) (m : Nat) (T : Nat → Nat) (o : List St) (v : Nat) : Prop := ∃ i a b, i < m ∧ a < wyX l i ∧ b < wyX l i ∧ mvOn P i a b ∧ atX l i b = v ∧ (nth o v).2 = ((i : Int), (b : Int), (a : Int)) ∧ cX o (atX l i a) ≠ FX ∧ cX o (atX l i a) + mvW l i a b ≤ cX o v ∧ (cX o (atX l i a) + mvW l i a b = cX o v → T (atX l i a) < T v)
structure PrdX (l : List Pa) (P : List (SliceV Int)) (m q : Nat) (lf : Nat → Int) (π : Nat → Int) (T : Nat → Nat) (o : List St) : Prop where
  len : o.length = q
  up : ∀ v, v < q → cX o v ≤ FX
  low : ∀ v, v < q → cX o v = FX ∨ π v ≤ cX o v
  pre : ∀ v, v < q → cX o v ≠ FX → SeedX l lf m o v ∨ MoveX l P m T o v
theorem prd_set {T T' : Nat → Nat} {o : List St} {y : Nat} {x : St} (h : PrdX l P m q lf π T o) (hy : y < q) (hlt : x.1 < cX o y) (hπ : π y ≤ x.1) (hT : ∀ v, v ≠ y → T' v = T v) (hn : SeedX l lf m (o.set y x) y ∨ MoveX l P m T' (o.set y x) y) (hself : ∀ i a b, i < m → a < wyX l i → b < wyX l i → mvOn P i a b → atX l i a = atX l i b → 0 ≤ mvW l i a b) : PrdX l P m q lf π T' (o.set y x) := by
  have hyl : y < o.length := by rw [h.len]; exact hy
  have hc : ∀ v, nth (o.set y x) v = if y = v then x else nth o v := fun v => nth_set hyl
  have hcc : ∀ v, cX (o.set y x) v = if y = v then x.1 else cX o v := fun v => by unfold cX; rw [hc]; split <;> rfl
  have hup := h.up y hy
  refine ⟨by rw [List.length_set, h.len], fun v hv => ?_, fun v hv => ?_, fun v hv hvf => ?_⟩
  · rw [hcc]; split
    · omega
    · exact h.up v hv
  · rw [hcc]; split
    · rename_i e; subst e; exact .inr hπ
    · exact h.low v hv
  · by_cases e : y = v
    · subst e; exact hn
    · rw [hcc, if_neg e] at hvf
      rcases h.pre v hv hvf with ⟨i, k, h1, h2, h3, h4, h5⟩ | ⟨i, a, b, h1, h2, h3, h4, h5, h6, h7, h8, h9⟩
      · exact .inl ⟨i, k, h1, h2, h3, h4, by rw [hc, if_neg e]; exact h5⟩
      · right
        by_cases ea : y = atX l i a
        · refine ⟨i, a, b, h1, h2, h3, h4, h5, by rw [hc, if_neg e]; exact h6, by rw [hcc, if_pos ea]; omega, ?_, fun q1 => ?_⟩
          · rw [hcc, hcc, if_pos ea, if_neg e]; rw [← ea] at h8; omega
          · rw [hcc, hcc, if_pos ea, if_neg e] at q1; rw [← ea] at h8; omega
        · refine ⟨i, a, b, h1, h2, h3, h4, h5, by rw [hc, if_neg e]; exact h6, by rw [hcc, if_neg ea]; exact h7, ?_, fun q1 => ?_⟩
          · rw [hcc, hcc, if_neg ea, if_neg e]; exact h8
          · rw [hcc, hcc, if_neg ea, if_neg e] at q1
            rw [hT _ (fun z => ea z.symm), hT _ (fun z => e z.symm)]
            exact h9 q1
def PrdE_ (l : List Pa) (P : List (SliceV Int)) (m q : Nat) (lf : Nat → Int) (π : Nat → Int) (o : List St) : Prop := ∃ T, PrdX l P m q lf π T o
theorem self_pot (hP : PotX l P m π) : ∀ i a b, i < m → a < wyX l i → b < wyX l i → mvOn P i a b → atX l i a = atX l i b → 0 ≤ mvW l i a b := fun i a b hi ha hb hon e => by
  have := hP i a b hi ha hb hon
  rw [e] at this; omega
theorem prd_mv (hA : AtOk l m q) (hP : PotX l P m π) {i a b : Nat} {o : List St} (hi : i < m) (ha : a < wyX l i) (hb : b < wyX l i) (h : PrdE_ l P m q lf π o) : PrdE_ l P m q lf π (mvS l P i a b o) := by
  unfold mvS
  by_cases hf : mvOn P i a b ∧ cX o (atX l i a) < FX ∧ cX o (atX l i a) + mvW l i a b < cX o (atX l i b)
  · rw [if_pos hf]
    obtain ⟨h1, h2, h3⟩ := hf
    obtain ⟨T, h⟩ := h
    have hx := hA i a hi ha
    have hy := hA i b hi hb
    have hne : atX l i b ≠ atX l i a := fun e => by
      have := self_pot hP i a b hi ha hb h1 e.symm
      rw [e] at h3; omega
    have hyl : atX l i b < o.length := by rw [h.len]; exact hy
    have hlo := (h.low _ hx).resolve_left (by omega)
    have hp := hP i a b hi ha hb h1
    refine ⟨fun v => if v = atX l i b then T (atX l i a) + 1 else T v, prd_set h hy h3 (by dsimp only; omega) (fun v hv => if_neg hv) (.inr ?_) (self_pot hP)⟩
    have hc : ∀ v, nth (o.set (atX l i b) (cX o (atX l i a) + mvW l i a b, (i : Int), (b : Int), (a : Int))) v = if atX l i b = v then (cX o (atX l i a) + mvW l i a b, (i : Int), (b : Int), (a : Int)) else nth o v := fun v => nth_set hyl
    refine ⟨i, a, b, hi, ha, hb, h1, rfl, by rw [hc, if_pos rfl], ?_, ?_, fun _ => ?_⟩
    · show (nth (o.set (atX l i b) (cX o (atX l i a) + mvW l i a b, (i : Int), (b : Int), (a : Int))) (atX l i a)).1 ≠ FX
      rw [hc, if_neg hne]; exact Int.ne_of_lt h2
    · show (nth (o.set (atX l i b) (cX o (atX l i a) + mvW l i a b, (i : Int), (b : Int), (a : Int))) (atX l i a)).1 + mvW l i a b ≤ (nth (o.set (atX l i b) (cX o (atX l i a) + mvW l i a b, (i : Int), (b : Int), (a : Int))) (atX l i b)).1
      rw [hc, hc, if_neg hne, if_pos rfl]; exact Int.le_refl _
    · show (if atX l i a = atX l i b then T (atX l i a) + 1 else T (atX l i a)) < (if atX l i b = atX l i b then T (atX l i a) + 1 else T (atX l i b))
      rw [if_neg (fun e : atX l i a = atX l i b => hne e.symm), if_pos rfl]; exact Nat.lt_succ_self _
  · rw [if_neg hf]; exact h
theorem prd_sd (hA : AtOk l m q) (hP : PotX l P m π) (hS : PotS l lf m π) {i k : Nat} {o : List St} (hi : i < m) (hk : k < wyX l i) (hlf : 0 < lf i) (h : PrdE_ l P m q lf π o) : PrdE_ l P m q lf π (sdS l i k o) := by
  unfold sdS
  by_cases hf : sdW l i k < cX o (atX l i k)
  · rw [if_pos hf]
    obtain ⟨T, h⟩ := h
    have hy := hA i k hi hk
    have hyl : atX l i k < o.length := by rw [h.len]; exact hy
    refine ⟨T, prd_set h hy hf (hS i k hi hk hlf) (fun v _ => rfl) (.inl ⟨i, k, hi, hk, hlf, rfl, ?_⟩) (self_pot hP)⟩
    rw [nth_set hyl, if_pos rfl]
  · rw [if_neg hf]; exact h
theorem sdS_at {i k v : Nat} {o : List St} (hk : atX l i k < o.length) : cX (sdS l i k o) v = if sdW l i k < cX o (atX l i k) ∧ atX l i k = v then sdW l i k else cX o v := by
  unfold sdS
  by_cases g : sdW l i k < cX o (atX l i k)
  · rw [if_pos g]; unfold cX; rw [nth_set hk]
    by_cases e : atX l i k = v
    · rw [if_pos e, if_pos ⟨g, e⟩]
    · rw [if_neg e, if_neg (fun z => e z.2)]
  · rw [if_neg g, if_neg (fun z => g z.1)]
theorem sdS_len {i k : Nat} {o : List St} : (sdS l i k o).length = o.length := by unfold sdS; split <;> simp
theorem sdS_le {i k v : Nat} {o : List St} (hk : atX l i k < o.length) : cX (sdS l i k o) v ≤ cX o v ∧ cX (sdS l i k o) (atX l i k) ≤ sdW l i k := by
  rw [sdS_at hk, sdS_at hk]
  constructor
  · split
    · rename_i e; rw [← e.2]; omega
    · exact Int.le_refl _
  · split
    · exact Int.le_refl _
    · rename_i e
      have : ¬ (sdW l i k < cX o (atX l i k)) := fun z => e ⟨z, rfl⟩
      omega
/-- the seeds: what stands before, and that no seed is better -/
theorem sdI_all (hA : AtOk l m q) (hP : PotX l P m π) (hS : PotS l lf m π) {o : List St} (h : PrdE_ l P m q lf π o) (hl : o.length = q) : ∀ n, n ≤ m → PrdE_ l P m q lf π (sdI l lf o n) ∧ (sdI l lf o n).length = q ∧ ∀ i k, i < n → k < wyX l i → 0 < lf i → cX (sdI l lf o n) (atX l i k) ≤ sdW l i k
  | 0, _ => ⟨h, hl, fun i k hi => absurd hi (Nat.not_lt_zero _)⟩
  | n + 1, hn => by
    obtain ⟨g1, g2, g3⟩ := sdI_all hA hP hS h hl n (by omega)
    rw [sdI]
    by_cases hlf : 0 < lf n
    · rw [if_pos hlf]
      have h1 : ∀ k, k ≤ wyX l n → PrdE_ l P m q lf π (sdK l n (sdI l lf o n) k) ∧ (sdK l n (sdI l lf o n) k).length = q ∧ (∀ v, cX (sdK l n (sdI l lf o n) k) v ≤ cX (sdI l lf o n) v) ∧ ∀ k', k' < k → cX (sdK l n (sdI l lf o n) k) (atX l n k') ≤ sdW l n k' := fun k => by
        induction k with
        | zero => intro _; exact ⟨g1, g2, fun v => Int.le_refl _, fun k' hk' => absurd hk' (Nat.not_lt_zero _)⟩
        | succ k ih =>
          intro hk
          obtain ⟨k1, k2, k3, k4⟩ := ih (by omega)
          have hat : atX l n k < (sdK l n (sdI l lf o n) k).length := by rw [k2]; exact hA n k (by omega) (by omega)
          refine ⟨prd_sd hA hP hS (by omega) (by omega) hlf k1, by rw [sdK, sdS_len, k2], fun v => Int.le_trans (sdS_le hat).1 (k3 v), fun k' hk' => ?_⟩
          by_cases e : k' = k
          · subst e; exact (sdS_le (v := 0) hat).2
          · exact Int.le_trans (sdS_le hat).1 (k4 k' (by omega))
      obtain ⟨j1, j2, j3, j4⟩ := h1 _ (Nat.le_refl _)
      refine ⟨j1, j2, fun i k hi hk hlf' => ?_⟩
      by_cases e : i = n
      · subst e; exact j4 k hk
      · exact Int.le_trans (j3 _) (g3 i k (by omega) hk hlf')
    · rw [if_neg hlf]
      exact ⟨g1, g2, fun i k hi hk hlf' => by
        by_cases e : i = n
        · subst e; exact absurd hlf' hlf
        · exact g3 i k (by omega) hk hlf'⟩
theorem prd_rch0 : PrdE_ l P m q lf π (rch0 q) := by
  have hc : ∀ v, v < q → nth (rch0 q) v = (FX, 0, 0, 0) := fun v hv => by
    unfold rch0 nth; rw [List.getD_eq_getElem?_getD, List.getElem?_replicate, if_pos hv]; rfl
  exact ⟨fun _ => 0, by simp [rch0], fun v hv => by unfold cX; rw [hc v hv]; exact Int.le_refl _, fun v hv => by unfold cX; rw [hc v hv]; exact .inl rfl, fun v hv hf => by unfold cX at hf; rw [hc v hv] at hf; exact absurd rfl hf⟩
theorem mvR_keep {I : List St → Prop} (hI : ∀ i a b o, i < m → a < wyX l i → b < wyX l i → I o → I (mvS l P i a b o)) {o : List St} (h : I o) : ∀ n, I (mvR l P m o n)
  | 0 => h
  | n + 1 => mvI_keep hI (mvR_keep hI h n) m (Nat.le_refl _)
/-- what reach leaves -/
structure FndX (l : List Pa) (P : List (SliceV Int)) (m q : Nat) (lf : Nat → Int) (π : Nat → Int) (T : Nat → Nat) (o : List St) : Prop where
  len : o.length = q
  up : ∀ v, v < q → cX o v ≤ FX
  low : ∀ v, v < q → cX o v = FX ∨ π v ≤ cX o v
  pre : ∀ v, v < q → cX o v ≠ FX → SeedX l lf m o v ∨ ∃ i a b, i < m ∧ a < wyX l i ∧ b < wyX l i ∧ mvOn P i a b ∧ atX l i b = v ∧ (nth o v).2 = ((i : Int), (b : Int), (a : Int)) ∧ cX o (atX l i a) ≠ FX ∧ cX o (atX l i a) + mvW l i a b = cX o v ∧ T (atX l i a) < T v
  rel : ∀ i a b, i < m → a < wyX l i → b < wyX l i → RelX l P i a b o
  sd : ∀ i k, i < m → k < wyX l i → 0 < lf i → cX o (atX l i k) ≤ sdW l i k
theorem foundX (hA : AtOk l m q) (hP : PotX l P m π) (hS : PotS l lf m π) : ∃ T, FndX l P m q lf π T (rchX l P m q lf) := by
  obtain ⟨g1, g2, g3⟩ := sdI_all hA hP hS (o := rch0 q) prd_rch0 (by simp [rch0]) m (Nat.le_refl _)
  obtain ⟨T0, h0⟩ := g1
  obtain ⟨T, h⟩ := mvR_keep (l := l) (P := P) (m := m) (I := PrdE_ l P m q lf π) (fun i a b o hi ha hb h => prd_mv hA hP hi ha hb h) ⟨T0, h0⟩ q
  have hrel := settledX (l := l) (P := P) (m := m) hA hP q (List.range q) (sdI l lf (rch0 q) m) g2 h0.up ⟨fun a ha hn => absurd (List.mem_range.2 ha) hn, fun i a b hi ha hb hn => absurd (List.mem_range.2 (hA i a hi ha)) hn⟩ (fun v hv => List.mem_range.1 hv) (by simp)
  have hle : ∀ v, cX (rchX l P m q lf) v ≤ cX (sdI l lf (rch0 q) m) v :=
    (mvR_keep (l := l) (P := P) (m := m) (I := fun o => o.length = q ∧ ∀ v, cX o v ≤ cX (sdI l lf (rch0 q) m) v) (fun i a b o hi ha hb h => ⟨by rw [mvS_len]; exact h.1, fun v => Int.le_trans (mvS_le (by rw [h.1]; exact hA i b hi hb)) (h.2 v)⟩) ⟨g2, fun v => Int.le_refl _⟩ q).2
  refine ⟨T, h.len, h.up, h.low, fun v hv hf => ?_, hrel, fun i k hi hk hlf => Int.le_trans (hle _) (g3 i k hi hk hlf)⟩
  rcases h.pre v hv hf with z | ⟨i, a, b, h1, h2, h3, h4, h5, h6, h7, h8, h9⟩
  · exact .inl z
  · have e : cX (rchX l P m q lf) (atX l i a) + mvW l i a b = cX (rchX l P m q lf) v := by
      rcases hrel i a b h1 h2 h3 h4 with z | z
      · exact absurd z h7
      · rw [h5] at z
        have z' : cX (rchX l P m q lf) v ≤ cX (rchX l P m q lf) (atX l i a) + mvW l i a b := z
        have h8' : cX (rchX l P m q lf) (atX l i a) + mvW l i a b ≤ cX (rchX l P m q lf) v := h8
        omega
    exact .inr ⟨i, a, b, h1, h2, h3, h4, h5, h6, h7, e, h9 e⟩
end
end Go.Proofs.Ytngkbnaehkailaa

/-
  Plans, number by number: sums of parties, use of capacities, one number changed. Plain Lean.
-/
namespace Go.Proofs.Ytngkbnaehkailaa
open Go Go.RowKit Eng
set_option linter.unusedVariables false
set_option linter.unusedSimpArgs false
def addP (P : List (SliceV Int)) (i k : Nat) (y : Int) : List (SliceV Int) := P.set i ⟨(nth P i).ao, (nth P i).cap, (nth P i).l.set k (nth (nth P i).l k + y)⟩
def rsN (p : List Int) : Nat → Int
  | 0 => 0
  | j + 1 => rsN p j + nth p j
def ruK (l : List Pa) (P : List (SliceV Int)) (i v : Nat) : Nat → Int
  | 0 => 0
  | k + 1 => ruK l P i v k + if atX l i k = v then pX P i k else 0
def ruI (l : List Pa) (P : List (SliceV Int)) (v : Nat) : Nat → Int
  | 0 => 0
  | i + 1 => ruI l P v i + ruK l P i v (wyX l i)
structure ShX (l : List Pa) (P : List (SliceV Int)) (m : Nat) : Prop where
  len : P.length = m
  row : ∀ i, i < m → (nth P i).l.length = wyX l i
section
variable {l : List Pa} {P : List (SliceV Int)} {m q i k : Nat} {y : Int}
theorem addP_row (hi : i < P.length) (i' : Nat) : (nth (addP P i k y) i').l = if i = i' then (nth P i).l.set k (nth (nth P i).l k + y) else (nth P i').l := by
  unfold addP
  rw [nth_set hi]
  split <;> rfl
theorem addP_at (hi : i < P.length) (hk : k < (nth P i).l.length) (i' k' : Nat) : pX (addP P i k y) i' k' = if i = i' ∧ k = k' then pX P i k + y else pX P i' k' := by
  unfold pX
  rw [addP_row hi]
  by_cases e : i = i'
  · subst e
    rw [if_pos rfl, nth_set hk]
    by_cases e2 : k = k'
    · rw [if_pos e2, if_pos ⟨rfl, e2⟩]
    · rw [if_neg e2, if_neg (fun z => e2 z.2)]
  · rw [if_neg e, if_neg (fun z => e z.1)]
theorem ShX.add (h : ShX l P m) (hi : i < m) : ShX l (addP P i k y) m := by
  refine ⟨by unfold addP; rw [List.length_set]; exact h.len, fun i' hi' => ?_⟩
  rw [addP_row (by rw [h.len]; exact hi)]
  split
  · rename_i e; subst e; rw [List.length_set]; exact h.row _ hi
  · exact h.row i' hi'
theorem rsN_set {p : List Int} {k : Nat} {y : Int} (hk : k < p.length) : ∀ n, rsN (p.set k (nth p k + y)) n = rsN p n + if k < n then y else 0
  | 0 => by simp [rsN]
  | n + 1 => by
    rw [rsN, rsN, rsN_set hk n, nth_set hk]
    by_cases e : k = n
    · subst e
      rw [if_pos rfl, if_neg (Nat.lt_irrefl _), if_pos (Nat.lt_succ_self _)]; omega
    · rw [if_neg e]
      by_cases e2 : k < n
      · rw [if_pos e2, if_pos (show k < n + 1 by omega)]; omega
      · rw [if_neg e2, if_neg (show ¬ k < n + 1 by omega)]; omega
def rsX (l : List Pa) (P : List (SliceV Int)) (i : Nat) : Int := rsN (nth P i).l (wyX l i)
theorem rsX_add (h : ShX l P m) (hi : i < m) (hk : k < wyX l i) (i' : Nat) : rsX l (addP P i k y) i' = rsX l P i' + if i = i' then y else 0 := by
  unfold rsX
  rw [addP_row (by rw [h.len]; exact hi)]
  by_cases e : i = i'
  · subst e
    rw [if_pos rfl, if_pos rfl, rsN_set (by rw [h.row _ hi]; exact hk), if_pos hk]
  · rw [if_neg e, if_neg e]; omega
theorem ruK_add (h : ShX l P m) (hi : i < m) (hk : k < wyX l i) (i' v : Nat) : ∀ n, ruK l (addP P i k y) i' v n = ruK l P i' v n + if (i = i' ∧ k < n) ∧ atX l i k = v then y else 0
  | 0 => by simp [ruK]
  | n + 1 => by
    rw [ruK, ruK, ruK_add h hi hk i' v n, addP_at (by rw [h.len]; exact hi) (by rw [h.row _ hi]; exact hk)]
    have a1 : k < n + 1 ↔ (k < n ∨ k = n) := by omega
    by_cases e : i = i'
    · subst e
      by_cases e2 : k = n
      · subst e2
        by_cases e3 : atX l i k = v
        · simp [e3]; omega
        · simp [e3]
      · by_cases e4 : atX l i n = v
        · by_cases e3 : k < n ∧ atX l i k = v
          · simp [e2, e3, e4, a1]; omega
          · have e5 : ¬ ((k < n ∨ k = n) ∧ atX l i k = v) := fun z => e3 ⟨z.1.resolve_right e2, z.2⟩
            simp [e2, e3, e4, a1]
            try omega
        · by_cases e3 : k < n ∧ atX l i k = v
          · simp [e2, e3, e4, a1]
          · simp [e2, e3, e4, a1]
    · simp [e]
theorem ruI_add (h : ShX l P m) (hi : i < m) (hk : k < wyX l i) (v : Nat) : ∀ n, ruI l (addP P i k y) v n = ruI l P v n + if i < n ∧ atX l i k = v then y else 0
  | 0 => by simp [ruI]
  | n + 1 => by
    rw [ruI, ruI, ruI_add h hi hk v n, ruK_add h hi hk]
    by_cases e3 : atX l i k = v
    · by_cases e : i = n
      · subst e
        rw [if_neg (fun z => Nat.lt_irrefl _ z.1), if_pos ⟨⟨rfl, hk⟩, e3⟩, if_pos ⟨Nat.lt_succ_self _, e3⟩]; omega
      · rw [if_neg (show ¬ ((i = n ∧ k < wyX l n) ∧ atX l i k = v) from fun z => e z.1.1)]
        by_cases e2 : i < n
        · rw [if_pos ⟨e2, e3⟩, if_pos ⟨by omega, e3⟩]; omega
        · rw [if_neg (fun z => e2 z.1), if_neg (fun z => e2 (by have := z.1; omega))]; omega
    · rw [if_neg (fun z => e3 z.2), if_neg (fun z => e3 z.2), if_neg (fun z => e3 z.2)]; omega
/-- a plan that fits, in raw numbers -/
structure RawOk (l : List Pa) (c : List Int) (P : List (SliceV Int)) : Prop where
  sh : ShX l P l.length
  nn : ∀ i, i < l.length → ∀ k, k < wyX l i → 0 ≤ pX P i k
  sum : ∀ i, i < l.length → rsX l P i ≤ (nth l i).1
  use : ∀ v, v < c.length → ruI l P v l.length ≤ nth c v
theorem rsN_ge {p : List Int} : ∀ n, (∀ j, j < n → 0 ≤ nth p j) → 0 ≤ rsN p n ∧ ∀ j, j < n → nth p j ≤ rsN p n
  | 0, _ => ⟨Int.le_refl _, fun j hj => absurd hj (Nat.not_lt_zero _)⟩
  | n + 1, h => by
    have ih := rsN_ge n (fun j hj => h j (by omega))
    have hn := h n (by omega)
    rw [rsN]
    refine ⟨by omega, fun j hj => ?_⟩
    by_cases e : j = n
    · subst e; omega
    · have := ih.2 j (by omega); omega
theorem RawOk.num {c : List Int} (h : RawOk l c P) (hi : i < l.length) (hk : k < wyX l i) : 0 ≤ pX P i k ∧ pX P i k ≤ (nth l i).1 := by
  have h1 := (rsN_ge (p := (nth P i).l) (wyX l i) (fun j hj => h.nn i hi j hj)).2 k hk
  exact ⟨h.nn i hi k hk, Int.le_trans h1 (h.sum i hi)⟩
theorem RawOk.pn {c : List Int} (h : RawOk l c P) (hi : i < l.length) (hk : k < wyX l i) : pn (nth l i) (nth P i).l k = pX P i k := by
  have := h.num hi hk
  unfold Go.Proofs.Ytngkbnaehkailaa.pn
  unfold pX at *
  omega
theorem RawOk.sumIn {c : List Int} (h : RawOk l c P) (hi : i < l.length) : ∀ n, n ≤ wyX l i → sumIn (nth l i) (nth P i).l n = rsN (nth P i).l n
  | 0, _ => rfl
  | n + 1, hn => by
    rw [Go.Proofs.Ytngkbnaehkailaa.sumIn, rsN, RawOk.sumIn h hi n (by omega), h.pn hi (by omega)]; rfl
theorem useIn_raw {c : List Int} (h : RawOk l c P) (hok : PaOk l c) (hi : i < l.length) {u : List Int} (hu : u.length = c.length) {v : Nat} (hv : v < c.length) : ∀ n, n ≤ wyX l i → nth (useIn (nth l i) (nth P i).l u n) v = nth u v + ruK l P i v n
  | 0, _ => by simp [useIn, ruK]
  | n + 1, hn => by
    have hw := hok.way i hi n (by unfold wyX at hn; omega)
    rw [useIn, addAt_get (by rw [useIn_len, hu]; omega) (by rw [useIn_len, hu]; exact hv), useIn_raw h hok hi hu hv n (by omega), ruK, h.pn hi (by omega)]
    by_cases e : v = (nth (nth l i).2.2.l n).1.toNat
    · rw [if_pos e, if_pos (show atX l i n = v from e.symm)]; omega
    · rw [if_neg e, if_neg (show ¬ atX l i n = v from fun z => e z.symm)]; omega
theorem useO_raw {c : List Int} (h : RawOk l c P) (hok : PaOk l c) {v : Nat} (hv : v < c.length) : ∀ n, n ≤ l.length → nth (useO c.length l P n) v = ruI l P v n
  | 0, _ => by rw [useO, ruI, nth_rep hv]
  | n + 1, hn => by
    rw [useO, ruI, show (nth l n).2.2.l.length = wyX l n from rfl, useIn_raw h hok (by omega) (useO_len n) hv _ (Nat.le_refl _), useO_raw h hok hv n (by omega)]
theorem RawOk.plan {c : List Int} (h : RawOk l c P) (hok : PaOk l c) : PlanOk l c P :=
  ⟨h.sh.len, fun i hi => h.sh.row i hi, fun i hi j hj => h.nn i hi j hj, fun i hi => by rw [show (nth l i).2.2.l.length = wyX l i from rfl, h.sumIn hi _ (Nat.le_refl _)]; exact h.sum i hi, fun t ht => by rw [useO_raw h hok ht _ (Nat.le_refl _)]; exact h.use t ht⟩
end
end Go.Proofs.Ytngkbnaehkailaa

/-
  One more passenger: the way of changes is traced back, the plan changes number by number. Plain Lean.
-/
namespace Go.Proofs.Ytngkbnaehkailaa
open Go Go.RowKit Eng
set_option linter.unusedVariables false
set_option linter.unusedSimpArgs false
/-- prices of the parties, the capacities and the end (the begin's is 0) -/
structure PPot (l : List Pa) (c : List Int) (P : List (SliceV Int)) (πT : Int) (πi πv : Nat → Int) : Prop where
  si : ∀ i, i < l.length → rsX l P i < (nth l i).1 → πi i ≤ 0
  is : ∀ i, i < l.length → 0 < rsX l P i → 0 ≤ πi i
  iv : ∀ i k, i < l.length → k < wyX l i → pX P i k < (nth l i).1 → πv (atX l i k) ≤ πi i + sdW l i k
  vi : ∀ i k, i < l.length → k < wyX l i → 0 < pX P i k → πi i ≤ πv (atX l i k) - sdW l i k
  vt : ∀ v, v < c.length → ruI l P v l.length < nth c v → πT ≤ πv v
  tv : ∀ v, v < c.length → 0 < ruI l P v l.length → πv v ≤ πT
def lfX (l : List Pa) (P : List (SliceV Int)) (i : Nat) : Int := (nth l i).1 - rsX l P i
theorem mvW_eq {l : List Pa} {i a b : Nat} : mvW l i a b = sdW l i b - sdW l i a := by unfold mvW sdW; rw [Int.mul_sub]
theorem two_le {p : List Int} {a b : Nat} (hab : a ≠ b) : ∀ n, (∀ j, j < n → 0 ≤ nth p j) → a < n → b < n → nth p a + nth p b ≤ rsN p n
  | 0, _, ha, _ => absurd ha (Nat.not_lt_zero _)
  | n + 1, h, ha, hb => by
    have h1 := rsN_ge n (fun j hj => h j (by omega))
    rw [rsN]
    by_cases e : a = n
    · subst e
      have := h1.2 b (by omega); omega
    · by_cases e2 : b = n
      · subst e2
        have := h1.2 a (by omega); omega
      · have := two_le hab n (fun j hj => h j (by omega)) (by omega) (by omega)
        have := h n (by omega)
        omega
section
variable {l : List Pa} {c : List Int} {P : List (SliceV Int)} {πT : Int} {πi πv : Nat → Int}
theorem RawOk.less (h : RawOk l c P) {i a b : Nat} (hi : i < l.length) (ha : a < wyX l i) (hb : b < wyX l i) (hon : mvOn P i a b) : pX P i b < (nth l i).1 := by
  have h1 := two_le (p := (nth P i).l) hon.2 (wyX l i) (fun j hj => h.nn i hi j hj) ha hb
  have h2 := h.sum i hi
  have h3 := hon.1
  unfold pX at *
  unfold rsX at h2
  omega
theorem PPot.x (hp : PPot l c P πT πi πv) (h : RawOk l c P) : PotX l P l.length πv := fun i a b hi ha hb hon => by
  have h1 := hp.vi i a hi ha hon.1
  have h2 := hp.iv i b hi hb (h.less hi ha hb hon)
  rw [mvW_eq]; omega
theorem PPot.s (hp : PPot l c P πT πi πv) (h : RawOk l c P) : PotS l (lfX l P) l.length πv := fun i k hi hk hlf => by
  unfold lfX at hlf
  have h1 := hp.si i hi (by omega)
  have h3 := (rsN_ge (p := (nth P i).l) (wyX l i) (fun j hj => h.nn i hi j hj)).2 k hk
  have h2 := hp.iv i k hi hk (by unfold pX; unfold rsX at hlf; omega)
  omega
theorem at_ok (hok : PaOk l c) : AtOk l l.length c.length := fun i k hi hk => by
  have := (hok.way i hi k hk).1
  unfold atX; omega
/-- the guards of the trace -/
def trG (l : List Pa) (m q : Nat) (o : List St) (Q : List (SliceV Int)) (x : Int) : Prop :=
  x.toNat < q ∧ (0 ≤ (nth o x.toNat).2.1 ∧ (nth o x.toNat).2.1 < m) ∧ (0 ≤ (nth o x.toNat).2.2.1 ∧ (nth o x.toNat).2.2.1 < wyX l (nth o x.toNat).2.1.toNat) ∧ (nth o x.toNat).2.2.2 < wyX l (nth o x.toNat).2.1.toNat ∧
    (-1000 ≤ pX Q (nth o x.toNat).2.1.toNat (nth o x.toNat).2.2.1.toNat ∧ pX Q (nth o x.toNat).2.1.toNat (nth o x.toNat).2.2.1.toNat ≤ 1000) ∧ (0 ≤ (nth o x.toNat).2.2.2 → (nth o x.toNat).2.2.2.toNat ≠ (nth o x.toNat).2.2.1.toNat ∧ -1000 ≤ pX Q (nth o x.toNat).2.1.toNat (nth o x.toNat).2.2.2.toNat ∧ pX Q (nth o x.toNat).2.1.toNat (nth o x.toNat).2.2.2.toNat ≤ 1000)
instance {l : List Pa} {m q : Nat} {o : List St} {Q : List (SliceV Int)} {x : Int} : Decidable (trG l m q o Q x) := by unfold trG; infer_instance
def trX (l : List Pa) (m q : Nat) (o : List St) : Nat → Int → List (SliceV Int) → Option (List (SliceV Int))
  | 0, _, _ => none
  | K + 1, x, Q => if x < 0 then some Q else if trG l m q o Q x then
      (if 0 ≤ (nth o x.toNat).2.2.2 then trX l m q o K (nth (nth l (nth o x.toNat).2.1.toNat).2.2.l (nth o x.toNat).2.2.2.toNat).1 (addP (addP Q (nth o x.toNat).2.1.toNat (nth o x.toNat).2.2.1.toNat 1) (nth o x.toNat).2.1.toNat (nth o x.toNat).2.2.2.toNat (-1))
       else trX l m q o K (-1) (addP Q (nth o x.toNat).2.1.toNat (nth o x.toNat).2.2.1.toNat 1)) else none
def IncX (l : List Pa) (P : List (SliceV Int)) (o : List St) (πv : Nat → Int) (E : Int) (i k : Nat) : Prop := cX o (atX l i k) ≠ FX ∧ cX o (atX l i k) - πv (atX l i k) ≤ E ∧ ((0 < lfX l P i ∧ cX o (atX l i k) = sdW l i k) ∨ ∃ a, a < wyX l i ∧ mvOn P i a k ∧ cX o (atX l i a) ≠ FX ∧ cX o (atX l i a) + mvW l i a k = cX o (atX l i k))
def DecX (l : List Pa) (P : List (SliceV Int)) (o : List St) (πv : Nat → Int) (E : Int) (i a : Nat) : Prop := ∃ b, b < wyX l i ∧ mvOn P i a b ∧ cX o (atX l i a) ≠ FX ∧ cX o (atX l i b) ≠ FX ∧ cX o (atX l i a) + mvW l i a b = cX o (atX l i b) ∧ cX o (atX l i b) - πv (atX l i b) ≤ E
structure QI (l : List Pa) (c : List Int) (P : List (SliceV Int)) (o : List St) (T : Nat → Nat) (πv : Nat → Int) (E : Int) (best x : Nat) (Q : List (SliceV Int)) : Prop where
  sh : ShX l Q l.length
  xq : x < c.length
  xf : cX o x ≠ FX
  key : cX o x - πv x ≤ E
  dn : ∀ i k, i < l.length → k < wyX l i → T (atX l i k) < T x → pX P i k ≤ pX Q i k
  nn : ∀ i, i < l.length → ∀ k, k < wyX l i → 0 ≤ pX Q i k
  sum : ∀ i, i < l.length → rsX l Q i = rsX l P i
  use : ∀ v, v < c.length → ruI l Q v l.length = ruI l P v l.length + (if best = v then 1 else 0) - (if x = v then 1 else 0)
  inc : ∀ i k, i < l.length → k < wyX l i → pX P i k < pX Q i k → IncX l P o πv E i k
  dec : ∀ i k, i < l.length → k < wyX l i → pX Q i k < pX P i k → DecX l P o πv E i k
structure GI (l : List Pa) (c : List Int) (P : List (SliceV Int)) (o : List St) (πv : Nat → Int) (E : Int) (best i0 : Nat) (G : List (SliceV Int)) : Prop where
  sh : ShX l G l.length
  i0m : i0 < l.length
  lf : 0 < lfX l P i0
  seed : ∃ k, k < wyX l i0 ∧ cX o (atX l i0 k) = sdW l i0 k ∧ cX o (atX l i0 k) - πv (atX l i0 k) ≤ E
  nn : ∀ i, i < l.length → ∀ k, k < wyX l i → 0 ≤ pX G i k
  sum : ∀ i, i < l.length → rsX l G i = rsX l P i + if i0 = i then 1 else 0
  use : ∀ v, v < c.length → ruI l G v l.length = ruI l P v l.length + if best = v then 1 else 0
  inc : ∀ i k, i < l.length → k < wyX l i → pX P i k < pX G i k → IncX l P o πv E i k
  dec : ∀ i k, i < l.length → k < wyX l i → pX G i k < pX P i k → DecX l P o πv E i k
theorem traced_seed {o : List St} {T : Nat → Nat} {E : Int} {best x : Nat} {Q : List (SliceV Int)} (hok : PaOk l c) (hR : RawOk l c P) (h : QI l c P o T πv E best x Q) (hs : SeedX l (lfX l P) l.length o x) (K : Nat) : ∃ G i0, trX l l.length c.length o (K + 2) (x : Int) Q = some G ∧ GI l c P o πv E best i0 G := by
  obtain ⟨i, k, h1, h2, h3, h4, h5⟩ := hs
  have hb := (rsN_ge (p := (nth Q i).l) (wyX l i) (fun j hj => h.nn i h1 j hj)).2 k h2
  have hs := h.sum i h1
  have hs2 := hR.sum i h1
  have hc := hok.cnt i h1
  have hn := h.nn i h1 k h2
  have hil : i < Q.length := by rw [h.sh.len]; exact h1
  have hkl : k < (nth Q i).l.length := by rw [h.sh.row i h1]; exact h2
  refine ⟨addP Q i k 1, i, ?_, h.sh.add h1, h1, h3, ⟨k, h2, by rw [h4]; unfold cX; rw [h5], by rw [h4]; exact h.key⟩, fun i' hi' k' hk' => ?_, fun i' hi' => ?_, fun v hv => ?_, fun i' k' hi' hk' hlt => ?_, fun i' k' hi' hk' hlt => ?_⟩
  · have hg : trG l l.length c.length o Q (x : Int) := by
      unfold trG
      rw [show ((x : Nat) : Int).toNat = x from rfl, h5]
      dsimp only
      rw [show ((i : Nat) : Int).toNat = i from rfl, show ((k : Nat) : Int).toNat = k from rfl]
      unfold rsX at hs hs2
      unfold pX at *
      exact ⟨h.xq, ⟨by omega, by omega⟩, ⟨by omega, by omega⟩, by omega, ⟨by omega, by omega⟩, fun z => by omega⟩
    rw [trX, if_neg (by omega), if_pos hg]
    rw [show ((x : Nat) : Int).toNat = x from rfl, h5]
    dsimp only
    rw [if_neg (by omega), trX, if_pos (by omega)]
    rfl
  · rw [addP_at hil hkl]
    split
    · omega
    · exact h.nn i' hi' k' hk'
  · rw [rsX_add h.sh h1 h2, h.sum i' hi']
  · rw [ruI_add h.sh h1 h2, h.use v hv, h4]
    (repeat' split) <;> omega
  · rw [addP_at hil hkl] at hlt
    by_cases e : i = i' ∧ k = k'
    · obtain ⟨rfl, rfl⟩ := e
      refine ⟨by rw [h4]; exact h.xf, by rw [h4]; exact h.key, .inl ⟨h3, ?_⟩⟩
      rw [h4]; unfold cX; rw [h5]
    · rw [if_neg e] at hlt; exact h.inc i' k' hi' hk' hlt
  · rw [addP_at hil hkl] at hlt
    by_cases e : i = i' ∧ k = k'
    · obtain ⟨rfl, rfl⟩ := e
      rw [if_pos ⟨rfl, rfl⟩] at hlt
      exact h.dec i k h1 h2 (by omega)
    · rw [if_neg e] at hlt; exact h.dec i' k' hi' hk' hlt
theorem traced_move {o : List St} {T : Nat → Nat} {E : Int} {best x : Nat} {Q : List (SliceV Int)} (hok : PaOk l c) (hR : RawOk l c P) (hP : PotX l P l.length πv) (h : QI l c P o T πv E best x Q) {i a b : Nat} (h1 : i < l.length) (h2 : a < wyX l i) (h3 : b < wyX l i) (h4 : mvOn P i a b) (h5 : atX l i b = x) (h6 : (nth o x).2 = ((i : Int), (b : Int), (a : Int))) (h7 : cX o (atX l i a) ≠ FX) (h8 : cX o (atX l i a) + mvW l i a b = cX o x) (h9 : T (atX l i a) < T x) (K : Nat) :
    ∃ Q', trX l l.length c.length o (K + 1) (x : Int) Q = trX l l.length c.length o K ((atX l i a : Nat) : Int) Q' ∧ QI l c P o T πv E best (atX l i a) Q' := by
  have hb := (rsN_ge (p := (nth Q i).l) (wyX l i) (fun j hj => h.nn i h1 j hj)).2 b h3
  have ha := (rsN_ge (p := (nth Q i).l) (wyX l i) (fun j hj => h.nn i h1 j hj)).2 a h2
  have hs := h.sum i h1
  have hs2 := hR.sum i h1
  have hc := hok.cnt i h1
  have hnb := h.nn i h1 b h3
  have hna := h.nn i h1 a h2
  have hil : i < Q.length := by rw [h.sh.len]; exact h1
  have hbl : b < (nth Q i).l.length := by rw [h.sh.row i h1]; exact h3
  have sh1 := h.sh.add (k := b) (y := 1) h1
  have hil2 : i < (addP Q i b 1).length := by rw [sh1.len]; exact h1
  have hal : a < (nth (addP Q i b 1) i).l.length := by rw [sh1.row i h1]; exact h2
  have hpos := h.dn i a h1 h2 h9
  have hon := h4.1
  have hat : ∀ i' k', pX (addP (addP Q i b 1) i a (-1)) i' k' = pX Q i' k' + (if i = i' ∧ b = k' then 1 else 0) - (if i = i' ∧ a = k' then 1 else 0) := fun i' k' => by
    rw [addP_at hil2 hal, addP_at hil hbl, addP_at hil hbl]
    by_cases e1 : i = i' ∧ a = k'
    · obtain ⟨rfl, rfl⟩ := e1
      have hab := h4.2
      (repeat' split) <;> omega
    · by_cases e2 : i = i' ∧ b = k'
      · obtain ⟨rfl, rfl⟩ := e2
        have hab := h4.2
        (repeat' split) <;> omega
      · (repeat' split) <;> omega
  refine ⟨addP (addP Q i b 1) i a (-1), ?_, sh1.add h1, (at_ok hok) i a h1 h2, h7, ?_, fun i' k' hi' hk' hT => ?_, fun i' hi' k' hk' => ?_, fun i' hi' => ?_, fun v hv => ?_, fun i' k' hi' hk' hlt => ?_, fun i' k' hi' hk' hlt => ?_⟩
  · have hg : trG l l.length c.length o Q (x : Int) := by
      unfold trG
      rw [show ((x : Nat) : Int).toNat = x from rfl, h6]
      dsimp only
      rw [show ((i : Nat) : Int).toNat = i from rfl, show ((b : Nat) : Int).toNat = b from rfl, show ((a : Nat) : Int).toNat = a from rfl]
      unfold rsX at hs hs2
      unfold pX at *
      exact ⟨h.xq, ⟨by omega, by omega⟩, ⟨by omega, by omega⟩, by omega, ⟨by omega, by omega⟩, fun z => ⟨h4.2, by omega, by omega⟩⟩
    have hw := (hok.way i h1 a h2).1
    rw [trX, if_neg (by omega), if_pos hg]
    rw [show ((x : Nat) : Int).toNat = x from rfl, h6]
    dsimp only
    rw [if_pos (by omega), show ((i : Nat) : Int).toNat = i from rfl, show ((b : Nat) : Int).toNat = b from rfl, show ((a : Nat) : Int).toNat = a from rfl]
    rw [show ((atX l i a : Nat) : Int) = (nth (nth l i).2.2.l a).1 from by unfold atX; omega]
  · have hp := hP i a b h1 h2 h3 h4
    rw [h5] at hp
    have := h.key
    omega
  · rw [hat]
    have h0 := h.dn i' k' hi' hk' (by omega)
    have hne : ¬ (i = i' ∧ a = k') := by
      rintro ⟨rfl, rfl⟩
      exact Nat.lt_irrefl _ hT
    rw [if_neg hne]
    split <;> omega
  · rw [hat]
    have h0 := h.nn i' hi' k' hk'
    by_cases e1 : i = i' ∧ a = k'
    · obtain ⟨rfl, rfl⟩ := e1
      have hab := h4.2
      (repeat' split) <;> omega
    · (repeat' split) <;> omega
  · rw [rsX_add sh1 h1 h2, rsX_add h.sh h1 h3, h.sum i' hi']
    split <;> omega
  · rw [ruI_add sh1 h1 h2, ruI_add h.sh h1 h3, h.use v hv, h5]
    (repeat' split) <;> omega
  · rw [hat] at hlt
    by_cases e2 : i = i' ∧ b = k'
    · obtain ⟨rfl, rfl⟩ := e2
      exact ⟨by rw [h5]; exact h.xf, by rw [h5]; exact h.key, .inr ⟨a, h2, h4, h7, by rw [h5]; exact h8⟩⟩
    · rw [if_neg e2] at hlt
      exact h.inc i' k' hi' hk' (by split at hlt <;> omega)
  · rw [hat] at hlt
    by_cases e1 : i = i' ∧ a = k'
    · obtain ⟨rfl, rfl⟩ := e1
      exact ⟨b, h3, h4, h7, by rw [h5]; exact h.xf, by rw [h5]; exact h8, by rw [h5]; exact h.key⟩
    · rw [if_neg e1] at hlt
      exact h.dec i' k' hi' hk' (by split at hlt <;> omega)
theorem traced {o : List St} {T : Nat → Nat} {E : Int} {best : Nat} (hok : PaOk l c) (hR : RawOk l c P) (hP : PotX l P l.length πv) (F : FndX l P l.length c.length (lfX l P) πv T o) : ∀ (n x : Nat) (Q : List (SliceV Int)), T x ≤ n → QI l c P o T πv E best x Q → ∃ G i0, trX l l.length c.length o (n + 2) (x : Int) Q = some G ∧ GI l c P o πv E best i0 G
  | n, x, Q, hT, h => by
    rcases F.pre x h.xq h.xf with hs | ⟨i, a, b, h1, h2, h3, h4, h5, h6, h7, h8, h9⟩
    · exact traced_seed hok hR h hs n
    · match n, hT with
      | 0, hT => omega
      | n + 1, hT =>
        obtain ⟨Q', e, h'⟩ := traced_move hok hR hP h h1 h2 h3 h4 h5 h6 h7 h8 h9 (n + 2)
        obtain ⟨G, i0, g1, g2⟩ := traced hok hR hP F n _ Q' (by omega) h'
        exact ⟨G, i0, by rw [show n + 1 + 2 = n + 2 + 1 from rfl, e]; exact g1, g2⟩
theorem QI.start {o : List St} {T : Nat → Nat} {E : Int} {best : Nat} (hR : RawOk l c P) (hb : best < c.length) (hf : cX o best ≠ FX) (hE : cX o best - πv best ≤ E) : QI l c P o T πv E best best P :=
  ⟨hR.sh, hb, hf, hE, fun i k _ _ _ => Int.le_refl _, hR.nn, fun i _ => rfl, fun v hv => by split <;> omega, fun i k _ _ h => absurd h (Int.lt_irrefl _), fun i k _ _ h => absurd h (Int.lt_irrefl _)⟩
theorem GI.raw {o : List St} {E : Int} {best i0 : Nat} {G : List (SliceV Int)} (hR : RawOk l c P) (h : GI l c P o πv E best i0 G) (hb : ruI l P best l.length < nth c best) : RawOk l c G := by
  refine ⟨h.sh, h.nn, fun i hi => ?_, fun v hv => ?_⟩
  · rw [h.sum i hi]
    have h1 := hR.sum i hi
    have h2 := h.lf
    unfold lfX at h2
    split
    · rename_i e; subst e; omega
    · omega
  · rw [h.use v hv]
    have h1 := hR.use v hv
    split
    · rename_i e; subst e; omega
    · omega
end
end Go.Proofs.Ytngkbnaehkailaa

/-
  Behind one more passenger the plan has prices again. Plain Lean.
-/
namespace Go.Proofs.Ytngkbnaehkailaa
open Go Go.RowKit Eng
set_option linter.unusedVariables false
set_option linter.unusedSimpArgs false
def nvX (o : List St) (πv : Nat → Int) (E : Int) (v : Nat) : Int := if cX o v = FX then πv v + E else min (cX o v) (πv v + E)
def mnX (l : List Pa) (P : List (SliceV Int)) (o : List St) (i : Nat) (x : Int) : Nat → Int
  | 0 => x
  | a + 1 => if 0 < pX P i a ∧ cX o (atX l i a) ≠ FX then min (mnX l P o i x a) (cX o (atX l i a) - sdW l i a) else mnX l P o i x a
def niX (l : List Pa) (P : List (SliceV Int)) (o : List St) (πi : Nat → Int) (E : Int) (i : Nat) : Int := if 0 < lfX l P i then min (mnX l P o i (πi i + E) (wyX l i)) 0 else mnX l P o i (πi i + E) (wyX l i)
section
variable {l : List Pa} {c : List Int} {P : List (SliceV Int)} {πT : Int} {πi πv : Nat → Int} {o : List St} {E : Int}
theorem mn_le {i : Nat} {x : Int} : ∀ n, mnX l P o i x n ≤ x ∧ ∀ a, a < n → 0 < pX P i a → cX o (atX l i a) ≠ FX → mnX l P o i x n ≤ cX o (atX l i a) - sdW l i a
  | 0 => ⟨Int.le_refl _, fun a ha => absurd ha (Nat.not_lt_zero _)⟩
  | n + 1 => by
    have ih := mn_le (i := i) (x := x) n
    rw [mnX]
    split
    · refine ⟨by omega, fun a ha h1 h2 => ?_⟩
      by_cases e : a = n
      · subst e; omega
      · have := ih.2 a (by omega) h1 h2; omega
    · rename_i q
      refine ⟨ih.1, fun a ha h1 h2 => ?_⟩
      by_cases e : a = n
      · subst e; exact absurd ⟨h1, h2⟩ q
      · exact ih.2 a (by omega) h1 h2
theorem mn_is {i : Nat} {x : Int} : ∀ n, mnX l P o i x n = x ∨ ∃ a, a < n ∧ 0 < pX P i a ∧ cX o (atX l i a) ≠ FX ∧ mnX l P o i x n = cX o (atX l i a) - sdW l i a
  | 0 => .inl rfl
  | n + 1 => by
    have ih := mn_is (i := i) (x := x) n
    rw [mnX]
    split
    · rename_i q
      rcases Int.le_total (mnX l P o i x n) (cX o (atX l i n) - sdW l i n) with h | h
      · rw [Int.min_eq_left h]
        exact ih.imp id fun ⟨a, h1, h2⟩ => ⟨a, by omega, h2⟩
      · rw [Int.min_eq_right h]
        exact .inr ⟨n, Nat.lt_succ_self _, q.1, q.2, rfl⟩
    · exact ih.imp id fun ⟨a, h1, h2⟩ => ⟨a, by omega, h2⟩
theorem ni_le {i : Nat} : niX l P o πi E i ≤ πi i + E ∧ (∀ a, a < wyX l i → 0 < pX P i a → cX o (atX l i a) ≠ FX → niX l P o πi E i ≤ cX o (atX l i a) - sdW l i a) ∧ (0 < lfX l P i → niX l P o πi E i ≤ 0) := by
  have h := mn_le (l := l) (P := P) (o := o) (i := i) (x := πi i + E) (wyX l i)
  unfold niX
  split
  · exact ⟨by omega, fun a h1 h2 h3 => by have := h.2 a h1 h2 h3; omega, fun _ => by omega⟩
  · rename_i q; exact ⟨h.1, h.2, fun z => absurd z q⟩
theorem ni_is {i : Nat} : niX l P o πi E i = πi i + E ∨ (0 < lfX l P i ∧ niX l P o πi E i = 0) ∨ ∃ a, a < wyX l i ∧ 0 < pX P i a ∧ cX o (atX l i a) ≠ FX ∧ niX l P o πi E i = cX o (atX l i a) - sdW l i a := by
  have h := mn_is (l := l) (P := P) (o := o) (i := i) (x := πi i + E) (wyX l i)
  unfold niX
  split
  · rename_i q
    rcases Int.le_total (mnX l P o i (πi i + E) (wyX l i)) 0 with z | z
    · rw [Int.min_eq_left z]
      exact h.imp id .inr
    · rw [Int.min_eq_right z]
      exact .inr (.inl ⟨q, rfl⟩)
  · exact h.imp id .inr
theorem nv_le {v : Nat} : nvX o πv E v ≤ πv v + E ∧ (cX o v ≠ FX → nvX o πv E v ≤ cX o v) := by
  unfold nvX
  split
  · rename_i q; exact ⟨Int.le_refl _, fun z => absurd q z⟩
  · exact ⟨by omega, fun _ => by omega⟩
theorem nv_is {v : Nat} : nvX o πv E v = πv v + E ∨ (cX o v ≠ FX ∧ nvX o πv E v = cX o v) := by
  unfold nvX
  split
  · exact .inl rfl
  · rename_i q
    rcases Int.le_total (cX o v) (πv v + E) with z | z
    · rw [Int.min_eq_left z]; exact .inr ⟨q, rfl⟩
    · rw [Int.min_eq_right z]; exact .inl rfl
theorem sdW_bd (hok : PaOk l c) {i k : Nat} (hi : i < l.length) (hk : k < wyX l i) : 0 ≤ sdW l i k ∧ sdW l i k ≤ 10000000 := by
  have h1 := hok.wt i hi
  have h2 := hok.way i hi k hk
  unfold sdW dlX
  exact mul_bd h1.1 h1.2 h2.2.1 h2.2.2
theorem new_pot {T : Nat → Nat} {best i0 : Nat} {G : List (SliceV Int)} (hok : PaOk l c) (hR : RawOk l c P) (hp : PPot l c P πT πi πv) (F : FndX l P l.length c.length (lfX l P) πv T o) (hfin : ∀ v, v < c.length → cX o v = FX ∨ cX o v + 10000000 < FX)
    (hb : best < c.length) (hroom : ruI l P best l.length < nth c best) (hbf : cX o best ≠ FX) (hmin : ∀ v, v < c.length → ruI l P v l.length < nth c v → cX o v ≠ FX → cX o best ≤ cX o v) (hG : GI l c P o πv (cX o best - πT) best i0 G) :
    PPot l c G (cX o best) (niX l P o πi (cX o best - πT)) (nvX o πv (cX o best - πT)) := by
  obtain ⟨E, hEq⟩ : ∃ E, E = cX o best - πT := ⟨_, rfl⟩
  rw [← hEq] at hG ⊢
  have hA := at_ok hok
  have hlow : ∀ v, v < c.length → cX o v ≠ FX → πv v ≤ cX o v := fun v hv hf => (F.low v hv).resolve_left hf
  have hE : 0 ≤ E := by
    have h1 := hp.vt best hb hroom
    have h2 := hlow best hb hbf
    omega
  have hnum : ∀ i k, i < l.length → k < wyX l i → pX P i k ≤ rsX l P i := fun i k hi hk => (rsN_ge (p := (nth P i).l) (wyX l i) (fun j hj => hR.nn i hi j hj)).2 k hk
  -- the arc from a party over a way
  have ivold : ∀ i k, i < l.length → k < wyX l i → pX P i k < (nth l i).1 → nvX o πv E (atX l i k) ≤ niX l P o πi E i + sdW l i k := fun i k hi hk hlt => by
    have h1 := hp.iv i k hi hk hlt
    have hv := nv_le (o := o) (πv := πv) (E := E) (v := atX l i k)
    have hsb := sdW_bd hok hi hk
    rcases ni_is (l := l) (P := P) (o := o) (πi := πi) (E := E) (i := i) with h | ⟨h2, h3⟩ | ⟨a, h2, h3, h4, h5⟩
    · omega
    · have hq := F.sd i k hi hk h2
      have := hv.2 (show cX o (atX l i k) ≠ 1125899906842624 by omega)
      omega
    · by_cases e : a = k
      · subst e
        have := hv.2 h4
        omega
      · have hr := (F.rel i a k hi h2 hk ⟨h3, e⟩).resolve_left h4
        have hf := (hfin _ (hA i a hi h2)).resolve_left h4
        have hsa := sdW_bd hok hi h2
        rw [mvW_eq] at hr
        have := hv.2 (by omega)
        omega
  have viold : ∀ i k, i < l.length → k < wyX l i → 0 < pX P i k → niX l P o πi E i ≤ nvX o πv E (atX l i k) - sdW l i k := fun i k hi hk hlt => by
    have h1 := hp.vi i k hi hk hlt
    have hn := ni_le (l := l) (P := P) (o := o) (πi := πi) (E := E) (i := i)
    rcases nv_is (o := o) (πv := πv) (E := E) (v := atX l i k) with h | ⟨h2, h3⟩
    · omega
    · have := hn.2.1 k hk hlt h2
      omega
  refine ⟨fun i hi hlt => ?_, fun i hi hlt => ?_, fun i k hi hk hlt => ?_, fun i k hi hk hlt => ?_, fun v hv hlt => ?_, fun v hv hlt => ?_⟩
  · have hs := hG.sum i hi
    refine (ni_le (l := l) (P := P) (o := o) (πi := πi) (E := E) (i := i)).2.2 ?_
    unfold lfX
    split at hs <;> omega
  · have hs := hG.sum i hi
    by_cases h0 : 0 < rsX l P i
    · have h1 := hp.is i hi h0
      rcases ni_is (l := l) (P := P) (o := o) (πi := πi) (E := E) (i := i) with h | ⟨h2, h3⟩ | ⟨a, h2, h3, h4, h5⟩
      · omega
      · omega
      · have := hlow _ (hA i a hi h2) h4
        have := hp.vi i a hi h2 h3
        omega
    · have hi0 : i0 = i := by
        split at hs
        · assumption
        · omega
      subst hi0
      obtain ⟨k, hk, h1, h2⟩ := hG.seed
      have hlf := hG.lf
      have hle := hnum i0 k hi hk
      unfold lfX at hlf
      have h3 := hp.iv i0 k hi hk (by omega)
      rcases ni_is (l := l) (P := P) (o := o) (πi := πi) (E := E) (i := i0) with h | ⟨h4, h5⟩ | ⟨a, h4, h5, h6, h7⟩
      · omega
      · omega
      · have := hnum i0 a hi h4
        omega
  · by_cases h0 : pX P i k < (nth l i).1
    · exact ivold i k hi hk h0
    · obtain ⟨b', h1, h2, h3, h4, h5, h6⟩ := hG.dec i k hi hk (by omega)
      have hv := (nv_le (o := o) (πv := πv) (E := E) (v := atX l i k)).2 h3
      rw [mvW_eq] at h5
      have hless := hR.less hi hk h1 h2
      have hiv := hp.iv i b' hi h1 hless
      rcases ni_is (l := l) (P := P) (o := o) (πi := πi) (E := E) (i := i) with h | ⟨h7, h8⟩ | ⟨a, h7, h8, h9, h10⟩
      · omega
      · have := F.sd i b' hi h1 h7
        omega
      · by_cases e : a = b'
        · subst e; omega
        · have hr := (F.rel i a b' hi h7 h1 ⟨h8, e⟩).resolve_left h9
          rw [mvW_eq] at hr
          omega
  · by_cases h0 : 0 < pX P i k
    · exact viold i k hi hk h0
    · obtain ⟨h1, h2, h3⟩ := hG.inc i k hi hk (by omega)
      have hn := ni_le (l := l) (P := P) (o := o) (πi := πi) (E := E) (i := i)
      have hv : nvX o πv E (atX l i k) = cX o (atX l i k) := by
        unfold nvX; rw [if_neg h1]; omega
      rw [hv]
      rcases h3 with ⟨h4, h5⟩ | ⟨a, h4, h5, h6, h7⟩
      · have := hn.2.2 h4; omega
      · have := hn.2.1 a h4 h5.1 h6
        rw [mvW_eq] at h7
        omega
  · have hu := hG.use v hv
    have hlt' : ruI l P v l.length < nth c v := by split at hu <;> omega
    have h1 := hp.vt v hv hlt'
    rcases nv_is (o := o) (πv := πv) (E := E) (v := v) with h | ⟨h2, h3⟩
    · omega
    · have := hmin v hv hlt' h2
      omega
  · have hu := hG.use v hv
    have hn := nv_le (o := o) (πv := πv) (E := E) (v := v)
    by_cases h0 : 0 < ruI l P v l.length
    · have := hp.tv v hv h0
      omega
    · have hbv : best = v := by
        split at hu
        · assumption
        · omega
      subst hbv
      exact hn.2 hbf
end
end Go.Proofs.Ytngkbnaehkailaa

/-
  The reference's Solve: one passenger after the other, till none reaches room. Plain Lean.
-/
namespace Go.Proofs.Ytngkbnaehkailaa
open Go Go.RowKit Eng
set_option linter.unusedVariables false
set_option linter.unusedSimpArgs false
def BdX (q : Nat) (B : Int) (o : List St) : Prop := o.length = q ∧ ∀ v, v < q → cX o v = FX ∨ (-B ≤ cX o v ∧ cX o v ≤ B)
theorem BdX.mono {q : Nat} {B B' : Int} {o : List St} (h : BdX q B o) (hB : B ≤ B') : BdX q B' o := ⟨h.1, fun v hv => (h.2 v hv).imp id fun z => ⟨by omega, by omega⟩⟩
section
variable {l : List Pa} {c : List Int} {P : List (SliceV Int)}
theorem mvW_bd (hok : PaOk l c) {i a b : Nat} (hi : i < l.length) (ha : a < wyX l i) (hb : b < wyX l i) : -10000000 ≤ mvW l i a b ∧ mvW l i a b ≤ 10000000 := by
  have h1 := sdW_bd hok hi ha
  have h2 := sdW_bd hok hi hb
  rw [mvW_eq]; omega
theorem mvS_bd (hok : PaOk l c) {B : Int} {o : List St} {i a b : Nat} (hi : i < l.length) (ha : a < wyX l i) (hb : b < wyX l i) (h : BdX c.length B o) : BdX c.length (B + 10000000) (mvS l P i a b o) := by
  have hw := mvW_bd hok hi ha hb
  have hA := at_ok hok
  refine ⟨by rw [mvS_len]; exact h.1, fun v hv => ?_⟩
  rw [mvS_at (by rw [h.1]; exact hA i b hi hb)]
  split
  · rename_i q
    have h1 := (h.2 _ (hA i a hi ha)).resolve_left (Int.ne_of_lt q.1.2.1)
    right; omega
  · exact (h.2 v hv).imp id fun z => ⟨by omega, by omega⟩
theorem mvB_bd (hok : PaOk l c) {B : Int} {o : List St} {i a : Nat} (hi : i < l.length) (ha : a < wyX l i) (h : BdX c.length B o) : ∀ b, b ≤ wyX l i → BdX c.length (B + (b : Int) * 10000000) (mvB l P i a o b)
  | 0, _ => h.mono (by omega)
  | b + 1, hb => (mvS_bd hok hi ha (by omega) (mvB_bd hok hi ha h b (by omega))).mono (by omega)
theorem mvA_bd (hok : PaOk l c) {B : Int} {o : List St} {i : Nat} (hi : i < l.length) (h : BdX c.length B o) : ∀ a, a ≤ wyX l i → BdX c.length (B + ((a * wyX l i : Nat) : Int) * 10000000) (mvA l P i o a)
  | 0, _ => h.mono (by omega)
  | a + 1, ha => (mvB_bd hok hi (by omega) (mvA_bd hok hi h a (by omega)) _ (Nat.le_refl _)).mono (by rw [Nat.succ_mul]; omega)
def sqI (l : List Pa) : Nat → Nat
  | 0 => 0
  | i + 1 => sqI l i + wyX l i * wyX l i
theorem mvI_bd (hok : PaOk l c) {B : Int} {o : List St} (h : BdX c.length B o) : ∀ i, i ≤ l.length → BdX c.length (B + (sqI l i : Int) * 10000000) (mvI l P o i)
  | 0, _ => h.mono (by simp [sqI])
  | i + 1, hi => (mvA_bd hok (by omega) (mvI_bd hok h i (by omega)) _ (Nat.le_refl _)).mono (by rw [sqI]; omega)
theorem mvR_bd (hok : PaOk l c) {B : Int} {o : List St} (h : BdX c.length B o) : ∀ n, BdX c.length (B + ((n * sqI l l.length : Nat) : Int) * 10000000) (mvR l P l.length o n)
  | 0 => h.mono (by simp)
  | n + 1 => (mvI_bd hok (mvR_bd hok h n) _ (Nat.le_refl _)).mono (by rw [Nat.succ_mul]; omega)
theorem sdS_bd (hok : PaOk l c) {o : List St} {i k : Nat} (hi : i < l.length) (hk : k < wyX l i) (h : BdX c.length 10000000 o) : BdX c.length 10000000 (sdS l i k o) := by
  have hw := sdW_bd hok hi hk
  refine ⟨by rw [sdS_len]; exact h.1, fun v hv => ?_⟩
  rw [sdS_at (by rw [h.1]; exact (at_ok hok) i k hi hk)]
  split
  · right; omega
  · exact h.2 v hv
theorem sdK_bd (hok : PaOk l c) {o : List St} {i : Nat} (hi : i < l.length) (h : BdX c.length 10000000 o) : ∀ k, k ≤ wyX l i → BdX c.length 10000000 (sdK l i o k)
  | 0, _ => h
  | k + 1, hk => sdS_bd hok hi (by omega) (sdK_bd hok hi h k (by omega))
theorem sdI_bd (hok : PaOk l c) {lf : Nat → Int} {o : List St} (h : BdX c.length 10000000 o) : ∀ i, i ≤ l.length → BdX c.length 10000000 (sdI l lf o i)
  | 0, _ => h
  | i + 1, hi => by
    rw [sdI]
    split
    · exact sdK_bd hok (by omega) (sdI_bd hok h i (by omega)) _ (Nat.le_refl _)
    · exact sdI_bd hok h i (by omega)
theorem rch0_bd {q : Nat} : BdX q 10000000 (rch0 q) := ⟨by simp [rch0], fun v hv => by
  left
  unfold cX rch0 nth; rw [List.getD_eq_getElem?_getD, List.getElem?_replicate, if_pos hv]; rfl⟩
theorem sqI_le : ∀ i, sqI l i ≤ wayS l i * wayS l i
  | 0 => Nat.zero_le _
  | i + 1 => by
    have ih := sqI_le i
    rw [sqI, wayS, Nat.add_mul, Nat.mul_add, Nat.mul_add]
    have : wyX l i = (nth l i).2.2.l.length := rfl
    rw [this]
    omega
theorem sq_all (hS : wayS l l.length ≤ 1024) : sqI l l.length ≤ 1048576 := Nat.le_trans (sqI_le _) (Nat.mul_le_mul hS hS)
theorem reach_fin (hok : PaOk l c) (hS : wayS l l.length ≤ 1024) {lf : Nat → Int} : ∀ v, v < c.length → cX (rchX l P l.length c.length lf) v = FX ∨ cX (rchX l P l.length c.length lf) v + 10000000 < FX := fun v hv => by
  have h := mvR_bd (P := P) hok (sdI_bd hok (lf := lf) (rch0_bd (q := c.length)) l.length (Nat.le_refl _)) c.length
  have h1 := sq_all hS
  have h2 : c.length * sqI l l.length ≤ 60 * 1048576 := Nat.mul_le_mul hok.nc h1
  rcases h.2 v hv with z | z
  · exact .inl z
  · right
    unfold rchX
    show _ < (1125899906842624 : Int)
    omega
/-- the capacity with room that is reached at the least cost, or -1 -/
def bestX (o : List St) (r : Nat → Int) : Nat → Int
  | 0 => -1
  | v + 1 => if (0 < r v ∧ cX o v < FX) ∧ (bestX o r v < 0 ∨ cX o v < cX o (bestX o r v).toNat) then (v : Int) else bestX o r v
theorem best_is {o : List St} {r : Nat → Int} : ∀ n, (bestX o r n = -1 ∧ ∀ v, v < n → ¬ (0 < r v ∧ cX o v < FX)) ∨ ∃ b : Nat, bestX o r n = (b : Int) ∧ b < n ∧ 0 < r b ∧ cX o b < FX ∧ ∀ v, v < n → 0 < r v → cX o v < FX → cX o b ≤ cX o v
  | 0 => .inl ⟨rfl, fun v hv => absurd hv (Nat.not_lt_zero _)⟩
  | n + 1 => by
    rw [bestX]
    rcases best_is (o := o) (r := r) n with ⟨h1, h2⟩ | ⟨b, h1, h2, h3, h4, h5⟩
    · rw [h1]
      split
      · rename_i q
        refine .inr ⟨n, rfl, Nat.lt_succ_self _, q.1.1, q.1.2, fun v hv hr hf => ?_⟩
        by_cases e : v = n
        · subst e; exact Int.le_refl _
        · exact absurd ⟨hr, hf⟩ (h2 v (by omega))
      · rename_i q
        refine .inl ⟨rfl, fun v hv => ?_⟩
        by_cases e : v = n
        · subst e; exact fun z => q ⟨z, .inl (by decide)⟩
        · exact h2 v (by omega)
    · rw [h1, show ((b : Nat) : Int).toNat = b from rfl]
      split
      · rename_i q
        have hq : cX o n < cX o b := q.2.resolve_left (by omega)
        refine .inr ⟨n, rfl, Nat.lt_succ_self _, q.1.1, q.1.2, fun v hv hr hf => ?_⟩
        by_cases e : v = n
        · subst e; exact Int.le_refl _
        · have := h5 v (by omega) hr hf; omega
      · rename_i q
        refine .inr ⟨b, rfl, by omega, h3, h4, fun v hv hr hf => ?_⟩
        by_cases e : v = n
        · subst e
          have : ¬ (cX o v < cX o b) := fun z => q ⟨⟨hr, hf⟩, .inr z⟩
          omega
        · exact h5 v (by omega) hr hf
def rmX (l : List Pa) (c : List Int) (P : List (SliceV Int)) (v : Nat) : Int := nth c v - ruI l P v l.length
def rcX (l : List Pa) (c : List Int) (P : List (SliceV Int)) : List St := rchX l P l.length c.length (lfX l P)
def bsX (l : List Pa) (c : List Int) (P : List (SliceV Int)) : Int := bestX (rcX l c P) (rmX l c P) c.length
/-- Solve's outer loop: at most n rounds lead from P to R -/
def SlvN (l : List Pa) (c : List Int) : Nat → List (SliceV Int) → List (SliceV Int) → Prop
  | 0, _, _ => False
  | n + 1, P, R => RawOk l c P ∧ ((bsX l c P < 0 ∧ R = P) ∨ (0 ≤ bsX l c P ∧ ∃ K G, trX l l.length c.length (rcX l c P) K (bsX l c P) P = some G ∧ SlvN l c n G R))
def totX (l : List Pa) (P : List (SliceV Int)) : Nat → Int
  | 0 => 0
  | i + 1 => totX l P i + rsX l P i
theorem tot_le (hR : RawOk l c P) : ∀ i, i ≤ l.length → totX l P i ≤ peoT l i
  | 0, _ => Int.le_refl _
  | i + 1, hi => by
    have := tot_le hR i (by omega)
    have := hR.sum i (by omega)
    rw [totX, peoT]; omega
theorem tot_one {G : List (SliceV Int)} {i0 : Nat} (hs : ∀ i, i < l.length → rsX l G i = rsX l P i + if i0 = i then 1 else 0) : ∀ i, i ≤ l.length → totX l G i = totX l P i + if i0 < i then 1 else 0
  | 0, _ => by simp [totX]
  | i + 1, hi => by
    rw [totX, totX, tot_one hs i (by omega), hs i (by omega)]
    (repeat' split) <;> omega
theorem solved (hok : PaOk l c) (hS : wayS l l.length ≤ 1024) : ∀ (n : Nat) (P : List (SliceV Int)), RawOk l c P → (∃ πT πi πv, PPot l c P πT πi πv) → peoT l l.length - totX l P l.length < n → ∃ R, SlvN l c n P R ∧ RawOk l c R ∧ (∃ πT πi πv, PPot l c R πT πi πv) ∧ bsX l c R < 0
  | 0, P, hR, _, hn => by
    have := tot_le hR l.length (Nat.le_refl _)
    omega
  | n + 1, P, hR, ⟨πT, πi, πv, hp⟩, hn => by
    have hPx := hp.x hR
    obtain ⟨T, F⟩ := foundX (at_ok hok) hPx (hp.s hR)
    have hfin := reach_fin (P := P) hok hS (lf := lfX l P)
    rcases best_is (o := rcX l c P) (r := rmX l c P) c.length with ⟨h1, h2⟩ | ⟨b, h1, h2, h3, h4, h5⟩
    · have hb : bsX l c P < 0 := by unfold bsX; rw [h1]; decide
      exact ⟨P, ⟨hR, .inl ⟨hb, rfl⟩⟩, hR, ⟨πT, πi, πv, hp⟩, hb⟩
    · have hbf : cX (rcX l c P) b ≠ FX := Int.ne_of_lt h4
      have hroom : ruI l P b l.length < nth c b := by unfold rmX at h3; omega
      have hvt := hp.vt b h2 hroom
      obtain ⟨G, i0, g1, g2⟩ := traced (E := cX (rcX l c P) b - πT) hok hR hPx F (T b) b P (Nat.le_refl _) (QI.start hR h2 hbf (show cX (rcX l c P) b - πv b ≤ cX (rcX l c P) b - πT by omega))
      have hGr := g2.raw hR hroom
      have hnp := new_pot hok hR hp F hfin h2 hroom hbf (fun v hv hr hf => h5 v hv (by unfold rmX; omega) (by have := F.up v hv; have hf' : cX (rcX l c P) v ≠ FX := hf; have hu' : cX (rcX l c P) v ≤ FX := this; omega)) g2
      have ht := tot_one g2.sum l.length (Nat.le_refl _)
      rw [if_pos g2.i0m] at ht
      obtain ⟨R, r1, r2, r3, r4⟩ := solved hok hS n G hGr ⟨_, _, _, hnp⟩ (by omega)
      refine ⟨R, ⟨hR, .inr ⟨by unfold bsX; rw [h1]; omega, T b + 2, G, ?_, r1⟩⟩, r2, r3, r4⟩
      unfold bsX; rw [h1]; exact g1
end
end Go.Proofs.Ytngkbnaehkailaa

/-
  What the reference's Solve answers carries as many as any plan, at the least cost. Plain Lean.
-/
namespace Go.Proofs.Ytngkbnaehkailaa
open Go Go.RowKit Eng
set_option linter.unusedVariables false
set_option linter.unusedSimpArgs false
section
variable {l : List Pa} {c : List Int} {P : List (SliceV Int)}
structure ZeroP (l : List Pa) (P : List (SliceV Int)) : Prop where
  sh : ShX l P l.length
  z : ∀ i, i < l.length → ∀ k, k < wyX l i → pX P i k = 0
theorem ZeroP.rs (h : ZeroP l P) {i : Nat} (hi : i < l.length) : rsX l P i = 0 := by
  have : ∀ n, n ≤ wyX l i → rsN (nth P i).l n = 0 := fun n => by
    induction n with
    | zero => intro _; rfl
    | succ n ih => intro hn; rw [rsN, ih (by omega)]; have := h.z i hi n (by omega); unfold pX at this; omega
  exact this _ (Nat.le_refl _)
theorem ZeroP.ru (h : ZeroP l P) (v : Nat) : ∀ i, i ≤ l.length → ruI l P v i = 0
  | 0, _ => rfl
  | i + 1, hi => by
    have : ∀ n, n ≤ wyX l i → ruK l P i v n = 0 := fun n => by
      induction n with
      | zero => intro _; rfl
      | succ n ih => intro hn; rw [ruK, ih (by omega), h.z i (by omega) n (by omega)]; split <;> rfl
    rw [ruI, h.ru v i (by omega), this _ (Nat.le_refl _)]; rfl
theorem ZeroP.raw (h : ZeroP l P) (hok : PaOk l c) : RawOk l c P :=
  ⟨h.sh, fun i hi k hk => by rw [h.z i hi k hk]; exact Int.le_refl _, fun i hi => by rw [h.rs hi]; have := hok.cnt i hi; omega, fun v hv => by rw [h.ru v _ (Nat.le_refl _)]; exact (hok.cap v hv).1⟩
theorem ZeroP.pot (h : ZeroP l P) (hok : PaOk l c) : PPot l c P 0 (fun _ => 0) (fun _ => 0) :=
  ⟨fun _ _ _ => Int.le_refl _, fun _ _ _ => Int.le_refl _, fun i k hi hk _ => by have := sdW_bd hok hi hk; omega, fun i k hi hk hlt => by rw [h.z i hi k hk] at hlt; exact absurd hlt (Int.lt_irrefl _), fun _ _ _ => Int.le_refl _, fun _ _ _ => Int.le_refl _⟩
theorem ZeroP.tot (h : ZeroP l P) : ∀ i, i ≤ l.length → totX l P i = 0
  | 0, _ => rfl
  | i + 1, hi => by rw [totX, h.tot i (by omega), h.rs (by omega)]; rfl
theorem sum_tot (hR : RawOk l c P) : ∀ i, i ≤ l.length → sumO l P i = totX l P i
  | 0, _ => rfl
  | i + 1, hi => by
    rw [sumO, totX, sum_tot hR i (by omega), show (nth l i).2.2.l.length = wyX l i from rfl, hR.sumIn (by omega) _ (Nat.le_refl _)]; rfl
theorem tot_nn (hR : RawOk l c P) : ∀ i, i ≤ l.length → 0 ≤ totX l P i
  | 0, _ => Int.le_refl _
  | i + 1, hi => by
    have := tot_nn hR i (by omega)
    have := (rsN_ge (p := (nth P i).l) (wyX l i) (fun j hj => hR.nn i (by omega) j hj)).1
    rw [totX]; unfold rsX; omega
theorem flow_A (hR : RawOk l c P) {k : Nat} (hk : k < l.length) : nth (flowOf l.length c.length l P) k = rsX l P k := by
  unfold flowOf
  rw [nth_app1 (by rw [sumsL_len]; exact hk), sumsL_nth _ hk, show (nth l k).2.2.l.length = wyX l k from rfl, hR.sumIn hk _ (Nat.le_refl _)]; rfl
theorem flow_B (hR : RawOk l c P) (hok : PaOk l c) {k : Nat} (hk : k < c.length) : nth (flowOf l.length c.length l P) (l.length + k) = ruI l P k l.length := by
  unfold flowOf
  have e := nth_app2 (a := sumsL l P l.length) (b := useO c.length l P l.length ++ catP P l.length) (k := k)
  rw [sumsL_len] at e
  rw [e, nth_app1 (by rw [useO_len]; exact hk), useO_raw hR hok hk _ (Nat.le_refl _)]
theorem flow_W (hR : RawOk l c P) {i k : Nat} (hi : i < l.length) (hk : k < wyX l i) : nth (flowOf l.length c.length l P) (l.length + c.length + wayS l i + k) = pX P i k := by
  unfold flowOf
  have e := nth_app2 (a := sumsL l P l.length) (b := useO c.length l P l.length ++ catP P l.length) (k := c.length + (wayS l i + k))
  have e2 := nth_app2 (a := useO c.length l P l.length) (b := catP P l.length) (k := wayS l i + k)
  rw [sumsL_len] at e
  rw [useO_len] at e2
  rw [show l.length + c.length + wayS l i + k = l.length + (c.length + (wayS l i + k)) by omega, e, e2, catP_nth hk l.length (fun k' hk' => hR.sh.row k' hk') hi]; rfl
theorem arc_kinds (hR : RawOk l c P) (hok : PaOk l c) {u v : Nat} {w : Int} (h : Arc (edO l.length c.length l c l.length) (flowOf l.length c.length l P) u v w) :
    (∃ i, i < l.length ∧ rsX l P i < (nth l i).1 ∧ u = 0 ∧ v = 1 + i ∧ w = 0) ∨ (∃ i, i < l.length ∧ 0 < rsX l P i ∧ u = 1 + i ∧ v = 0 ∧ w = 0) ∨
    (∃ x, x < c.length ∧ ruI l P x l.length < nth c x ∧ u = 1 + l.length + x ∧ v = l.length + c.length + 1 ∧ w = 0) ∨ (∃ x, x < c.length ∧ 0 < ruI l P x l.length ∧ u = l.length + c.length + 1 ∧ v = 1 + l.length + x ∧ w = 0) ∨
    (∃ i k, i < l.length ∧ k < wyX l i ∧ pX P i k < (nth l i).1 ∧ u = 1 + i ∧ v = 1 + l.length + atX l i k ∧ w = sdW l i k) ∨ (∃ i k, i < l.length ∧ k < wyX l i ∧ 0 < pX P i k ∧ u = 1 + l.length + atX l i k ∧ v = 1 + i ∧ w = -sdW l i k) := by
  obtain ⟨e, he, hA⟩ := h
  rw [edO_len] at he
  by_cases h1 : e < l.length
  · rw [ed_A h1, flow_A hR h1] at hA
    dsimp only at hA
    rcases hA with ⟨a1, a2, a3, a4⟩ | ⟨a1, a2, a3, a4⟩
    · exact .inl ⟨e, h1, a1, by omega, by omega, a4⟩
    · exact .inr (.inl ⟨e, h1, a1, by omega, by omega, by omega⟩)
  · by_cases h2 : e < l.length + c.length
    · obtain ⟨x, rfl⟩ : ∃ x, e = l.length + x := ⟨e - l.length, by omega⟩
      have hx : x < c.length := by omega
      rw [ed_B hx, flow_B hR hok hx] at hA
      dsimp only at hA
      rcases hA with ⟨a1, a2, a3, a4⟩ | ⟨a1, a2, a3, a4⟩
      · exact .inr (.inr (.inl ⟨x, hx, a1, by omega, by omega, a4⟩))
      · exact .inr (.inr (.inr (.inl ⟨x, hx, a1, by omega, by omega, by omega⟩)))
    · obtain ⟨y, rfl⟩ : ∃ y, e = l.length + c.length + y := ⟨e - (l.length + c.length), by omega⟩
      obtain ⟨i, k, hi, hk, rfl⟩ := way_split (l := l) (x := y) l.length (by omega)
      have hw := (hok.way i hi k hk).1
      have hat : ((atX l i k : Nat) : Int) = (nth (nth l i).2.2.l k).1 := by unfold atX; omega
      rw [show l.length + c.length + (wayS l i + k) = l.length + c.length + wayS l i + k by omega, ed_W hk l.length hi, flow_W hR hi hk] at hA
      dsimp only at hA
      rcases hA with ⟨a1, a2, a3, a4⟩ | ⟨a1, a2, a3, a4⟩
      · exact .inr (.inr (.inr (.inr (.inl ⟨i, k, hi, hk, a1, by omega, by omega, a4⟩))))
      · exact .inr (.inr (.inr (.inr (.inr ⟨i, k, hi, hk, a1, by omega, by omega, a4⟩))))
theorem raw_best (hck : rchk l c = 0) (hS : wayS l l.length ≤ 1024) (hR : RawOk l c P) (hpp : ∃ πT πi πv, PPot l c P πT πi πv) (hb : bsX l c P < 0) : Best (edO l.length c.length l c l.length) (l.length + c.length + 2) 0 (l.length + c.length + 1) (peoT l l.length) (flowOf l.length c.length l P, sumO l P l.length, dlyO l P l.length) := by
  have hok := PaOk.of hck
  obtain ⟨πT, πi, πv, hp⟩ := hpp
  have hPx := hp.x hR
  obtain ⟨T, F⟩ := foundX (at_ok hok) hPx (hp.s hR)
  have hfin := reach_fin (P := P) hok hS (lf := lfX l P)
  have hA := at_ok hok
  obtain ⟨o, ho⟩ : ∃ o, o = rchX l P l.length c.length (lfX l P) := ⟨_, rfl⟩
  rw [← ho] at F hfin
  have hno : ∀ v, v < c.length → ruI l P v l.length < nth c v → cX o v = FX := fun v hv hr => by
    rcases best_is (o := rcX l c P) (r := rmX l c P) c.length with ⟨h1, h2⟩ | ⟨b, h1, _⟩
    · have h3 := h2 v hv
      have h4 := F.up v hv
      have e : rcX l c P = o := ho.symm
      rw [e] at h3
      unfold rmX at h3
      by_cases hf : cX o v < FX
      · exact absurd ⟨by omega, hf⟩ h3
      · omega
    · unfold bsX at hb; rw [h1] at hb; omega
  refine ⟨flow_of_plan hck rfl rfl (hR.plan hok), ?_, ?_, .inr ?_⟩
  · refine ⟨fun x => if x = 0 then 0 else if x ≤ l.length then πi (x - 1) else if x ≤ l.length + c.length then πv (x - (l.length + 1)) else πT, ?_⟩
    have e0 : ∀ i, i < l.length → (if 1 + i = 0 then 0 else if 1 + i ≤ l.length then πi (1 + i - 1) else if 1 + i ≤ l.length + c.length then πv (1 + i - (l.length + 1)) else πT) = πi i := fun i hi => by
      rw [if_neg (by omega), if_pos (by omega), show 1 + i - 1 = i by omega]
    have e1 : ∀ x, x < c.length → (if 1 + l.length + x = 0 then 0 else if 1 + l.length + x ≤ l.length then πi (1 + l.length + x - 1) else if 1 + l.length + x ≤ l.length + c.length then πv (1 + l.length + x - (l.length + 1)) else πT) = πv x := fun x hx => by
      rw [if_neg (by omega), if_neg (by omega), if_pos (by omega), show 1 + l.length + x - (l.length + 1) = x by omega]
    have e2 : (if l.length + c.length + 1 = 0 then 0 else if l.length + c.length + 1 ≤ l.length then πi (l.length + c.length + 1 - 1) else if l.length + c.length + 1 ≤ l.length + c.length then πv (l.length + c.length + 1 - (l.length + 1)) else πT) = πT := by
      rw [if_neg (by omega), if_neg (by omega), if_neg (by omega)]
    intro u v w hArc
    dsimp only
    rcases arc_kinds hR hok hArc with ⟨i, hi, h1, rfl, rfl, rfl⟩ | ⟨i, hi, h1, rfl, rfl, rfl⟩ | ⟨x, hx, h1, rfl, rfl, rfl⟩ | ⟨x, hx, h1, rfl, rfl, rfl⟩ | ⟨i, k, hi, hk, h1, rfl, rfl, rfl⟩ | ⟨i, k, hi, hk, h1, rfl, rfl, rfl⟩
    · rw [e0 i hi, if_pos rfl]; have := hp.si i hi h1; omega
    · rw [e0 i hi, if_pos rfl]; have := hp.is i hi h1; omega
    · rw [e1 x hx, e2]; have := hp.vt x hx h1; omega
    · rw [e1 x hx, e2]; have := hp.tv x hx h1; omega
    · rw [e0 i hi, e1 _ (hA i k hi hk)]; have := hp.iv i k hi hk h1; omega
    · rw [e0 i hi, e1 _ (hA i k hi hk)]; have := hp.vi i k hi hk h1; omega
  · have h1 := sum_tot hR l.length (Nat.le_refl _)
    have h2 := tot_nn hR l.length (Nat.le_refl _)
    have h3 := tot_le hR l.length (Nat.le_refl _)
    exact ⟨by show 0 ≤ sumO l P l.length; omega, by show sumO l P l.length ≤ _; omega⟩
  · refine ⟨fun x => if x = 0 then true else if x ≤ l.length then decide (0 < lfX l P (x - 1)) || !(allK (fun a => !(decide (0 < pX P (x - 1) a) && decide (cX o (atX l (x - 1) a) ≠ FX))) (wyX l (x - 1))) else if x ≤ l.length + c.length then decide (cX o (x - (l.length + 1)) ≠ FX) else false, if_pos rfl, by dsimp only; rw [if_neg (by omega), if_neg (by omega), if_neg (by omega)], ?_⟩
    have e0 : ∀ i, i < l.length → ((if 1 + i = 0 then true else if 1 + i ≤ l.length then decide (0 < lfX l P (1 + i - 1)) || !(allK (fun a => !(decide (0 < pX P (1 + i - 1) a) && decide (cX o (atX l (1 + i - 1) a) ≠ FX))) (wyX l (1 + i - 1))) else if 1 + i ≤ l.length + c.length then decide (cX o (1 + i - (l.length + 1)) ≠ FX) else false) = true ↔ (0 < lfX l P i ∨ ∃ a, a < wyX l i ∧ 0 < pX P i a ∧ cX o (atX l i a) ≠ FX)) := fun i hi => by
      rw [if_neg (by omega), if_pos (by omega), show 1 + i - 1 = i by omega, Bool.or_eq_true, decide_eq_true_iff, Bool.not_eq_true']
      refine or_congr Iff.rfl ?_
      constructor
      · intro h
        refine Decidable.byContradiction fun hn => ?_
        have : allK (fun a => !(decide (0 < pX P i a) && decide (cX o (atX l i a) ≠ FX))) (wyX l i) = true := (allK_iff _).2 fun a ha => by
          rw [Bool.not_eq_true', Bool.and_eq_false_iff, decide_eq_false_iff_not, decide_eq_false_iff_not]
          by_cases h1 : 0 < pX P i a
          · exact .inr fun z => hn ⟨a, ha, h1, z⟩
          · exact .inl h1
        rw [this] at h; cases h
      · rintro ⟨a, ha, h1, h2⟩
        exact allK_not ha (by rw [decide_eq_true h1, decide_eq_true h2]; rfl)
    have e1 : ∀ x, x < c.length → ((if 1 + l.length + x = 0 then true else if 1 + l.length + x ≤ l.length then decide (0 < lfX l P (1 + l.length + x - 1)) || !(allK (fun a => !(decide (0 < pX P (1 + l.length + x - 1) a) && decide (cX o (atX l (1 + l.length + x - 1) a) ≠ FX))) (wyX l (1 + l.length + x - 1))) else if 1 + l.length + x ≤ l.length + c.length then decide (cX o (1 + l.length + x - (l.length + 1)) ≠ FX) else false) = true ↔ cX o x ≠ FX) := fun x hx => by
      rw [if_neg (by omega), if_neg (by omega), if_pos (by omega), show 1 + l.length + x - (l.length + 1) = x by omega, decide_eq_true_iff]
    intro u v w hArc
    dsimp only
    rcases arc_kinds hR hok hArc with ⟨i, hi, h1, rfl, rfl, rfl⟩ | ⟨i, hi, h1, rfl, rfl, rfl⟩ | ⟨x, hx, h1, rfl, rfl, rfl⟩ | ⟨x, hx, h1, rfl, rfl, rfl⟩ | ⟨i, k, hi, hk, h1, rfl, rfl, rfl⟩ | ⟨i, k, hi, hk, h1, rfl, rfl, rfl⟩
    · rw [e0 i hi]; intro _; left; unfold lfX; omega
    · intro _; rw [if_pos rfl]
    · rw [e1 x hx]; intro hf; exact absurd (hno x hx h1) hf
    · intro hf
      rw [if_neg (by omega), if_neg (by omega), if_neg (by omega)] at hf; cases hf
    · rw [e0 i hi, e1 _ (hA i k hi hk)]
      have hsb := sdW_bd hok hi hk
      rintro (h2 | ⟨a, ha, h2, h3⟩)
      · have := F.sd i k hi hk h2
        show cX o (atX l i k) ≠ 1125899906842624
        omega
      · by_cases e : a = k
        · subst e; exact h3
        · have hr := (F.rel i a k hi ha hk ⟨h2, e⟩).resolve_left h3
          have hf := (hfin _ (hA i a hi ha)).resolve_left h3
          have hsa := sdW_bd hok hi ha
          rw [mvW_eq] at hr
          intro z
          rw [z] at hr
          omega
    · rw [e0 i hi, e1 _ (hA i k hi hk)]
      intro hf
      exact .inr ⟨k, hk, h1, hf⟩
/-- the two plans carry as many, at the same cost -/
theorem same_best (hck : rchk l c = 0) {R S : List Int × Int × Int} (hR : Best (edO l.length c.length l c l.length) (l.length + c.length + 2) 0 (l.length + c.length + 1) (peoT l l.length) R) (hS : Best (edO l.length c.length l c l.length) (l.length + c.length + 2) 0 (l.length + c.length + 1) (peoT l l.length) S) (hw : wayS l l.length ≤ 1024) : S.2.1 = R.2.1 ∧ S.2.2 = R.2.2 := by
  have hok := PaOk.of hck
  have hE := (check_ok (ed_check rfl rfl hok hw)).2
  rw [show (l.length : Int) + (c.length : Int) + 1 + 1 = ((l.length + c.length + 2 : Nat) : Int) from by omega] at hE
  have le1 : ∀ {R S : List Int × Int × Int}, Best (edO l.length c.length l c l.length) (l.length + c.length + 2) 0 (l.length + c.length + 1) (peoT l l.length) R → Best (edO l.length c.length l c l.length) (l.length + c.length + 2) 0 (l.length + c.length + 1) (peoT l l.length) S → S.2.1 ≤ R.2.1 ∧ (R.2.1 = S.2.1 → R.2.2 ≤ S.2.2) := fun {R S} hR hS => by
    refine ⟨?_, fun e => ?_⟩
    · rcases hR.max with h | h
      · have := hS.le.2; omega
      · exact amount_le hE (by omega) (by omega) hR.feas hS.feas h
    · obtain ⟨π, hP⟩ := hR.pot
      have hf := hR.feas
      rw [e] at hf
      exact cost_le hE (by omega) (by omega) hf hS.feas hP
  have h1 := le1 hR hS
  have h2 := le1 hS hR
  have e : S.2.1 = R.2.1 := by have := h1.1; have := h2.1; omega
  have h3 := h1.2 e.symm
  have h4 := h2.2 e
  exact ⟨e, by omega⟩
end
end Go.Proofs.Ytngkbnaehkailaa

/-
  What the loops of the reference's Left, room, move, reach and Solve hold, as lists. Plain Lean.
-/
namespace Go.Proofs.Ytngkbnaehkailaa
open Go Go.RowKit Eng
set_option linter.unusedVariables false
set_option linter.unusedSimpArgs false
theorem way_mono {l : List Pa} : ∀ {n i : Nat}, i ≤ n → wayS l i ≤ wayS l n
  | 0, i, h => by rw [Nat.le_zero.1 h]; exact Nat.le_refl _
  | n + 1, i, h => by
    by_cases e : i = n + 1
    · rw [e]; exact Nat.le_refl _
    · have := way_mono (l := l) (n := n) (i := i) (by omega)
      rw [wayS]; omega
theorem nth_ext {α : Type} [Inhabited α] {x y : List α} (h : x.length = y.length) (ha : ∀ j, j < x.length → nth x j = nth y j) : x = y := by
  refine List.ext_getElem h fun j h1 h2 => ?_
  have := ha j h1
  unfold nth at this
  rw [List.getD_eq_getElem?_getD, List.getD_eq_getElem?_getD, List.getElem?_eq_getElem h1, List.getElem?_eq_getElem h2] at this
  exact this
/-- a plan of the right shape with small numbers -/
structure NumOk (l : List Pa) (P : List (SliceV Int)) : Prop where
  len : P.length = l.length
  row : ∀ i, i < l.length → (nth P i).l.length = (nth l i).2.2.l.length
  num : ∀ i, i < l.length → ∀ k, k < (nth l i).2.2.l.length → 0 ≤ nth (nth P i).l k ∧ nth (nth P i).l k ≤ 99
section
variable {l : List Pa} {c : List Int} {P : List (SliceV Int)}
theorem RawOk.nums (h : RawOk l c P) (hok : PaOk l c) : NumOk l P :=
  ⟨h.sh.len, fun i hi => h.sh.row i hi, fun i hi k hk => by
    have h1 := h.num hi hk
    have h2 := hok.cnt i hi
    unfold pX at h1
    omega⟩
theorem PlanOk.nums (h : PlanOk l c P) (hok : PaOk l c) : NumOk l P :=
  ⟨h.len, h.row, fun i hi k hk => plan_num h hok hi hk⟩
theorem rsN_bd {p : List Int} : ∀ n, (∀ j, j < n → 0 ≤ nth p j ∧ nth p j ≤ 99) → 0 ≤ rsN p n ∧ rsN p n ≤ (n : Int) * 99
  | 0, _ => ⟨Int.le_refl _, Int.le_refl _⟩
  | n + 1, h => by
    have h1 := rsN_bd n (fun j hj => h j (by omega))
    have h2 := h n (by omega)
    rw [rsN]; omega
/-- Left -/
def lfN (x : Int) (p : List Int) : Nat → Int
  | 0 => x
  | j + 1 => lfN x p j - nth p j
theorem lfN_eq {x : Int} {p : List Int} : ∀ n, lfN x p n = x - rsN p n
  | 0 => by simp [lfN, rsN]
  | n + 1 => by rw [lfN, rsN, lfN_eq n]; omega
def lfL (l : List Pa) (P : List (SliceV Int)) : Nat → List Int
  | 0 => []
  | i + 1 => lfL l P i ++ [lfN (nth l i).1 (nth P i).l (nth P i).l.length]
theorem lfL_len : ∀ i, (lfL l P i).length = i
  | 0 => rfl
  | i + 1 => by rw [lfL, List.length_append, lfL_len i]; rfl
theorem lfL_nth (h : NumOk l P) : ∀ n, n ≤ l.length → ∀ i, i < n → nth (lfL l P n) i = lfX l P i
  | 0, _, i, hi => absurd hi (Nat.not_lt_zero _)
  | n + 1, hn, i, hi => by
    rw [lfL, nth_snoc, lfL_len]
    split
    · rename_i e; subst e
      rw [lfN_eq, h.row i (by omega)]; rfl
    · exact lfL_nth h n (by omega) i (by omega)
theorem NumOk.rs (h : NumOk l P) {x : Int} {i n : Nat} (hi : i < l.length) (hn : n ≤ (nth l i).2.2.l.length) : x - (n : Int) * 99 ≤ lfN x (nth P i).l n ∧ lfN x (nth P i).l n ≤ x := by
  have := rsN_bd (p := (nth P i).l) n (fun j hj => h.num i hi j (by omega))
  rw [lfN_eq]; omega
/-- room -/
def rmK (l : List Pa) (P : List (SliceV Int)) (i : Nat) (o : List Int) : Nat → List Int
  | 0 => o
  | k + 1 => (rmK l P i o k).set (nth (nth l i).2.2.l k).1.toNat (nth (rmK l P i o k) (nth (nth l i).2.2.l k).1.toNat - nth (nth P i).l k)
def rmI (l : List Pa) (P : List (SliceV Int)) (o : List Int) : Nat → List Int
  | 0 => o
  | i + 1 => rmK l P i (rmI l P o i) (nth P i).l.length
theorem rmK_len {i : Nat} {o : List Int} : ∀ k, (rmK l P i o k).length = o.length
  | 0 => rfl
  | k + 1 => by rw [rmK, List.length_set, rmK_len k]
theorem rmI_len {o : List Int} : ∀ i, (rmI l P o i).length = o.length
  | 0 => rfl
  | i + 1 => by rw [rmI, rmK_len, rmI_len i]
theorem rmK_nth {i : Nat} {o : List Int} {v : Nat} (hv : v < o.length) : ∀ k, (∀ j, j < k → atX l i j < o.length) → nth (rmK l P i o k) v = nth o v - ruK l P i v k
  | 0, _ => by simp [rmK, ruK]
  | k + 1, h => by
    have ih := rmK_nth hv k (fun j hj => h j (by omega))
    have hk := h k (by omega)
    rw [rmK, ruK, show (nth (nth l i).2.2.l k).1.toNat = atX l i k from rfl, nth_set (by rw [rmK_len]; exact hk)]
    by_cases e : atX l i k = v
    · rw [if_pos e, if_pos e, e, ih]; unfold pX; omega
    · rw [if_neg e, if_neg e, ih]; omega
theorem rmI_nth (hok : PaOk l c) (h : NumOk l P) {v : Nat} (hv : v < c.length) : ∀ i, i ≤ l.length → nth (rmI l P c i) v = nth c v - ruI l P v i
  | 0, _ => by simp [rmI, ruI]
  | i + 1, hi => by
    have hr := h.row i (by omega)
    rw [rmI, ruI, rmK_nth (by rw [rmI_len]; exact hv) _ (fun j hj => by rw [rmI_len]; exact at_ok hok i j (by omega) (by unfold wyX; omega)), rmI_nth hok h hv i (by omega), hr]
    show _ - ruK l P i v (wyX l i) = _
    omega
theorem ruK_bd (h : NumOk l P) {i v : Nat} (hi : i < l.length) : ∀ k, k ≤ (nth l i).2.2.l.length → 0 ≤ ruK l P i v k ∧ ruK l P i v k ≤ (k : Int) * 99
  | 0, _ => ⟨Int.le_refl _, Int.le_refl _⟩
  | k + 1, hk => by
    have h1 := ruK_bd h (v := v) hi k (by omega)
    have h2 := h.num i hi k (by omega)
    rw [ruK]; unfold pX
    split <;> omega
theorem ruI_bd (h : NumOk l P) {v : Nat} : ∀ i, i ≤ l.length → 0 ≤ ruI l P v i ∧ ruI l P v i ≤ (wayS l i : Int) * 99
  | 0, _ => ⟨Int.le_refl _, by simp [ruI, wayS]⟩
  | i + 1, hi => by
    have h1 := ruI_bd h (v := v) i (by omega)
    have h2 := ruK_bd h (v := v) (i := i) (by omega) _ (Nat.le_refl _)
    rw [ruI, wayS]
    show 0 ≤ _ + ruK l P i v (nth l i).2.2.l.length ∧ _ + ruK l P i v (nth l i).2.2.l.length ≤ _
    omega
theorem room_bd (hok : PaOk l c) (h : NumOk l P) (hS : wayS l l.length ≤ 1024) {i k v : Nat} (hi : i < l.length) (hk : k ≤ (nth l i).2.2.l.length) (hv : v < c.length) : -300000 ≤ nth (rmK l P i (rmI l P c i) k) v ∧ nth (rmK l P i (rmI l P c i) k) v ≤ 999 := by
  have h1 := rmK_nth (l := l) (P := P) (i := i) (o := rmI l P c i) (v := v) (by rw [rmI_len]; exact hv) k (fun j hj => by rw [rmI_len]; exact at_ok hok i j hi (by unfold wyX; omega))
  have h2 := rmI_nth hok h hv i (by omega)
  have h3 := ruK_bd h (v := v) hi k hk
  have h4 := ruI_bd h (v := v) i (by omega)
  have h5 := hok.cap v hv
  have h6 := wayS_at (l := l) (i := i) (n := l.length) hi
  omega
theorem rm_get (hok : PaOk l c) (h : NumOk l P) {m v : Nat} (hm : m = l.length) (hv : v < c.length) : (cellsOf encI (rmI l P c m))[v * 1 + 0]? = some (.int .i64 (rmX l c P v)) := by
  subst hm
  rw [encI_get (by rw [rmI_len]; exact hv), rmI_nth hok h hv _ (Nat.le_refl _)]; rfl
/-- a whole step stored -/
theorem encEd_row {o : List St} {k : Nat} {x : St} (hk : k < o.length) : setAll (cellsOf encEd o) (k * 4 + 0) [.int .i64 x.1, .int .i64 x.2.1, .int .i64 x.2.2.1, .int .i64 x.2.2.2] = cellsOf encEd (o.set k x) := by
  have s0 : ∀ (o : List St) (y : St), k < o.length → nth (o.set k y) k = y := fun o y h => by rw [nth_set h, if_pos rfl]
  simp only [setAll]
  rw [cellsOf_set encEd_len o k 0 (.int .i64 x.1) (x.1, (nth o k).2) hk (by decide) rfl,
    show k * 4 + 0 + 1 = k * 4 + 1 from rfl, cellsOf_set encEd_len _ k 1 (.int .i64 x.2.1) (x.1, x.2.1, (nth o k).2.2) (by rw [List.length_set]; exact hk) (by decide) (by rw [s0 _ _ hk]; rfl), List.set_set,
    show k * 4 + 1 + 1 = k * 4 + 2 from rfl, cellsOf_set encEd_len _ k 2 (.int .i64 x.2.2.1) (x.1, x.2.1, x.2.2.1, (nth o k).2.2.2) (by rw [List.length_set]; exact hk) (by decide) (by rw [s0 _ _ hk]; rfl), List.set_set,
    show k * 4 + 2 + 1 = k * 4 + 3 from rfl, cellsOf_set encEd_len _ k 3 (.int .i64 x.2.2.2) x (by rw [List.length_set]; exact hk) (by decide) (by rw [s0 _ _ hk]; rfl), List.set_set]
theorem encEd_get {o : List St} {v j : Nat} (hv : v < o.length) (hj : j < 4) : (cellsOf encEd o)[v * 4 + j]? = some (rowsF encEd o v j) := cellsOf_get encEd_len o v j hv hj
theorem rep_St (n : Nat) : repCells [.int .i64 0, .int .i64 0, .int .i64 0, .int .i64 0] n = cellsOf encEd (List.replicate n ((0, 0, 0, 0) : St)) := by
  induction n with
  | zero => rfl
  | succ n ih => rw [List.replicate_succ, repCells, ih]; rfl
/-- the first loop of reach -/
def iniF (q : Nat) : Nat → List St
  | 0 => List.replicate q (0, 0, 0, 0)
  | k + 1 => (iniF q k).set k (FX, 0, 0, 0)
theorem iniF_len {q : Nat} : ∀ k, (iniF q k).length = q
  | 0 => by simp [iniF]
  | k + 1 => by rw [iniF, List.length_set, iniF_len k]
theorem iniF_nth {q : Nat} : ∀ k, k ≤ q → ∀ j, j < q → nth (iniF q k) j = if j < k then (FX, 0, 0, 0) else (0, 0, 0, 0)
  | 0, _, j, hj => by
    rw [if_neg (Nat.not_lt_zero _), iniF]
    unfold nth
    rw [List.getD_eq_getElem?_getD, List.getElem?_replicate, if_pos hj]; rfl
  | k + 1, hk, j, hj => by
    rw [iniF, nth_set (by rw [iniF_len]; omega), iniF_nth k (by omega) j hj]
    by_cases e : k = j
    · subst e; rw [if_pos rfl, if_pos (Nat.lt_succ_self _)]
    · rw [if_neg e]
      by_cases e2 : j < k
      · rw [if_pos e2, if_pos (by omega)]
      · rw [if_neg e2, if_neg (by omega)]
theorem ini_full {q : Nat} : iniF q q = rch0 q := by
  refine nth_ext (by rw [iniF_len]; simp [rch0]) fun j hj => ?_
  rw [iniF_len] at hj
  rw [iniF_nth q (Nat.le_refl _) j hj, if_pos hj]
  unfold rch0 nth
  rw [List.getD_eq_getElem?_getD, List.getElem?_replicate, if_pos hj]; rfl
theorem ini_step {q k : Nat} (hk : k < q) : (cellsOf encEd (iniF q k)).set (k * 4 + 0) (.int .i64 1125899906842624) = cellsOf encEd (iniF q (k + 1)) :=
  cellsOf_set encEd_len (iniF q k) k 0 _ (FX, 0, 0, 0) (by rw [iniF_len]; exact hk) (by decide) (by rw [iniF_nth k (by omega) k hk, if_neg (Nat.lt_irrefl _)]; rfl)
/-- move -/
theorem mvB_on {i a b : Nat} {o : List St} (h1 : 0 < nth (nth P i).l a) (h2 : a ≠ b) (h3 : (nth (mvB l P i a o b) (nth (nth l i).2.2.l a).1.toNat).1 < 1125899906842624) (h4 : (nth (mvB l P i a o b) (nth (nth l i).2.2.l a).1.toNat).1 + (nth l i).2.1 * ((nth (nth l i).2.2.l b).2 - (nth (nth l i).2.2.l a).2) < (nth (mvB l P i a o b) (nth (nth l i).2.2.l b).1.toNat).1) :
    mvB l P i a o (b + 1) = (mvB l P i a o b).set (nth (nth l i).2.2.l b).1.toNat ((nth (mvB l P i a o b) (nth (nth l i).2.2.l a).1.toNat).1 + (nth l i).2.1 * ((nth (nth l i).2.2.l b).2 - (nth (nth l i).2.2.l a).2), (i : Int), (b : Int), (a : Int)) :=
  if_pos ⟨⟨h1, h2⟩, h3, h4⟩
theorem mvB_off {i a b : Nat} {o : List St} (h : 0 < nth (nth P i).l a → a ≠ b → (nth (mvB l P i a o b) (nth (nth l i).2.2.l a).1.toNat).1 < 1125899906842624 → (nth (mvB l P i a o b) (nth (nth l i).2.2.l a).1.toNat).1 + (nth l i).2.1 * ((nth (nth l i).2.2.l b).2 - (nth (nth l i).2.2.l a).2) < (nth (mvB l P i a o b) (nth (nth l i).2.2.l b).1.toNat).1 → False) :
    mvB l P i a o (b + 1) = mvB l P i a o b :=
  if_neg fun z => h z.1.1 z.1.2 z.2.1 z.2.2
theorem mvB_len {i a : Nat} {o : List St} : ∀ b, (mvB l P i a o b).length = o.length
  | 0 => rfl
  | b + 1 => by rw [mvB, mvS_len, mvB_len b]
theorem mvA_len {i : Nat} {o : List St} : ∀ a, (mvA l P i o a).length = o.length
  | 0 => rfl
  | a + 1 => by rw [mvA, mvB_len, mvA_len a]
theorem mvR_len {m : Nat} {o : List St} : ∀ n, (mvR l P m o n).length = o.length
  | 0 => rfl
  | n + 1 => by rw [mvR, mvI_len, mvR_len n]
theorem way_le (hS : wayS l l.length ≤ 1024) {i : Nat} (hi : i < l.length) : (nth l i).2.2.l.length ≤ 1024 := by
  have := wayS_at (l := l) (i := i) (n := l.length) hi; omega
theorem move_bd (hok : PaOk l c) (hS : wayS l l.length ≤ 1024) {o : List St} {i a b : Nat} (hi : i < l.length) (ha : a ≤ (nth l i).2.2.l.length) (hal : a < (nth l i).2.2.l.length) (hb : b ≤ (nth l i).2.2.l.length) (h : BdX c.length 1100000000000000 o) : BdX c.length 2000000000000000 (mvB l P i a (mvA l P i o a) b) := by
  have hw : wyX l i ≤ 1024 := way_le hS hi
  have h2 : a * wyX l i ≤ 1024 * 1024 := Nat.mul_le_mul (Nat.le_trans ha hw) hw
  have hb2 : b ≤ 1024 := Nat.le_trans hb hw
  refine (mvB_bd (P := P) (b := b) hok hi hal (mvA_bd (P := P) hok hi h a ha) hb).mono ?_
  omega
theorem BdX.at {q v : Nat} {B : Int} {o : List St} (h : BdX q B o) (hB : B ≤ 9000000000000000) (hv : v < q) : -9000000000000000 ≤ (nth o v).1 ∧ (nth o v).1 ≤ 9000000000000000 := by
  rcases h.2 v hv with e | e
  · have e2 : (nth o v).1 = 1125899906842624 := e
    omega
  · have e2 : -B ≤ (nth o v).1 ∧ (nth o v).1 ≤ B := e
    omega
/-- reach -/
theorem sdS_len2 {i k : Nat} {o : List St} : (sdS l i k o).length = o.length := by unfold sdS; split <;> simp
theorem sdK_len2 {i : Nat} {o : List St} : ∀ k, (sdK l i o k).length = o.length
  | 0 => rfl
  | k + 1 => by rw [sdK, sdS_len2, sdK_len2 k]
theorem sdI_len2 {lf : Nat → Int} {o : List St} : ∀ i, (sdI l lf o i).length = o.length
  | 0 => rfl
  | i + 1 => by
    rw [sdI]
    split
    · rw [sdK_len2, sdI_len2 i]
    · exact sdI_len2 i
theorem sdI_next {lf : Nat → Int} {o : List St} {i k : Nat} (h1 : 0 < lf i → k = wyX l i) (h2 : ¬ 0 < lf i → k = 0) : sdI l lf o (i + 1) = sdK l i (sdI l lf o i) k := by
  rw [sdI]
  split
  · rename_i h; rw [h1 h]
  · rename_i h; rw [h2 h]; rfl
theorem sdK_on {i k : Nat} {o : List St} (h : (nth l i).2.1 * (nth (nth l i).2.2.l k).2 < (nth (sdK l i o k) (nth (nth l i).2.2.l k).1.toNat).1) : sdK l i o (k + 1) = (sdK l i o k).set (nth (nth l i).2.2.l k).1.toNat ((nth l i).2.1 * (nth (nth l i).2.2.l k).2, (i : Int), (k : Int), -1) := if_pos h
theorem sdK_off {i k : Nat} {o : List St} (h : ¬ (nth l i).2.1 * (nth (nth l i).2.2.l k).2 < (nth (sdK l i o k) (nth (nth l i).2.2.l k).1.toNat).1) : sdK l i o (k + 1) = sdK l i o k := if_neg h
theorem rch_bd (hok : PaOk l c) (hS : wayS l l.length ≤ 1024) {lf : Nat → Int} {n i : Nat} (hn : n < c.length) (hi : i ≤ l.length) : BdX c.length 1100000000000000 (mvI l P (mvR l P l.length (sdI l lf (rch0 c.length) l.length) n) i) := by
  have h1 := mvR_bd (P := P) hok (sdI_bd (lf := lf) hok rch0_bd l.length (Nat.le_refl _)) n
  have h2 := mvI_bd (P := P) hok h1 i hi
  have h3 := sq_all hS
  have h4 := hok.nc
  have h5 : sqI l i ≤ 1048576 := Nat.le_trans (sqI_le i) (Nat.mul_le_mul (Nat.le_trans (way_mono hi) hS) (Nat.le_trans (way_mono hi) hS))
  have h6 : n * sqI l l.length ≤ 60 * 1048576 := Nat.mul_le_mul (by omega) h3
  refine h2.mono ?_
  omega
theorem rc_get {m q v j : Nat} (hm : m = l.length) (hq : q = c.length) (hv : v < q) (hj : j < 4) : (cellsOf encEd (rchX l P m q (lfX l P)))[v * 4 + j]? = some (rowsF encEd (rcX l c P) v j) := by
  subst hm; subst hq
  refine encEd_get ?_ hj
  unfold rchX
  rw [mvR_len, sdI_len2]; simpa [rch0] using hv
/-- families that hold a plan -/
def frow (x : SliceV Int) : FRow := ⟨x.ao, x.l.length, x.cap, cellsOf encI x.l⟩
theorem frow_rep {ao : Option Addr} {cap n : Nat} : frow ⟨ao, cap, List.replicate n 0⟩ = ⟨ao, n, cap, cellsOf encI (List.replicate n 0)⟩ := by simp [frow]
theorem frow_nth {t : Nat} (h : t < P.length) : nth (P.map frow) t = frow (nth P t) := by
  unfold nth
  rw [List.getD_eq_getElem?_getD, List.getD_eq_getElem?_getD, List.getElem?_map, List.getElem?_eq_getElem h]; rfl
theorem frow_vals : (P.map frow).map FRow.val = cellsOf encSl P := by
  induction P with
  | nil => rfl
  | cons x r ih =>
    show _ :: _ = cellsOf encSl ([x] ++ r)
    rw [cellsOf_append, cellsOf_one, ih]; rfl
theorem frow_outer {base a u cap} {w : World} (hu : u = P.length) (ho : w.ownsRow base 29 1 (.slice a u cap) u ((P.map frow).map FRow.val)) : SliceIn w 1 a u cap (rowsF encSl P) := by
  rw [frow_vals] at ho
  exact SliceIn.rows ho encSl_len (by rw [hu]; exact Nat.le_refl _)
theorem frow_inner {base u : Nat} {w : World} (hu : u = P.length) (ho : (Item.fam base 3 1 (P.map frow)).ok w) : ∀ t, t < u → SliceIn w 1 (nth P t).ao (nth P t).l.length (nth P t).cap (rowsF encI (nth P t).l) := fun t ht => by
  have h1 := ho.1 (nth (P.map frow) t) (nth_mem (by rw [List.length_map]; omega))
  rw [frow_nth (by omega)] at h1
  exact SliceIn.rows h1 encI_len (Nat.le_refl _)
theorem frow_get {t : Nat} (h : t < P.length) : ((P.map frow).map FRow.val)[t * 1 + 0]? = some (.slice (nth P t).ao (nth P t).l.length (nth P t).cap) := by
  rw [Nat.mul_one, Nat.add_zero, List.getElem?_map, List.getElem?_map, List.getElem?_eq_getElem h]
  unfold nth
  rw [List.getD_eq_getElem?_getD, List.getElem?_eq_getElem h]; rfl
theorem frow_put {i : Nat} {x : SliceV Int} : (P.map frow).set i (frow x) = (P.set i x).map frow := by rw [List.map_set]
theorem vals_put {i : Nat} {x : SliceV Int} (hi : i < P.length) (ha : x.ao = (nth P i).ao) (hc : x.cap = (nth P i).cap) (hl : x.l.length = (nth P i).l.length) : ((P.set i x).map frow).map FRow.val = (P.map frow).map FRow.val := by
  apply List.ext_getElem?
  intro j
  rw [List.getElem?_map, List.getElem?_map, List.getElem?_map, List.getElem?_map, List.getElem?_set]
  by_cases e : i = j
  · subst e
    rw [if_pos rfl, if_pos hi, List.getElem?_eq_getElem hi]
    have : P[i] = nth P i := by unfold nth; rw [List.getD_eq_getElem?_getD, List.getElem?_eq_getElem hi]; rfl
    rw [this]
    show some (Value.slice x.ao x.l.length x.cap) = some (Value.slice (nth P i).ao (nth P i).l.length (nth P i).cap)
    rw [ha, hc, hl]
  · rw [if_neg e]
theorem addP_put {i k : Nat} {y : Int} : (addP P i k y).map frow = (P.map frow).set i ⟨(nth P i).ao, (nth P i).l.length, (nth P i).cap, cellsOf encI ((nth P i).l.set k (nth (nth P i).l k + y))⟩ := by
  unfold addP
  rw [← frow_put]
  unfold frow
  rw [List.length_set]
theorem addP_vals {i k : Nat} {y : Int} (hi : i < P.length) : ((addP P i k y).map frow).map FRow.val = (P.map frow).map FRow.val := vals_put hi rfl rfl (by rw [List.length_set])
theorem addP_self {i k : Nat} {y : Int} (hi : i < P.length) : (nth (addP P i k y) i).ao = (nth P i).ao ∧ (nth (addP P i k y) i).cap = (nth P i).cap ∧ (nth (addP P i k y) i).l = (nth P i).l.set k (nth (nth P i).l k + y) := by
  unfold addP
  rw [nth_set hi, if_pos rfl]
  exact ⟨rfl, rfl, rfl⟩
theorem addP_len {i k : Nat} {y : Int} : (addP P i k y).length = P.length := by unfold addP; rw [List.length_set]
theorem addP2_put {i k k' : Nat} {y y' : Int} (hi : i < P.length) : (addP (addP P i k y) i k' y').map frow = (P.map frow).set i ⟨(nth P i).ao, (nth P i).l.length, (nth P i).cap, cellsOf encI (((nth P i).l.set k (nth (nth P i).l k + y)).set k' (nth ((nth P i).l.set k (nth (nth P i).l k + y)) k' + y'))⟩ := by
  rw [addP_put, addP_put, List.set_set, (addP_self hi).1, (addP_self hi).2.1, (addP_self hi).2.2, List.length_set]
theorem addP2_vals {i k k' : Nat} {y y' : Int} (hi : i < P.length) : ((addP (addP P i k y) i k' y').map frow).map FRow.val = (P.map frow).map FRow.val := by
  rw [addP_vals (by rw [addP_len]; exact hi), addP_vals hi]
theorem trace_put {w0 w : World} {H : Heap} {Q : List (SliceV Int)} (hw : HeapOk w0 H w) (i j k : Nat) {base n cap : Nat} {ao : Option Addr} {xs : List Value} (hi : H[i]? = some (.fam base 3 1 ((P.map frow).set k default))) (hj : H[j]? = some (.own base ao n cap 3 1 xs)) (hij : Nat.beq i j = false) (hQ : Q.map frow = (P.map frow).set k ⟨ao, n, cap, xs⟩) : HeapOk w0 ((H.set i (.fam base 3 1 (Q.map frow))).set j (nilOwn base 3 1)) w := by
  have h2 := HeapOk.famPut hw i j k hi hj hij
  rw [List.set_set] at h2
  rw [hQ]; exact h2
/-- the first plan -/
structure ZRow (l : List Pa) (P : List (SliceV Int)) (t : Nat) : Prop where
  len : P.length = t
  row : ∀ i, i < t → (nth P i).l = List.replicate (nth l i).2.2.l.length 0
theorem ZRow.nil : ZRow l [] 0 := ⟨rfl, fun i hi => absurd hi (Nat.not_lt_zero _)⟩
theorem ZRow.snoc {t cap : Nat} {ao : Option Addr} (h : ZRow l P t) : ZRow l (P ++ [⟨ao, cap, List.replicate (nth l t).2.2.l.length 0⟩]) (t + 1) := by
  refine ⟨by rw [List.length_append, h.len]; rfl, fun i hi => ?_⟩
  rw [nth_snoc, h.len]
  split
  · rename_i e; subst e; rfl
  · exact h.row i (by omega)
theorem ZRow.zero (h : ZRow l P l.length) : ZeroP l P :=
  ⟨⟨h.len, fun i hi => by rw [h.row i hi]; simp [wyX]⟩, fun i hi k hk => by unfold pX; rw [h.row i hi]; exact nth_rep hk⟩
theorem best_lt {o : List St} {r : Nat → Int} : ∀ n, -1 ≤ bestX o r n ∧ bestX o r n < n
  | 0 => ⟨by simp [bestX], by simp [bestX]⟩
  | n + 1 => by
    have := best_lt (o := o) (r := r) n
    rw [bestX]
    split <;> omega
theorem best_on {o : List St} {r : Nat → Int} {n : Nat} (h1 : 0 < r n) (h2 : (nth o n).1 < 1125899906842624) (h3 : bestX o r n < 0 ∨ (nth o n).1 < (nth o (bestX o r n).toNat).1) : bestX o r (n + 1) = (n : Int) := if_pos ⟨⟨h1, h2⟩, h3⟩
theorem best_off {o : List St} {r : Nat → Int} {n : Nat} (h : 0 < r n → (nth o n).1 < 1125899906842624 → (bestX o r n < 0 ∨ (nth o n).1 < (nth o (bestX o r n).toNat).1) → False) : bestX o r (n + 1) = bestX o r n := if_neg fun z => h z.1.1 z.1.2 z.2
end
end Go.Proofs.Ytngkbnaehkailaa

