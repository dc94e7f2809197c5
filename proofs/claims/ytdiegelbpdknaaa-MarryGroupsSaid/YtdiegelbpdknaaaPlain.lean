/-
  Marriage numbers as plain lists: runs of equal positive numbers, and what the reference checks.
-/
import Derived.Test.YtdiegelbpdknaaaFam
import Derived.Test.YtdiegelbpdknaaaRead
namespace Go.Proofs.Ytdiegelbpdknaaa
open Go Go.RowKit Eng
set_option linter.unusedVariables false
set_option linter.unusedSimpArgs false

def ixF (x : Int) : List Int → Int → Int
  | [], _ => -1
  | y :: r, i => if x = y then i else ixF x r (i + 1)
theorem ixF_iff (x : Int) : ∀ (l : List Int) (i : Int), 0 ≤ i → (0 ≤ ixF x l i ↔ x ∈ l)
  | [], i, h => by simp [ixF]
  | y :: r, i, h => by
    simp only [ixF]
    split
    · rename_i e; simp [e, h]
    · rename_i e; rw [ixF_iff x r (i + 1) (by omega)]; simp [e]
def ints (a m : Nat) : List Value := (List.range' a m).map fun (i : Nat) => Value.int .i64 (i : Int)
theorem ints_succ (a m : Nat) : ints a (m + 1) = ints a m ++ [.int .i64 ((a + m : Nat) : Int)] := by
  simp [ints, List.range'_concat]
theorem ints_length (a m : Nat) : (ints a m).length = m := by simp [ints]
def joinB (l : List Int) (k : Nat) : Bool := decide (0 < k) && decide (0 < nth l k) && decide (nth l (k - 1) = nth l k)
def gi (l : List Int) : Nat → List (Nat × Nat)
  | 0 => []
  | k + 1 => if joinB l k = true then (gi l k).set ((gi l k).length - 1) ((nth (gi l k) ((gi l k).length - 1)).1, (nth (gi l k) ((gi l k).length - 1)).2 + 1) else gi l k ++ [(k, 1)]
structure Inv (l : List Int) (k : Nat) (L : List (Nat × Nat)) : Prop where
  pos : 0 < k → 0 < L.length
  zero : k = 0 → L = []
  m1 : ∀ i, i < L.length → 1 ≤ (nth L i).2
  fst : 0 < L.length → (nth L 0).1 = 0
  next : ∀ i, i + 1 < L.length → (nth L (i + 1)).1 = (nth L i).1 + (nth L i).2
  last : 0 < L.length → (nth L (L.length - 1)).1 + (nth L (L.length - 1)).2 = k
  same : ∀ i, i < L.length → ∀ j, j < (nth L i).2 → nth l ((nth L i).1 + j) = nth l (nth L i).1
  one : ∀ i, i < L.length → nth l (nth L i).1 ≤ 0 → (nth L i).2 = 1
  new : ∀ i, i < L.length → 0 < (nth L i).1 → 0 < nth l (nth L i).1 → nth l ((nth L i).1 - 1) ≠ nth l (nth L i).1
theorem nth_set {α : Type} [Inhabited α] {l : List α} {i j : Nat} {x : α} (hi : i < l.length) : nth (l.set i x) j = if j = i then x else nth l j := by
  unfold nth
  rw [List.getD_eq_getElem?_getD, List.getD_eq_getElem?_getD, List.getElem?_set]
  by_cases e : i = j
  · subst e; simp [hi]
  · rw [if_neg e, if_neg (fun h => e h.symm)]
theorem nth_app {α : Type} [Inhabited α] {l : List α} {j : Nat} {x : α} (hj : j ≤ l.length) : nth (l ++ [x]) j = if j = l.length then x else nth l j := by
  unfold nth
  rw [List.getD_eq_getElem?_getD, List.getD_eq_getElem?_getD]
  split
  · rename_i e; subst e; simp
  · rename_i e; rw [List.getElem?_append_left (by omega)]
theorem gi_inv (l : List Int) : ∀ k, Inv l k (gi l k)
  | 0 => ⟨by omega, fun _ => rfl, by simp [gi], by simp [gi], by simp [gi], by simp [gi], by simp [gi], by simp [gi], by simp [gi]⟩
  | k + 1 => by
    have h := gi_inv l k
    rw [gi]
    generalize gi l k = L at h
    by_cases hj : joinB l k = true
    · rw [if_pos hj]
      simp only [joinB, Bool.and_eq_true, decide_eq_true_eq] at hj
      obtain ⟨⟨j1, j2⟩, j3⟩ := hj
      have hp := h.pos j1
      have hl := h.last hp
      have hm := h.m1 (L.length - 1) (by omega)
      have hs := h.same (L.length - 1) (by omega) ((nth L (L.length - 1)).2 - 1) (by omega)
      have hk1 : (nth L (L.length - 1)).1 + ((nth L (L.length - 1)).2 - 1) = k - 1 := by omega
      rw [hk1] at hs
      refine ⟨fun _ => by simpa using hp, by omega, ?_, ?_, ?_, ?_, ?_, ?_, ?_⟩
      · intro i hi
        rw [List.length_set] at hi
        rw [nth_set (by omega)]
        split
        · simp
        · exact h.m1 i hi
      · intro _
        rw [nth_set (by omega)]
        split
        · rename_i e; rw [← e]; exact h.fst hp
        · exact h.fst hp
      · intro i hi
        rw [List.length_set] at hi
        rw [nth_set (by omega), nth_set (by omega)]
        have := h.next i hi
        rw [if_neg (show ¬ i = L.length - 1 by omega)]
        split
        · rename_i e; rw [← e]; exact this
        · exact this
      · intro _
        rw [List.length_set, nth_set (by omega), if_pos rfl]
        show _ + (_ + 1) = k + 1
        omega
      · intro i hi j hj
        rw [List.length_set] at hi
        rw [nth_set (by omega)] at hj ⊢
        split at hj
        · rename_i e
          rw [if_pos e]
          simp only at hj ⊢
          rcases Nat.lt_or_ge j (nth L (L.length - 1)).2 with hlt | hge
          · exact h.same _ (by omega) j hlt
          · rw [show (nth L (L.length - 1)).1 + j = k from by omega, ← j3, hs]
        · rename_i e
          rw [if_neg e]
          exact h.same i hi j hj
      · intro i hi
        rw [List.length_set] at hi
        rw [nth_set (by omega)]
        split
        · intro hle
          simp only at hle
          omega
        · exact h.one i hi
      · intro i hi
        rw [List.length_set] at hi
        rw [nth_set (by omega)]
        split
        · rename_i e
          intro h1 h2
          exact h.new (L.length - 1) (by omega) h1 h2
        · exact h.new i hi
    · rw [if_neg hj]
      refine ⟨fun _ => by simp, by omega, ?_, ?_, ?_, ?_, ?_, ?_, ?_⟩
      · intro i hi
        rw [List.length_append] at hi
        rw [nth_app (by simp at hi; omega)]
        split
        · simp
        · exact h.m1 i (by simp at hi; omega)
      · intro _
        rw [nth_app (by omega)]
        split
        · rename_i e
          show k = 0
          rcases Nat.eq_zero_or_pos k with q | q
          · exact q
          · have := h.pos q; omega
        · exact h.fst (by omega)
      · intro i hi
        simp at hi
        rw [nth_app (by omega), nth_app (by omega), if_neg (show ¬ i = L.length by omega)]
        split
        · rename_i e
          show k = _
          rw [show i = L.length - 1 from by omega]
          exact (h.last (by omega)).symm
        · exact h.next i (by omega)
      · intro _
        rw [List.length_append]
        rw [show L.length + [(k, 1)].length - 1 = L.length from by simp]
        rw [nth_app (by omega), if_pos rfl]
      · intro i hi j hj
        simp at hi
        rw [nth_app (by omega)] at hj ⊢
        split at hj
        · rename_i e
          rw [if_pos e]
          simp only at hj ⊢
          rw [show j = 0 from by omega]
          rfl
        · rename_i e
          rw [if_neg e]
          exact h.same i (by omega) j hj
      · intro i hi
        simp at hi
        rw [nth_app (by omega)]
        split
        · intro _; rfl
        · exact h.one i (by omega)
      · intro i hi
        simp at hi
        rw [nth_app (by omega)]
        split
        · simp only
          intro h1 h2 h3
          apply hj
          simp [joinB, h1, h2, h3]
        · exact h.new i (by omega)
theorem Inv.cover {l : List Int} {k : Nat} {L : List (Nat × Nat)} (h : Inv l k L) : ∀ p, p < k → ∃ i, i < L.length ∧ (nth L i).1 ≤ p ∧ p < (nth L i).1 + (nth L i).2 := by
  intro p
  induction p with
  | zero =>
    intro hp
    have h1 := h.pos hp
    exact ⟨0, h1, by rw [h.fst h1]; omega, by rw [h.fst h1]; have := h.m1 0 h1; omega⟩
  | succ p ih =>
    intro hp
    obtain ⟨i, h1, h2, h3⟩ := ih (by omega)
    rcases Nat.lt_or_ge (p + 1) ((nth L i).1 + (nth L i).2) with q | q
    · exact ⟨i, h1, by omega, q⟩
    · rcases Nat.lt_or_ge (i + 1) L.length with r | r
      · have e := h.next i r
        have := h.m1 (i + 1) r
        exact ⟨i + 1, r, by omega, by omega⟩
      · have e := h.last (by omega)
        rw [show L.length - 1 = i from by omega] at e
        omega
theorem Inv.bound {l : List Int} {k : Nat} {L : List (Nat × Nat)} (h : Inv l k L) : ∀ d i, i + d + 1 = L.length → (nth L i).1 + (nth L i).2 ≤ k := by
  intro d
  induction d with
  | zero =>
    intro i hi
    have e := h.last (by omega)
    rw [show L.length - 1 = i from by omega] at e
    omega
  | succ d ih =>
    intro i hi
    have e := h.next i (by omega)
    have := ih (i + 1) (by omega)
    omega
theorem Inv.le {l : List Int} {k : Nat} {L : List (Nat × Nat)} (h : Inv l k L) {i : Nat} (hi : i < L.length) : (nth L i).1 + (nth L i).2 ≤ k := h.bound (L.length - 1 - i) i (by omega)
/-! the check -/
def badI (l : List Int) (x : Nat × Nat) : Bool := decide (0 < nth l x.1) && (decide (x.2 = 1) || decide (nth l x.1 ∈ l.drop (x.1 + x.2)))
def negs : List Int → Bool := fun l => l.any fun n => decide (n < 0)
def checkF (l : List Int) : Int := if negs l = true then 2 else if (gi l l.length).any (badI l) = true then 18 else 0
def neighB (l : List Int) (i : Nat) : Bool := (decide (0 < i) && decide (nth l (i - 1) = nth l i)) || (decide (i + 1 < l.length) && decide (nth l (i + 1) = nth l i))
def farB (l : List Int) (i k : Nat) : Bool := decide (0 < nth l i) && decide (nth l k = nth l i) && decide (nth l (k - 1) ≠ nth l i)
/-- what the reference finds wrong at index i -/
def BadR (l : List Int) (i : Nat) : Prop := (0 < nth l i ∧ neighB l i = false) ∨ ∃ k, i + 2 ≤ k ∧ k < l.length ∧ farB l i k = true
theorem mem_drop {l : List Int} {a : Nat} {x : Int} : x ∈ l.drop a ↔ ∃ k, a ≤ k ∧ k < l.length ∧ nth l k = x := by
  rw [List.mem_iff_getElem?]
  constructor
  · rintro ⟨i, hi⟩
    rw [List.getElem?_drop] at hi
    obtain ⟨h1, h2⟩ := List.getElem?_eq_some_iff.1 hi
    refine ⟨a + i, by omega, h1, ?_⟩
    have := nth_get h1
    rw [hi] at this
    injection this with this
    exact this.symm
  · rintro ⟨k, h1, h2, h3⟩
    refine ⟨k - a, ?_⟩
    rw [List.getElem?_drop, show a + (k - a) = k from by omega, nth_get h2, h3]
theorem least {p : Nat → Prop} [DecidablePred p] : ∀ k, p k → ∃ m, m ≤ k ∧ p m ∧ ∀ j, j < m → ¬ p j := by
  intro k
  induction k using Nat.strongRecOn with
  | _ k ih =>
    intro hk
    by_cases h : ∃ j, j < k ∧ p j
    · obtain ⟨j, h1, h2⟩ := h
      obtain ⟨m, h3, h4, h5⟩ := ih j h1 h2
      exact ⟨m, by omega, h4, h5⟩
    · exact ⟨k, Nat.le_refl _, hk, fun j hj hp => h ⟨j, hj, hp⟩⟩
theorem bad_iff (l : List Int) : ((gi l l.length).any (badI l) = true) ↔ ∃ i, i < l.length ∧ BadR l i := by
  have h := gi_inv l l.length
  generalize gi l l.length = L at h
  rw [List.any_eq_true]
  constructor
  · rintro ⟨x, hx, hb⟩
    obtain ⟨i, hi⟩ := List.mem_iff_getElem?.1 hx
    obtain ⟨hil, he⟩ := List.getElem?_eq_some_iff.1 hi
    have hx' : nth L i = x := by have := nth_get hil; rw [hi] at this; injection this with this; exact this.symm
    have hle := h.le hil
    have hm := h.m1 i hil
    have hsame := h.same i hil
    have hnew := h.new i hil
    have hnext := h.next i
    have hlast := h.last (by omega)
    have hone := h.one (i + 1)
    have hnew2 := h.new (i + 1)
    rw [hx'] at hle hm hsame hnew hnext
    simp only [badI, Bool.and_eq_true, Bool.or_eq_true, decide_eq_true_eq] at hb
    obtain ⟨hpos, hb⟩ := hb
    have after : x.1 + x.2 < l.length → nth l (x.1 + x.2) ≠ nth l x.1 := by
      intro hlt e
      have hi1 : i + 1 < L.length := by
        rcases Nat.lt_or_ge (i + 1) L.length with q | q
        · exact q
        · rw [show L.length - 1 = i from by omega, hx'] at hlast
          omega
      have hn := hnext hi1
      have h2 := hnew2 hi1
      rw [hn] at h2
      have h3 := h2 (by omega) (by rw [e]; exact hpos)
      rw [show x.1 + x.2 - 1 = x.1 + (x.2 - 1) from by omega, hsame _ (by omega), e] at h3
      exact h3 rfl
    rcases hb with hb | hb
    · refine ⟨x.1, by omega, .inl ⟨hpos, ?_⟩⟩
      simp only [neighB, Bool.or_eq_false_iff, Bool.and_eq_false_iff, decide_eq_false_iff_not]
      refine ⟨?_, ?_⟩
      · by_cases q : 0 < x.1
        · exact .inr (hnew q hpos)
        · exact .inl q
      · by_cases q : x.1 + 1 < l.length
        · right; rw [hb] at after; exact after q
        · exact .inl q
    · obtain ⟨k, h1, h2, h3⟩ := mem_drop.1 hb
      obtain ⟨m, g1, g2, g3⟩ := least (p := fun k => x.1 + x.2 ≤ k ∧ nth l k = nth l x.1) k ⟨h1, h3⟩
      have hne : m ≠ x.1 + x.2 := fun e => after (by omega) (by rw [← e]; exact g2.2)
      have hlast2 : nth l (x.1 + (x.2 - 1)) = nth l x.1 := hsame _ (by omega)
      refine ⟨x.1 + (x.2 - 1), by omega, .inr ⟨m, by omega, by omega, ?_⟩⟩
      simp only [farB, Bool.and_eq_true, decide_eq_true_eq, hlast2]
      refine ⟨⟨hpos, g2.2⟩, fun e => g3 (m - 1) (by omega) ⟨by omega, e⟩⟩
  · rintro ⟨i, hi, hb⟩
    obtain ⟨q, hq, h1, h2⟩ := h.cover i hi
    have hsame := h.same q hq
    have hi' : nth l i = nth l (nth L q).1 := by
      have := hsame (i - (nth L q).1) (by omega)
      rwa [show (nth L q).1 + (i - (nth L q).1) = i from by omega] at this
    refine ⟨nth L q, nth_mem hq, ?_⟩
    have hle := h.le hq
    simp only [badI, Bool.and_eq_true, Bool.or_eq_true, decide_eq_true_eq]
    rcases hb with ⟨hpos, hn⟩ | ⟨k, k1, k2, hf⟩
    · refine ⟨by rw [← hi']; exact hpos, .inl ?_⟩
      have hm := h.m1 q hq
      simp only [neighB, Bool.or_eq_false_iff, Bool.and_eq_false_iff, decide_eq_false_iff_not] at hn
      by_cases e : (nth L q).2 = 1
      · exact e
      · exfalso
        by_cases f : (nth L q).1 < i
        · have := hsame (i - 1 - (nth L q).1) (by omega)
          rw [show (nth L q).1 + (i - 1 - (nth L q).1) = i - 1 from by omega] at this
          rcases hn.1 with g | g
          · omega
          · exact g (by rw [this, hi'])
        · have := hsame (i + 1 - (nth L q).1) (by omega)
          rw [show (nth L q).1 + (i + 1 - (nth L q).1) = i + 1 from by omega] at this
          rcases hn.2 with g | g
          · omega
          · exact g (by rw [this, hi'])
    · simp only [farB, Bool.and_eq_true, decide_eq_true_eq] at hf
      obtain ⟨⟨f1, f2⟩, f3⟩ := hf
      refine ⟨by rw [← hi']; exact f1, .inr (mem_drop.2 ⟨k, ?_, k2, by rw [f2, hi']⟩)⟩
      rcases Nat.lt_or_ge k ((nth L q).1 + (nth L q).2) with g | g
      · exfalso
        apply f3
        have := hsame (k - 1 - (nth L q).1) (by omega)
        rw [show (nth L q).1 + (k - 1 - (nth L q).1) = k - 1 from by omega] at this
        rw [this, hi']
      · exact g
/-! rows -/
theorem gi_le (l : List Int) (k : Nat) : (gi l k).length ≤ k := by
  induction k with
  | zero => simp [gi]
  | succ k ih => rw [gi]; split <;> simp <;> omega
def frow (r : FRow) : Nat × List Value := (r.n, r.xs)
def ivr (p : Nat × Nat) : Nat × List Value := (p.2, ints p.1 p.2)
def Rk (l : List Int) (k : Nat) (rs : List FRow) : Prop := rs.map frow = (gi l k).map ivr
theorem Rk.len {l : List Int} {k : Nat} {rs : List FRow} (h : Rk l k rs) : rs.length = (gi l k).length := by
  have := congrArg List.length h
  simpa using this
theorem Rk.at_ {l : List Int} {k : Nat} {rs : List FRow} (h : Rk l k rs) {i : Nat} (hi : i < rs.length) : (nth rs i).n = (nth (gi l k) i).2 ∧ (nth rs i).xs = ints (nth (gi l k) i).1 (nth (gi l k) i).2 := by
  have h2 := h.len
  have e1 := nth_get hi
  have e2 : (gi l k)[i]? = some (nth (gi l k) i) := nth_get (by omega)
  have e := congrArg (·[i]?) h
  simp only [List.getElem?_map, e1, e2, Option.map_some, Option.some.injEq] at e
  exact ⟨congrArg Prod.fst e, congrArg Prod.snd e⟩
theorem ints_get {a m j : Nat} (h : j < m) : (ints a m)[j]? = some (.int .i64 ((a + j : Nat) : Int)) := by
  simp [ints, h]
theorem Rk.get {l : List Int} {k : Nat} {rs : List FRow} (h : Rk l k rs) {i j : Nat} (hi : i < rs.length) (hj : j < (nth rs i).n) : (nth rs i).xs[j * 1 + 0]? = some (.int .i64 (((nth (gi l k) i).1 + j : Nat) : Int)) := by
  obtain ⟨h1, h2⟩ := h.at_ hi
  rw [h2, show j * 1 + 0 = j from by omega]
  exact ints_get (by omega)
theorem vals_get {rs : List FRow} {i : Nat} (h : i < rs.length) : (rs.map FRow.val)[i * 1 + 0]? = some (.slice (nth rs i).ao (nth rs i).n (nth rs i).cap) := by
  rw [show i * 1 + 0 = i from by omega, List.getElem?_map, nth_get h]; rfl
theorem Rk.snoc {l : List Int} {k : Nat} {rs : List FRow} {ao : Option Addr} {cap : Nat} (h : Rk l k rs) (hj : joinB l k = false) : Rk l (k + 1) (rs ++ [⟨ao, 1, cap, [.int .i64 (k : Int)]⟩]) := by
  unfold Rk at h ⊢
  rw [gi, if_neg (by rw [hj]; simp), List.map_append, List.map_append, h]
  rfl
theorem Rk.join {l : List Int} {k : Nat} {rs : List FRow} {ao : Option Addr} {cap : Nat} (h : Rk l k rs) (hj : joinB l k = true) :
    Rk l (k + 1) (rs.set (rs.length - 1) ⟨ao, (nth rs (rs.length - 1)).n + 1, cap, (nth rs (rs.length - 1)).xs ++ [.int .i64 (k : Int)]⟩) := by
  have hI := gi_inv l k
  have hk : 0 < k := by simp only [joinB, Bool.and_eq_true, decide_eq_true_eq] at hj; exact hj.1.1
  have h1 := hI.pos hk
  have h2 := h.len
  have h3 := hI.last h1
  obtain ⟨e1, e2⟩ := h.at_ (i := rs.length - 1) (by omega)
  unfold Rk at h ⊢
  rw [gi, if_pos hj, List.map_set, List.map_set, h, h2]
  rw [h2] at e1 e2
  congr 1
  simp only [frow, ivr, e1, e2, ints_succ, h3]
def Rc (l : List Int) (rs : List FRow) : Prop := if checkF l = 0 then Rk l l.length rs else rs = []
theorem FamOut.nil (w : World) (base : Nat) (t ti : TypeId) (sz : Nat) : FamOut w base t ti sz none 0 [] :=
  ⟨ownsRow_nil, ⟨fun r hr => by simp at hr, List.Pairwise.nil⟩, fun b hb => by
    have hb : (none : Option Addr).map (·.block) = some b := hb
    cases hb⟩
/-! the members of a group -/
def il (a m : Nat) : List Int := (List.range' a m).map fun (i : Nat) => (i : Int)
theorem il_length (a m : Nat) : (il a m).length = m := by simp [il]
theorem nth_il {a m j : Nat} (h : j < m) : nth (il a m) j = ((a + j : Nat) : Int) := by
  unfold nth il
  rw [List.getD_eq_getElem?_getD]
  simp [h]
theorem il_cells (a m : Nat) : cellsOf encI (il a m) = ints a m := by
  rw [cellsOf_encI]; simp [il, ints]
theorem mem_il {a m : Nat} {x : Int} : x ∈ il a m ↔ (a : Int) ≤ x ∧ x < (a : Int) + m := by
  simp only [il, List.mem_map, List.mem_range'_1]
  constructor
  · rintro ⟨i, ⟨h1, h2⟩, rfl⟩; omega
  · rintro ⟨h1, h2⟩; exact ⟨x.toNat, by omega, by omega⟩
theorem Rk.in_ {l : List Int} {k : Nat} {rs : List FRow} (h : Rk l k rs) {i : Nat} (hi : i < rs.length) : ∀ p, p < (nth rs i).n → ∀ q, q < 1 → (nth rs i).xs[p * 1 + q]? = some (rowsF encI (il (nth (gi l k) i).1 (nth (gi l k) i).2) p q) := by
  intro p hp q hq
  obtain rfl : q = 0 := by omega
  rw [h.get hi hp]
  have := (h.at_ hi).1
  have e := nth_il (a := (nth (gi l k) i).1) (m := (nth (gi l k) i).2) (j := p) (by omega)
  unfold rowsF
  rw [e]
  rfl
def withE (l : List Int) (x : Int) : Int := if checkF l ≠ 0 then checkF l else if x < 0 ∨ (l.length : Int) ≤ x then 2 else 0
def selB (l : List Int) (x i : Nat) : Bool := decide (i = x) || (decide (0 < nth l i) && decide (nth l i = nth l x))
def withX (l : List Int) (x : Int) : List Int := if withE l x = 0 then ((List.range l.length).filter (selB l x.toNat)).map fun (i : Nat) => (i : Int) else []
theorem filter_range {a m n : Nat} (h : a + m ≤ n) (p : Nat → Bool) (hp : ∀ i, i < n → (p i = true ↔ a ≤ i ∧ i < a + m)) : (List.range n).filter p = List.range' a m := by
  have e : List.range n = List.range' 0 a ++ (List.range' a m ++ List.range' (a + m) (n - a - m)) := by
    rw [List.range_eq_range']
    have h1 := List.range'_append_1 (s := a) (m := m) (n := n - a - m)
    rw [h1]
    have h2 := List.range'_append_1 (s := 0) (m := a) (n := m + (n - a - m))
    rw [Nat.zero_add] at h2
    rw [h2]
    congr 1
    omega
  rw [e, List.filter_append, List.filter_append]
  have f1 : (List.range' 0 a).filter p = [] := by
    rw [List.filter_eq_nil_iff]
    intro i hi
    rw [List.mem_range'_1] at hi
    rw [hp i (by omega)]; omega
  have f2 : (List.range' a m).filter p = List.range' a m := by
    rw [List.filter_eq_self]
    intro i hi
    rw [List.mem_range'_1] at hi
    rw [hp i (by omega)]; omega
  have f3 : (List.range' (a + m) (n - a - m)).filter p = [] := by
    rw [List.filter_eq_nil_iff]
    intro i hi
    rw [List.mem_range'_1] at hi
    rw [hp i (by omega)]; omega
  rw [f1, f2, f3]; simp
theorem check_ok_nonneg {l : List Int} (h : checkF l = 0) : (∀ i, i < l.length → 0 ≤ nth l i) ∧ ∀ q, q < (gi l l.length).length → badI l (nth (gi l l.length) q) = false := by
  unfold checkF at h
  split at h
  · omega
  · rename_i h1
    split at h
    · omega
    · rename_i h2
      constructor
      · intro i hi
        have hm := nth_mem hi
        by_cases z : 0 ≤ nth l i
        · exact z
        · exfalso; apply h1
          rw [negs, List.any_eq_true]
          exact ⟨_, hm, by simp; omega⟩
      · intro q hq
        cases hb : badI l (nth (gi l l.length) q) with
        | false => rfl
        | true => exact absurd (List.any_eq_true.2 ⟨_, nth_mem hq, hb⟩) h2
/-- where the check finds nothing, the reference's selection is the run that holds the index -/
theorem sel_run {l : List Int} (h : checkF l = 0) {q x : Nat} (hq : q < (gi l l.length).length) (h1 : (nth (gi l l.length) q).1 ≤ x) (h2 : x < (nth (gi l l.length) q).1 + (nth (gi l l.length) q).2) :
    (List.range l.length).filter (selB l x) = List.range' (nth (gi l l.length) q).1 (nth (gi l l.length) q).2 := by
  obtain ⟨hnn, hbad⟩ := check_ok_nonneg h
  have hI := gi_inv l l.length
  generalize gi l l.length = L at *
  have hle := hI.le hq
  have same : ∀ i, (nth L q).1 ≤ i → i < (nth L q).1 + (nth L q).2 → nth l i = nth l (nth L q).1 := by
    intro i a1 a2
    have := hI.same q hq (i - (nth L q).1) (by omega)
    rwa [show (nth L q).1 + (i - (nth L q).1) = i from by omega] at this
  have hx := same x h1 h2
  refine filter_range hle _ fun i hi => ?_
  simp only [selB, Bool.or_eq_true, Bool.and_eq_true, decide_eq_true_eq]
  constructor
  · rintro (rfl | ⟨p1, p2⟩)
    · exact ⟨h1, h2⟩
    · rcases Nat.lt_or_ge i (nth L q).1 with c | c
      · exfalso
        obtain ⟨r, hr, r1, r2⟩ := hI.cover i hi
        have hb := hbad r hr
        simp only [badI, Bool.and_eq_false_iff, Bool.or_eq_false_iff, decide_eq_false_iff_not] at hb
        have e := hI.same r hr (i - (nth L r).1) (by omega)
        rw [show (nth L r).1 + (i - (nth L r).1) = i from by omega] at e
        rcases hb with hb | ⟨_, hb⟩
        · omega
        · apply hb
          refine mem_drop.2 ⟨x, ?_, by omega, by rw [← e, p2]⟩
          rcases Nat.lt_or_ge x ((nth L r).1 + (nth L r).2) with z | z
          · exfalso
            -- then the run r holds the first index of the run q, which begins anew there
            have e1 := hI.same r hr ((nth L q).1 - (nth L r).1) (by omega)
            rw [show (nth L r).1 + ((nth L q).1 - (nth L r).1) = (nth L q).1 from by omega] at e1
            have e2 := hI.same r hr ((nth L q).1 - 1 - (nth L r).1) (by omega)
            rw [show (nth L r).1 + ((nth L q).1 - 1 - (nth L r).1) = (nth L q).1 - 1 from by omega] at e2
            exact hI.new q hq (by omega) (by rw [← hx, ← p2]; exact p1) (by rw [e2, e1])
          · exact z
      · refine ⟨c, ?_⟩
        rcases Nat.lt_or_ge i ((nth L q).1 + (nth L q).2) with z | z
        · exact z
        · exfalso
          have hb := hbad q hq
          simp only [badI, Bool.and_eq_false_iff, Bool.or_eq_false_iff, decide_eq_false_iff_not] at hb
          rcases hb with hb | ⟨_, hb⟩
          · rw [hx] at p2; omega
          · exact hb (mem_drop.2 ⟨i, z, hi, by rw [p2, hx]⟩)
  · rintro ⟨a1, a2⟩
    have e := same i a1 a2
    rcases Int.lt_or_le 0 (nth l i) with z | z
    · right; exact ⟨z, by rw [e, hx]⟩
    · left
      have := hI.one q hq (by rw [← e]; exact z)
      omega
theorem withX_run {l : List Int} {x : Int} (h : checkF l = 0) {q : Nat} (hq : q < (gi l l.length).length) (hx : x ∈ il (nth (gi l l.length) q).1 (nth (gi l l.length) q).2) : withE l x = 0 ∧ withX l x = il (nth (gi l l.length) q).1 (nth (gi l l.length) q).2 := by
  rw [mem_il] at hx
  have hle := (gi_inv l l.length).le hq
  have e : withE l x = 0 := by rw [withE, if_neg (by rw [h]; simp), if_neg (by omega)]
  refine ⟨e, ?_⟩
  rw [withX, if_pos e, sel_run h hq (x := x.toNat) (by omega) (by omega)]
  rfl
end Go.Proofs.Ytdiegelbpdknaaa
