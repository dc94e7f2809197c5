/-
  Nested classes: what the functions compute, in plain Lean; and the laws of it.
-/
import Derived.Test.YtblgllngkbjfgaaTab
namespace Go.Proofs.Ytblgllngkbjfgaa
open Go Go.RowKit Eng
set_option linter.unusedVariables false
set_option linter.unusedSimpArgs false
abbrev Cl := ByteArray × Int
abbrev Flt := Int × ByteArray
def lim (A : Int) (cl : List Cl) (i : Nat) : Int := if i = 0 then A else A - (nth cl (i - 1)).2
def suf (l : List Int) (i : Nat) : Int := (l.drop i).sum
def sp (A : Int) (cl : List Cl) (l : List Int) (i : Nat) : Int := lim A cl i - suf l i
def okN (n : Int) : Bool := decide (0 ≤ n) && decide (n ≤ 9999)
def rightB (cl : List Cl) (l : List Int) : Bool := decide (l.length = cl.length) && l.all okN
/-- a cabin is right -/
structure Rt (se ov : Int) (cl : List Cl) : Prop where
  s1 : 1 ≤ se ∧ se ≤ 999
  o1 : 0 ≤ ov ∧ ov ≤ 999
  len : 1 ≤ cl.length ∧ cl.length ≤ 26
  pr : ∀ i, i < cl.length → 0 ≤ (nth cl i).2 ∧ (nth cl i).2 ≤ se + ov
  up : ∀ i, i + 1 < cl.length → (nth cl i).2 ≤ (nth cl (i + 1)).2
theorem lim_bd {se ov : Int} {cl : List Cl} (h : Rt se ov cl) {i : Nat} (hi : i < cl.length + 1) : 0 ≤ lim (se + ov) cl i ∧ lim (se + ov) cl i ≤ se + ov := by
  unfold lim
  have := h.s1
  have := h.o1
  split
  · omega
  · have := h.pr (i - 1) (by omega)
    omega
structure Right (cl : List Cl) (l : List Int) : Prop where
  len : l.length = cl.length
  all : ∀ i, i < l.length → 0 ≤ nth l i ∧ nth l i ≤ 9999
theorem right_iff {cl : List Cl} {l : List Int} : rightB cl l = true ↔ Right cl l := by
  unfold rightB okN
  simp only [Bool.and_eq_true, decide_eq_true_eq, List.all_eq_true]
  constructor
  · rintro ⟨h1, h2⟩
    exact ⟨h1, fun i hi => h2 _ (nth_mem hi)⟩
  · rintro ⟨h1, h2⟩
    refine ⟨h1, fun x hx => ?_⟩
    obtain ⟨i, hi, rfl⟩ := mem_nth hx
    exact h2 i hi
theorem right_no {cl : List Cl} {l : List Int} : rightB cl l = false ↔ ¬ Right cl l := by
  rw [← right_iff]; simp
theorem suf_succ {l : List Int} {i : Nat} (h : i < l.length) : suf l i = nth l i + suf l (i + 1) := by
  unfold suf
  rw [drop_nth h]; simp
theorem suf_end {l : List Int} {i : Nat} (h : l.length ≤ i) : suf l i = 0 := by
  unfold suf
  rw [List.drop_eq_nil_of_le h]; rfl
theorem suf_bd {cl : List Cl} {l : List Int} (h : Right cl l) : ∀ i, i ≤ l.length → 0 ≤ suf l i ∧ suf l i ≤ 9999 * ((l.length - i : Nat) : Int) := by
  intro i hi
  obtain ⟨k, hk⟩ : ∃ k, l.length - i = k := ⟨_, rfl⟩
  induction k generalizing i with
  | zero => rw [suf_end (by omega)]; omega
  | succ k ih =>
    have h1 := ih (i + 1) (by omega) (by omega)
    have h2 := h.all i (by omega)
    rw [suf_succ (by omega)]
    rw [hk]
    have : l.length - (i + 1) = k := by omega
    rw [this] at h1
    omega
theorem suf_mono {cl : List Cl} {l : List Int} (h : Right cl l) (i : Nat) (hi : i < l.length) : suf l (i + 1) ≤ suf l i ∧ nth l i ≤ suf l i := by
  have h1 := h.all i hi
  have h2 := (suf_bd h (i + 1) (by omega)).1
  rw [suf_succ hi]
  omega
def spP (A : Int) (cl : List Cl) (l : List Int) (i : Nat) (j : Nat) : Int := if j < i then lim A cl j else sp A cl l j
/-- the least up to an index -/
def mn (f : Nat → Int) : Nat → Int
  | 0 => f 0
  | i + 1 => min (mn f i) (f (i + 1))
def opn (A : Int) (cl : List Cl) (l : List Int) (i : Nat) : Int := max 0 (mn (sp A cl l) i)
def openL (A : Int) (cl : List Cl) (l : List Int) : List Int := if rightB cl l then tab l.length (opn A cl l) else []
def exc (f : Nat → Int) : Nat → Int
  | 0 => 0
  | i + 1 => max (exc f i) (-(f i))
def excess (A : Int) (cl : List Cl) (l : List Int) : Int := if rightB cl l then exc (sp A cl l) l.length else 0
def fits (A : Int) (cl : List Cl) (l : List Int) : Bool := rightB cl l && decide (excess A cl l = 0)
def badE (cl : List Cl) (l : List Int) (r n : Int) : Int := if rightB cl l = false ∨ n < 1 then 2 else if r < 0 ∨ (l.length : Int) ≤ r then 16 else 0
def chL (cl : List Cl) (l : List Int) (r n : Int) : List Int := if badE cl l r n = 0 then l else []
def sellE (A : Int) (cl : List Cl) (l : List Int) (r n : Int) : Int := if badE cl l r n ≠ 0 then badE cl l r n else if nth (openL A cl l) r.toNat < n then 17 else 0
def sellL (A : Int) (cl : List Cl) (l : List Int) (r n : Int) : List Int := if sellE A cl l r n = 0 then l.set r.toNat (nth l r.toNat + n) else []
def cancE (cl : List Cl) (l : List Int) (r n : Int) : Int := if badE cl l r n ≠ 0 then badE cl l r n else if nth l r.toNat < n then 2 else 0
def cancL (cl : List Cl) (l : List Int) (r n : Int) : List Int := if cancE cl l r n = 0 then l.set r.toNat (nth l r.toNat - n) else []

theorem mn_le (f : Nat → Int) : ∀ i k, k ≤ i → mn f i ≤ f k
  | 0, k, h => by obtain rfl : k = 0 := by omega
                  exact Int.le_refl _
  | i + 1, k, h => by
    unfold mn
    by_cases e : k = i + 1
    · subst e; omega
    · have := mn_le f i k (by omega); omega
theorem mn_is (f : Nat → Int) : ∀ i, ∃ k, k ≤ i ∧ mn f i = f k
  | 0 => ⟨0, Nat.le_refl _, rfl⟩
  | i + 1 => by
    obtain ⟨k, h1, h2⟩ := mn_is f i
    by_cases h : mn f i ≤ f (i + 1)
    · exact ⟨k, by omega, by unfold mn; omega⟩
    · exact ⟨i + 1, Nat.le_refl _, by unfold mn; omega⟩
theorem exc_zero (f : Nat → Int) : ∀ n, exc f n = 0 ↔ ∀ i, i < n → 0 ≤ f i
  | 0 => by simp [exc]
  | n + 1 => by
    have ih := exc_zero f n
    have hnn : ∀ n, 0 ≤ exc f n := by
      intro n
      induction n with
      | zero => exact Int.le_refl _
      | succ n ih => unfold exc; omega
    have h0 := hnn n
    constructor
    · intro h
      have h1 : max (exc f n) (-(f n)) = 0 := h
      have h2 : exc f n = 0 := by omega
      intro i hi
      by_cases e : i = n
      · subst e; omega
      · exact ih.1 h2 i (by omega)
    · intro h
      have h1 := ih.2 (fun i hi => h i (by omega))
      have h2 := h n (by omega)
      show max (exc f n) (-(f n)) = 0
      omega
theorem exc_bd (f : Nat → Int) {b : Int} (hb : 0 ≤ b) : ∀ n, (∀ i, i < n → -b ≤ f i) → 0 ≤ exc f n ∧ exc f n ≤ b
  | 0, _ => by simp [exc, hb]
  | n + 1, h => by
    have h1 := exc_bd f hb n (fun i hi => h i (by omega))
    have h2 := h n (by omega)
    unfold exc
    omega
theorem sp_bd {se ov : Int} {cl : List Cl} {l : List Int} (h : Rt se ov cl) (hr : Right cl l) {i : Nat} (hi : i < l.length) : -300000 ≤ sp (se + ov) cl l i ∧ sp (se + ov) cl l i ≤ 1998 := by
  have h1 := lim_bd h (i := i) (by rw [hr.len] at hi; omega)
  have h2 := suf_bd hr i (by omega)
  have h3 := h.len
  have h4 := h.s1
  have h5 := h.o1
  have h6 := hr.len
  unfold sp
  omega
theorem mn_bd {f : Nat → Int} {a b : Int} : ∀ {i : Nat}, (∀ k, k ≤ i → a ≤ f k ∧ f k ≤ b) → a ≤ mn f i ∧ mn f i ≤ b
  | 0, h => h 0 (Nat.le_refl _)
  | i + 1, h => by
    have h1 := mn_bd (i := i) (fun k hk => h k (by omega))
    have h2 := h (i + 1) (Nat.le_refl _)
    unfold mn
    omega

def inR (se ov : Int) : Bool := decide (1 ≤ se) && decide (se ≤ 999) && decide (0 ≤ ov) && decide (ov ≤ 999)
/-! ### the laws -/
section laws
variable {se ov : Int} {cl : List Cl} {l : List Int}
theorem fits_iff : fits (se + ov) cl l = true ↔ Right cl l ∧ ∀ i, i < l.length → 0 ≤ sp (se + ov) cl l i := by
  unfold fits excess
  rw [Bool.and_eq_true, decide_eq_true_eq]
  constructor
  · rintro ⟨h1, h2⟩
    rw [if_pos h1] at h2
    exact ⟨right_iff.1 h1, (exc_zero _ _).1 h2⟩
  · rintro ⟨h1, h2⟩
    have h1 := right_iff.2 h1
    rw [if_pos h1]
    exact ⟨h1, (exc_zero _ _).2 h2⟩
theorem open_len (hr : Right cl l) : (openL (se + ov) cl l).length = l.length := by
  unfold openL
  rw [if_pos (right_iff.2 hr), tab_len]
theorem open_nth (hr : Right cl l) {i : Nat} (hi : i < l.length) : nth (openL (se + ov) cl l) i = opn (se + ov) cl l i := by
  unfold openL
  rw [if_pos (right_iff.2 hr), tab_nth _ _ hi]
theorem open_bd (h : Rt se ov cl) (hr : Right cl l) {i : Nat} (hi : i < l.length) : 0 ≤ opn (se + ov) cl l i ∧ opn (se + ov) cl l i ≤ 1998 := by
  have := mn_bd (f := sp (se + ov) cl l) (a := -300000) (b := 1998) (i := i) (fun k hk => sp_bd h hr (by omega))
  unfold opn
  omega
theorem open_down (hr : Right cl l) {i : Nat} : opn (se + ov) cl l (i + 1) ≤ opn (se + ov) cl l i := by
  unfold opn
  rw [mn]
  omega
theorem suf_set {r : Nat} {x : Int} (hr : r < l.length) (k : Nat) : suf (l.set r x) k = suf l k + if k ≤ r then x - nth l r else 0 := by
  unfold suf
  rcases Nat.lt_or_ge r k with h | h
  · rw [if_neg (by omega), List.drop_set_of_lt h]; omega
  · rw [if_pos h, List.drop_set, if_neg (by omega), sum_set _ _ _ (by simp; omega)]
    have : nth (l.drop k) (r - k) = nth l r := by
      unfold nth
      simp only [List.getD_eq_getElem?_getD, List.getElem?_drop]
      rw [show k + (r - k) = r from by omega]
    rw [this]
    omega
/-- after a sale: the numbers are right, and what is left -/
theorem sold_right (h : Rt se ov cl) (hr : Right cl l) {r : Nat} {n : Int} (hl : r < l.length) (h1 : 1 ≤ n) (hn : n ≤ opn (se + ov) cl l r) : Right cl (l.set r (nth l r + n)) ∧ ∀ k, sp (se + ov) cl (l.set r (nth l r + n)) k = sp (se + ov) cl l k - if k ≤ r then n else 0 := by
  have hmn : n ≤ mn (sp (se + ov) cl l) r := by unfold opn at hn; omega
  have hsp := mn_le (sp (se + ov) cl l) r r (Nat.le_refl _)
  have hlim := lim_bd h (i := r) (by have := hr.len; omega)
  have hs := suf_mono hr r hl
  have h4 := h.s1
  have h5 := h.o1
  have h6 := hr.all r hl
  refine ⟨⟨by simpa using hr.len, fun i hi => ?_⟩, fun k => ?_⟩
  · rw [nth_set hl]
    split
    · have hq : sp (se + ov) cl l r = lim (se + ov) cl r - suf l r := rfl
      omega
    · exact hr.all i (by simpa using hi)
  · unfold sp
    rw [suf_set hl]
    split <;> omega
theorem sold_fits (h : Rt se ov cl) (hf : fits (se + ov) cl l = true) {r : Nat} {n : Int} (hl : r < l.length) (h1 : 1 ≤ n) (hn : n ≤ opn (se + ov) cl l r) : fits (se + ov) cl (l.set r (nth l r + n)) = true := by
  obtain ⟨hr, hp⟩ := fits_iff.1 hf
  obtain ⟨g1, g2⟩ := sold_right h hr hl h1 hn
  refine fits_iff.2 ⟨g1, fun i hi => ?_⟩
  rw [g2]
  have hi' : i < l.length := by simpa using hi
  split
  · rename_i hir
    have := mn_le (sp (se + ov) cl l) r i hir
    unfold opn at hn
    omega
  · have := hp i hi'; omega
theorem sold_none (h : Rt se ov cl) (hr : Right cl l) {r : Nat} {n : Int} (hl : r < l.length) (h1 : 1 ≤ n) (hn : n = opn (se + ov) cl l r) : opn (se + ov) cl (l.set r (nth l r + n)) r = 0 := by
  obtain ⟨g1, g2⟩ := sold_right h hr hl h1 (by omega)
  have hmn : n = mn (sp (se + ov) cl l) r := by unfold opn at hn; omega
  obtain ⟨k, k1, k2⟩ := mn_is (sp (se + ov) cl l) r
  have := mn_le (sp (se + ov) cl (l.set r (nth l r + n))) r k k1
  rw [g2, if_pos k1] at this
  unfold opn
  omega
theorem canc_right (hr : Right cl l) {r : Nat} {n : Int} (hl : r < l.length) (h1 : 1 ≤ n) (hn : n ≤ nth l r) : Right cl (l.set r (nth l r - n)) := by
  refine ⟨by simpa using hr.len, fun i hi => ?_⟩
  rw [nth_set hl]
  have h6 := hr.all r hl
  split
  · omega
  · exact hr.all i (by simpa using hi)
theorem canc_fits (hf : fits (se + ov) cl l = true) {r : Nat} {n : Int} (hl : r < l.length) (h1 : 1 ≤ n) (hn : n ≤ nth l r) : fits (se + ov) cl (l.set r (nth l r - n)) = true := by
  obtain ⟨hr, hp⟩ := fits_iff.1 hf
  refine fits_iff.2 ⟨canc_right hr hl h1 hn, fun i hi => ?_⟩
  have := hp i (by simpa using hi)
  unfold sp at this ⊢
  rw [suf_set hl]
  split <;> omega
theorem bad_ok {r n : Int} (hr : Right cl l) (h1 : 1 ≤ n) (h2 : 0 ≤ r) (h3 : r < l.length) : badE cl l r n = 0 := by
  unfold badE
  rw [if_neg, if_neg (by omega)]
  rw [right_iff.2 hr]
  simp
  omega
theorem bad_zero {r n : Int} (h : badE cl l r n = 0) : Right cl l ∧ 1 ≤ n ∧ 0 ≤ r ∧ r < l.length := by
  unfold badE at h
  split at h
  · cases h
  · split at h
    · cases h
    · rename_i h1 h2
      have : rightB cl l = true := by
        cases q : rightB cl l with
        | true => rfl
        | false => exact absurd (.inl q) h1
      exact ⟨right_iff.1 this, by omega, by omega, by omega⟩
theorem sell_ok {r n : Int} (h : sellE (se + ov) cl l r n = 0) : Right cl l ∧ 1 ≤ n ∧ 0 ≤ r ∧ r < l.length ∧ n ≤ opn (se + ov) cl l r.toNat ∧ sellL (se + ov) cl l r n = l.set r.toNat (nth l r.toNat + n) := by
  have h0 := h
  unfold sellE at h
  split at h
  · exact absurd h (by assumption)
  · rename_i hb
    have hb0 : badE cl l r n = 0 := by omega
    obtain ⟨b1, b2, b3, b4⟩ := bad_zero hb0
    split at h
    · cases h
    · rename_i hn
      rw [open_nth b1 (by omega)] at hn
      exact ⟨b1, b2, b3, b4, by omega, by unfold sellL; rw [if_pos h0]⟩
theorem canc_ok {r n : Int} (h : cancE cl l r n = 0) : Right cl l ∧ 1 ≤ n ∧ 0 ≤ r ∧ r < l.length ∧ n ≤ nth l r.toNat ∧ cancL cl l r n = l.set r.toNat (nth l r.toNat - n) := by
  have h0 := h
  unfold cancE at h
  split at h
  · exact absurd h (by assumption)
  · rename_i hb
    have hb0 : badE cl l r n = 0 := by omega
    obtain ⟨b1, b2, b3, b4⟩ := bad_zero hb0
    split at h
    · cases h
    · exact ⟨b1, b2, b3, b4, by omega, by unfold cancL; rw [if_pos h0]⟩
theorem sell_is {r : Nat} {n : Int} (hr : Right cl l) (h1 : 1 ≤ n) (h3 : r < l.length) (hn : n ≤ opn (se + ov) cl l r) : sellE (se + ov) cl l r n = 0 := by
  unfold sellE
  rw [if_neg (by rw [bad_ok hr h1 (by omega) (by omega)]; decide), if_neg]
  rw [open_nth hr (by omega)]
  simp only [Int.toNat_natCast]
  omega
theorem sell_no {r : Nat} {n : Int} (hr : Right cl l) (h1 : 1 ≤ n) (h3 : r < l.length) (hn : opn (se + ov) cl l r < n) : sellE (se + ov) cl l r n = 17 := by
  unfold sellE
  rw [if_neg (by rw [bad_ok hr h1 (by omega) (by omega)]; decide), if_pos]
  rw [open_nth hr (by omega)]
  simp only [Int.toNat_natCast]
  omega
theorem canc_is {r : Nat} {n : Int} (hr : Right cl l) (h1 : 1 ≤ n) (h3 : r < l.length) (hn : n ≤ nth l r) : cancE cl l r n = 0 := by
  unfold cancE
  rw [if_neg (by rw [bad_ok hr h1 (by omega) (by omega)]; decide), if_neg]
  simp only [Int.toNat_natCast]
  omega
/-- what was sold can be given back -/
theorem back {r n : Int} (h : Rt se ov cl) (hs : sellE (se + ov) cl l r n = 0) : cancE cl (sellL (se + ov) cl l r n) r n = 0 ∧ cancL cl (sellL (se + ov) cl l r n) r n = l := by
  obtain ⟨h1, h2, h3, h4, h5, h6⟩ := sell_ok hs
  obtain ⟨k, rfl⟩ : ∃ k : Nat, r = k := ⟨r.toNat, by omega⟩
  simp only [Int.toNat_natCast] at h5 h6
  have hk : k < l.length := by omega
  obtain ⟨g1, _⟩ := sold_right h h1 hk h2 h5
  have hx : nth (l.set k (nth l k + n)) k = nth l k + n := by rw [nth_set hk, if_pos rfl]
  have h6' := h1.all k hk
  rw [h6]
  have hc : cancE cl (l.set k (nth l k + n)) (k : Int) n = 0 := canc_is g1 h2 (by simpa using hk) (by rw [hx]; omega)
  refine ⟨hc, ?_⟩
  unfold cancL
  rw [if_pos hc]
  simp only [Int.toNat_natCast]
  rw [hx, List.set_set, show nth l k + n - n = nth l k from by omega, set_id]
theorem fits_sum (h : Rt se ov cl) (hf : fits (se + ov) cl l = true) : l.sum ≤ se + ov := by
  obtain ⟨hr, hp⟩ := fits_iff.1 hf
  have h1 := h.len
  have h2 := hr.len
  have := hp 0 (by omega)
  unfold sp lim suf at this
  simp at this
  omega
theorem fits_zero (h : Rt se ov cl) : fits (se + ov) cl (tab cl.length fun _ => 0) = true := by
  have hs : ∀ k (n : Nat), ((tab n fun _ => (0 : Int)).drop k).sum = 0 := by
    intro k n
    have : ∀ l : List Int, (∀ x ∈ l, x = 0) → l.sum = 0 := by
      intro l
      induction l with
      | nil => intro _; rfl
      | cons a r ih => intro h; rw [List.sum_cons, h a (by simp), ih (fun x hx => h x (by simp [hx]))]; rfl
    refine this _ (fun x hx => ?_)
    have := List.mem_of_mem_drop hx
    simp [tab] at this
    exact this.2.symm
  refine fits_iff.2 ⟨⟨by simp [tab_len], fun i hi => ?_⟩, fun i hi => ?_⟩
  · rw [tab_len] at hi; rw [tab_nth _ _ hi]; omega
  · rw [tab_len] at hi
    have := lim_bd h (i := i) (by omega)
    unfold sp suf
    rw [hs]
    omega
theorem cancL_len {r x : Int} : (cancL cl l r x).length ≤ l.length := by
  unfold cancL
  split <;> simp
theorem sellL_len {r x : Int} : (sellL (se + ov) cl l r x).length ≤ l.length := by
  unfold sellL
  split <;> simp
theorem limits_end (hf : fits (se + ov) cl l = true) {k : Nat} (hk : k < l.length) : ((decide (cancE cl l (k : Int) 1 = 0) == decide (0 < nth l k)) && (decide (cancE cl l (k : Int) 1 ≠ 0) || fits (se + ov) cl (cancL cl l (k : Int) 1))) = true := by
  obtain ⟨hr, _⟩ := fits_iff.1 hf
  by_cases h : 1 ≤ nth l k
  · have h1 := canc_is hr (Int.le_refl 1) hk h
    have h2 : cancL cl l (k : Int) 1 = l.set k (nth l k - 1) := by unfold cancL; rw [if_pos h1]; simp
    rw [h1, h2, canc_fits hf hk (Int.le_refl 1) h]
    simp; omega
  · have h1 : cancE cl l (k : Int) 1 = 2 := by
      unfold cancE
      rw [if_neg (by rw [bad_ok hr (Int.le_refl 1) (by omega) (by omega)]; decide), if_pos (by simp only [Int.toNat_natCast]; omega)]
    rw [h1]
    simp; omega
end laws
def cl0 : List Cl := [(⟨#[89]⟩, 3), (⟨#[77]⟩, 3)]
theorem rt0 : Rt 10 1 cl0 := by
  have key : ∀ i, i < cl0.length → (nth cl0 i).2 = 3 := by
    intro i hi
    have hi : i < 2 := hi
    rcases i with _ | _ | i
    · rfl
    · rfl
    · omega
  refine ⟨by omega, by omega, by decide, fun i hi => ?_, fun i hi => ?_⟩
  · rw [key i hi]; omega
  · rw [key i (by omega), key (i + 1) hi]; omega
theorem k0a : sellE (10 + 1) cl0 [4, 5] 1 2 = 0 ∧ sellL (10 + 1) cl0 [4, 5] 1 2 = [4, 7] := by decide
theorem k0b : sellE (10 + 1) cl0 [4, 5] 1 3 = 17 ∧ sellL (10 + 1) cl0 [4, 5] 1 3 = [] := by decide
theorem k0c : openL (10 + 1) cl0 [0, 8] = [3, 0] := by decide
theorem k0d : excess (10 + 1) cl0 [4, 9] = 2 ∧ fits (10 + 1) cl0 [4, 7] = true := by decide
end Go.Proofs.Ytblgllngkbjfgaa
