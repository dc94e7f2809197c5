/-
  Coupons: what the laws ask of the plain functions.
-/
import Derived.Test.YtipmdakhmpaemaaDoorPlain
namespace Go.Proofs.YtipmdakhmpaemaaDoor
open Go Go.RowKit Eng
set_option linter.unusedVariables false
set_option linter.unusedSimpArgs false
theorem reach_iff (a b : Int) : reachC a b = true ↔ (1 ≤ a ∧ a ≤ 8 ∧ 1 ≤ b ∧ b ≤ 8) ∧ (a = b ∨ a < 5) := by
  unfold reachC
  split
  · constructor
    · intro h; cases h
    · intro h; omega
  · simp [finalB]; omega
theorem status_all (s x : Int) : ((!finalB s || (reachC s x == decide (s = x))) && (decide (s < 1) || decide (8 < s) || reachC 1 s)) = true := by
  have h1 := reach_iff s x
  have h2 := reach_iff 1 s
  have h3 : finalB s = true ↔ 5 ≤ s ∧ s ≤ 8 := by simp [finalB]
  simp only [Bool.and_eq_true, Bool.or_eq_true, Bool.not_eq_true', decide_eq_true_eq, beq_iff_eq]
  constructor
  · by_cases hf : finalB s = true
    · right
      have hs := h3.1 hf
      by_cases e : s = x
      · have : reachC s x = true := h1.2 ⟨by omega, by omega⟩
        rw [this]; simp [e]
      · have : ¬ reachC s x = true := fun h => by have := h1.1 h; omega
        simp [this, e]
    · left; simpa using hf
  · by_cases hr : s < 1 ∨ 8 < s
    · left; exact hr
    · right; exact h2.2 ⟨by omega, by omega⟩
theorem reach_trans {a b c : Int} (h1 : reachC a b = true) (h2 : reachC b c = true) : reachC a c = true := by
  have h1 := (reach_iff a b).1 h1
  have h2 := (reach_iff b c).1 h2
  exact (reach_iff a c).2 ⟨by omega, by omega⟩
theorem next_reach (a b : Int) (h : (nextE a b).2 = 0) : reachC a (nextE a b).1 = true ∧ finalB a = false := by
  revert h
  unfold nextE
  split
  · intro h; cases h
  · split
    · intro h; cases h
    · split
      · rename_i h1 h2 h3
        intro _
        have h4 : 1 ≤ nextC a b ∧ nextC a b ≤ 8 ∧ a < 5 := by
          revert h3
          unfold nextC
          (repeat' split) <;> omega
        refine ⟨(reach_iff _ _).2 ⟨?_, ?_⟩, ?_⟩
        · show 1 ≤ a ∧ a ≤ 8 ∧ 1 ≤ nextC a b ∧ nextC a b ≤ 8
          omega
        · right; omega
        · simp [finalB]; omega
      · intro h; cases h
theorem self_reach (a : Int) : (reachC a a == (decide (1 ≤ a) && decide (a ≤ 8))) = true := by
  have h := reach_iff a a
  by_cases e : 1 ≤ a ∧ a ≤ 8
  · have : reachC a a = true := h.2 ⟨by omega, by omega⟩
    simp [this, e]
  · have : reachC a a = false := by
      cases q : reachC a a with
      | false => rfl
      | true => have := h.1 q; omega
    simp [this]; omega
theorem text_all (s : Int) : (decide ((textF s).2 ≠ 0) || (decide ((parseF (textF s).1).1 = s) && decide ((parseF (textF s).1).2 = 0))) = true := by
  by_cases h : s < 1 ∨ 8 < s
  · have : (textF s).2 = 8 := by rw [textF, if_pos h]
    simp [this]
  · rw [parse_text (by omega)]; simp
theorem tax_nil {w : World} {α : Type} [Inhabited α] {enc : α → List Value} {sz : Nat} : SliceIn w sz none 0 0 (rowsF enc []) := ⟨Nat.le_refl _, Nat.zero_le _, .inl rfl, fun i hi => absurd hi (by omega)⟩
theorem tkM_tax {w : World} {t : TK} {l : List Cp} {a e : Int} (h : SliceIn w 2 t.taxes.ao t.taxes.l.length t.taxes.cap (rowsF enc54 t.taxes.l)) : SliceIn w 2 (tkM t l a e).taxes.ao (tkM t l a e).taxes.l.length (tkM t l a e).taxes.cap (rowsF enc54 (tkM t l a e).taxes.l) := by
  unfold tkM
  split
  · exact h
  · exact tax_nil
theorem tkM_len {t : TK} {l : List Cp} {a e : Int} (h : t.taxes.l.length ≤ 1000) : (tkM t l a e).taxes.l.length ≤ 1000 := by
  unfold tkM
  split
  · exact h
  · exact Nat.zero_le _
theorem lM_len {l : List Cp} {a e : Int} (h : l.length ≤ 1000) : (lM l a e).length ≤ 1000 := by
  unfold lM
  split
  · simpa using h
  · exact Nat.zero_le _
def cp1 : Cp := (((⟨#[]⟩, 0, 0, ⟨#[]⟩, ⟨#[]⟩, 0, 0), ⟨#[]⟩), ⟨#[]⟩, 1, 0)
def cp2 : Cp := (((⟨#[]⟩, 0, 0, ⟨#[]⟩, ⟨#[]⟩, 0, 0), ⟨#[]⟩), ⟨#[]⟩, 2, 0)
theorem k_err : errM [cp1] 0 1 = 0 := by decide
theorem k_tk : tkM tk0 [cp1] 0 1 = tk0 := by rw [tkM, if_pos k_err]
theorem k_lm : lM [cp1] 0 1 = [cp2] := by rw [lM, if_pos k_err]; rfl
end Go.Proofs.YtipmdakhmpaemaaDoor
