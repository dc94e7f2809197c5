/-
  Coupons as plain data: the statuses that follow an event, tickets, and the words.
-/
import Derived.Test.YtipmdakhmpaemaaDoorTypes
namespace Go.Proofs.YtipmdakhmpaemaaDoor
open Go Go.RowKit Eng
set_option linter.unusedVariables false
set_option linter.unusedSimpArgs false

def nextC (s e : Int) : Int :=
  if s = 1 ∧ e = 1 then 2 else if (s = 1 ∧ e = 3) ∨ (s = 2 ∧ e = 3) ∨ (s = 4 ∧ e = 6) then 3 else if s = 1 ∧ e = 8 then 6 else if s = 1 ∧ e = 9 then 7
  else if s = 1 ∧ e = 10 then 8 else if (s = 2 ∧ e = 2) ∨ (s = 3 ∧ e = 4) then 1 else if s = 3 ∧ e = 5 then 4 else if s = 4 ∧ e = 7 then 5 else 0
theorem nextC_bd (s e : Int) : 0 ≤ nextC s e ∧ nextC s e ≤ 8 := by unfold nextC; (repeat' split) <;> omega
def nextE (s e : Int) : Int × Int :=
  if s < 1 ∨ 8 < s ∨ e < 1 ∨ 10 < e then (0, 8) else if s = 2 ∧ 8 ≤ e then (0, 28) else if nextC s e ≠ 0 then (nextC s e, 0) else (0, 27)
def finalB (s : Int) : Bool := decide (5 ≤ s) && decide (s ≤ 8)
def reachC (a b : Int) : Bool := if a < 1 ∨ 8 < a ∨ b < 1 ∨ 8 < b then false else decide (a = b) || !finalB a
/-! the reference's way to the same -/
def stepT (l : List Bool) (s e : Nat) : List Bool := if nth l s = true ∧ 0 < nextC s e then l.set (nextC s e).toNat true else l
def goE : Nat → List Bool → Nat → List Bool
  | 0, l, _ => l
  | k + 1, l, s => goE k (stepT l s (10 - k)) s
def goS : Nat → List Bool → List Bool
  | 0, l => l
  | k + 1, l => goS k (goE 10 l (8 - k))
def goT : Nat → List Bool → List Bool
  | 0, l => l
  | k + 1, l => goT k (goS 8 l)
theorem stepT_len (l : List Bool) (s e : Nat) : (stepT l s e).length = l.length := by unfold stepT; split <;> simp
theorem goE_len : ∀ (k : Nat) (l : List Bool) (s : Nat), (goE k l s).length = l.length
  | 0, _, _ => rfl
  | k + 1, l, s => by rw [goE, goE_len k, stepT_len]
theorem goS_len : ∀ (k : Nat) (l : List Bool), (goS k l).length = l.length
  | 0, _ => rfl
  | k + 1, l => by rw [goS, goS_len k, goE_len]
def none9 : List Bool := List.replicate 9 false
def tab0 : List (List Bool) := [[false, true, false, false, false, false, false, false, false], [false, false, true, false, false, false, false, false, false], [false, false, false, true, false, false, false, false, false], [false, false, false, false, true, false, false, false, false], [false, false, false, false, false, true, false, false, false], [false, false, false, false, false, false, true, false, false], [false, false, false, false, false, false, false, true, false], [false, false, false, false, false, false, false, false, true]]
def tab1 : List (List Bool) := [[false, true, true, true, true, true, true, true, true], [false, true, true, true, true, true, false, false, false], [false, true, false, true, true, true, false, false, false], [false, false, false, true, true, true, false, false, false], [false, false, false, false, false, true, false, false, false], [false, false, false, false, false, false, true, false, false], [false, false, false, false, false, false, false, true, false], [false, false, false, false, false, false, false, false, true]]
def tab2 : List (List Bool) := [[false, true, true, true, true, true, true, true, true], [false, true, true, true, true, true, true, true, true], [false, true, true, true, true, true, true, true, true], [false, true, false, true, true, true, false, false, false], [false, false, false, false, false, true, false, false, false], [false, false, false, false, false, false, true, false, false], [false, false, false, false, false, false, false, true, false], [false, false, false, false, false, false, false, false, true]]
def tab3 : List (List Bool) := [[false, true, true, true, true, true, true, true, true], [false, true, true, true, true, true, true, true, true], [false, true, true, true, true, true, true, true, true], [false, true, true, true, true, true, true, true, true], [false, false, false, false, false, true, false, false, false], [false, false, false, false, false, false, true, false, false], [false, false, false, false, false, false, false, true, false], [false, false, false, false, false, false, false, false, true]]
theorem pass0 : ∀ i : Fin 8, goS 8 (nth tab0 i.val) = nth tab1 i.val := by decide +kernel
theorem pass1 : ∀ i : Fin 8, goS 8 (nth tab1 i.val) = nth tab2 i.val := by decide +kernel
theorem pass2 : ∀ i : Fin 8, goS 8 (nth tab2 i.val) = nth tab3 i.val := by decide +kernel
theorem pass3 : ∀ i : Fin 8, goS 8 (nth tab3 i.val) = nth tab3 i.val := by decide +kernel
theorem goT_stay (i : Fin 8) : ∀ k, goT k (nth tab3 i.val) = nth tab3 i.val
  | 0 => rfl
  | k + 1 => by rw [goT, pass3 i, goT_stay i k]
theorem goT_all (i : Fin 8) : goT 8 (nth tab0 i.val) = nth tab3 i.val := by
  rw [goT, pass0 i, goT, pass1 i, goT, pass2 i, goT_stay i]
theorem tab0_eq : ∀ i : Fin 8, none9.set (i.val + 1) true = nth tab0 i.val := by decide +kernel
theorem tab3_eq : ∀ i : Fin 8, ∀ j : Fin 8, nth (nth tab3 i.val) (j.val + 1) = reachC ((i.val + 1 : Nat) : Int) ((j.val + 1 : Nat) : Int) := by decide +kernel
theorem reach_eq {a b : Int} (h : 1 ≤ a ∧ a ≤ 8 ∧ 1 ≤ b ∧ b ≤ 8) : nth (goT 8 (none9.set a.toNat true)) b.toNat = reachC a b := by
  have key : ∀ i : Fin 8, ∀ j : Fin 8, nth (goT 8 (none9.set (i.val + 1) true)) (j.val + 1) = reachC ((i.val + 1 : Nat) : Int) ((j.val + 1 : Nat) : Int) := fun i j => by rw [tab0_eq, goT_all, tab3_eq]
  have := key ⟨a.toNat - 1, by omega⟩ ⟨b.toNat - 1, by omega⟩
  simp only [] at this
  rw [show a.toNat - 1 + 1 = a.toNat from by omega, show b.toNat - 1 + 1 = b.toNat from by omega, Int.toNat_of_nonneg (by omega), Int.toNat_of_nonneg (by omega)] at this
  exact this
theorem bool_at {l : List Bool} {i : Nat} (h : i < l.length) : (l.map Value.bool)[0 + i * 1]? = some (.bool (nth l i)) := by
  rw [show 0 + i * 1 = i from by omega, List.getElem?_map, nth_get h]; rfl

/-! words -/
def wordsR : List ByteArray := [⟨#[111, 112, 101, 110]⟩, ⟨#[99, 111, 110, 116, 114, 111, 108]⟩, ⟨#[99, 104, 101, 99, 107, 101, 100]⟩, ⟨#[98, 111, 97, 114, 100, 101, 100]⟩, ⟨#[102, 108, 111, 119, 110]⟩, ⟨#[101, 120, 99, 104, 97, 110, 103, 101, 100]⟩, ⟨#[114, 101, 102, 117, 110, 100, 101, 100]⟩, ⟨#[118, 111, 105, 100]⟩]
def wordsL : List ByteArray := ⟨#[]⟩ :: wordsR
def Words (w : World) : Prop := SliceIn w 1 (some ⟨0, 0, none⟩) 9 9 (rowsF encStr wordsL)
def textF (s : Int) : ByteArray × Int := if s < 1 ∨ 8 < s then (⟨#[]⟩, 8) else (nth wordsL s.toNat, 0)
def parseGo : List ByteArray → Int → ByteArray → Int × Int
  | [], _, _ => (0, 3)
  | x :: r, i, s => if x = s then (i, 0) else parseGo r (i + 1) s
def parseF (s : ByteArray) : Int × Int := parseGo wordsR 1 s
theorem parse_text {s : Int} (h : 1 ≤ s ∧ s ≤ 8) : parseF (textF s).1 = (s, 0) := by
  have key : ∀ i : Fin 8, parseF (textF ((i.val + 1 : Nat) : Int)).1 = (((i.val + 1 : Nat) : Int), 0) := by decide +kernel
  have := key ⟨s.toNat - 1, by omega⟩
  simp only [] at this
  rw [show s.toNat - 1 + 1 = s.toNat from by omega, Int.toNat_of_nonneg (by omega)] at this
  exact this

/-! tickets -/
abbrev Cp := ((ByteArray × Int × Int × ByteArray × ByteArray × Int × Int) × ByteArray) × ByteArray × Int × Int
structure TK where
  num : Int
  loc : ByteArray
  p1 : ByteArray
  p2 : ByteArray
  p3 : ByteArray
  fare : Int
  taxes : SliceV (ByteArray × Int)
  total : Int
  issued : Int
@[reducible] def tkv (t : TK) (s : Value) : List Value := [.int .i64 t.num, .string t.loc, .string t.p1, .string t.p2, .string t.p3, s, .int .i64 t.fare, .slice t.taxes.ao t.taxes.l.length t.taxes.cap, .int .i64 t.total, .int .i64 t.issued]
def tk0 : TK := ⟨0, ⟨#[]⟩, ⟨#[]⟩, ⟨#[]⟩, ⟨#[]⟩, 0, ⟨none, 0, []⟩, 0, 0⟩
def errM (l : List Cp) (at_ e : Int) : Int := if at_ < 0 ∨ l.length ≤ at_ then 7 else (nextE (nth l at_.toNat).2.2.1 e).2
def tkM (t : TK) (l : List Cp) (at_ e : Int) : TK := if errM l at_ e = 0 then t else tk0
def lM (l : List Cp) (at_ e : Int) : List Cp := if errM l at_ e = 0 then l.set at_.toNat ((nth l at_.toNat).1, (nth l at_.toNat).2.1, (nextE (nth l at_.toNat).2.2.1 e).1, (nth l at_.toNat).2.2.2) else []
end Go.Proofs.YtipmdakhmpaemaaDoor
