/-
  Texts: digits, paths, codes; what the reference's functions on texts compute. Of no program.
-/
import Derived.Test.YtblmafknmeicfaaTab
namespace Go.Proofs.Ytblmafknmeicfaa.Eng
open Go Go.RowKit
set_option linter.unusedVariables false
def dS : ByteArray := ⟨#[48, 49, 50, 51, 52, 53, 54, 55, 56, 57]⟩
def digF : Nat → Nat → ByteArray
  | 0, n => dS.extract n (n + 1)
  | k + 1, n => if n < 10 then dS.extract n (n + 1) else digF k (n / 10) ++ dS.extract (n % 10) (n % 10 + 1)
theorem digF_size : ∀ k n, (digF k n).size ≤ k + 1
  | 0, n => by unfold digF; have := size_extract_le dS n (n + 1); omega
  | k + 1, n => by
    unfold digF
    split
    · have := size_extract_le dS n (n + 1); omega
    · have h1 := digF_size k (n / 10)
      have h2 := size_extract_le dS (n % 10) (n % 10 + 1)
      rw [ByteArray.size_append]; omega
def decS (n : Int) : ByteArray := if n < 0 then ⟨#[45]⟩ ++ digF 19 (-n).toNat else digF 19 n.toNat
theorem decS_size (n : Int) : (decS n).size ≤ 21 := by
  unfold decS
  split
  · have := digF_size 19 (-n).toNat
    rw [ByteArray.size_append]
    show 1 + _ ≤ 21
    omega
  · have := digF_size 19 n.toNat; omega
theorem u64_id {z : Int} (h : 0 ≤ z ∧ z ≤ 18446744073709551615) : IntKind.u64.wrap z = z := by
  have h2 : z % 18446744073709551616 = z := Int.emod_eq_of_lt h.1 (by omega)
  simpa [IntKind.wrap, IntKind.signed, IntKind.bits] using h2
def placeS (path word : ByteArray) (i : Int) : ByteArray := (if path = ⟨#[]⟩ then path else path ++ ⟨#[32]⟩) ++ word ++ ⟨#[32]⟩ ++ decS i
theorem placeS_size (path word : ByteArray) (i : Int) : (placeS path word i).size ≤ path.size + word.size + 23 := by
  have := decS_size i
  unfold placeS
  have e1 : (ByteArray.mk #[32]).size = 1 := rfl
  split <;> (simp only [ByteArray.size_append, e1]; omega)
def upB (c : Int) : Bool := decide (65 ≤ c) && decide (c ≤ 90)
def dgB (c : Int) : Bool := decide (48 ≤ c) && decide (c ≤ 57)
def allS (p : Int → Bool) (s : ByteArray) : Bool := (List.range s.size).all fun i => p (byteI s i)
theorem allS_true {p : Int → Bool} {s : ByteArray} : allS p s = true ↔ ∀ i, i < s.size → p (byteI s i) = true := by
  unfold allS; simp
theorem allS_false {p : Int → Bool} {s : ByteArray} {i : Nat} (h : i < s.size) (hp : p (byteI s i) = false) : allS p s = false := by
  cases q : allS p s with
  | false => rfl
  | true => rw [allS_true.1 q i h] at hp; cases hp
def letB (s : ByteArray) (n : Int) : Bool := allS upB s && decide ((s.size : Int) = n)
def codeB (s : ByteArray) (a b : Int) : Bool := allS (fun c => upB c || dgB c) s && (decide (a ≤ (s.size : Int)) && decide ((s.size : Int) ≤ b))
end Go.Proofs.Ytblmafknmeicfaa.Eng
