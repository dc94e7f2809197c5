/-
  Strings: a byte, a sum, a part. Of no program.
-/
import Derived.Test.YtblmafknmeicfaaPlus
import Derived.Laws.DeepStrings4
namespace Go.Proofs.Ytblmafknmeicfaa.Eng
open Go Go.RowKit
set_option linter.unusedVariables false
set_option linter.unusedSimpArgs false
def byteI (s : ByteArray) (i : Nat) : Int := if h : i < s.size then ((s[i]'h).toNat : Int) else 0
theorem byteI_bd (s : ByteArray) (i : Nat) : 0 ≤ byteI s i ∧ byteI s i ≤ 255 := by
  unfold byteI
  split
  · rename_i h
    have := (s[i]'h).toNat_lt
    omega
  · omega
variable {P : Program} {N : Nat} {w0 : World} {E : Env} {Γ : Gds} {H : Heap} {c : Nat} {dst : Option Tmp} {x y z : Operand} {t t' ty : TypeId} {pos : String} {after : Array Edge} {g : Option (Nat × Bool)}
theorem PureOp.indexs {s : ByteArray} {k : IntKind} {i : Int} (ht : P.underlying t = some .string) (hx : ev E Γ c x = some (.string s)) (hy : ev E Γ c y = some (.int k i)) (hb : gval Γ c = true → 0 ≤ i ∧ i < s.size) :
    PureOp P N w0 E Γ H c ⟨dst, .index t x y, ty, pos, after, g⟩ (.int .u8 (byteI s i.toNat)) := by
  intro a w he hw hc
  have h1 := hb hc
  have h2 : i.toNat < s.size := by omega
  have hr := run_index_string (P := P) w t s k i ht
  rw [dif_pos h1] at hr
  simp only [execOp, ev_ok he hx hc, ev_ok he hy hc]
  rw [Sem.run_bind, hr]
  simp [byteI, h2]
theorem PureOp.adds {s u : ByteArray} (hx : ev E Γ c x = some (.string s)) (hy : ev E Γ c y = some (.string u)) (hb : gval Γ c = true → s.size + u.size ≤ 9223372036854775807) :
    PureOp P N w0 E Γ H c ⟨dst, .binOp .add t x y t', ty, pos, after, g⟩ (.string (s ++ u)) := by
  intro a w he hw hc
  have h1 := hb hc
  have h2 : ¬ (((s.size + u.size : Nat) : Int) > IntKind.i64.max) := by
    have : IntKind.i64.max = 9223372036854775807 := by decide
    omega
  simp only [execOp, ev_ok he hx hc, ev_ok he hy hc]
  simp [eqGuard, binOp, Op.stringOp, h2]
  omega
theorem PureOp.sliceslh {s : ByteArray} {k k' : IntKind} {i j : Int} (ht : P.underlying t = some .string) (hx : ev E Γ c x = some (.string s)) (hy : ev E Γ c y = some (.int k i)) (hz : ev E Γ c z = some (.int k' j)) (hb : gval Γ c = true → 0 ≤ i ∧ i ≤ j ∧ j ≤ s.size) :
    PureOp P N w0 E Γ H c ⟨dst, .slice t x (some y) (some z) none, ty, pos, after, g⟩ (.string (s.extract i.toNat j.toNat)) := by
  intro a w he hw hc
  have h1 := hb hc
  have hr := run_slice_string_if (P := P) w t s k k' i j ht
  rw [if_pos ⟨by omega, h1.2.2⟩, if_pos ⟨h1.1, h1.2.1⟩] at hr
  have hs : (Instr.sliceAt t (.string s) (some (.int k i)) (some (.int k' j)) none).run P w = .ok (.string (s.extract i.toNat j.toNat)) w := by
    unfold Instr.sliceAt
    simp [run_underlying ht, hr]
  simp only [execOp, ev_ok he hx hc, ev_ok he hy hc, ev_ok he hz hc, Option.map_some, Option.map_none]
  rw [Sem.run_bind, hs]
  simp
theorem AoOk.lit {b n : Nat} : AoOk w0 H (some ⟨b, 0, none⟩) n := fun _ _ => .inr ⟨_, rfl, rfl⟩
theorem size_extract_le (s : ByteArray) (i j : Nat) : (s.extract i j).size ≤ j - i := by
  rw [ByteArray.size_extract]; omega
end Go.Proofs.Ytblmafknmeicfaa.Eng
