/- How the arguments read. -/
import Derived.Test.YthbgnjengkjigaaReadA
import Derived.Test.YthbgnjengkjigaaProg
namespace Go.Proofs.Ythbgnjengkjigaa
open Go Go.RowKit Eng
theorem co3 : Try.prog.cellsOf 3 = 1 := by kernel_rfl
def enc36 (x : Int × Int × Int) : List Value := encI x.1 ++ encI x.2.1 ++ encI x.2.2
theorem enc36_len (x : Int × Int × Int) : (enc36 x).length = 3 := by
  simp only [enc36, List.length_append, encI_len]
theorem co36 : Try.prog.cellsOf 36 = 3 := by kernel_rfl
theorem rd36 : Reads Try.prog 36 enc36 (fun w (x : Int × Int × Int) => (fun _ n => In64 n) w x.1 ∧ (fun _ n => In64 n) w x.2.1 ∧ (fun _ n => In64 n) w x.2.2) := by
  intro H en w sp hd fuel cs y h
  obtain ⟨hl, n, hf⟩ := trod_field Try.underlying36 h
  rw [co36] at hl
  obtain ⟨z0, hz0⟩ := hf 0 _ rfl
  obtain ⟨x0, e0, g0⟩ := (Reads.int Try.underlying3) H en w sp hd n _ _ hz0
  have q0 : cs.drop 0 = encI x0 ++ cs.drop (0 + 1) := cut2 co3 e0
  obtain ⟨z1, hz1⟩ := hf 1 _ rfl
  obtain ⟨x1, e1, g1⟩ := (Reads.int Try.underlying3) H en w sp hd n _ _ hz1
  have q1 : cs.drop 1 = encI x1 ++ cs.drop (1 + 1) := cut2 co3 e1
  obtain ⟨z2, hz2⟩ := hf 2 _ rfl
  obtain ⟨x2, e2, g2⟩ := (Reads.int Try.underlying3) H en w sp hd n _ _ hz2
  have q2 : cs.drop 2 = encI x2 ++ cs.drop (2 + 1) := cut2 co3 e2
  refine ⟨⟨x0, x1, x2⟩, ?_, g0, g1, g2⟩
  have q : cs = cs.drop 0 := rfl
  rw [q, q0, show 0 + 1 = 1 from rfl, q1, show 1 + 1 = 2 from rfl, q2, show 2 + 1 = 3 from rfl, List.drop_eq_nil_of_le (by omega)]
  all_goals rfl
end Go.Proofs.Ythbgnjengkjigaa
