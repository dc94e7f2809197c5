/- How the arguments read. -/
import Derived.Test.YtmnhdiblkjmmfaaReadA
import Derived.Test.YtmnhdiblkjmmfaaProg
namespace Go.Proofs.Ytmnhdiblkjmmfaa
open Go Go.RowKit Eng
def enc32 (x : Int × Int × Int × ByteArray) : List Value := encI x.1 ++ encI x.2.1 ++ encI x.2.2.1 ++ encStr x.2.2.2
theorem enc32_len (x : Int × Int × Int × ByteArray) : (enc32 x).length = 4 := by
  simp only [enc32, List.length_append, encI_len, encStr_len]
theorem co3 : Try.prog.cellsOf 3 = 1 := by kernel_rfl
theorem co9 : Try.prog.cellsOf 9 = 1 := by kernel_rfl
theorem co32 : Try.prog.cellsOf 32 = 4 := by kernel_rfl
theorem rd32 : Reads Try.prog 32 enc32 (fun w (x : Int × Int × Int × ByteArray) => (fun _ n => In64 n) w x.1 ∧ (fun _ n => In64 n) w x.2.1 ∧ (fun _ n => In64 n) w x.2.2.1 ∧ (fun _ s => s.size ≤ maxLen) w x.2.2.2) := by
  intro H en w sp hd fuel cs y h
  obtain ⟨hl, n, hf⟩ := trod_field Try.underlying32 h
  rw [co32] at hl
  obtain ⟨z0, hz0⟩ := hf 0 _ rfl
  obtain ⟨x0, e0, g0⟩ := (Reads.int Try.underlying3) H en w sp hd n _ _ hz0
  have q0 : cs.drop 0 = encI x0 ++ cs.drop (0 + 1) := cut2 co3 e0
  obtain ⟨z1, hz1⟩ := hf 1 _ rfl
  obtain ⟨x1, e1, g1⟩ := (Reads.int Try.underlying3) H en w sp hd n _ _ hz1
  have q1 : cs.drop 1 = encI x1 ++ cs.drop (1 + 1) := cut2 co3 e1
  obtain ⟨z2, hz2⟩ := hf 2 _ rfl
  obtain ⟨x2, e2, g2⟩ := (Reads.int Try.underlying3) H en w sp hd n _ _ hz2
  have q2 : cs.drop 2 = encI x2 ++ cs.drop (2 + 1) := cut2 co3 e2
  obtain ⟨z3, hz3⟩ := hf 3 _ rfl
  obtain ⟨x3, e3, g3⟩ := (Reads.str Try.underlying9) H en w sp hd n _ _ hz3
  have q3 : cs.drop 3 = encStr x3 ++ cs.drop (3 + 1) := cut2 co9 e3
  refine ⟨⟨x0, x1, x2, x3⟩, ?_, g0, g1, g2, g3⟩
  have q : cs = cs.drop 0 := rfl
  rw [q, q0, show 0 + 1 = 1 from rfl, q1, show 1 + 1 = 2 from rfl, q2, show 2 + 1 = 3 from rfl, q3, show 3 + 1 = 4 from rfl, List.drop_eq_nil_of_le (by omega)]
  all_goals rfl
def enc34 (x : Bool × (Int × Int × Int × ByteArray)) : List Value := encB x.1 ++ enc32 x.2
theorem enc34_len (x : Bool × (Int × Int × Int × ByteArray)) : (enc34 x).length = 5 := by
  simp only [enc34, List.length_append, enc32_len, encB_len]
theorem co4 : Try.prog.cellsOf 4 = 1 := by kernel_rfl
theorem co34 : Try.prog.cellsOf 34 = 5 := by kernel_rfl
theorem rd34 : Reads Try.prog 34 enc34 (fun w (x : Bool × (Int × Int × Int × ByteArray)) => (fun _ _ => True) w x.1 ∧ (fun w (x : Int × Int × Int × ByteArray) => (fun _ n => In64 n) w x.1 ∧ (fun _ n => In64 n) w x.2.1 ∧ (fun _ n => In64 n) w x.2.2.1 ∧ (fun _ s => s.size ≤ maxLen) w x.2.2.2) w x.2) := by
  intro H en w sp hd fuel cs y h
  obtain ⟨hl, n, hf⟩ := trod_field Try.underlying34 h
  rw [co34] at hl
  obtain ⟨z0, hz0⟩ := hf 0 _ rfl
  obtain ⟨x0, e0, g0⟩ := (Reads.bool Try.underlying4) H en w sp hd n _ _ hz0
  have q0 : cs.drop 0 = encB x0 ++ cs.drop (0 + 1) := cut2 co4 e0
  obtain ⟨z1, hz1⟩ := hf 1 _ rfl
  obtain ⟨x1, e1, g1⟩ := rd32 H en w sp hd n _ _ hz1
  have q1 : cs.drop 1 = enc32 x1 ++ cs.drop (1 + 4) := cut2 co32 e1
  refine ⟨⟨x0, x1⟩, ?_, g0, g1⟩
  have q : cs = cs.drop 0 := rfl
  rw [q, q0, show 0 + 1 = 1 from rfl, q1, show 1 + 4 = 5 from rfl, List.drop_eq_nil_of_le (by omega)]
  all_goals rfl
theorem co5 : Try.prog.cellsOf 5 = 1 := by kernel_rfl
end Go.Proofs.Ytmnhdiblkjmmfaa
