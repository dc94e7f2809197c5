/- How the arguments of chapter 52 read. -/
import Derived.Test.YtngkbnaehkailaaTypes
namespace Go.Proofs.Ytngkbnaehkailaa
open Go Go.RowKit Eng
def enc77 (x : Int × Int) : List Value := encI x.1 ++ encI x.2
theorem enc77_len (x : Int × Int) : (enc77 x).length = 2 := by
  simp only [enc77, List.length_append, encI_len]
theorem co77 : Try.prog.cellsOf 77 = 2 := by kernel_rfl
theorem rd77 : Reads Try.prog 77 enc77 (fun w (x : Int × Int) => (fun _ n => In64 n) w x.1 ∧ (fun _ n => In64 n) w x.2) := by
  intro H en w sp hd fuel cs y h
  obtain ⟨hl, n, hf⟩ := trod_field Try.underlying77 h
  rw [co77] at hl
  obtain ⟨z0, hz0⟩ := hf 0 _ rfl
  obtain ⟨x0, e0, g0⟩ := (Reads.int Try.underlying3) H en w sp hd n _ _ hz0
  have q0 : cs.drop 0 = encI x0 ++ cs.drop (0 + 1) := cut2 co3 e0
  obtain ⟨z1, hz1⟩ := hf 1 _ rfl
  obtain ⟨x1, e1, g1⟩ := (Reads.int Try.underlying3) H en w sp hd n _ _ hz1
  have q1 : cs.drop 1 = encI x1 ++ cs.drop (1 + 1) := cut2 co3 e1
  refine ⟨⟨x0, x1⟩, ?_, g0, g1⟩
  have q : cs = cs.drop 0 := rfl
  rw [q, q0, show 0 + 1 = 1 from rfl, q1, show 1 + 1 = 2 from rfl, List.drop_eq_nil_of_le (by omega)]
  all_goals rfl
def enc55 (x : Int × Int × (SliceV (Int × Int))) : List Value := encI x.1 ++ encI x.2.1 ++ encSl x.2.2
theorem enc55_len (x : Int × Int × (SliceV (Int × Int))) : (enc55 x).length = 3 := by
  simp only [enc55, List.length_append, encI_len, encSl_len]
theorem co53 : Try.prog.cellsOf 53 = 1 := by kernel_rfl
theorem co55 : Try.prog.cellsOf 55 = 3 := by kernel_rfl
theorem rd55 : Reads Try.prog 55 enc55 (fun w (x : Int × Int × (SliceV (Int × Int))) => (fun _ n => In64 n) w x.1 ∧ (fun _ n => In64 n) w x.2.1 ∧ (fun w x => SliceV.In 2 enc77 w x ∧ ∀ y ∈ x.l, (fun w (x : Int × Int) => (fun _ n => In64 n) w x.1 ∧ (fun _ n => In64 n) w x.2) w y) w x.2.2) := by
  intro H en w sp hd fuel cs y h
  obtain ⟨hl, n, hf⟩ := trod_field Try.underlying55 h
  rw [co55] at hl
  obtain ⟨z0, hz0⟩ := hf 0 _ rfl
  obtain ⟨x0, e0, g0⟩ := (Reads.int Try.underlying3) H en w sp hd n _ _ hz0
  have q0 : cs.drop 0 = encI x0 ++ cs.drop (0 + 1) := cut2 co3 e0
  obtain ⟨z1, hz1⟩ := hf 1 _ rfl
  obtain ⟨x1, e1, g1⟩ := (Reads.int Try.underlying3) H en w sp hd n _ _ hz1
  have q1 : cs.drop 1 = encI x1 ++ cs.drop (1 + 1) := cut2 co3 e1
  obtain ⟨z2, hz2⟩ := hf 2 _ rfl
  obtain ⟨x2, e2, g2⟩ := (Reads.slice Try.underlying53 co77 (by decide) rd77 enc77_len) H en w sp hd n _ _ hz2
  have q2 : cs.drop 2 = encSl x2 ++ cs.drop (2 + 1) := cut2 co53 e2
  refine ⟨⟨x0, x1, x2⟩, ?_, g0, g1, g2⟩
  have q : cs = cs.drop 0 := rfl
  rw [q, q0, show 0 + 1 = 1 from rfl, q1, show 1 + 1 = 2 from rfl, q2, show 2 + 1 = 3 from rfl, List.drop_eq_nil_of_le (by omega)]
  all_goals rfl
theorem co29 : Try.prog.cellsOf 29 = 1 := by kernel_rfl
def enc49 (x : Int × Int × Int × Int) : List Value := encI x.1 ++ encI x.2.1 ++ encI x.2.2.1 ++ encI x.2.2.2
theorem enc49_len (x : Int × Int × Int × Int) : (enc49 x).length = 4 := by
  simp only [enc49, List.length_append, encI_len]
theorem co49 : Try.prog.cellsOf 49 = 4 := by kernel_rfl
theorem rd49 : Reads Try.prog 49 enc49 (fun w (x : Int × Int × Int × Int) => (fun _ n => In64 n) w x.1 ∧ (fun _ n => In64 n) w x.2.1 ∧ (fun _ n => In64 n) w x.2.2.1 ∧ (fun _ n => In64 n) w x.2.2.2) := by
  intro H en w sp hd fuel cs y h
  obtain ⟨hl, n, hf⟩ := trod_arr Try.underlying49 h
  rw [co49] at hl
  obtain ⟨z0, hz0⟩ := hf 0 (by decide)
  obtain ⟨x0, e0, g0⟩ := (Reads.int Try.underlying3) H en w sp hd n _ _ hz0
  have q0 : cs.drop 0 = encI x0 ++ cs.drop (0 + 1) := cut2 co3 e0
  obtain ⟨z1, hz1⟩ := hf 1 (by decide)
  obtain ⟨x1, e1, g1⟩ := (Reads.int Try.underlying3) H en w sp hd n _ _ hz1
  have q1 : cs.drop 1 = encI x1 ++ cs.drop (1 + 1) := cut2 co3 e1
  obtain ⟨z2, hz2⟩ := hf 2 (by decide)
  obtain ⟨x2, e2, g2⟩ := (Reads.int Try.underlying3) H en w sp hd n _ _ hz2
  have q2 : cs.drop 2 = encI x2 ++ cs.drop (2 + 1) := cut2 co3 e2
  obtain ⟨z3, hz3⟩ := hf 3 (by decide)
  obtain ⟨x3, e3, g3⟩ := (Reads.int Try.underlying3) H en w sp hd n _ _ hz3
  have q3 : cs.drop 3 = encI x3 ++ cs.drop (3 + 1) := cut2 co3 e3
  refine ⟨⟨x0, x1, x2, x3⟩, ?_, g0, g1, g2, g3⟩
  have q : cs = cs.drop 0 := rfl
  rw [q, q0, show 0 + 1 = 1 from rfl, q1, show 1 + 1 = 2 from rfl, q2, show 2 + 1 = 3 from rfl, q3, show 3 + 1 = 4 from rfl, List.drop_eq_nil_of_le (by omega)]
  all_goals rfl
end Go.Proofs.Ytngkbnaehkailaa
