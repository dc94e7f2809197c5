/- How the arguments read. -/
import Derived.Test.YtngkbnaehkailaaReadA
import Derived.Test.YtngkbnaehkailaaPlain
import Derived.Test.YtngkbnaehkailaaProg
namespace Go.Proofs.Ytngkbnaehkailaa
open Go Go.RowKit Eng
theorem co3 : Try.prog.cellsOf 3 = 1 := by kernel_rfl
theorem co61 : Try.prog.cellsOf 61 = 4 := by kernel_rfl
theorem rd61 : Reads Try.prog 61 encEd (fun w (x : Int × Int × Int × Int) => (fun _ n => In64 n) w x.1 ∧ (fun _ n => In64 n) w x.2.1 ∧ (fun _ n => In64 n) w x.2.2.1 ∧ (fun _ n => In64 n) w x.2.2.2) := by
  intro H en w sp hd fuel cs y h
  obtain ⟨hl, n, hf⟩ := trod_field Try.underlying61 h
  rw [co61] at hl
  obtain ⟨z0, hz0⟩ := hf 0 _ rfl
  obtain ⟨x0, e0, g0⟩ := (Reads.int Try.underlying3) H en w sp hd n _ _ hz0
  have q0 : cs.drop 0 = encI x0 ++ cs.drop (0 + 1) := cut2 co3 e0
  obtain ⟨z1, hz1⟩ := hf 1 _ rfl
  obtain ⟨x1, e1, g1⟩ := (Reads.int Try.underlying3) H en w sp hd n _ _ hz1
  have q1 : cs.drop 1 = encI x1 ++ cs.drop (1 + 1) := cut2 co3 e1
  obtain ⟨z2, hz2⟩ := hf 2 _ rfl
  obtain ⟨x2, e2, g2⟩ := (Reads.int Try.underlying3) H en w sp hd n _ _ hz2
  have q2 : cs.drop 2 = encI x2 ++ cs.drop (2 + 1) := cut2 co3 e2
  obtain ⟨z3, hz3⟩ := hf 3 _ rfl
  obtain ⟨x3, e3, g3⟩ := (Reads.int Try.underlying3) H en w sp hd n _ _ hz3
  have q3 : cs.drop 3 = encI x3 ++ cs.drop (3 + 1) := cut2 co3 e3
  refine ⟨⟨x0, x1, x2, x3⟩, ?_, g0, g1, g2, g3⟩
  have q : cs = cs.drop 0 := rfl
  rw [q, q0, show 0 + 1 = 1 from rfl, q1, show 1 + 1 = 2 from rfl, q2, show 2 + 1 = 3 from rfl, q3, show 3 + 1 = 4 from rfl, List.drop_eq_nil_of_le (by omega)]
  all_goals rfl
def enc24 (x : Int × (SliceV (Int × Int × Int × Int)) × Int × Int) : List Value := encI x.1 ++ encSl x.2.1 ++ encI x.2.2.1 ++ encI x.2.2.2
theorem enc24_len (x : Int × (SliceV (Int × Int × Int × Int)) × Int × Int) : (enc24 x).length = 4 := by
  simp only [enc24, List.length_append, encI_len, encSl_len]
theorem co22 : Try.prog.cellsOf 22 = 1 := by kernel_rfl
theorem co24 : Try.prog.cellsOf 24 = 4 := by kernel_rfl
theorem rd24 : Reads Try.prog 24 enc24 (fun w (x : Int × (SliceV (Int × Int × Int × Int)) × Int × Int) => (fun _ n => In64 n) w x.1 ∧ (fun w x => SliceV.In 4 encEd w x ∧ ∀ y ∈ x.l, (fun w (x : Int × Int × Int × Int) => (fun _ n => In64 n) w x.1 ∧ (fun _ n => In64 n) w x.2.1 ∧ (fun _ n => In64 n) w x.2.2.1 ∧ (fun _ n => In64 n) w x.2.2.2) w y) w x.2.1 ∧ (fun _ n => In64 n) w x.2.2.1 ∧ (fun _ n => In64 n) w x.2.2.2) := by
  intro H en w sp hd fuel cs y h
  obtain ⟨hl, n, hf⟩ := trod_field Try.underlying24 h
  rw [co24] at hl
  obtain ⟨z0, hz0⟩ := hf 0 _ rfl
  obtain ⟨x0, e0, g0⟩ := (Reads.int Try.underlying3) H en w sp hd n _ _ hz0
  have q0 : cs.drop 0 = encI x0 ++ cs.drop (0 + 1) := cut2 co3 e0
  obtain ⟨z1, hz1⟩ := hf 1 _ rfl
  obtain ⟨x1, e1, g1⟩ := (Reads.slice Try.underlying22 co61 (by decide) rd61 encEd_len) H en w sp hd n _ _ hz1
  have q1 : cs.drop 1 = encSl x1 ++ cs.drop (1 + 1) := cut2 co22 e1
  obtain ⟨z2, hz2⟩ := hf 2 _ rfl
  obtain ⟨x2, e2, g2⟩ := (Reads.int Try.underlying3) H en w sp hd n _ _ hz2
  have q2 : cs.drop 2 = encI x2 ++ cs.drop (2 + 1) := cut2 co3 e2
  obtain ⟨z3, hz3⟩ := hf 3 _ rfl
  obtain ⟨x3, e3, g3⟩ := (Reads.int Try.underlying3) H en w sp hd n _ _ hz3
  have q3 : cs.drop 3 = encI x3 ++ cs.drop (3 + 1) := cut2 co3 e3
  refine ⟨⟨x0, x1, x2, x3⟩, ?_, g0, g1, g2, g3⟩
  have q : cs = cs.drop 0 := rfl
  rw [q, q0, show 0 + 1 = 1 from rfl, q1, show 1 + 1 = 2 from rfl, q2, show 2 + 1 = 3 from rfl, q3, show 3 + 1 = 4 from rfl, List.drop_eq_nil_of_le (by omega)]
  all_goals rfl
end Go.Proofs.Ytngkbnaehkailaa
