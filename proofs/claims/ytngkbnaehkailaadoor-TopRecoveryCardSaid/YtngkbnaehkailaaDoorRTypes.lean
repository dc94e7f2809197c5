/- How the arguments of chapter 52 read. -/
import Derived.Test.YtngkbnaehkailaaDoorTypes
namespace Go.Proofs.YtngkbnaehkailaaDoor
open Go Go.RowKit Eng
def enc77 (x : Int × Int) : List Value := encI x.1 ++ encI x.2
theorem enc77_len (x : Int × Int) : (enc77 x).length = 2 := by
  simp only [enc77, List.length_append, encI_len]
def enc55 (x : Int × Int × (SliceV (Int × Int))) : List Value := encI x.1 ++ encI x.2.1 ++ encSl x.2.2
theorem enc55_len (x : Int × Int × (SliceV (Int × Int))) : (enc55 x).length = 3 := by
  simp only [enc55, List.length_append, encI_len, encSl_len]
theorem co39 : Tryd.prog.cellsOf 39 = 2 := by kernel_rfl
theorem rd39 : Reads Tryd.prog 39 enc77 (fun w (x : Int × Int) => (fun _ n => In64 n) w x.1 ∧ (fun _ n => In64 n) w x.2) := by
  intro H en w sp hd fuel cs y h
  obtain ⟨hl, n, hf⟩ := trod_field Tryd.underlying39 h
  rw [co39] at hl
  obtain ⟨z0, hz0⟩ := hf 0 _ rfl
  obtain ⟨x0, e0, g0⟩ := (Reads.int Tryd.underlying3) H en w sp hd n _ _ hz0
  have q0 : cs.drop 0 = encI x0 ++ cs.drop (0 + 1) := cut2 co3 e0
  obtain ⟨z1, hz1⟩ := hf 1 _ rfl
  obtain ⟨x1, e1, g1⟩ := (Reads.int Tryd.underlying3) H en w sp hd n _ _ hz1
  have q1 : cs.drop 1 = encI x1 ++ cs.drop (1 + 1) := cut2 co3 e1
  refine ⟨⟨x0, x1⟩, ?_, g0, g1⟩
  have q : cs = cs.drop 0 := rfl
  rw [q, q0, show 0 + 1 = 1 from rfl, q1, show 1 + 1 = 2 from rfl, List.drop_eq_nil_of_le (by omega)]
  all_goals rfl
theorem co25 : Tryd.prog.cellsOf 25 = 1 := by kernel_rfl
theorem co27 : Tryd.prog.cellsOf 27 = 3 := by kernel_rfl
theorem rd27 : Reads Tryd.prog 27 enc55 (fun w (x : Int × Int × (SliceV (Int × Int))) => (fun _ n => In64 n) w x.1 ∧ (fun _ n => In64 n) w x.2.1 ∧ (fun w x => SliceV.In 2 enc77 w x ∧ ∀ y ∈ x.l, (fun w (x : Int × Int) => (fun _ n => In64 n) w x.1 ∧ (fun _ n => In64 n) w x.2) w y) w x.2.2) := by
  intro H en w sp hd fuel cs y h
  obtain ⟨hl, n, hf⟩ := trod_field Tryd.underlying27 h
  rw [co27] at hl
  obtain ⟨z0, hz0⟩ := hf 0 _ rfl
  obtain ⟨x0, e0, g0⟩ := (Reads.int Tryd.underlying3) H en w sp hd n _ _ hz0
  have q0 : cs.drop 0 = encI x0 ++ cs.drop (0 + 1) := cut2 co3 e0
  obtain ⟨z1, hz1⟩ := hf 1 _ rfl
  obtain ⟨x1, e1, g1⟩ := (Reads.int Tryd.underlying3) H en w sp hd n _ _ hz1
  have q1 : cs.drop 1 = encI x1 ++ cs.drop (1 + 1) := cut2 co3 e1
  obtain ⟨z2, hz2⟩ := hf 2 _ rfl
  obtain ⟨x2, e2, g2⟩ := (Reads.slice Tryd.underlying25 co39 (by decide) rd39 enc77_len) H en w sp hd n _ _ hz2
  have q2 : cs.drop 2 = encSl x2 ++ cs.drop (2 + 1) := cut2 co25 e2
  refine ⟨⟨x0, x1, x2⟩, ?_, g0, g1, g2⟩
  have q : cs = cs.drop 0 := rfl
  rw [q, q0, show 0 + 1 = 1 from rfl, q1, show 1 + 1 = 2 from rfl, q2, show 2 + 1 = 3 from rfl, List.drop_eq_nil_of_le (by omega)]
  all_goals rfl
theorem co23 : Tryd.prog.cellsOf 23 = 1 := by kernel_rfl
end Go.Proofs.YtngkbnaehkailaaDoor
