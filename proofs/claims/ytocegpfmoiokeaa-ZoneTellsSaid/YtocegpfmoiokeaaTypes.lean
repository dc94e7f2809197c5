/- How the arguments read. -/
import Derived.Test.YtocegpfmoiokeaaRead
import Derived.Test.YtocegpfmoiokeaaPlain
import Derived.Test.YtocegpfmoiokeaaProg
namespace Go.Proofs.Ytocegpfmoiokeaa
open Go Go.RowKit Eng
theorem co3 : Try.prog.cellsOf 3 = 1 := by kernel_rfl
theorem co34 : Try.prog.cellsOf 34 = 2 := by kernel_rfl
theorem rd34 : Reads Try.prog 34 encS (fun w (x : Int × Int) => (fun _ n => In64 n) w x.1 ∧ (fun _ n => In64 n) w x.2) := by
  intro H en w sp hd fuel cs y h
  obtain ⟨hl, n, hf⟩ := trod_field Try.underlying34 h
  rw [co34] at hl
  obtain ⟨z0, hz0⟩ := hf 0 _ rfl
  obtain ⟨x0, e0, g0⟩ := (Reads.int Try.underlying3) H en w sp hd n _ _ hz0
  have q0 : cs.drop 0 = encI x0 ++ cs.drop (0 + 1) := cut2 co3 e0
  obtain ⟨z1, hz1⟩ := hf 1 _ rfl
  obtain ⟨x1, e1, g1⟩ := (Reads.int Try.underlying3) H en w sp hd n _ _ hz1
  have q1 : cs.drop 1 = encI x1 ++ cs.drop (1 + 1) := cut2 co3 e1
  refine ⟨⟨x0, x1⟩, ?_, g0, g1⟩
  have q : cs = cs.drop 0 := rfl
  rw [q, q0, show 0 + 1 = 1 from rfl, q1, show 1 + 1 = 2 from rfl, List.drop_eq_nil_of_le (by omega)]
  all_goals rfl
def enc24 (x : Int × (SliceV (Int × Int))) : List Value := encI x.1 ++ encSl x.2
theorem enc24_len (x : Int × (SliceV (Int × Int))) : (enc24 x).length = 2 := by
  simp only [enc24, List.length_append, encI_len, encSl_len]
theorem co22 : Try.prog.cellsOf 22 = 1 := by kernel_rfl
theorem co24 : Try.prog.cellsOf 24 = 2 := by kernel_rfl
theorem rd24 : Reads Try.prog 24 enc24 (fun w (x : Int × (SliceV (Int × Int))) => (fun _ n => In64 n) w x.1 ∧ (fun w x => SliceV.In 2 encS w x ∧ ∀ y ∈ x.l, (fun w (x : Int × Int) => (fun _ n => In64 n) w x.1 ∧ (fun _ n => In64 n) w x.2) w y) w x.2) := by
  intro H en w sp hd fuel cs y h
  obtain ⟨hl, n, hf⟩ := trod_field Try.underlying24 h
  rw [co24] at hl
  obtain ⟨z0, hz0⟩ := hf 0 _ rfl
  obtain ⟨x0, e0, g0⟩ := (Reads.int Try.underlying3) H en w sp hd n _ _ hz0
  have q0 : cs.drop 0 = encI x0 ++ cs.drop (0 + 1) := cut2 co3 e0
  obtain ⟨z1, hz1⟩ := hf 1 _ rfl
  obtain ⟨x1, e1, g1⟩ := (Reads.slice Try.underlying22 co34 (by decide) rd34 encS_len) H en w sp hd n _ _ hz1
  have q1 : cs.drop 1 = encSl x1 ++ cs.drop (1 + 1) := cut2 co22 e1
  refine ⟨⟨x0, x1⟩, ?_, g0, g1⟩
  have q : cs = cs.drop 0 := rfl
  rw [q, q0, show 0 + 1 = 1 from rfl, q1, show 1 + 1 = 2 from rfl, List.drop_eq_nil_of_le (by omega)]
  all_goals rfl
end Go.Proofs.Ytocegpfmoiokeaa
