/- How the arguments read. -/
import Derived.Test.YtblgllngkbjfgaaReadA
import Derived.Test.YtblgllngkbjfgaaProg
namespace Go.Proofs.Ytblgllngkbjfgaa
open Go Go.RowKit Eng
def enc47 (x : ByteArray × Int) : List Value := encStr x.1 ++ encI x.2
theorem enc47_len (x : ByteArray × Int) : (enc47 x).length = 2 := by
  simp only [enc47, List.length_append, encI_len, encStr_len]
theorem co9 : Try.prog.cellsOf 9 = 1 := by kernel_rfl
theorem co3 : Try.prog.cellsOf 3 = 1 := by kernel_rfl
theorem co47 : Try.prog.cellsOf 47 = 2 := by kernel_rfl
theorem rd47 : Reads Try.prog 47 enc47 (fun w (x : ByteArray × Int) => (fun _ s => s.size ≤ maxLen) w x.1 ∧ (fun _ n => In64 n) w x.2) := by
  intro H en w sp hd fuel cs y h
  obtain ⟨hl, n, hf⟩ := trod_field Try.underlying47 h
  rw [co47] at hl
  obtain ⟨z0, hz0⟩ := hf 0 _ rfl
  obtain ⟨x0, e0, g0⟩ := (Reads.str Try.underlying9) H en w sp hd n _ _ hz0
  have q0 : cs.drop 0 = encStr x0 ++ cs.drop (0 + 1) := cut2 co9 e0
  obtain ⟨z1, hz1⟩ := hf 1 _ rfl
  obtain ⟨x1, e1, g1⟩ := (Reads.int Try.underlying3) H en w sp hd n _ _ hz1
  have q1 : cs.drop 1 = encI x1 ++ cs.drop (1 + 1) := cut2 co3 e1
  refine ⟨⟨x0, x1⟩, ?_, g0, g1⟩
  have q : cs = cs.drop 0 := rfl
  rw [q, q0, show 0 + 1 = 1 from rfl, q1, show 1 + 1 = 2 from rfl, List.drop_eq_nil_of_le (by omega)]
  all_goals rfl
def enc24 (x : ByteArray × Int × Int × (SliceV (ByteArray × Int))) : List Value := encStr x.1 ++ encI x.2.1 ++ encI x.2.2.1 ++ encSl x.2.2.2
theorem enc24_len (x : ByteArray × Int × Int × (SliceV (ByteArray × Int))) : (enc24 x).length = 4 := by
  simp only [enc24, List.length_append, encI_len, encSl_len, encStr_len]
theorem co22 : Try.prog.cellsOf 22 = 1 := by kernel_rfl
theorem co24 : Try.prog.cellsOf 24 = 4 := by kernel_rfl
theorem rd24 : Reads Try.prog 24 enc24 (fun w (x : ByteArray × Int × Int × (SliceV (ByteArray × Int))) => (fun _ s => s.size ≤ maxLen) w x.1 ∧ (fun _ n => In64 n) w x.2.1 ∧ (fun _ n => In64 n) w x.2.2.1 ∧ (fun w x => SliceV.In 2 enc47 w x ∧ ∀ y ∈ x.l, (fun w (x : ByteArray × Int) => (fun _ s => s.size ≤ maxLen) w x.1 ∧ (fun _ n => In64 n) w x.2) w y) w x.2.2.2) := by
  intro H en w sp hd fuel cs y h
  obtain ⟨hl, n, hf⟩ := trod_field Try.underlying24 h
  rw [co24] at hl
  obtain ⟨z0, hz0⟩ := hf 0 _ rfl
  obtain ⟨x0, e0, g0⟩ := (Reads.str Try.underlying9) H en w sp hd n _ _ hz0
  have q0 : cs.drop 0 = encStr x0 ++ cs.drop (0 + 1) := cut2 co9 e0
  obtain ⟨z1, hz1⟩ := hf 1 _ rfl
  obtain ⟨x1, e1, g1⟩ := (Reads.int Try.underlying3) H en w sp hd n _ _ hz1
  have q1 : cs.drop 1 = encI x1 ++ cs.drop (1 + 1) := cut2 co3 e1
  obtain ⟨z2, hz2⟩ := hf 2 _ rfl
  obtain ⟨x2, e2, g2⟩ := (Reads.int Try.underlying3) H en w sp hd n _ _ hz2
  have q2 : cs.drop 2 = encI x2 ++ cs.drop (2 + 1) := cut2 co3 e2
  obtain ⟨z3, hz3⟩ := hf 3 _ rfl
  obtain ⟨x3, e3, g3⟩ := (Reads.slice Try.underlying22 co47 (by decide) rd47 enc47_len) H en w sp hd n _ _ hz3
  have q3 : cs.drop 3 = encSl x3 ++ cs.drop (3 + 1) := cut2 co22 e3
  refine ⟨⟨x0, x1, x2, x3⟩, ?_, g0, g1, g2, g3⟩
  have q : cs = cs.drop 0 := rfl
  rw [q, q0, show 0 + 1 = 1 from rfl, q1, show 1 + 1 = 2 from rfl, q2, show 2 + 1 = 3 from rfl, q3, show 3 + 1 = 4 from rfl, List.drop_eq_nil_of_le (by omega)]
  all_goals rfl
def enc31 (x : Int × Int) : List Value := encI x.1 ++ encI x.2
theorem enc31_len (x : Int × Int) : (enc31 x).length = 2 := by
  simp only [enc31, List.length_append, encI_len]
theorem co31 : Try.prog.cellsOf 31 = 2 := by kernel_rfl
theorem rd31 : Reads Try.prog 31 enc31 (fun w (x : Int × Int) => (fun _ n => In64 n) w x.1 ∧ (fun _ n => In64 n) w x.2) := by
  intro H en w sp hd fuel cs y h
  obtain ⟨hl, n, hf⟩ := trod_arr Try.underlying31 h
  rw [co31] at hl
  obtain ⟨z0, hz0⟩ := hf 0 (by decide)
  obtain ⟨x0, e0, g0⟩ := (Reads.int Try.underlying3) H en w sp hd n _ _ hz0
  have q0 : cs.drop 0 = encI x0 ++ cs.drop (0 + 1) := cut2 co3 e0
  obtain ⟨z1, hz1⟩ := hf 1 (by decide)
  obtain ⟨x1, e1, g1⟩ := (Reads.int Try.underlying3) H en w sp hd n _ _ hz1
  have q1 : cs.drop 1 = encI x1 ++ cs.drop (1 + 1) := cut2 co3 e1
  refine ⟨⟨x0, x1⟩, ?_, g0, g1⟩
  have q : cs = cs.drop 0 := rfl
  rw [q, q0, show 0 + 1 = 1 from rfl, q1, show 1 + 1 = 2 from rfl, List.drop_eq_nil_of_le (by omega)]
  all_goals rfl
def enc44 (x : ByteArray × (SliceV (ByteArray × Int × Int × (SliceV (ByteArray × Int))))) : List Value := encStr x.1 ++ encSl x.2
theorem enc44_len (x : ByteArray × (SliceV (ByteArray × Int × Int × (SliceV (ByteArray × Int))))) : (enc44 x).length = 2 := by
  simp only [enc44, List.length_append, encSl_len, encStr_len]
theorem co42 : Try.prog.cellsOf 42 = 1 := by kernel_rfl
theorem co44 : Try.prog.cellsOf 44 = 2 := by kernel_rfl
theorem rd44 : Reads Try.prog 44 enc44 (fun w (x : ByteArray × (SliceV (ByteArray × Int × Int × (SliceV (ByteArray × Int))))) => (fun _ s => s.size ≤ maxLen) w x.1 ∧ (fun w x => SliceV.In 4 enc24 w x ∧ ∀ y ∈ x.l, (fun w (x : ByteArray × Int × Int × (SliceV (ByteArray × Int))) => (fun _ s => s.size ≤ maxLen) w x.1 ∧ (fun _ n => In64 n) w x.2.1 ∧ (fun _ n => In64 n) w x.2.2.1 ∧ (fun w x => SliceV.In 2 enc47 w x ∧ ∀ y ∈ x.l, (fun w (x : ByteArray × Int) => (fun _ s => s.size ≤ maxLen) w x.1 ∧ (fun _ n => In64 n) w x.2) w y) w x.2.2.2) w y) w x.2) := by
  intro H en w sp hd fuel cs y h
  obtain ⟨hl, n, hf⟩ := trod_field Try.underlying44 h
  rw [co44] at hl
  obtain ⟨z0, hz0⟩ := hf 0 _ rfl
  obtain ⟨x0, e0, g0⟩ := (Reads.str Try.underlying9) H en w sp hd n _ _ hz0
  have q0 : cs.drop 0 = encStr x0 ++ cs.drop (0 + 1) := cut2 co9 e0
  obtain ⟨z1, hz1⟩ := hf 1 _ rfl
  obtain ⟨x1, e1, g1⟩ := (Reads.slice Try.underlying42 co24 (by decide) rd24 enc24_len) H en w sp hd n _ _ hz1
  have q1 : cs.drop 1 = encSl x1 ++ cs.drop (1 + 1) := cut2 co42 e1
  refine ⟨⟨x0, x1⟩, ?_, g0, g1⟩
  have q : cs = cs.drop 0 := rfl
  rw [q, q0, show 0 + 1 = 1 from rfl, q1, show 1 + 1 = 2 from rfl, List.drop_eq_nil_of_le (by omega)]
  all_goals rfl
def enc54 (x : Int × ByteArray) : List Value := encI x.1 ++ encStr x.2
theorem enc54_len (x : Int × ByteArray) : (enc54 x).length = 2 := by
  simp only [enc54, List.length_append, encI_len, encStr_len]
theorem co32 : Try.prog.cellsOf 32 = 1 := by kernel_rfl
theorem co54 : Try.prog.cellsOf 54 = 2 := by kernel_rfl
theorem rd54 : Reads Try.prog 54 enc54 (fun w (x : Int × ByteArray) => (fun _ n => In64 n) w x.1 ∧ (fun _ s => s.size ≤ maxLen) w x.2) := by
  intro H en w sp hd fuel cs y h
  obtain ⟨hl, n, hf⟩ := trod_field Try.underlying54 h
  rw [co54] at hl
  obtain ⟨z0, hz0⟩ := hf 0 _ rfl
  obtain ⟨x0, e0, g0⟩ := (Reads.int Try.underlying32) H en w sp hd n _ _ hz0
  have q0 : cs.drop 0 = encI x0 ++ cs.drop (0 + 1) := cut2 co32 e0
  obtain ⟨z1, hz1⟩ := hf 1 _ rfl
  obtain ⟨x1, e1, g1⟩ := (Reads.str Try.underlying9) H en w sp hd n _ _ hz1
  have q1 : cs.drop 1 = encStr x1 ++ cs.drop (1 + 1) := cut2 co9 e1
  refine ⟨⟨x0, x1⟩, ?_, g0, g1⟩
  have q : cs = cs.drop 0 := rfl
  rw [q, q0, show 0 + 1 = 1 from rfl, q1, show 1 + 1 = 2 from rfl, List.drop_eq_nil_of_le (by omega)]
  all_goals rfl
end Go.Proofs.Ytblgllngkbjfgaa
