/- How the arguments read. -/
import Derived.Test.YtipmdakhmpaemaaDoorRead
import Derived.Test.YtipmdakhmpaemaaDoorProg
namespace Go.Proofs.YtipmdakhmpaemaaDoor
open Go Go.RowKit Eng
def enc30 (x : ByteArray × ByteArray × ByteArray) : List Value := encStr x.1 ++ encStr x.2.1 ++ encStr x.2.2
theorem enc30_len (x : ByteArray × ByteArray × ByteArray) : (enc30 x).length = 3 := by
  simp only [enc30, List.length_append, encStr_len]
theorem co9 : Tryd.prog.cellsOf 9 = 1 := by kernel_rfl
theorem co30 : Tryd.prog.cellsOf 30 = 3 := by kernel_rfl
theorem rd30 : Reads Tryd.prog 30 enc30 (fun w (x : ByteArray × ByteArray × ByteArray) => (fun _ s => s.size ≤ maxLen) w x.1 ∧ (fun _ s => s.size ≤ maxLen) w x.2.1 ∧ (fun _ s => s.size ≤ maxLen) w x.2.2) := by
  intro H en w sp hd fuel cs y h
  obtain ⟨hl, n, hf⟩ := trod_field Tryd.underlying30 h
  rw [co30] at hl
  obtain ⟨z0, hz0⟩ := hf 0 _ rfl
  obtain ⟨x0, e0, g0⟩ := (Reads.str Tryd.underlying9) H en w sp hd n _ _ hz0
  have q0 : cs.drop 0 = encStr x0 ++ cs.drop (0 + 1) := cut2 co9 e0
  obtain ⟨z1, hz1⟩ := hf 1 _ rfl
  obtain ⟨x1, e1, g1⟩ := (Reads.str Tryd.underlying9) H en w sp hd n _ _ hz1
  have q1 : cs.drop 1 = encStr x1 ++ cs.drop (1 + 1) := cut2 co9 e1
  obtain ⟨z2, hz2⟩ := hf 2 _ rfl
  obtain ⟨x2, e2, g2⟩ := (Reads.str Tryd.underlying9) H en w sp hd n _ _ hz2
  have q2 : cs.drop 2 = encStr x2 ++ cs.drop (2 + 1) := cut2 co9 e2
  refine ⟨⟨x0, x1, x2⟩, ?_, g0, g1, g2⟩
  have q : cs = cs.drop 0 := rfl
  rw [q, q0, show 0 + 1 = 1 from rfl, q1, show 1 + 1 = 2 from rfl, q2, show 2 + 1 = 3 from rfl, List.drop_eq_nil_of_le (by omega)]
  all_goals rfl
def enc46 (x : ByteArray × Int × Int × ByteArray × ByteArray × Int × Int) : List Value := encStr x.1 ++ encI x.2.1 ++ encI x.2.2.1 ++ encStr x.2.2.2.1 ++ encStr x.2.2.2.2.1 ++ encI x.2.2.2.2.2.1 ++ encI x.2.2.2.2.2.2
theorem enc46_len (x : ByteArray × Int × Int × ByteArray × ByteArray × Int × Int) : (enc46 x).length = 7 := by
  simp only [enc46, List.length_append, encI_len, encStr_len]
theorem co3 : Tryd.prog.cellsOf 3 = 1 := by kernel_rfl
theorem co46 : Tryd.prog.cellsOf 46 = 7 := by kernel_rfl
theorem rd46 : Reads Tryd.prog 46 enc46 (fun w (x : ByteArray × Int × Int × ByteArray × ByteArray × Int × Int) => (fun _ s => s.size ≤ maxLen) w x.1 ∧ (fun _ n => In64 n) w x.2.1 ∧ (fun _ n => In64 n) w x.2.2.1 ∧ (fun _ s => s.size ≤ maxLen) w x.2.2.2.1 ∧ (fun _ s => s.size ≤ maxLen) w x.2.2.2.2.1 ∧ (fun _ n => In64 n) w x.2.2.2.2.2.1 ∧ (fun _ n => In64 n) w x.2.2.2.2.2.2) := by
  intro H en w sp hd fuel cs y h
  obtain ⟨hl, n, hf⟩ := trod_field Tryd.underlying46 h
  rw [co46] at hl
  obtain ⟨z0, hz0⟩ := hf 0 _ rfl
  obtain ⟨x0, e0, g0⟩ := (Reads.str Tryd.underlying9) H en w sp hd n _ _ hz0
  have q0 : cs.drop 0 = encStr x0 ++ cs.drop (0 + 1) := cut2 co9 e0
  obtain ⟨z1, hz1⟩ := hf 1 _ rfl
  obtain ⟨x1, e1, g1⟩ := (Reads.int Tryd.underlying3) H en w sp hd n _ _ hz1
  have q1 : cs.drop 1 = encI x1 ++ cs.drop (1 + 1) := cut2 co3 e1
  obtain ⟨z2, hz2⟩ := hf 2 _ rfl
  obtain ⟨x2, e2, g2⟩ := (Reads.int Tryd.underlying3) H en w sp hd n _ _ hz2
  have q2 : cs.drop 2 = encI x2 ++ cs.drop (2 + 1) := cut2 co3 e2
  obtain ⟨z3, hz3⟩ := hf 3 _ rfl
  obtain ⟨x3, e3, g3⟩ := (Reads.str Tryd.underlying9) H en w sp hd n _ _ hz3
  have q3 : cs.drop 3 = encStr x3 ++ cs.drop (3 + 1) := cut2 co9 e3
  obtain ⟨z4, hz4⟩ := hf 4 _ rfl
  obtain ⟨x4, e4, g4⟩ := (Reads.str Tryd.underlying9) H en w sp hd n _ _ hz4
  have q4 : cs.drop 4 = encStr x4 ++ cs.drop (4 + 1) := cut2 co9 e4
  obtain ⟨z5, hz5⟩ := hf 5 _ rfl
  obtain ⟨x5, e5, g5⟩ := (Reads.int Tryd.underlying3) H en w sp hd n _ _ hz5
  have q5 : cs.drop 5 = encI x5 ++ cs.drop (5 + 1) := cut2 co3 e5
  obtain ⟨z6, hz6⟩ := hf 6 _ rfl
  obtain ⟨x6, e6, g6⟩ := (Reads.int Tryd.underlying3) H en w sp hd n _ _ hz6
  have q6 : cs.drop 6 = encI x6 ++ cs.drop (6 + 1) := cut2 co3 e6
  refine ⟨⟨x0, x1, x2, x3, x4, x5, x6⟩, ?_, g0, g1, g2, g3, g4, g5, g6⟩
  have q : cs = cs.drop 0 := rfl
  rw [q, q0, show 0 + 1 = 1 from rfl, q1, show 1 + 1 = 2 from rfl, q2, show 2 + 1 = 3 from rfl, q3, show 3 + 1 = 4 from rfl, q4, show 4 + 1 = 5 from rfl, q5, show 5 + 1 = 6 from rfl, q6, show 6 + 1 = 7 from rfl, List.drop_eq_nil_of_le (by omega)]
  all_goals rfl
def enc48 (x : (ByteArray × Int × Int × ByteArray × ByteArray × Int × Int) × ByteArray) : List Value := enc46 x.1 ++ encStr x.2
theorem enc48_len (x : (ByteArray × Int × Int × ByteArray × ByteArray × Int × Int) × ByteArray) : (enc48 x).length = 8 := by
  simp only [enc48, List.length_append, enc46_len, encStr_len]
theorem co48 : Tryd.prog.cellsOf 48 = 8 := by kernel_rfl
theorem rd48 : Reads Tryd.prog 48 enc48 (fun w (x : (ByteArray × Int × Int × ByteArray × ByteArray × Int × Int) × ByteArray) => (fun w (x : ByteArray × Int × Int × ByteArray × ByteArray × Int × Int) => (fun _ s => s.size ≤ maxLen) w x.1 ∧ (fun _ n => In64 n) w x.2.1 ∧ (fun _ n => In64 n) w x.2.2.1 ∧ (fun _ s => s.size ≤ maxLen) w x.2.2.2.1 ∧ (fun _ s => s.size ≤ maxLen) w x.2.2.2.2.1 ∧ (fun _ n => In64 n) w x.2.2.2.2.2.1 ∧ (fun _ n => In64 n) w x.2.2.2.2.2.2) w x.1 ∧ (fun _ s => s.size ≤ maxLen) w x.2) := by
  intro H en w sp hd fuel cs y h
  obtain ⟨hl, n, hf⟩ := trod_field Tryd.underlying48 h
  rw [co48] at hl
  obtain ⟨z0, hz0⟩ := hf 0 _ rfl
  obtain ⟨x0, e0, g0⟩ := rd46 H en w sp hd n _ _ hz0
  have q0 : cs.drop 0 = enc46 x0 ++ cs.drop (0 + 7) := cut2 co46 e0
  obtain ⟨z1, hz1⟩ := hf 1 _ rfl
  obtain ⟨x1, e1, g1⟩ := (Reads.str Tryd.underlying9) H en w sp hd n _ _ hz1
  have q1 : cs.drop 7 = encStr x1 ++ cs.drop (7 + 1) := cut2 co9 e1
  refine ⟨⟨x0, x1⟩, ?_, g0, g1⟩
  have q : cs = cs.drop 0 := rfl
  rw [q, q0, show 0 + 7 = 7 from rfl, q1, show 7 + 1 = 8 from rfl, List.drop_eq_nil_of_le (by omega)]
  all_goals rfl
def enc50 (x : ((ByteArray × Int × Int × ByteArray × ByteArray × Int × Int) × ByteArray) × ByteArray × Int × Int) : List Value := enc48 x.1 ++ encStr x.2.1 ++ encI x.2.2.1 ++ encI x.2.2.2
theorem enc50_len (x : ((ByteArray × Int × Int × ByteArray × ByteArray × Int × Int) × ByteArray) × ByteArray × Int × Int) : (enc50 x).length = 11 := by
  simp only [enc50, List.length_append, enc48_len, encI_len, encStr_len]
theorem co50 : Tryd.prog.cellsOf 50 = 11 := by kernel_rfl
theorem rd50 : Reads Tryd.prog 50 enc50 (fun w (x : ((ByteArray × Int × Int × ByteArray × ByteArray × Int × Int) × ByteArray) × ByteArray × Int × Int) => (fun w (x : (ByteArray × Int × Int × ByteArray × ByteArray × Int × Int) × ByteArray) => (fun w (x : ByteArray × Int × Int × ByteArray × ByteArray × Int × Int) => (fun _ s => s.size ≤ maxLen) w x.1 ∧ (fun _ n => In64 n) w x.2.1 ∧ (fun _ n => In64 n) w x.2.2.1 ∧ (fun _ s => s.size ≤ maxLen) w x.2.2.2.1 ∧ (fun _ s => s.size ≤ maxLen) w x.2.2.2.2.1 ∧ (fun _ n => In64 n) w x.2.2.2.2.2.1 ∧ (fun _ n => In64 n) w x.2.2.2.2.2.2) w x.1 ∧ (fun _ s => s.size ≤ maxLen) w x.2) w x.1 ∧ (fun _ s => s.size ≤ maxLen) w x.2.1 ∧ (fun _ n => In64 n) w x.2.2.1 ∧ (fun _ n => In64 n) w x.2.2.2) := by
  intro H en w sp hd fuel cs y h
  obtain ⟨hl, n, hf⟩ := trod_field Tryd.underlying50 h
  rw [co50] at hl
  obtain ⟨z0, hz0⟩ := hf 0 _ rfl
  obtain ⟨x0, e0, g0⟩ := rd48 H en w sp hd n _ _ hz0
  have q0 : cs.drop 0 = enc48 x0 ++ cs.drop (0 + 8) := cut2 co48 e0
  obtain ⟨z1, hz1⟩ := hf 1 _ rfl
  obtain ⟨x1, e1, g1⟩ := (Reads.str Tryd.underlying9) H en w sp hd n _ _ hz1
  have q1 : cs.drop 8 = encStr x1 ++ cs.drop (8 + 1) := cut2 co9 e1
  obtain ⟨z2, hz2⟩ := hf 2 _ rfl
  obtain ⟨x2, e2, g2⟩ := (Reads.int Tryd.underlying3) H en w sp hd n _ _ hz2
  have q2 : cs.drop 9 = encI x2 ++ cs.drop (9 + 1) := cut2 co3 e2
  obtain ⟨z3, hz3⟩ := hf 3 _ rfl
  obtain ⟨x3, e3, g3⟩ := (Reads.int Tryd.underlying3) H en w sp hd n _ _ hz3
  have q3 : cs.drop 10 = encI x3 ++ cs.drop (10 + 1) := cut2 co3 e3
  refine ⟨⟨x0, x1, x2, x3⟩, ?_, g0, g1, g2, g3⟩
  have q : cs = cs.drop 0 := rfl
  rw [q, q0, show 0 + 8 = 8 from rfl, q1, show 8 + 1 = 9 from rfl, q2, show 9 + 1 = 10 from rfl, q3, show 10 + 1 = 11 from rfl, List.drop_eq_nil_of_le (by omega)]
  all_goals rfl
def enc54 (x : ByteArray × Int) : List Value := encStr x.1 ++ encI x.2
theorem enc54_len (x : ByteArray × Int) : (enc54 x).length = 2 := by
  simp only [enc54, List.length_append, encI_len, encStr_len]
theorem co54 : Tryd.prog.cellsOf 54 = 2 := by kernel_rfl
theorem rd54 : Reads Tryd.prog 54 enc54 (fun w (x : ByteArray × Int) => (fun _ s => s.size ≤ maxLen) w x.1 ∧ (fun _ n => In64 n) w x.2) := by
  intro H en w sp hd fuel cs y h
  obtain ⟨hl, n, hf⟩ := trod_field Tryd.underlying54 h
  rw [co54] at hl
  obtain ⟨z0, hz0⟩ := hf 0 _ rfl
  obtain ⟨x0, e0, g0⟩ := (Reads.str Tryd.underlying9) H en w sp hd n _ _ hz0
  have q0 : cs.drop 0 = encStr x0 ++ cs.drop (0 + 1) := cut2 co9 e0
  obtain ⟨z1, hz1⟩ := hf 1 _ rfl
  obtain ⟨x1, e1, g1⟩ := (Reads.int Tryd.underlying3) H en w sp hd n _ _ hz1
  have q1 : cs.drop 1 = encI x1 ++ cs.drop (1 + 1) := cut2 co3 e1
  refine ⟨⟨x0, x1⟩, ?_, g0, g1⟩
  have q : cs = cs.drop 0 := rfl
  rw [q, q0, show 0 + 1 = 1 from rfl, q1, show 1 + 1 = 2 from rfl, List.drop_eq_nil_of_le (by omega)]
  all_goals rfl
def enc34 (x : Int × ByteArray × (ByteArray × ByteArray × ByteArray) × (SliceV (((ByteArray × Int × Int × ByteArray × ByteArray × Int × Int) × ByteArray) × ByteArray × Int × Int)) × Int × (SliceV (ByteArray × Int)) × Int × Int) : List Value := encI x.1 ++ encStr x.2.1 ++ enc30 x.2.2.1 ++ encSl x.2.2.2.1 ++ encI x.2.2.2.2.1 ++ encSl x.2.2.2.2.2.1 ++ encI x.2.2.2.2.2.2.1 ++ encI x.2.2.2.2.2.2.2
theorem enc34_len (x : Int × ByteArray × (ByteArray × ByteArray × ByteArray) × (SliceV (((ByteArray × Int × Int × ByteArray × ByteArray × Int × Int) × ByteArray) × ByteArray × Int × Int)) × Int × (SliceV (ByteArray × Int)) × Int × Int) : (enc34 x).length = 10 := by
  simp only [enc34, List.length_append, enc30_len, encI_len, encSl_len, encStr_len]
theorem co31 : Tryd.prog.cellsOf 31 = 1 := by kernel_rfl
theorem co32 : Tryd.prog.cellsOf 32 = 1 := by kernel_rfl
theorem co34 : Tryd.prog.cellsOf 34 = 10 := by kernel_rfl
theorem rd34 : Reads Tryd.prog 34 enc34 (fun w (x : Int × ByteArray × (ByteArray × ByteArray × ByteArray) × (SliceV (((ByteArray × Int × Int × ByteArray × ByteArray × Int × Int) × ByteArray) × ByteArray × Int × Int)) × Int × (SliceV (ByteArray × Int)) × Int × Int) => (fun _ n => In64 n) w x.1 ∧ (fun _ s => s.size ≤ maxLen) w x.2.1 ∧ (fun w (x : ByteArray × ByteArray × ByteArray) => (fun _ s => s.size ≤ maxLen) w x.1 ∧ (fun _ s => s.size ≤ maxLen) w x.2.1 ∧ (fun _ s => s.size ≤ maxLen) w x.2.2) w x.2.2.1 ∧ (fun w x => SliceV.In 11 enc50 w x ∧ ∀ y ∈ x.l, (fun w (x : ((ByteArray × Int × Int × ByteArray × ByteArray × Int × Int) × ByteArray) × ByteArray × Int × Int) => (fun w (x : (ByteArray × Int × Int × ByteArray × ByteArray × Int × Int) × ByteArray) => (fun w (x : ByteArray × Int × Int × ByteArray × ByteArray × Int × Int) => (fun _ s => s.size ≤ maxLen) w x.1 ∧ (fun _ n => In64 n) w x.2.1 ∧ (fun _ n => In64 n) w x.2.2.1 ∧ (fun _ s => s.size ≤ maxLen) w x.2.2.2.1 ∧ (fun _ s => s.size ≤ maxLen) w x.2.2.2.2.1 ∧ (fun _ n => In64 n) w x.2.2.2.2.2.1 ∧ (fun _ n => In64 n) w x.2.2.2.2.2.2) w x.1 ∧ (fun _ s => s.size ≤ maxLen) w x.2) w x.1 ∧ (fun _ s => s.size ≤ maxLen) w x.2.1 ∧ (fun _ n => In64 n) w x.2.2.1 ∧ (fun _ n => In64 n) w x.2.2.2) w y) w x.2.2.2.1 ∧ (fun _ n => In64 n) w x.2.2.2.2.1 ∧ (fun w x => SliceV.In 2 enc54 w x ∧ ∀ y ∈ x.l, (fun w (x : ByteArray × Int) => (fun _ s => s.size ≤ maxLen) w x.1 ∧ (fun _ n => In64 n) w x.2) w y) w x.2.2.2.2.2.1 ∧ (fun _ n => In64 n) w x.2.2.2.2.2.2.1 ∧ (fun _ n => In64 n) w x.2.2.2.2.2.2.2) := by
  intro H en w sp hd fuel cs y h
  obtain ⟨hl, n, hf⟩ := trod_field Tryd.underlying34 h
  rw [co34] at hl
  obtain ⟨z0, hz0⟩ := hf 0 _ rfl
  obtain ⟨x0, e0, g0⟩ := (Reads.int Tryd.underlying3) H en w sp hd n _ _ hz0
  have q0 : cs.drop 0 = encI x0 ++ cs.drop (0 + 1) := cut2 co3 e0
  obtain ⟨z1, hz1⟩ := hf 1 _ rfl
  obtain ⟨x1, e1, g1⟩ := (Reads.str Tryd.underlying9) H en w sp hd n _ _ hz1
  have q1 : cs.drop 1 = encStr x1 ++ cs.drop (1 + 1) := cut2 co9 e1
  obtain ⟨z2, hz2⟩ := hf 2 _ rfl
  obtain ⟨x2, e2, g2⟩ := rd30 H en w sp hd n _ _ hz2
  have q2 : cs.drop 2 = enc30 x2 ++ cs.drop (2 + 3) := cut2 co30 e2
  obtain ⟨z3, hz3⟩ := hf 3 _ rfl
  obtain ⟨x3, e3, g3⟩ := (Reads.slice Tryd.underlying31 co50 (by decide) rd50 enc50_len) H en w sp hd n _ _ hz3
  have q3 : cs.drop 5 = encSl x3 ++ cs.drop (5 + 1) := cut2 co31 e3
  obtain ⟨z4, hz4⟩ := hf 4 _ rfl
  obtain ⟨x4, e4, g4⟩ := (Reads.int Tryd.underlying3) H en w sp hd n _ _ hz4
  have q4 : cs.drop 6 = encI x4 ++ cs.drop (6 + 1) := cut2 co3 e4
  obtain ⟨z5, hz5⟩ := hf 5 _ rfl
  obtain ⟨x5, e5, g5⟩ := (Reads.slice Tryd.underlying32 co54 (by decide) rd54 enc54_len) H en w sp hd n _ _ hz5
  have q5 : cs.drop 7 = encSl x5 ++ cs.drop (7 + 1) := cut2 co32 e5
  obtain ⟨z6, hz6⟩ := hf 6 _ rfl
  obtain ⟨x6, e6, g6⟩ := (Reads.int Tryd.underlying3) H en w sp hd n _ _ hz6
  have q6 : cs.drop 8 = encI x6 ++ cs.drop (8 + 1) := cut2 co3 e6
  obtain ⟨z7, hz7⟩ := hf 7 _ rfl
  obtain ⟨x7, e7, g7⟩ := (Reads.int Tryd.underlying3) H en w sp hd n _ _ hz7
  have q7 : cs.drop 9 = encI x7 ++ cs.drop (9 + 1) := cut2 co3 e7
  refine ⟨⟨x0, x1, x2, x3, x4, x5, x6, x7⟩, ?_, g0, g1, g2, g3, g4, g5, g6, g7⟩
  have q : cs = cs.drop 0 := rfl
  rw [q, q0, show 0 + 1 = 1 from rfl, q1, show 1 + 1 = 2 from rfl, q2, show 2 + 3 = 5 from rfl, q3, show 5 + 1 = 6 from rfl, q4, show 6 + 1 = 7 from rfl, q5, show 7 + 1 = 8 from rfl, q6, show 8 + 1 = 9 from rfl, q7, show 9 + 1 = 10 from rfl, List.drop_eq_nil_of_le (by omega)]
  all_goals rfl
end Go.Proofs.YtipmdakhmpaemaaDoor
