/- How the arguments read. -/
import Derived.Test.YtipmdakhmpaemaaSeal
import Derived.Test.YtipmdakhmpaemaaProg
namespace Go.Proofs.Ytipmdakhmpaemaa
open Go Go.RowKit Eng
def enc23 (x : ByteArray × ByteArray × ByteArray) : List Value := encStr x.1 ++ encStr x.2.1 ++ encStr x.2.2
theorem enc23_len (x : ByteArray × ByteArray × ByteArray) : (enc23 x).length = 3 := by
  simp only [enc23, List.length_append, encStr_len]
theorem co9 : Try.prog.cellsOf 9 = 1 := by kernel_rfl
theorem co23 : Try.prog.cellsOf 23 = 3 := by kernel_rfl
theorem rd23 : Reads Try.prog 23 enc23 (fun w (x : ByteArray × ByteArray × ByteArray) => (fun _ s => s.size ≤ maxLen) w x.1 ∧ (fun _ s => s.size ≤ maxLen) w x.2.1 ∧ (fun _ s => s.size ≤ maxLen) w x.2.2) := by
  intro H en w sp hd fuel cs y h
  obtain ⟨hl, n, hf⟩ := trod_field Try.underlying23 h
  rw [co23] at hl
  obtain ⟨z0, hz0⟩ := hf 0 _ rfl
  obtain ⟨x0, e0, g0⟩ := (Reads.str Try.underlying9) H en w sp hd n _ _ hz0
  have q0 : cs.drop 0 = encStr x0 ++ cs.drop (0 + 1) := cut2 co9 e0
  obtain ⟨z1, hz1⟩ := hf 1 _ rfl
  obtain ⟨x1, e1, g1⟩ := (Reads.str Try.underlying9) H en w sp hd n _ _ hz1
  have q1 : cs.drop 1 = encStr x1 ++ cs.drop (1 + 1) := cut2 co9 e1
  obtain ⟨z2, hz2⟩ := hf 2 _ rfl
  obtain ⟨x2, e2, g2⟩ := (Reads.str Try.underlying9) H en w sp hd n _ _ hz2
  have q2 : cs.drop 2 = encStr x2 ++ cs.drop (2 + 1) := cut2 co9 e2
  refine ⟨⟨x0, x1, x2⟩, ?_, g0, g1, g2⟩
  have q : cs = cs.drop 0 := rfl
  rw [q, q0, show 0 + 1 = 1 from rfl, q1, show 1 + 1 = 2 from rfl, q2, show 2 + 1 = 3 from rfl, List.drop_eq_nil_of_le (by omega)]
  all_goals rfl
def enc61 (x : ByteArray × Int × Int × ByteArray × ByteArray × Int × Int) : List Value := encStr x.1 ++ encI x.2.1 ++ encI x.2.2.1 ++ encStr x.2.2.2.1 ++ encStr x.2.2.2.2.1 ++ encI x.2.2.2.2.2.1 ++ encI x.2.2.2.2.2.2
theorem enc61_len (x : ByteArray × Int × Int × ByteArray × ByteArray × Int × Int) : (enc61 x).length = 7 := by
  simp only [enc61, List.length_append, encI_len, encStr_len]
theorem co3 : Try.prog.cellsOf 3 = 1 := by kernel_rfl
theorem co61 : Try.prog.cellsOf 61 = 7 := by kernel_rfl
theorem rd61 : Reads Try.prog 61 enc61 (fun w (x : ByteArray × Int × Int × ByteArray × ByteArray × Int × Int) => (fun _ s => s.size ≤ maxLen) w x.1 ∧ (fun _ n => In64 n) w x.2.1 ∧ (fun _ n => In64 n) w x.2.2.1 ∧ (fun _ s => s.size ≤ maxLen) w x.2.2.2.1 ∧ (fun _ s => s.size ≤ maxLen) w x.2.2.2.2.1 ∧ (fun _ n => In64 n) w x.2.2.2.2.2.1 ∧ (fun _ n => In64 n) w x.2.2.2.2.2.2) := by
  intro H en w sp hd fuel cs y h
  obtain ⟨hl, n, hf⟩ := trod_field Try.underlying61 h
  rw [co61] at hl
  obtain ⟨z0, hz0⟩ := hf 0 _ rfl
  obtain ⟨x0, e0, g0⟩ := (Reads.str Try.underlying9) H en w sp hd n _ _ hz0
  have q0 : cs.drop 0 = encStr x0 ++ cs.drop (0 + 1) := cut2 co9 e0
  obtain ⟨z1, hz1⟩ := hf 1 _ rfl
  obtain ⟨x1, e1, g1⟩ := (Reads.int Try.underlying3) H en w sp hd n _ _ hz1
  have q1 : cs.drop 1 = encI x1 ++ cs.drop (1 + 1) := cut2 co3 e1
  obtain ⟨z2, hz2⟩ := hf 2 _ rfl
  obtain ⟨x2, e2, g2⟩ := (Reads.int Try.underlying3) H en w sp hd n _ _ hz2
  have q2 : cs.drop 2 = encI x2 ++ cs.drop (2 + 1) := cut2 co3 e2
  obtain ⟨z3, hz3⟩ := hf 3 _ rfl
  obtain ⟨x3, e3, g3⟩ := (Reads.str Try.underlying9) H en w sp hd n _ _ hz3
  have q3 : cs.drop 3 = encStr x3 ++ cs.drop (3 + 1) := cut2 co9 e3
  obtain ⟨z4, hz4⟩ := hf 4 _ rfl
  obtain ⟨x4, e4, g4⟩ := (Reads.str Try.underlying9) H en w sp hd n _ _ hz4
  have q4 : cs.drop 4 = encStr x4 ++ cs.drop (4 + 1) := cut2 co9 e4
  obtain ⟨z5, hz5⟩ := hf 5 _ rfl
  obtain ⟨x5, e5, g5⟩ := (Reads.int Try.underlying3) H en w sp hd n _ _ hz5
  have q5 : cs.drop 5 = encI x5 ++ cs.drop (5 + 1) := cut2 co3 e5
  obtain ⟨z6, hz6⟩ := hf 6 _ rfl
  obtain ⟨x6, e6, g6⟩ := (Reads.int Try.underlying3) H en w sp hd n _ _ hz6
  have q6 : cs.drop 6 = encI x6 ++ cs.drop (6 + 1) := cut2 co3 e6
  refine ⟨⟨x0, x1, x2, x3, x4, x5, x6⟩, ?_, g0, g1, g2, g3, g4, g5, g6⟩
  have q : cs = cs.drop 0 := rfl
  rw [q, q0, show 0 + 1 = 1 from rfl, q1, show 1 + 1 = 2 from rfl, q2, show 2 + 1 = 3 from rfl, q3, show 3 + 1 = 4 from rfl, q4, show 4 + 1 = 5 from rfl, q5, show 5 + 1 = 6 from rfl, q6, show 6 + 1 = 7 from rfl, List.drop_eq_nil_of_le (by omega)]
  all_goals rfl
def enc63 (x : (ByteArray × Int × Int × ByteArray × ByteArray × Int × Int) × ByteArray) : List Value := enc61 x.1 ++ encStr x.2
theorem enc63_len (x : (ByteArray × Int × Int × ByteArray × ByteArray × Int × Int) × ByteArray) : (enc63 x).length = 8 := by
  simp only [enc63, List.length_append, enc61_len, encStr_len]
theorem co63 : Try.prog.cellsOf 63 = 8 := by kernel_rfl
theorem rd63 : Reads Try.prog 63 enc63 (fun w (x : (ByteArray × Int × Int × ByteArray × ByteArray × Int × Int) × ByteArray) => (fun w (x : ByteArray × Int × Int × ByteArray × ByteArray × Int × Int) => (fun _ s => s.size ≤ maxLen) w x.1 ∧ (fun _ n => In64 n) w x.2.1 ∧ (fun _ n => In64 n) w x.2.2.1 ∧ (fun _ s => s.size ≤ maxLen) w x.2.2.2.1 ∧ (fun _ s => s.size ≤ maxLen) w x.2.2.2.2.1 ∧ (fun _ n => In64 n) w x.2.2.2.2.2.1 ∧ (fun _ n => In64 n) w x.2.2.2.2.2.2) w x.1 ∧ (fun _ s => s.size ≤ maxLen) w x.2) := by
  intro H en w sp hd fuel cs y h
  obtain ⟨hl, n, hf⟩ := trod_field Try.underlying63 h
  rw [co63] at hl
  obtain ⟨z0, hz0⟩ := hf 0 _ rfl
  obtain ⟨x0, e0, g0⟩ := rd61 H en w sp hd n _ _ hz0
  have q0 : cs.drop 0 = enc61 x0 ++ cs.drop (0 + 7) := cut2 co61 e0
  obtain ⟨z1, hz1⟩ := hf 1 _ rfl
  obtain ⟨x1, e1, g1⟩ := (Reads.str Try.underlying9) H en w sp hd n _ _ hz1
  have q1 : cs.drop 7 = encStr x1 ++ cs.drop (7 + 1) := cut2 co9 e1
  refine ⟨⟨x0, x1⟩, ?_, g0, g1⟩
  have q : cs = cs.drop 0 := rfl
  rw [q, q0, show 0 + 7 = 7 from rfl, q1, show 7 + 1 = 8 from rfl, List.drop_eq_nil_of_le (by omega)]
  all_goals rfl
def enc65 (x : ((ByteArray × Int × Int × ByteArray × ByteArray × Int × Int) × ByteArray) × ByteArray × Int × Int) : List Value := enc63 x.1 ++ encStr x.2.1 ++ encI x.2.2.1 ++ encI x.2.2.2
theorem enc65_len (x : ((ByteArray × Int × Int × ByteArray × ByteArray × Int × Int) × ByteArray) × ByteArray × Int × Int) : (enc65 x).length = 11 := by
  simp only [enc65, List.length_append, enc63_len, encI_len, encStr_len]
theorem co65 : Try.prog.cellsOf 65 = 11 := by kernel_rfl
theorem rd65 : Reads Try.prog 65 enc65 (fun w (x : ((ByteArray × Int × Int × ByteArray × ByteArray × Int × Int) × ByteArray) × ByteArray × Int × Int) => (fun w (x : (ByteArray × Int × Int × ByteArray × ByteArray × Int × Int) × ByteArray) => (fun w (x : ByteArray × Int × Int × ByteArray × ByteArray × Int × Int) => (fun _ s => s.size ≤ maxLen) w x.1 ∧ (fun _ n => In64 n) w x.2.1 ∧ (fun _ n => In64 n) w x.2.2.1 ∧ (fun _ s => s.size ≤ maxLen) w x.2.2.2.1 ∧ (fun _ s => s.size ≤ maxLen) w x.2.2.2.2.1 ∧ (fun _ n => In64 n) w x.2.2.2.2.2.1 ∧ (fun _ n => In64 n) w x.2.2.2.2.2.2) w x.1 ∧ (fun _ s => s.size ≤ maxLen) w x.2) w x.1 ∧ (fun _ s => s.size ≤ maxLen) w x.2.1 ∧ (fun _ n => In64 n) w x.2.2.1 ∧ (fun _ n => In64 n) w x.2.2.2) := by
  intro H en w sp hd fuel cs y h
  obtain ⟨hl, n, hf⟩ := trod_field Try.underlying65 h
  rw [co65] at hl
  obtain ⟨z0, hz0⟩ := hf 0 _ rfl
  obtain ⟨x0, e0, g0⟩ := rd63 H en w sp hd n _ _ hz0
  have q0 : cs.drop 0 = enc63 x0 ++ cs.drop (0 + 8) := cut2 co63 e0
  obtain ⟨z1, hz1⟩ := hf 1 _ rfl
  obtain ⟨x1, e1, g1⟩ := (Reads.str Try.underlying9) H en w sp hd n _ _ hz1
  have q1 : cs.drop 8 = encStr x1 ++ cs.drop (8 + 1) := cut2 co9 e1
  obtain ⟨z2, hz2⟩ := hf 2 _ rfl
  obtain ⟨x2, e2, g2⟩ := (Reads.int Try.underlying3) H en w sp hd n _ _ hz2
  have q2 : cs.drop 9 = encI x2 ++ cs.drop (9 + 1) := cut2 co3 e2
  obtain ⟨z3, hz3⟩ := hf 3 _ rfl
  obtain ⟨x3, e3, g3⟩ := (Reads.int Try.underlying3) H en w sp hd n _ _ hz3
  have q3 : cs.drop 10 = encI x3 ++ cs.drop (10 + 1) := cut2 co3 e3
  refine ⟨⟨x0, x1, x2, x3⟩, ?_, g0, g1, g2, g3⟩
  have q : cs = cs.drop 0 := rfl
  rw [q, q0, show 0 + 8 = 8 from rfl, q1, show 8 + 1 = 9 from rfl, q2, show 9 + 1 = 10 from rfl, q3, show 10 + 1 = 11 from rfl, List.drop_eq_nil_of_le (by omega)]
  all_goals rfl
def enc67 (x : ByteArray × Int) : List Value := encStr x.1 ++ encI x.2
theorem enc67_len (x : ByteArray × Int) : (enc67 x).length = 2 := by
  simp only [enc67, List.length_append, encI_len, encStr_len]
theorem co67 : Try.prog.cellsOf 67 = 2 := by kernel_rfl
theorem rd67 : Reads Try.prog 67 enc67 (fun w (x : ByteArray × Int) => (fun _ s => s.size ≤ maxLen) w x.1 ∧ (fun _ n => In64 n) w x.2) := by
  intro H en w sp hd fuel cs y h
  obtain ⟨hl, n, hf⟩ := trod_field Try.underlying67 h
  rw [co67] at hl
  obtain ⟨z0, hz0⟩ := hf 0 _ rfl
  obtain ⟨x0, e0, g0⟩ := (Reads.str Try.underlying9) H en w sp hd n _ _ hz0
  have q0 : cs.drop 0 = encStr x0 ++ cs.drop (0 + 1) := cut2 co9 e0
  obtain ⟨z1, hz1⟩ := hf 1 _ rfl
  obtain ⟨x1, e1, g1⟩ := (Reads.int Try.underlying3) H en w sp hd n _ _ hz1
  have q1 : cs.drop 1 = encI x1 ++ cs.drop (1 + 1) := cut2 co3 e1
  refine ⟨⟨x0, x1⟩, ?_, g0, g1⟩
  have q : cs = cs.drop 0 := rfl
  rw [q, q0, show 0 + 1 = 1 from rfl, q1, show 1 + 1 = 2 from rfl, List.drop_eq_nil_of_le (by omega)]
  all_goals rfl
def enc27 (x : Int × ByteArray × (ByteArray × ByteArray × ByteArray) × (SliceV (((ByteArray × Int × Int × ByteArray × ByteArray × Int × Int) × ByteArray) × ByteArray × Int × Int)) × Int × (SliceV (ByteArray × Int)) × Int × Int) : List Value := encI x.1 ++ encStr x.2.1 ++ enc23 x.2.2.1 ++ encSl x.2.2.2.1 ++ encI x.2.2.2.2.1 ++ encSl x.2.2.2.2.2.1 ++ encI x.2.2.2.2.2.2.1 ++ encI x.2.2.2.2.2.2.2
theorem enc27_len (x : Int × ByteArray × (ByteArray × ByteArray × ByteArray) × (SliceV (((ByteArray × Int × Int × ByteArray × ByteArray × Int × Int) × ByteArray) × ByteArray × Int × Int)) × Int × (SliceV (ByteArray × Int)) × Int × Int) : (enc27 x).length = 10 := by
  simp only [enc27, List.length_append, enc23_len, encI_len, encSl_len, encStr_len]
theorem co24 : Try.prog.cellsOf 24 = 1 := by kernel_rfl
theorem co25 : Try.prog.cellsOf 25 = 1 := by kernel_rfl
theorem co27 : Try.prog.cellsOf 27 = 10 := by kernel_rfl
theorem rd27 : Reads Try.prog 27 enc27 (fun w (x : Int × ByteArray × (ByteArray × ByteArray × ByteArray) × (SliceV (((ByteArray × Int × Int × ByteArray × ByteArray × Int × Int) × ByteArray) × ByteArray × Int × Int)) × Int × (SliceV (ByteArray × Int)) × Int × Int) => (fun _ n => In64 n) w x.1 ∧ (fun _ s => s.size ≤ maxLen) w x.2.1 ∧ (fun w (x : ByteArray × ByteArray × ByteArray) => (fun _ s => s.size ≤ maxLen) w x.1 ∧ (fun _ s => s.size ≤ maxLen) w x.2.1 ∧ (fun _ s => s.size ≤ maxLen) w x.2.2) w x.2.2.1 ∧ (fun w x => SliceV.In 11 enc65 w x ∧ ∀ y ∈ x.l, (fun w (x : ((ByteArray × Int × Int × ByteArray × ByteArray × Int × Int) × ByteArray) × ByteArray × Int × Int) => (fun w (x : (ByteArray × Int × Int × ByteArray × ByteArray × Int × Int) × ByteArray) => (fun w (x : ByteArray × Int × Int × ByteArray × ByteArray × Int × Int) => (fun _ s => s.size ≤ maxLen) w x.1 ∧ (fun _ n => In64 n) w x.2.1 ∧ (fun _ n => In64 n) w x.2.2.1 ∧ (fun _ s => s.size ≤ maxLen) w x.2.2.2.1 ∧ (fun _ s => s.size ≤ maxLen) w x.2.2.2.2.1 ∧ (fun _ n => In64 n) w x.2.2.2.2.2.1 ∧ (fun _ n => In64 n) w x.2.2.2.2.2.2) w x.1 ∧ (fun _ s => s.size ≤ maxLen) w x.2) w x.1 ∧ (fun _ s => s.size ≤ maxLen) w x.2.1 ∧ (fun _ n => In64 n) w x.2.2.1 ∧ (fun _ n => In64 n) w x.2.2.2) w y) w x.2.2.2.1 ∧ (fun _ n => In64 n) w x.2.2.2.2.1 ∧ (fun w x => SliceV.In 2 enc67 w x ∧ ∀ y ∈ x.l, (fun w (x : ByteArray × Int) => (fun _ s => s.size ≤ maxLen) w x.1 ∧ (fun _ n => In64 n) w x.2) w y) w x.2.2.2.2.2.1 ∧ (fun _ n => In64 n) w x.2.2.2.2.2.2.1 ∧ (fun _ n => In64 n) w x.2.2.2.2.2.2.2) := by
  intro H en w sp hd fuel cs y h
  obtain ⟨hl, n, hf⟩ := trod_field Try.underlying27 h
  rw [co27] at hl
  obtain ⟨z0, hz0⟩ := hf 0 _ rfl
  obtain ⟨x0, e0, g0⟩ := (Reads.int Try.underlying3) H en w sp hd n _ _ hz0
  have q0 : cs.drop 0 = encI x0 ++ cs.drop (0 + 1) := cut2 co3 e0
  obtain ⟨z1, hz1⟩ := hf 1 _ rfl
  obtain ⟨x1, e1, g1⟩ := (Reads.str Try.underlying9) H en w sp hd n _ _ hz1
  have q1 : cs.drop 1 = encStr x1 ++ cs.drop (1 + 1) := cut2 co9 e1
  obtain ⟨z2, hz2⟩ := hf 2 _ rfl
  obtain ⟨x2, e2, g2⟩ := rd23 H en w sp hd n _ _ hz2
  have q2 : cs.drop 2 = enc23 x2 ++ cs.drop (2 + 3) := cut2 co23 e2
  obtain ⟨z3, hz3⟩ := hf 3 _ rfl
  obtain ⟨x3, e3, g3⟩ := (Reads.slice Try.underlying24 co65 (by decide) rd65 enc65_len) H en w sp hd n _ _ hz3
  have q3 : cs.drop 5 = encSl x3 ++ cs.drop (5 + 1) := cut2 co24 e3
  obtain ⟨z4, hz4⟩ := hf 4 _ rfl
  obtain ⟨x4, e4, g4⟩ := (Reads.int Try.underlying3) H en w sp hd n _ _ hz4
  have q4 : cs.drop 6 = encI x4 ++ cs.drop (6 + 1) := cut2 co3 e4
  obtain ⟨z5, hz5⟩ := hf 5 _ rfl
  obtain ⟨x5, e5, g5⟩ := (Reads.slice Try.underlying25 co67 (by decide) rd67 enc67_len) H en w sp hd n _ _ hz5
  have q5 : cs.drop 7 = encSl x5 ++ cs.drop (7 + 1) := cut2 co25 e5
  obtain ⟨z6, hz6⟩ := hf 6 _ rfl
  obtain ⟨x6, e6, g6⟩ := (Reads.int Try.underlying3) H en w sp hd n _ _ hz6
  have q6 : cs.drop 8 = encI x6 ++ cs.drop (8 + 1) := cut2 co3 e6
  obtain ⟨z7, hz7⟩ := hf 7 _ rfl
  obtain ⟨x7, e7, g7⟩ := (Reads.int Try.underlying3) H en w sp hd n _ _ hz7
  have q7 : cs.drop 9 = encI x7 ++ cs.drop (9 + 1) := cut2 co3 e7
  refine ⟨⟨x0, x1, x2, x3, x4, x5, x6, x7⟩, ?_, g0, g1, g2, g3, g4, g5, g6, g7⟩
  have q : cs = cs.drop 0 := rfl
  rw [q, q0, show 0 + 1 = 1 from rfl, q1, show 1 + 1 = 2 from rfl, q2, show 2 + 3 = 5 from rfl, q3, show 5 + 1 = 6 from rfl, q4, show 6 + 1 = 7 from rfl, q5, show 7 + 1 = 8 from rfl, q6, show 8 + 1 = 9 from rfl, q7, show 9 + 1 = 10 from rfl, List.drop_eq_nil_of_le (by omega)]
  all_goals rfl
def enc94 (x : ByteArray × ByteArray × ByteArray × ByteArray × ByteArray × Bool × Int × Int × Int) : List Value := encStr x.1 ++ encStr x.2.1 ++ encStr x.2.2.1 ++ encStr x.2.2.2.1 ++ encStr x.2.2.2.2.1 ++ encB x.2.2.2.2.2.1 ++ encI x.2.2.2.2.2.2.1 ++ encI x.2.2.2.2.2.2.2.1 ++ encI x.2.2.2.2.2.2.2.2
theorem enc94_len (x : ByteArray × ByteArray × ByteArray × ByteArray × ByteArray × Bool × Int × Int × Int) : (enc94 x).length = 9 := by
  simp only [enc94, List.length_append, encB_len, encI_len, encStr_len]
theorem co4 : Try.prog.cellsOf 4 = 1 := by kernel_rfl
theorem co94 : Try.prog.cellsOf 94 = 9 := by kernel_rfl
theorem rd94 : Reads Try.prog 94 enc94 (fun w (x : ByteArray × ByteArray × ByteArray × ByteArray × ByteArray × Bool × Int × Int × Int) => (fun _ s => s.size ≤ maxLen) w x.1 ∧ (fun _ s => s.size ≤ maxLen) w x.2.1 ∧ (fun _ s => s.size ≤ maxLen) w x.2.2.1 ∧ (fun _ s => s.size ≤ maxLen) w x.2.2.2.1 ∧ (fun _ s => s.size ≤ maxLen) w x.2.2.2.2.1 ∧ (fun _ _ => True) w x.2.2.2.2.2.1 ∧ (fun _ n => In64 n) w x.2.2.2.2.2.2.1 ∧ (fun _ n => In64 n) w x.2.2.2.2.2.2.2.1 ∧ (fun _ n => In64 n) w x.2.2.2.2.2.2.2.2) := by
  intro H en w sp hd fuel cs y h
  obtain ⟨hl, n, hf⟩ := trod_field Try.underlying94 h
  rw [co94] at hl
  obtain ⟨z0, hz0⟩ := hf 0 _ rfl
  obtain ⟨x0, e0, g0⟩ := (Reads.str Try.underlying9) H en w sp hd n _ _ hz0
  have q0 : cs.drop 0 = encStr x0 ++ cs.drop (0 + 1) := cut2 co9 e0
  obtain ⟨z1, hz1⟩ := hf 1 _ rfl
  obtain ⟨x1, e1, g1⟩ := (Reads.str Try.underlying9) H en w sp hd n _ _ hz1
  have q1 : cs.drop 1 = encStr x1 ++ cs.drop (1 + 1) := cut2 co9 e1
  obtain ⟨z2, hz2⟩ := hf 2 _ rfl
  obtain ⟨x2, e2, g2⟩ := (Reads.str Try.underlying9) H en w sp hd n _ _ hz2
  have q2 : cs.drop 2 = encStr x2 ++ cs.drop (2 + 1) := cut2 co9 e2
  obtain ⟨z3, hz3⟩ := hf 3 _ rfl
  obtain ⟨x3, e3, g3⟩ := (Reads.str Try.underlying9) H en w sp hd n _ _ hz3
  have q3 : cs.drop 3 = encStr x3 ++ cs.drop (3 + 1) := cut2 co9 e3
  obtain ⟨z4, hz4⟩ := hf 4 _ rfl
  obtain ⟨x4, e4, g4⟩ := (Reads.str Try.underlying9) H en w sp hd n _ _ hz4
  have q4 : cs.drop 4 = encStr x4 ++ cs.drop (4 + 1) := cut2 co9 e4
  obtain ⟨z5, hz5⟩ := hf 5 _ rfl
  obtain ⟨x5, e5, g5⟩ := (Reads.bool Try.underlying4) H en w sp hd n _ _ hz5
  have q5 : cs.drop 5 = encB x5 ++ cs.drop (5 + 1) := cut2 co4 e5
  obtain ⟨z6, hz6⟩ := hf 6 _ rfl
  obtain ⟨x6, e6, g6⟩ := (Reads.int Try.underlying3) H en w sp hd n _ _ hz6
  have q6 : cs.drop 6 = encI x6 ++ cs.drop (6 + 1) := cut2 co3 e6
  obtain ⟨z7, hz7⟩ := hf 7 _ rfl
  obtain ⟨x7, e7, g7⟩ := (Reads.int Try.underlying3) H en w sp hd n _ _ hz7
  have q7 : cs.drop 7 = encI x7 ++ cs.drop (7 + 1) := cut2 co3 e7
  obtain ⟨z8, hz8⟩ := hf 8 _ rfl
  obtain ⟨x8, e8, g8⟩ := (Reads.int Try.underlying3) H en w sp hd n _ _ hz8
  have q8 : cs.drop 8 = encI x8 ++ cs.drop (8 + 1) := cut2 co3 e8
  refine ⟨⟨x0, x1, x2, x3, x4, x5, x6, x7, x8⟩, ?_, g0, g1, g2, g3, g4, g5, g6, g7, g8⟩
  have q : cs = cs.drop 0 := rfl
  rw [q, q0, show 0 + 1 = 1 from rfl, q1, show 1 + 1 = 2 from rfl, q2, show 2 + 1 = 3 from rfl, q3, show 3 + 1 = 4 from rfl, q4, show 4 + 1 = 5 from rfl, q5, show 5 + 1 = 6 from rfl, q6, show 6 + 1 = 7 from rfl, q7, show 7 + 1 = 8 from rfl, q8, show 8 + 1 = 9 from rfl, List.drop_eq_nil_of_le (by omega)]
  all_goals rfl
def enc85 (x : Int × Int × Int) : List Value := encI x.1 ++ encI x.2.1 ++ encI x.2.2
theorem enc85_len (x : Int × Int × Int) : (enc85 x).length = 3 := by
  simp only [enc85, List.length_append, encI_len]
theorem co85 : Try.prog.cellsOf 85 = 3 := by kernel_rfl
theorem rd85 : Reads Try.prog 85 enc85 (fun w (x : Int × Int × Int) => (fun _ n => In64 n) w x.1 ∧ (fun _ n => In64 n) w x.2.1 ∧ (fun _ n => In64 n) w x.2.2) := by
  intro H en w sp hd fuel cs y h
  obtain ⟨hl, n, hf⟩ := trod_field Try.underlying85 h
  rw [co85] at hl
  obtain ⟨z0, hz0⟩ := hf 0 _ rfl
  obtain ⟨x0, e0, g0⟩ := (Reads.int Try.underlying3) H en w sp hd n _ _ hz0
  have q0 : cs.drop 0 = encI x0 ++ cs.drop (0 + 1) := cut2 co3 e0
  obtain ⟨z1, hz1⟩ := hf 1 _ rfl
  obtain ⟨x1, e1, g1⟩ := (Reads.int Try.underlying3) H en w sp hd n _ _ hz1
  have q1 : cs.drop 1 = encI x1 ++ cs.drop (1 + 1) := cut2 co3 e1
  obtain ⟨z2, hz2⟩ := hf 2 _ rfl
  obtain ⟨x2, e2, g2⟩ := (Reads.int Try.underlying3) H en w sp hd n _ _ hz2
  have q2 : cs.drop 2 = encI x2 ++ cs.drop (2 + 1) := cut2 co3 e2
  refine ⟨⟨x0, x1, x2⟩, ?_, g0, g1, g2⟩
  have q : cs = cs.drop 0 := rfl
  rw [q, q0, show 0 + 1 = 1 from rfl, q1, show 1 + 1 = 2 from rfl, q2, show 2 + 1 = 3 from rfl, List.drop_eq_nil_of_le (by omega)]
  all_goals rfl
def enc88 (x : Int × (SliceV Unit) × Int × Int × (Int × Int × Int) × (SliceV Unit)) : List Value := encI x.1 ++ encSl x.2.1 ++ encI x.2.2.1 ++ encI x.2.2.2.1 ++ enc85 x.2.2.2.2.1 ++ encSl x.2.2.2.2.2
theorem enc88_len (x : Int × (SliceV Unit) × Int × Int × (Int × Int × Int) × (SliceV Unit)) : (enc88 x).length = 8 := by
  simp only [enc88, List.length_append, enc85_len, encI_len, encSl_len]
theorem co83 : Try.prog.cellsOf 83 = 1 := by kernel_rfl
theorem co86 : Try.prog.cellsOf 86 = 1 := by kernel_rfl
theorem co88 : Try.prog.cellsOf 88 = 8 := by kernel_rfl
theorem rd88 : Reads Try.prog 88 enc88 (fun w (x : Int × (SliceV Unit) × Int × Int × (Int × Int × Int) × (SliceV Unit)) => (fun _ n => In64 n) w x.1 ∧ (fun _ _ => True) w x.2.1 ∧ (fun _ n => In64 n) w x.2.2.1 ∧ (fun _ n => In64 n) w x.2.2.2.1 ∧ (fun w (x : Int × Int × Int) => (fun _ n => In64 n) w x.1 ∧ (fun _ n => In64 n) w x.2.1 ∧ (fun _ n => In64 n) w x.2.2) w x.2.2.2.2.1 ∧ (fun _ _ => True) w x.2.2.2.2.2) := by
  intro H en w sp hd fuel cs y h
  obtain ⟨hl, n, hf⟩ := trod_field Try.underlying88 h
  rw [co88] at hl
  obtain ⟨z0, hz0⟩ := hf 0 _ rfl
  obtain ⟨x0, e0, g0⟩ := (Reads.int Try.underlying3) H en w sp hd n _ _ hz0
  have q0 : cs.drop 0 = encI x0 ++ cs.drop (0 + 1) := cut2 co3 e0
  obtain ⟨z1, hz1⟩ := hf 1 _ rfl
  obtain ⟨x1, e1, g1⟩ := (Reads.sealed Try.underlying83) H en w sp hd n _ _ hz1
  have q1 : cs.drop 1 = encSl x1 ++ cs.drop (1 + 1) := cut2 co83 e1
  obtain ⟨z2, hz2⟩ := hf 2 _ rfl
  obtain ⟨x2, e2, g2⟩ := (Reads.int Try.underlying3) H en w sp hd n _ _ hz2
  have q2 : cs.drop 2 = encI x2 ++ cs.drop (2 + 1) := cut2 co3 e2
  obtain ⟨z3, hz3⟩ := hf 3 _ rfl
  obtain ⟨x3, e3, g3⟩ := (Reads.int Try.underlying3) H en w sp hd n _ _ hz3
  have q3 : cs.drop 3 = encI x3 ++ cs.drop (3 + 1) := cut2 co3 e3
  obtain ⟨z4, hz4⟩ := hf 4 _ rfl
  obtain ⟨x4, e4, g4⟩ := rd85 H en w sp hd n _ _ hz4
  have q4 : cs.drop 4 = enc85 x4 ++ cs.drop (4 + 3) := cut2 co85 e4
  obtain ⟨z5, hz5⟩ := hf 5 _ rfl
  obtain ⟨x5, e5, g5⟩ := (Reads.sealed Try.underlying86) H en w sp hd n _ _ hz5
  have q5 : cs.drop 7 = encSl x5 ++ cs.drop (7 + 1) := cut2 co86 e5
  refine ⟨⟨x0, x1, x2, x3, x4, x5⟩, ?_, g0, g1, g2, g3, g4, g5⟩
  have q : cs = cs.drop 0 := rfl
  rw [q, q0, show 0 + 1 = 1 from rfl, q1, show 1 + 1 = 2 from rfl, q2, show 2 + 1 = 3 from rfl, q3, show 3 + 1 = 4 from rfl, q4, show 4 + 3 = 7 from rfl, q5, show 7 + 1 = 8 from rfl, List.drop_eq_nil_of_le (by omega)]
  all_goals rfl
def enc92 (x : Int × (Int × (SliceV Unit) × Int × Int × (Int × Int × Int) × (SliceV Unit)) × (SliceV Unit) × Int × Int × Int × Int × (SliceV Unit)) : List Value := encI x.1 ++ enc88 x.2.1 ++ encSl x.2.2.1 ++ encI x.2.2.2.1 ++ encI x.2.2.2.2.1 ++ encI x.2.2.2.2.2.1 ++ encI x.2.2.2.2.2.2.1 ++ encSl x.2.2.2.2.2.2.2
theorem enc92_len (x : Int × (Int × (SliceV Unit) × Int × Int × (Int × Int × Int) × (SliceV Unit)) × (SliceV Unit) × Int × Int × Int × Int × (SliceV Unit)) : (enc92 x).length = 15 := by
  simp only [enc92, List.length_append, enc88_len, encI_len, encSl_len]
theorem co89 : Try.prog.cellsOf 89 = 1 := by kernel_rfl
theorem co90 : Try.prog.cellsOf 90 = 1 := by kernel_rfl
theorem co92 : Try.prog.cellsOf 92 = 15 := by kernel_rfl
theorem rd92 : Reads Try.prog 92 enc92 (fun w (x : Int × (Int × (SliceV Unit) × Int × Int × (Int × Int × Int) × (SliceV Unit)) × (SliceV Unit) × Int × Int × Int × Int × (SliceV Unit)) => (fun _ n => In64 n) w x.1 ∧ (fun w (x : Int × (SliceV Unit) × Int × Int × (Int × Int × Int) × (SliceV Unit)) => (fun _ n => In64 n) w x.1 ∧ (fun _ _ => True) w x.2.1 ∧ (fun _ n => In64 n) w x.2.2.1 ∧ (fun _ n => In64 n) w x.2.2.2.1 ∧ (fun w (x : Int × Int × Int) => (fun _ n => In64 n) w x.1 ∧ (fun _ n => In64 n) w x.2.1 ∧ (fun _ n => In64 n) w x.2.2) w x.2.2.2.2.1 ∧ (fun _ _ => True) w x.2.2.2.2.2) w x.2.1 ∧ (fun _ _ => True) w x.2.2.1 ∧ (fun _ n => In64 n) w x.2.2.2.1 ∧ (fun _ n => In64 n) w x.2.2.2.2.1 ∧ (fun _ n => In64 n) w x.2.2.2.2.2.1 ∧ (fun _ n => In64 n) w x.2.2.2.2.2.2.1 ∧ (fun _ _ => True) w x.2.2.2.2.2.2.2) := by
  intro H en w sp hd fuel cs y h
  obtain ⟨hl, n, hf⟩ := trod_field Try.underlying92 h
  rw [co92] at hl
  obtain ⟨z0, hz0⟩ := hf 0 _ rfl
  obtain ⟨x0, e0, g0⟩ := (Reads.int Try.underlying3) H en w sp hd n _ _ hz0
  have q0 : cs.drop 0 = encI x0 ++ cs.drop (0 + 1) := cut2 co3 e0
  obtain ⟨z1, hz1⟩ := hf 1 _ rfl
  obtain ⟨x1, e1, g1⟩ := rd88 H en w sp hd n _ _ hz1
  have q1 : cs.drop 1 = enc88 x1 ++ cs.drop (1 + 8) := cut2 co88 e1
  obtain ⟨z2, hz2⟩ := hf 2 _ rfl
  obtain ⟨x2, e2, g2⟩ := (Reads.sealed Try.underlying89) H en w sp hd n _ _ hz2
  have q2 : cs.drop 9 = encSl x2 ++ cs.drop (9 + 1) := cut2 co89 e2
  obtain ⟨z3, hz3⟩ := hf 3 _ rfl
  obtain ⟨x3, e3, g3⟩ := (Reads.int Try.underlying3) H en w sp hd n _ _ hz3
  have q3 : cs.drop 10 = encI x3 ++ cs.drop (10 + 1) := cut2 co3 e3
  obtain ⟨z4, hz4⟩ := hf 4 _ rfl
  obtain ⟨x4, e4, g4⟩ := (Reads.int Try.underlying3) H en w sp hd n _ _ hz4
  have q4 : cs.drop 11 = encI x4 ++ cs.drop (11 + 1) := cut2 co3 e4
  obtain ⟨z5, hz5⟩ := hf 5 _ rfl
  obtain ⟨x5, e5, g5⟩ := (Reads.int Try.underlying3) H en w sp hd n _ _ hz5
  have q5 : cs.drop 12 = encI x5 ++ cs.drop (12 + 1) := cut2 co3 e5
  obtain ⟨z6, hz6⟩ := hf 6 _ rfl
  obtain ⟨x6, e6, g6⟩ := (Reads.int Try.underlying3) H en w sp hd n _ _ hz6
  have q6 : cs.drop 13 = encI x6 ++ cs.drop (13 + 1) := cut2 co3 e6
  obtain ⟨z7, hz7⟩ := hf 7 _ rfl
  obtain ⟨x7, e7, g7⟩ := (Reads.sealed Try.underlying90) H en w sp hd n _ _ hz7
  have q7 : cs.drop 14 = encSl x7 ++ cs.drop (14 + 1) := cut2 co90 e7
  refine ⟨⟨x0, x1, x2, x3, x4, x5, x6, x7⟩, ?_, g0, g1, g2, g3, g4, g5, g6, g7⟩
  have q : cs = cs.drop 0 := rfl
  rw [q, q0, show 0 + 1 = 1 from rfl, q1, show 1 + 8 = 9 from rfl, q2, show 9 + 1 = 10 from rfl, q3, show 10 + 1 = 11 from rfl, q4, show 11 + 1 = 12 from rfl, q5, show 12 + 1 = 13 from rfl, q6, show 13 + 1 = 14 from rfl, q7, show 14 + 1 = 15 from rfl, List.drop_eq_nil_of_le (by omega)]
  all_goals rfl
def enc52 (x : (SliceV (ByteArray × ByteArray × ByteArray × ByteArray × ByteArray × Bool × Int × Int × Int)) × (SliceV (Int × (Int × (SliceV Unit) × Int × Int × (Int × Int × Int) × (SliceV Unit)) × (SliceV Unit) × Int × Int × Int × Int × (SliceV Unit))) × (SliceV Unit) × (SliceV Unit)) : List Value := encSl x.1 ++ encSl x.2.1 ++ encSl x.2.2.1 ++ encSl x.2.2.2
theorem enc52_len (x : (SliceV (ByteArray × ByteArray × ByteArray × ByteArray × ByteArray × Bool × Int × Int × Int)) × (SliceV (Int × (Int × (SliceV Unit) × Int × Int × (Int × Int × Int) × (SliceV Unit)) × (SliceV Unit) × Int × Int × Int × Int × (SliceV Unit))) × (SliceV Unit) × (SliceV Unit)) : (enc52 x).length = 4 := by
  simp only [enc52, List.length_append, encSl_len]
theorem co47 : Try.prog.cellsOf 47 = 1 := by kernel_rfl
theorem co48 : Try.prog.cellsOf 48 = 1 := by kernel_rfl
theorem co49 : Try.prog.cellsOf 49 = 1 := by kernel_rfl
theorem co50 : Try.prog.cellsOf 50 = 1 := by kernel_rfl
theorem co52 : Try.prog.cellsOf 52 = 4 := by kernel_rfl
theorem rd52 : Reads Try.prog 52 enc52 (fun w (x : (SliceV (ByteArray × ByteArray × ByteArray × ByteArray × ByteArray × Bool × Int × Int × Int)) × (SliceV (Int × (Int × (SliceV Unit) × Int × Int × (Int × Int × Int) × (SliceV Unit)) × (SliceV Unit) × Int × Int × Int × Int × (SliceV Unit))) × (SliceV Unit) × (SliceV Unit)) => (fun w x => SliceV.In 9 enc94 w x ∧ ∀ y ∈ x.l, (fun w (x : ByteArray × ByteArray × ByteArray × ByteArray × ByteArray × Bool × Int × Int × Int) => (fun _ s => s.size ≤ maxLen) w x.1 ∧ (fun _ s => s.size ≤ maxLen) w x.2.1 ∧ (fun _ s => s.size ≤ maxLen) w x.2.2.1 ∧ (fun _ s => s.size ≤ maxLen) w x.2.2.2.1 ∧ (fun _ s => s.size ≤ maxLen) w x.2.2.2.2.1 ∧ (fun _ _ => True) w x.2.2.2.2.2.1 ∧ (fun _ n => In64 n) w x.2.2.2.2.2.2.1 ∧ (fun _ n => In64 n) w x.2.2.2.2.2.2.2.1 ∧ (fun _ n => In64 n) w x.2.2.2.2.2.2.2.2) w y) w x.1 ∧ (fun w x => SliceV.In 15 enc92 w x ∧ ∀ y ∈ x.l, (fun w (x : Int × (Int × (SliceV Unit) × Int × Int × (Int × Int × Int) × (SliceV Unit)) × (SliceV Unit) × Int × Int × Int × Int × (SliceV Unit)) => (fun _ n => In64 n) w x.1 ∧ (fun w (x : Int × (SliceV Unit) × Int × Int × (Int × Int × Int) × (SliceV Unit)) => (fun _ n => In64 n) w x.1 ∧ (fun _ _ => True) w x.2.1 ∧ (fun _ n => In64 n) w x.2.2.1 ∧ (fun _ n => In64 n) w x.2.2.2.1 ∧ (fun w (x : Int × Int × Int) => (fun _ n => In64 n) w x.1 ∧ (fun _ n => In64 n) w x.2.1 ∧ (fun _ n => In64 n) w x.2.2) w x.2.2.2.2.1 ∧ (fun _ _ => True) w x.2.2.2.2.2) w x.2.1 ∧ (fun _ _ => True) w x.2.2.1 ∧ (fun _ n => In64 n) w x.2.2.2.1 ∧ (fun _ n => In64 n) w x.2.2.2.2.1 ∧ (fun _ n => In64 n) w x.2.2.2.2.2.1 ∧ (fun _ n => In64 n) w x.2.2.2.2.2.2.1 ∧ (fun _ _ => True) w x.2.2.2.2.2.2.2) w y) w x.2.1 ∧ (fun _ _ => True) w x.2.2.1 ∧ (fun _ _ => True) w x.2.2.2) := by
  intro H en w sp hd fuel cs y h
  obtain ⟨hl, n, hf⟩ := trod_field Try.underlying52 h
  rw [co52] at hl
  obtain ⟨z0, hz0⟩ := hf 0 _ rfl
  obtain ⟨x0, e0, g0⟩ := (Reads.slice Try.underlying47 co94 (by decide) rd94 enc94_len) H en w sp hd n _ _ hz0
  have q0 : cs.drop 0 = encSl x0 ++ cs.drop (0 + 1) := cut2 co47 e0
  obtain ⟨z1, hz1⟩ := hf 1 _ rfl
  obtain ⟨x1, e1, g1⟩ := (Reads.slice Try.underlying48 co92 (by decide) rd92 enc92_len) H en w sp hd n _ _ hz1
  have q1 : cs.drop 1 = encSl x1 ++ cs.drop (1 + 1) := cut2 co48 e1
  obtain ⟨z2, hz2⟩ := hf 2 _ rfl
  obtain ⟨x2, e2, g2⟩ := (Reads.sealed Try.underlying49) H en w sp hd n _ _ hz2
  have q2 : cs.drop 2 = encSl x2 ++ cs.drop (2 + 1) := cut2 co49 e2
  obtain ⟨z3, hz3⟩ := hf 3 _ rfl
  obtain ⟨x3, e3, g3⟩ := (Reads.sealed Try.underlying50) H en w sp hd n _ _ hz3
  have q3 : cs.drop 3 = encSl x3 ++ cs.drop (3 + 1) := cut2 co50 e3
  refine ⟨⟨x0, x1, x2, x3⟩, ?_, g0, g1, g2, g3⟩
  have q : cs = cs.drop 0 := rfl
  rw [q, q0, show 0 + 1 = 1 from rfl, q1, show 1 + 1 = 2 from rfl, q2, show 2 + 1 = 3 from rfl, q3, show 3 + 1 = 4 from rfl, List.drop_eq_nil_of_le (by omega)]
  all_goals rfl
def enc96 (x : Int × Int × Int × Int) : List Value := encI x.1 ++ encI x.2.1 ++ encI x.2.2.1 ++ encI x.2.2.2
theorem enc96_len (x : Int × Int × Int × Int) : (enc96 x).length = 4 := by
  simp only [enc96, List.length_append, encI_len]
theorem co96 : Try.prog.cellsOf 96 = 4 := by kernel_rfl
theorem rd96 : Reads Try.prog 96 enc96 (fun w (x : Int × Int × Int × Int) => (fun _ n => In64 n) w x.1 ∧ (fun _ n => In64 n) w x.2.1 ∧ (fun _ n => In64 n) w x.2.2.1 ∧ (fun _ n => In64 n) w x.2.2.2) := by
  intro H en w sp hd fuel cs y h
  obtain ⟨hl, n, hf⟩ := trod_field Try.underlying96 h
  rw [co96] at hl
  obtain ⟨z0, hz0⟩ := hf 0 _ rfl
  obtain ⟨x0, e0, g0⟩ := (Reads.int Try.underlying3) H en w sp hd n _ _ hz0
  have q0 : cs.drop 0 = encI x0 ++ cs.drop (0 + 1) := cut2 co3 e0
  obtain ⟨z1, hz1⟩ := hf 1 _ rfl
  obtain ⟨x1, e1, g1⟩ := (Reads.int Try.underlying3) H en w sp hd n _ _ hz1
  have q1 : cs.drop 1 = encI x1 ++ cs.drop (1 + 1) := cut2 co3 e1
  obtain ⟨z2, hz2⟩ := hf 2 _ rfl
  obtain ⟨x2, e2, g2⟩ := (Reads.int Try.underlying3) H en w sp hd n _ _ hz2
  have q2 : cs.drop 2 = encI x2 ++ cs.drop (2 + 1) := cut2 co3 e2
  obtain ⟨z3, hz3⟩ := hf 3 _ rfl
  obtain ⟨x3, e3, g3⟩ := (Reads.int Try.underlying3) H en w sp hd n _ _ hz3
  have q3 : cs.drop 3 = encI x3 ++ cs.drop (3 + 1) := cut2 co3 e3
  refine ⟨⟨x0, x1, x2, x3⟩, ?_, g0, g1, g2, g3⟩
  have q : cs = cs.drop 0 := rfl
  rw [q, q0, show 0 + 1 = 1 from rfl, q1, show 1 + 1 = 2 from rfl, q2, show 2 + 1 = 3 from rfl, q3, show 3 + 1 = 4 from rfl, List.drop_eq_nil_of_le (by omega)]
  all_goals rfl
def enc56 (x : (SliceV (Int × Int × Int × Int)) × (SliceV Unit) × (SliceV (ByteArray × Int)) × Int × Int) : List Value := encSl x.1 ++ encSl x.2.1 ++ encSl x.2.2.1 ++ encI x.2.2.2.1 ++ encI x.2.2.2.2
theorem enc56_len (x : (SliceV (Int × Int × Int × Int)) × (SliceV Unit) × (SliceV (ByteArray × Int)) × Int × Int) : (enc56 x).length = 5 := by
  simp only [enc56, List.length_append, encI_len, encSl_len]
theorem co53 : Try.prog.cellsOf 53 = 1 := by kernel_rfl
theorem co54 : Try.prog.cellsOf 54 = 1 := by kernel_rfl
theorem co56 : Try.prog.cellsOf 56 = 5 := by kernel_rfl
theorem rd56 : Reads Try.prog 56 enc56 (fun w (x : (SliceV (Int × Int × Int × Int)) × (SliceV Unit) × (SliceV (ByteArray × Int)) × Int × Int) => (fun w x => SliceV.In 4 enc96 w x ∧ ∀ y ∈ x.l, (fun w (x : Int × Int × Int × Int) => (fun _ n => In64 n) w x.1 ∧ (fun _ n => In64 n) w x.2.1 ∧ (fun _ n => In64 n) w x.2.2.1 ∧ (fun _ n => In64 n) w x.2.2.2) w y) w x.1 ∧ (fun _ _ => True) w x.2.1 ∧ (fun w x => SliceV.In 2 enc67 w x ∧ ∀ y ∈ x.l, (fun w (x : ByteArray × Int) => (fun _ s => s.size ≤ maxLen) w x.1 ∧ (fun _ n => In64 n) w x.2) w y) w x.2.2.1 ∧ (fun _ n => In64 n) w x.2.2.2.1 ∧ (fun _ n => In64 n) w x.2.2.2.2) := by
  intro H en w sp hd fuel cs y h
  obtain ⟨hl, n, hf⟩ := trod_field Try.underlying56 h
  rw [co56] at hl
  obtain ⟨z0, hz0⟩ := hf 0 _ rfl
  obtain ⟨x0, e0, g0⟩ := (Reads.slice Try.underlying53 co96 (by decide) rd96 enc96_len) H en w sp hd n _ _ hz0
  have q0 : cs.drop 0 = encSl x0 ++ cs.drop (0 + 1) := cut2 co53 e0
  obtain ⟨z1, hz1⟩ := hf 1 _ rfl
  obtain ⟨x1, e1, g1⟩ := (Reads.sealed Try.underlying54) H en w sp hd n _ _ hz1
  have q1 : cs.drop 1 = encSl x1 ++ cs.drop (1 + 1) := cut2 co54 e1
  obtain ⟨z2, hz2⟩ := hf 2 _ rfl
  obtain ⟨x2, e2, g2⟩ := (Reads.slice Try.underlying25 co67 (by decide) rd67 enc67_len) H en w sp hd n _ _ hz2
  have q2 : cs.drop 2 = encSl x2 ++ cs.drop (2 + 1) := cut2 co25 e2
  obtain ⟨z3, hz3⟩ := hf 3 _ rfl
  obtain ⟨x3, e3, g3⟩ := (Reads.int Try.underlying3) H en w sp hd n _ _ hz3
  have q3 : cs.drop 3 = encI x3 ++ cs.drop (3 + 1) := cut2 co3 e3
  obtain ⟨z4, hz4⟩ := hf 4 _ rfl
  obtain ⟨x4, e4, g4⟩ := (Reads.int Try.underlying3) H en w sp hd n _ _ hz4
  have q4 : cs.drop 4 = encI x4 ++ cs.drop (4 + 1) := cut2 co3 e4
  refine ⟨⟨x0, x1, x2, x3, x4⟩, ?_, g0, g1, g2, g3, g4⟩
  have q : cs = cs.drop 0 := rfl
  rw [q, q0, show 0 + 1 = 1 from rfl, q1, show 1 + 1 = 2 from rfl, q2, show 2 + 1 = 3 from rfl, q3, show 3 + 1 = 4 from rfl, q4, show 4 + 1 = 5 from rfl, List.drop_eq_nil_of_le (by omega)]
  all_goals rfl
end Go.Proofs.Ytipmdakhmpaemaa
