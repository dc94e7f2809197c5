/- How the arguments of Mixed and Stays read. -/
import Derived.Test.YtblmafknmeicfaaTree
namespace Go.Proofs.Ytblmafknmeicfaa
open Go Go.RowKit Eng
theorem rh133 : Reads Try.prog 133 enc133 (fun w (x : Int × Int) => (fun _ n => In64 n) w x.1 ∧ (fun _ n => In64 n) w x.2) := by
  intro H en w sp hd fuel cs y h
  obtain ⟨hl, n, hf⟩ := trod_field Try.underlying133 h
  rw [co133] at hl
  obtain ⟨z0, hz0⟩ := hf 0 _ rfl
  obtain ⟨x0, e0, g0⟩ := (Reads.int Try.underlying3) H en w sp hd n _ _ hz0
  have q0 : cs.drop 0 = encI x0 ++ cs.drop (0 + 1) := cut2 co3 e0
  obtain ⟨z1, hz1⟩ := hf 1 _ rfl
  obtain ⟨x1, e1, g1⟩ := (Reads.int Try.underlying3) H en w sp hd n _ _ hz1
  have q1 : cs.drop 1 = encI x1 ++ cs.drop (1 + 1) := cut2 co3 e1
  refine ⟨⟨x0, x1⟩, ?_, g0, g1⟩
  have q : cs = cs.drop 0 := rfl
  rw [q, q0, show 0 + 1 = 1 from rfl, q1, show 1 + 1 = 2 from rfl, List.drop_eq_nil_of_le (by omega)]
  all_goals rfl
theorem rh86 : Reads Try.prog 86 enc86 (fun w (x : Int × (SliceV (Int × Int))) => (fun _ n => In64 n) w x.1 ∧ (fun w x => SliceV.In 2 enc133 w x ∧ ∀ y ∈ x.l, (fun w (x : Int × Int) => (fun _ n => In64 n) w x.1 ∧ (fun _ n => In64 n) w x.2) w y) w x.2) := by
  intro H en w sp hd fuel cs y h
  obtain ⟨hl, n, hf⟩ := trod_field Try.underlying86 h
  rw [co86] at hl
  obtain ⟨z0, hz0⟩ := hf 0 _ rfl
  obtain ⟨x0, e0, g0⟩ := (Reads.int Try.underlying3) H en w sp hd n _ _ hz0
  have q0 : cs.drop 0 = encI x0 ++ cs.drop (0 + 1) := cut2 co3 e0
  obtain ⟨z1, hz1⟩ := hf 1 _ rfl
  obtain ⟨x1, e1, g1⟩ := (Reads.slice Try.underlying84 co133 (by decide) rh133 enc133_len) H en w sp hd n _ _ hz1
  have q1 : cs.drop 1 = encSl x1 ++ cs.drop (1 + 1) := cut2 co84 e1
  refine ⟨⟨x0, x1⟩, ?_, g0, g1⟩
  have q : cs = cs.drop 0 := rfl
  rw [q, q0, show 0 + 1 = 1 from rfl, q1, show 1 + 1 = 2 from rfl, List.drop_eq_nil_of_le (by omega)]
  all_goals rfl
theorem rh88 : Reads Try.prog 88 enc88 (fun w (x : ByteArray × ByteArray × ByteArray × (Int × (SliceV (Int × Int)))) => (fun _ s => s.size ≤ maxLen) w x.1 ∧ (fun _ s => s.size ≤ maxLen) w x.2.1 ∧ (fun _ s => s.size ≤ maxLen) w x.2.2.1 ∧ (fun w (x : Int × (SliceV (Int × Int))) => (fun _ n => In64 n) w x.1 ∧ (fun w x => SliceV.In 2 enc133 w x ∧ ∀ y ∈ x.l, (fun w (x : Int × Int) => (fun _ n => In64 n) w x.1 ∧ (fun _ n => In64 n) w x.2) w y) w x.2) w x.2.2.2) := by
  intro H en w sp hd fuel cs y h
  obtain ⟨hl, n, hf⟩ := trod_field Try.underlying88 h
  rw [co88] at hl
  obtain ⟨z0, hz0⟩ := hf 0 _ rfl
  obtain ⟨x0, e0, g0⟩ := (Reads.str Try.underlying9) H en w sp hd n _ _ hz0
  have q0 : cs.drop 0 = encStr x0 ++ cs.drop (0 + 1) := cut2 co9 e0
  obtain ⟨z1, hz1⟩ := hf 1 _ rfl
  obtain ⟨x1, e1, g1⟩ := (Reads.str Try.underlying9) H en w sp hd n _ _ hz1
  have q1 : cs.drop 1 = encStr x1 ++ cs.drop (1 + 1) := cut2 co9 e1
  obtain ⟨z2, hz2⟩ := hf 2 _ rfl
  obtain ⟨x2, e2, g2⟩ := (Reads.str Try.underlying9) H en w sp hd n _ _ hz2
  have q2 : cs.drop 2 = encStr x2 ++ cs.drop (2 + 1) := cut2 co9 e2
  obtain ⟨z3, hz3⟩ := hf 3 _ rfl
  obtain ⟨x3, e3, g3⟩ := rh86 H en w sp hd n _ _ hz3
  have q3 : cs.drop 3 = enc86 x3 ++ cs.drop (3 + 2) := cut2 co86 e3
  refine ⟨⟨x0, x1, x2, x3⟩, ?_, g0, g1, g2, g3⟩
  have q : cs = cs.drop 0 := rfl
  rw [q, q0, show 0 + 1 = 1 from rfl, q1, show 1 + 1 = 2 from rfl, q2, show 2 + 1 = 3 from rfl, q3, show 3 + 2 = 5 from rfl, List.drop_eq_nil_of_le (by omega)]
  all_goals rfl
def enc117 (x : ByteArray × ByteArray × Int) : List Value := encStr x.1 ++ encStr x.2.1 ++ encI x.2.2
theorem enc117_len (x : ByteArray × ByteArray × Int) : (enc117 x).length = 3 := by
  simp only [enc117, List.length_append, encI_len, encStr_len]
theorem co117 : Try.prog.cellsOf 117 = 3 := by kernel_rfl
theorem rh117 : Reads Try.prog 117 enc117 (fun w (x : ByteArray × ByteArray × Int) => (fun _ s => s.size ≤ maxLen) w x.1 ∧ (fun _ s => s.size ≤ maxLen) w x.2.1 ∧ (fun _ n => In64 n) w x.2.2) := by
  intro H en w sp hd fuel cs y h
  obtain ⟨hl, n, hf⟩ := trod_field Try.underlying117 h
  rw [co117] at hl
  obtain ⟨z0, hz0⟩ := hf 0 _ rfl
  obtain ⟨x0, e0, g0⟩ := (Reads.str Try.underlying9) H en w sp hd n _ _ hz0
  have q0 : cs.drop 0 = encStr x0 ++ cs.drop (0 + 1) := cut2 co9 e0
  obtain ⟨z1, hz1⟩ := hf 1 _ rfl
  obtain ⟨x1, e1, g1⟩ := (Reads.str Try.underlying9) H en w sp hd n _ _ hz1
  have q1 : cs.drop 1 = encStr x1 ++ cs.drop (1 + 1) := cut2 co9 e1
  obtain ⟨z2, hz2⟩ := hf 2 _ rfl
  obtain ⟨x2, e2, g2⟩ := (Reads.int Try.underlying3) H en w sp hd n _ _ hz2
  have q2 : cs.drop 2 = encI x2 ++ cs.drop (2 + 1) := cut2 co3 e2
  refine ⟨⟨x0, x1, x2⟩, ?_, g0, g1, g2⟩
  have q : cs = cs.drop 0 := rfl
  rw [q, q0, show 0 + 1 = 1 from rfl, q1, show 1 + 1 = 2 from rfl, q2, show 2 + 1 = 3 from rfl, List.drop_eq_nil_of_le (by omega)]
  all_goals rfl
theorem rh39 : Reads Try.prog 39 enc39 (fun w (x : (SliceV (ByteArray × ByteArray × ByteArray × (Int × (SliceV (Int × Int))))) × (SliceV Unit)) => (fun w x => SliceV.In 5 enc88 w x ∧ ∀ y ∈ x.l, (fun w (x : ByteArray × ByteArray × ByteArray × (Int × (SliceV (Int × Int)))) => (fun _ s => s.size ≤ maxLen) w x.1 ∧ (fun _ s => s.size ≤ maxLen) w x.2.1 ∧ (fun _ s => s.size ≤ maxLen) w x.2.2.1 ∧ (fun w (x : Int × (SliceV (Int × Int))) => (fun _ n => In64 n) w x.1 ∧ (fun w x => SliceV.In 2 enc133 w x ∧ ∀ y ∈ x.l, (fun w (x : Int × Int) => (fun _ n => In64 n) w x.1 ∧ (fun _ n => In64 n) w x.2) w y) w x.2) w x.2.2.2) w y) w x.1 ∧ (Half 3 enc117 (fun w (x : ByteArray × ByteArray × Int) => (fun _ s => s.size ≤ maxLen) w x.1 ∧ (fun _ s => s.size ≤ maxLen) w x.2.1 ∧ (fun _ n => In64 n) w x.2.2)) w x.2) := by
  intro H en w sp hd fuel cs y h
  obtain ⟨hl, n, hf⟩ := trod_field Try.underlying39 h
  rw [co39] at hl
  obtain ⟨z0, hz0⟩ := hf 0 _ rfl
  obtain ⟨x0, e0, g0⟩ := (Reads.slice Try.underlying36 co88 (by decide) rh88 enc88_len) H en w sp hd n _ _ hz0
  have q0 : cs.drop 0 = encSl x0 ++ cs.drop (0 + 1) := cut2 co36 e0
  obtain ⟨z1, hz1⟩ := hf 1 _ rfl
  obtain ⟨x1, e1, g1⟩ := (Reads.half Try.underlying37 co117 (by decide) rh117 enc117_len) H en w sp hd n _ _ hz1
  have q1 : cs.drop 1 = encSl x1 ++ cs.drop (1 + 1) := cut2 co37 e1
  refine ⟨⟨x0, x1⟩, ?_, g0, g1⟩
  have q : cs = cs.drop 0 := rfl
  rw [q, q0, show 0 + 1 = 1 from rfl, q1, show 1 + 1 = 2 from rfl, List.drop_eq_nil_of_le (by omega)]
  all_goals rfl
theorem rh52 : Reads Try.prog 52 enc52 (fun w (x : ByteArray × ByteArray × ByteArray × ByteArray × ByteArray × Bool × Int × Int × Int) => (fun _ s => s.size ≤ maxLen) w x.1 ∧ (fun _ s => s.size ≤ maxLen) w x.2.1 ∧ (fun _ s => s.size ≤ maxLen) w x.2.2.1 ∧ (fun _ s => s.size ≤ maxLen) w x.2.2.2.1 ∧ (fun _ s => s.size ≤ maxLen) w x.2.2.2.2.1 ∧ (fun _ _ => True) w x.2.2.2.2.2.1 ∧ (fun _ n => In64 n) w x.2.2.2.2.2.2.1 ∧ (fun _ n => In64 n) w x.2.2.2.2.2.2.2.1 ∧ (fun _ n => In64 n) w x.2.2.2.2.2.2.2.2) := by
  intro H en w sp hd fuel cs y h
  obtain ⟨hl, n, hf⟩ := trod_field Try.underlying52 h
  rw [co52] at hl
  obtain ⟨z0, hz0⟩ := hf 0 _ rfl
  obtain ⟨x0, e0, g0⟩ := (Reads.str Try.underlying9) H en w sp hd n _ _ hz0
  have q0 : cs.drop 0 = encStr x0 ++ cs.drop (0 + 1) := cut2 co9 e0
  obtain ⟨z1, hz1⟩ := hf 1 _ rfl
  obtain ⟨x1, e1, g1⟩ := (Reads.str Try.underlying9) H en w sp hd n _ _ hz1
  have q1 : cs.drop 1 = encStr x1 ++ cs.drop (1 + 1) := cut2 co9 e1
  obtain ⟨z2, hz2⟩ := hf 2 _ rfl
  obtain ⟨x2, e2, g2⟩ := (Reads.str Try.underlying9) H en w sp hd n _ _ hz2
  have q2 : cs.drop 2 = encStr x2 ++ cs.drop (2 + 1) := cut2 co9 e2
  obtain ⟨z3, hz3⟩ := hf 3 _ rfl
  obtain ⟨x3, e3, g3⟩ := (Reads.str Try.underlying9) H en w sp hd n _ _ hz3
  have q3 : cs.drop 3 = encStr x3 ++ cs.drop (3 + 1) := cut2 co9 e3
  obtain ⟨z4, hz4⟩ := hf 4 _ rfl
  obtain ⟨x4, e4, g4⟩ := (Reads.str Try.underlying9) H en w sp hd n _ _ hz4
  have q4 : cs.drop 4 = encStr x4 ++ cs.drop (4 + 1) := cut2 co9 e4
  obtain ⟨z5, hz5⟩ := hf 5 _ rfl
  obtain ⟨x5, e5, g5⟩ := (Reads.bool Try.underlying4) H en w sp hd n _ _ hz5
  have q5 : cs.drop 5 = encB x5 ++ cs.drop (5 + 1) := cut2 co4 e5
  obtain ⟨z6, hz6⟩ := hf 6 _ rfl
  obtain ⟨x6, e6, g6⟩ := (Reads.int Try.underlying3) H en w sp hd n _ _ hz6
  have q6 : cs.drop 6 = encI x6 ++ cs.drop (6 + 1) := cut2 co3 e6
  obtain ⟨z7, hz7⟩ := hf 7 _ rfl
  obtain ⟨x7, e7, g7⟩ := (Reads.int Try.underlying3) H en w sp hd n _ _ hz7
  have q7 : cs.drop 7 = encI x7 ++ cs.drop (7 + 1) := cut2 co3 e7
  obtain ⟨z8, hz8⟩ := hf 8 _ rfl
  obtain ⟨x8, e8, g8⟩ := (Reads.int Try.underlying3) H en w sp hd n _ _ hz8
  have q8 : cs.drop 8 = encI x8 ++ cs.drop (8 + 1) := cut2 co3 e8
  refine ⟨⟨x0, x1, x2, x3, x4, x5, x6, x7, x8⟩, ?_, g0, g1, g2, g3, g4, g5, g6, g7, g8⟩
  have q : cs = cs.drop 0 := rfl
  rw [q, q0, show 0 + 1 = 1 from rfl, q1, show 1 + 1 = 2 from rfl, q2, show 2 + 1 = 3 from rfl, q3, show 3 + 1 = 4 from rfl, q4, show 4 + 1 = 5 from rfl, q5, show 5 + 1 = 6 from rfl, q6, show 6 + 1 = 7 from rfl, q7, show 7 + 1 = 8 from rfl, q8, show 8 + 1 = 9 from rfl, List.drop_eq_nil_of_le (by omega)]
  all_goals rfl
theorem rh69 : Reads Try.prog 69 enc69 (fun w (x : Int × Int × Int) => (fun _ n => In64 n) w x.1 ∧ (fun _ n => In64 n) w x.2.1 ∧ (fun _ n => In64 n) w x.2.2) := by
  intro H en w sp hd fuel cs y h
  obtain ⟨hl, n, hf⟩ := trod_field Try.underlying69 h
  rw [co69] at hl
  obtain ⟨z0, hz0⟩ := hf 0 _ rfl
  obtain ⟨x0, e0, g0⟩ := (Reads.int Try.underlying3) H en w sp hd n _ _ hz0
  have q0 : cs.drop 0 = encI x0 ++ cs.drop (0 + 1) := cut2 co3 e0
  obtain ⟨z1, hz1⟩ := hf 1 _ rfl
  obtain ⟨x1, e1, g1⟩ := (Reads.int Try.underlying3) H en w sp hd n _ _ hz1
  have q1 : cs.drop 1 = encI x1 ++ cs.drop (1 + 1) := cut2 co3 e1
  obtain ⟨z2, hz2⟩ := hf 2 _ rfl
  obtain ⟨x2, e2, g2⟩ := (Reads.int Try.underlying3) H en w sp hd n _ _ hz2
  have q2 : cs.drop 2 = encI x2 ++ cs.drop (2 + 1) := cut2 co3 e2
  refine ⟨⟨x0, x1, x2⟩, ?_, g0, g1, g2⟩
  have q : cs = cs.drop 0 := rfl
  rw [q, q0, show 0 + 1 = 1 from rfl, q1, show 1 + 1 = 2 from rfl, q2, show 2 + 1 = 3 from rfl, List.drop_eq_nil_of_le (by omega)]
  all_goals rfl
theorem rh72 : Reads Try.prog 72 enc72 (fun w (x : Int × (SliceV Unit) × Int × Int × (Int × Int × Int) × (SliceV Unit)) => (fun _ n => In64 n) w x.1 ∧ (CondG) w x.2.1 ∧ (fun _ n => In64 n) w x.2.2.1 ∧ (fun _ n => In64 n) w x.2.2.2.1 ∧ (fun w (x : Int × Int × Int) => (fun _ n => In64 n) w x.1 ∧ (fun _ n => In64 n) w x.2.1 ∧ (fun _ n => In64 n) w x.2.2) w x.2.2.2.2.1 ∧ (Half 1 encStr (fun _ s => s.size ≤ maxLen)) w x.2.2.2.2.2) := by
  intro H en w sp hd fuel cs y h
  obtain ⟨hl, n, hf⟩ := trod_field Try.underlying72 h
  rw [co72] at hl
  obtain ⟨z0, hz0⟩ := hf 0 _ rfl
  obtain ⟨x0, e0, g0⟩ := (Reads.int Try.underlying3) H en w sp hd n _ _ hz0
  have q0 : cs.drop 0 = encI x0 ++ cs.drop (0 + 1) := cut2 co3 e0
  obtain ⟨z1, hz1⟩ := hf 1 _ rfl
  obtain ⟨x1, e1, g1⟩ := rd67c H en w sp hd n _ _ hz1
  have q1 : cs.drop 1 = encSl x1 ++ cs.drop (1 + 1) := cut2 co67 e1
  obtain ⟨z2, hz2⟩ := hf 2 _ rfl
  obtain ⟨x2, e2, g2⟩ := (Reads.int Try.underlying3) H en w sp hd n _ _ hz2
  have q2 : cs.drop 2 = encI x2 ++ cs.drop (2 + 1) := cut2 co3 e2
  obtain ⟨z3, hz3⟩ := hf 3 _ rfl
  obtain ⟨x3, e3, g3⟩ := (Reads.int Try.underlying3) H en w sp hd n _ _ hz3
  have q3 : cs.drop 3 = encI x3 ++ cs.drop (3 + 1) := cut2 co3 e3
  obtain ⟨z4, hz4⟩ := hf 4 _ rfl
  obtain ⟨x4, e4, g4⟩ := rh69 H en w sp hd n _ _ hz4
  have q4 : cs.drop 4 = enc69 x4 ++ cs.drop (4 + 3) := cut2 co69 e4
  obtain ⟨z5, hz5⟩ := hf 5 _ rfl
  obtain ⟨x5, e5, g5⟩ := (Reads.half Try.underlying70 co9 (by decide) (Reads.str Try.underlying9) encStr_len) H en w sp hd n _ _ hz5
  have q5 : cs.drop 7 = encSl x5 ++ cs.drop (7 + 1) := cut2 co70 e5
  refine ⟨⟨x0, x1, x2, x3, x4, x5⟩, ?_, g0, g1, g2, g3, g4, g5⟩
  have q : cs = cs.drop 0 := rfl
  rw [q, q0, show 0 + 1 = 1 from rfl, q1, show 1 + 1 = 2 from rfl, q2, show 2 + 1 = 3 from rfl, q3, show 3 + 1 = 4 from rfl, q4, show 4 + 3 = 7 from rfl, q5, show 7 + 1 = 8 from rfl, List.drop_eq_nil_of_le (by omega)]
  all_goals rfl
def enc137 (x : ByteArray × Int) : List Value := encStr x.1 ++ encI x.2
theorem enc137_len (x : ByteArray × Int) : (enc137 x).length = 2 := by
  simp only [enc137, List.length_append, encI_len, encStr_len]
theorem co137 : Try.prog.cellsOf 137 = 2 := by kernel_rfl
theorem rh137 : Reads Try.prog 137 enc137 (fun w (x : ByteArray × Int) => (fun _ s => s.size ≤ maxLen) w x.1 ∧ (fun _ n => In64 n) w x.2) := by
  intro H en w sp hd fuel cs y h
  obtain ⟨hl, n, hf⟩ := trod_field Try.underlying137 h
  rw [co137] at hl
  obtain ⟨z0, hz0⟩ := hf 0 _ rfl
  obtain ⟨x0, e0, g0⟩ := (Reads.str Try.underlying9) H en w sp hd n _ _ hz0
  have q0 : cs.drop 0 = encStr x0 ++ cs.drop (0 + 1) := cut2 co9 e0
  obtain ⟨z1, hz1⟩ := hf 1 _ rfl
  obtain ⟨x1, e1, g1⟩ := (Reads.int Try.underlying3) H en w sp hd n _ _ hz1
  have q1 : cs.drop 1 = encI x1 ++ cs.drop (1 + 1) := cut2 co3 e1
  refine ⟨⟨x0, x1⟩, ?_, g0, g1⟩
  have q : cs = cs.drop 0 := rfl
  rw [q, q0, show 0 + 1 = 1 from rfl, q1, show 1 + 1 = 2 from rfl, List.drop_eq_nil_of_le (by omega)]
  all_goals rfl
theorem rh76 : Reads Try.prog 76 enc76 (fun w (x : Int × (Int × (SliceV Unit) × Int × Int × (Int × Int × Int) × (SliceV Unit)) × (SliceV Int) × Int × Int × Int × Int × (SliceV Unit)) => (fun _ n => In64 n) w x.1 ∧ (fun w (x : Int × (SliceV Unit) × Int × Int × (Int × Int × Int) × (SliceV Unit)) => (fun _ n => In64 n) w x.1 ∧ (CondG) w x.2.1 ∧ (fun _ n => In64 n) w x.2.2.1 ∧ (fun _ n => In64 n) w x.2.2.2.1 ∧ (fun w (x : Int × Int × Int) => (fun _ n => In64 n) w x.1 ∧ (fun _ n => In64 n) w x.2.1 ∧ (fun _ n => In64 n) w x.2.2) w x.2.2.2.2.1 ∧ (Half 1 encStr (fun _ s => s.size ≤ maxLen)) w x.2.2.2.2.2) w x.2.1 ∧ (fun w x => SliceV.In 1 encI w x ∧ ∀ y ∈ x.l, (fun _ n => In64 n) w y) w x.2.2.1 ∧ (fun _ n => In64 n) w x.2.2.2.1 ∧ (fun _ n => In64 n) w x.2.2.2.2.1 ∧ (fun _ n => In64 n) w x.2.2.2.2.2.1 ∧ (fun _ n => In64 n) w x.2.2.2.2.2.2.1 ∧ (Half 2 enc137 (fun w (x : ByteArray × Int) => (fun _ s => s.size ≤ maxLen) w x.1 ∧ (fun _ n => In64 n) w x.2)) w x.2.2.2.2.2.2.2) := by
  intro H en w sp hd fuel cs y h
  obtain ⟨hl, n, hf⟩ := trod_field Try.underlying76 h
  rw [co76] at hl
  obtain ⟨z0, hz0⟩ := hf 0 _ rfl
  obtain ⟨x0, e0, g0⟩ := (Reads.int Try.underlying3) H en w sp hd n _ _ hz0
  have q0 : cs.drop 0 = encI x0 ++ cs.drop (0 + 1) := cut2 co3 e0
  obtain ⟨z1, hz1⟩ := hf 1 _ rfl
  obtain ⟨x1, e1, g1⟩ := rh72 H en w sp hd n _ _ hz1
  have q1 : cs.drop 1 = enc72 x1 ++ cs.drop (1 + 8) := cut2 co72 e1
  obtain ⟨z2, hz2⟩ := hf 2 _ rfl
  obtain ⟨x2, e2, g2⟩ := (Reads.slice Try.underlying73 co3 (by decide) (Reads.int Try.underlying3) encI_len) H en w sp hd n _ _ hz2
  have q2 : cs.drop 9 = encSl x2 ++ cs.drop (9 + 1) := cut2 co73 e2
  obtain ⟨z3, hz3⟩ := hf 3 _ rfl
  obtain ⟨x3, e3, g3⟩ := (Reads.int Try.underlying3) H en w sp hd n _ _ hz3
  have q3 : cs.drop 10 = encI x3 ++ cs.drop (10 + 1) := cut2 co3 e3
  obtain ⟨z4, hz4⟩ := hf 4 _ rfl
  obtain ⟨x4, e4, g4⟩ := (Reads.int Try.underlying3) H en w sp hd n _ _ hz4
  have q4 : cs.drop 11 = encI x4 ++ cs.drop (11 + 1) := cut2 co3 e4
  obtain ⟨z5, hz5⟩ := hf 5 _ rfl
  obtain ⟨x5, e5, g5⟩ := (Reads.int Try.underlying3) H en w sp hd n _ _ hz5
  have q5 : cs.drop 12 = encI x5 ++ cs.drop (12 + 1) := cut2 co3 e5
  obtain ⟨z6, hz6⟩ := hf 6 _ rfl
  obtain ⟨x6, e6, g6⟩ := (Reads.int Try.underlying3) H en w sp hd n _ _ hz6
  have q6 : cs.drop 13 = encI x6 ++ cs.drop (13 + 1) := cut2 co3 e6
  obtain ⟨z7, hz7⟩ := hf 7 _ rfl
  obtain ⟨x7, e7, g7⟩ := (Reads.half Try.underlying74 co137 (by decide) rh137 enc137_len) H en w sp hd n _ _ hz7
  have q7 : cs.drop 14 = encSl x7 ++ cs.drop (14 + 1) := cut2 co74 e7
  refine ⟨⟨x0, x1, x2, x3, x4, x5, x6, x7⟩, ?_, g0, g1, g2, g3, g4, g5, g6, g7⟩
  have q : cs = cs.drop 0 := rfl
  rw [q, q0, show 0 + 1 = 1 from rfl, q1, show 1 + 8 = 9 from rfl, q2, show 9 + 1 = 10 from rfl, q3, show 10 + 1 = 11 from rfl, q4, show 11 + 1 = 12 from rfl, q5, show 12 + 1 = 13 from rfl, q6, show 13 + 1 = 14 from rfl, q7, show 14 + 1 = 15 from rfl, List.drop_eq_nil_of_le (by omega)]
  all_goals rfl
def enc127 (x : ByteArray × ByteArray) : List Value := encStr x.1 ++ encStr x.2
theorem enc127_len (x : ByteArray × ByteArray) : (enc127 x).length = 2 := by
  simp only [enc127, List.length_append, encStr_len]
theorem co127 : Try.prog.cellsOf 127 = 2 := by kernel_rfl
theorem rh127 : Reads Try.prog 127 enc127 (fun w (x : ByteArray × ByteArray) => (fun _ s => s.size ≤ maxLen) w x.1 ∧ (fun _ s => s.size ≤ maxLen) w x.2) := by
  intro H en w sp hd fuel cs y h
  obtain ⟨hl, n, hf⟩ := trod_field Try.underlying127 h
  rw [co127] at hl
  obtain ⟨z0, hz0⟩ := hf 0 _ rfl
  obtain ⟨x0, e0, g0⟩ := (Reads.str Try.underlying9) H en w sp hd n _ _ hz0
  have q0 : cs.drop 0 = encStr x0 ++ cs.drop (0 + 1) := cut2 co9 e0
  obtain ⟨z1, hz1⟩ := hf 1 _ rfl
  obtain ⟨x1, e1, g1⟩ := (Reads.str Try.underlying9) H en w sp hd n _ _ hz1
  have q1 : cs.drop 1 = encStr x1 ++ cs.drop (1 + 1) := cut2 co9 e1
  refine ⟨⟨x0, x1⟩, ?_, g0, g1⟩
  have q : cs = cs.drop 0 := rfl
  rw [q, q0, show 0 + 1 = 1 from rfl, q1, show 1 + 1 = 2 from rfl, List.drop_eq_nil_of_le (by omega)]
  all_goals rfl
def enc99 (x : Int × (SliceV (ByteArray × ByteArray)) × Int) : List Value := encI x.1 ++ encSl x.2.1 ++ encI x.2.2
theorem enc99_len (x : Int × (SliceV (ByteArray × ByteArray)) × Int) : (enc99 x).length = 3 := by
  simp only [enc99, List.length_append, encI_len, encSl_len]
theorem co97 : Try.prog.cellsOf 97 = 1 := by kernel_rfl
theorem co99 : Try.prog.cellsOf 99 = 3 := by kernel_rfl
theorem rh99 : Reads Try.prog 99 enc99 (fun w (x : Int × (SliceV (ByteArray × ByteArray)) × Int) => (fun _ n => In64 n) w x.1 ∧ (fun w x => SliceV.In 2 enc127 w x ∧ ∀ y ∈ x.l, (fun w (x : ByteArray × ByteArray) => (fun _ s => s.size ≤ maxLen) w x.1 ∧ (fun _ s => s.size ≤ maxLen) w x.2) w y) w x.2.1 ∧ (fun _ n => In64 n) w x.2.2) := by
  intro H en w sp hd fuel cs y h
  obtain ⟨hl, n, hf⟩ := trod_field Try.underlying99 h
  rw [co99] at hl
  obtain ⟨z0, hz0⟩ := hf 0 _ rfl
  obtain ⟨x0, e0, g0⟩ := (Reads.int Try.underlying3) H en w sp hd n _ _ hz0
  have q0 : cs.drop 0 = encI x0 ++ cs.drop (0 + 1) := cut2 co3 e0
  obtain ⟨z1, hz1⟩ := hf 1 _ rfl
  obtain ⟨x1, e1, g1⟩ := (Reads.slice Try.underlying97 co127 (by decide) rh127 enc127_len) H en w sp hd n _ _ hz1
  have q1 : cs.drop 1 = encSl x1 ++ cs.drop (1 + 1) := cut2 co97 e1
  obtain ⟨z2, hz2⟩ := hf 2 _ rfl
  obtain ⟨x2, e2, g2⟩ := (Reads.int Try.underlying3) H en w sp hd n _ _ hz2
  have q2 : cs.drop 2 = encI x2 ++ cs.drop (2 + 1) := cut2 co3 e2
  refine ⟨⟨x0, x1, x2⟩, ?_, g0, g1, g2⟩
  have q : cs = cs.drop 0 := rfl
  rw [q, q0, show 0 + 1 = 1 from rfl, q1, show 1 + 1 = 2 from rfl, q2, show 2 + 1 = 3 from rfl, List.drop_eq_nil_of_le (by omega)]
  all_goals rfl
theorem rh27 : Reads Try.prog 27 enc27 (fun w (x : (SliceV (ByteArray × ByteArray × ByteArray × ByteArray × ByteArray × Bool × Int × Int × Int)) × (SliceV (Int × (Int × (SliceV Unit) × Int × Int × (Int × Int × Int) × (SliceV Unit)) × (SliceV Int) × Int × Int × Int × Int × (SliceV Unit))) × (SliceV Unit) × (SliceV Unit)) => (fun w x => SliceV.In 9 enc52 w x ∧ ∀ y ∈ x.l, (fun w (x : ByteArray × ByteArray × ByteArray × ByteArray × ByteArray × Bool × Int × Int × Int) => (fun _ s => s.size ≤ maxLen) w x.1 ∧ (fun _ s => s.size ≤ maxLen) w x.2.1 ∧ (fun _ s => s.size ≤ maxLen) w x.2.2.1 ∧ (fun _ s => s.size ≤ maxLen) w x.2.2.2.1 ∧ (fun _ s => s.size ≤ maxLen) w x.2.2.2.2.1 ∧ (fun _ _ => True) w x.2.2.2.2.2.1 ∧ (fun _ n => In64 n) w x.2.2.2.2.2.2.1 ∧ (fun _ n => In64 n) w x.2.2.2.2.2.2.2.1 ∧ (fun _ n => In64 n) w x.2.2.2.2.2.2.2.2) w y) w x.1 ∧ (fun w x => SliceV.In 15 enc76 w x ∧ ∀ y ∈ x.l, (fun w (x : Int × (Int × (SliceV Unit) × Int × Int × (Int × Int × Int) × (SliceV Unit)) × (SliceV Int) × Int × Int × Int × Int × (SliceV Unit)) => (fun _ n => In64 n) w x.1 ∧ (fun w (x : Int × (SliceV Unit) × Int × Int × (Int × Int × Int) × (SliceV Unit)) => (fun _ n => In64 n) w x.1 ∧ (CondG) w x.2.1 ∧ (fun _ n => In64 n) w x.2.2.1 ∧ (fun _ n => In64 n) w x.2.2.2.1 ∧ (fun w (x : Int × Int × Int) => (fun _ n => In64 n) w x.1 ∧ (fun _ n => In64 n) w x.2.1 ∧ (fun _ n => In64 n) w x.2.2) w x.2.2.2.2.1 ∧ (Half 1 encStr (fun _ s => s.size ≤ maxLen)) w x.2.2.2.2.2) w x.2.1 ∧ (fun w x => SliceV.In 1 encI w x ∧ ∀ y ∈ x.l, (fun _ n => In64 n) w y) w x.2.2.1 ∧ (fun _ n => In64 n) w x.2.2.2.1 ∧ (fun _ n => In64 n) w x.2.2.2.2.1 ∧ (fun _ n => In64 n) w x.2.2.2.2.2.1 ∧ (fun _ n => In64 n) w x.2.2.2.2.2.2.1 ∧ (Half 2 enc137 (fun w (x : ByteArray × Int) => (fun _ s => s.size ≤ maxLen) w x.1 ∧ (fun _ n => In64 n) w x.2)) w x.2.2.2.2.2.2.2) w y) w x.2.1 ∧ (Half 3 enc99 (fun w (x : Int × (SliceV (ByteArray × ByteArray)) × Int) => (fun _ n => In64 n) w x.1 ∧ (fun w x => SliceV.In 2 enc127 w x ∧ ∀ y ∈ x.l, (fun w (x : ByteArray × ByteArray) => (fun _ s => s.size ≤ maxLen) w x.1 ∧ (fun _ s => s.size ≤ maxLen) w x.2) w y) w x.2.1 ∧ (fun _ n => In64 n) w x.2.2)) w x.2.2.1 ∧ (fun _ _ => True) w x.2.2.2) := by
  intro H en w sp hd fuel cs y h
  obtain ⟨hl, n, hf⟩ := trod_field Try.underlying27 h
  rw [co27] at hl
  obtain ⟨z0, hz0⟩ := hf 0 _ rfl
  obtain ⟨x0, e0, g0⟩ := (Reads.slice Try.underlying22 co52 (by decide) rh52 enc52_len) H en w sp hd n _ _ hz0
  have q0 : cs.drop 0 = encSl x0 ++ cs.drop (0 + 1) := cut2 co22 e0
  obtain ⟨z1, hz1⟩ := hf 1 _ rfl
  obtain ⟨x1, e1, g1⟩ := (Reads.slice Try.underlying23 co76 (by decide) rh76 enc76_len) H en w sp hd n _ _ hz1
  have q1 : cs.drop 1 = encSl x1 ++ cs.drop (1 + 1) := cut2 co23 e1
  obtain ⟨z2, hz2⟩ := hf 2 _ rfl
  obtain ⟨x2, e2, g2⟩ := (Reads.half Try.underlying24 co99 (by decide) rh99 enc99_len) H en w sp hd n _ _ hz2
  have q2 : cs.drop 2 = encSl x2 ++ cs.drop (2 + 1) := cut2 co24 e2
  obtain ⟨z3, hz3⟩ := hf 3 _ rfl
  obtain ⟨x3, e3, g3⟩ := (Reads.sealed Try.underlying25) H en w sp hd n _ _ hz3
  have q3 : cs.drop 3 = encSl x3 ++ cs.drop (3 + 1) := cut2 co25 e3
  refine ⟨⟨x0, x1, x2, x3⟩, ?_, g0, g1, g2, g3⟩
  have q : cs = cs.drop 0 := rfl
  rw [q, q0, show 0 + 1 = 1 from rfl, q1, show 1 + 1 = 2 from rfl, q2, show 2 + 1 = 3 from rfl, q3, show 3 + 1 = 4 from rfl, List.drop_eq_nil_of_le (by omega)]
  all_goals rfl
theorem rh42 : Reads Try.prog 42 enc42 (fun w (x : Int × Int × Int × Int) => (fun _ n => In64 n) w x.1 ∧ (fun _ n => In64 n) w x.2.1 ∧ (fun _ n => In64 n) w x.2.2.1 ∧ (fun _ n => In64 n) w x.2.2.2) := by
  intro H en w sp hd fuel cs y h
  obtain ⟨hl, n, hf⟩ := trod_field Try.underlying42 h
  rw [co42] at hl
  obtain ⟨z0, hz0⟩ := hf 0 _ rfl
  obtain ⟨x0, e0, g0⟩ := (Reads.int Try.underlying3) H en w sp hd n _ _ hz0
  have q0 : cs.drop 0 = encI x0 ++ cs.drop (0 + 1) := cut2 co3 e0
  obtain ⟨z1, hz1⟩ := hf 1 _ rfl
  obtain ⟨x1, e1, g1⟩ := (Reads.int Try.underlying3) H en w sp hd n _ _ hz1
  have q1 : cs.drop 1 = encI x1 ++ cs.drop (1 + 1) := cut2 co3 e1
  obtain ⟨z2, hz2⟩ := hf 2 _ rfl
  obtain ⟨x2, e2, g2⟩ := (Reads.int Try.underlying3) H en w sp hd n _ _ hz2
  have q2 : cs.drop 2 = encI x2 ++ cs.drop (2 + 1) := cut2 co3 e2
  obtain ⟨z3, hz3⟩ := hf 3 _ rfl
  obtain ⟨x3, e3, g3⟩ := (Reads.int Try.underlying3) H en w sp hd n _ _ hz3
  have q3 : cs.drop 3 = encI x3 ++ cs.drop (3 + 1) := cut2 co3 e3
  refine ⟨⟨x0, x1, x2, x3⟩, ?_, g0, g1, g2, g3⟩
  have q : cs = cs.drop 0 := rfl
  rw [q, q0, show 0 + 1 = 1 from rfl, q1, show 1 + 1 = 2 from rfl, q2, show 2 + 1 = 3 from rfl, q3, show 3 + 1 = 4 from rfl, List.drop_eq_nil_of_le (by omega)]
  all_goals rfl
theorem rh60 : Reads Try.prog 60 enc60 (fun w (x : ByteArray × Int × Int × ByteArray × ByteArray × Int × Int) => (fun _ s => s.size ≤ maxLen) w x.1 ∧ (fun _ n => In64 n) w x.2.1 ∧ (fun _ n => In64 n) w x.2.2.1 ∧ (fun _ s => s.size ≤ maxLen) w x.2.2.2.1 ∧ (fun _ s => s.size ≤ maxLen) w x.2.2.2.2.1 ∧ (fun _ n => In64 n) w x.2.2.2.2.2.1 ∧ (fun _ n => In64 n) w x.2.2.2.2.2.2) := by
  intro H en w sp hd fuel cs y h
  obtain ⟨hl, n, hf⟩ := trod_field Try.underlying60 h
  rw [co60] at hl
  obtain ⟨z0, hz0⟩ := hf 0 _ rfl
  obtain ⟨x0, e0, g0⟩ := (Reads.str Try.underlying9) H en w sp hd n _ _ hz0
  have q0 : cs.drop 0 = encStr x0 ++ cs.drop (0 + 1) := cut2 co9 e0
  obtain ⟨z1, hz1⟩ := hf 1 _ rfl
  obtain ⟨x1, e1, g1⟩ := (Reads.int Try.underlying3) H en w sp hd n _ _ hz1
  have q1 : cs.drop 1 = encI x1 ++ cs.drop (1 + 1) := cut2 co3 e1
  obtain ⟨z2, hz2⟩ := hf 2 _ rfl
  obtain ⟨x2, e2, g2⟩ := (Reads.int Try.underlying3) H en w sp hd n _ _ hz2
  have q2 : cs.drop 2 = encI x2 ++ cs.drop (2 + 1) := cut2 co3 e2
  obtain ⟨z3, hz3⟩ := hf 3 _ rfl
  obtain ⟨x3, e3, g3⟩ := (Reads.str Try.underlying9) H en w sp hd n _ _ hz3
  have q3 : cs.drop 3 = encStr x3 ++ cs.drop (3 + 1) := cut2 co9 e3
  obtain ⟨z4, hz4⟩ := hf 4 _ rfl
  obtain ⟨x4, e4, g4⟩ := (Reads.str Try.underlying9) H en w sp hd n _ _ hz4
  have q4 : cs.drop 4 = encStr x4 ++ cs.drop (4 + 1) := cut2 co9 e4
  obtain ⟨z5, hz5⟩ := hf 5 _ rfl
  obtain ⟨x5, e5, g5⟩ := (Reads.int Try.underlying3) H en w sp hd n _ _ hz5
  have q5 : cs.drop 5 = encI x5 ++ cs.drop (5 + 1) := cut2 co3 e5
  obtain ⟨z6, hz6⟩ := hf 6 _ rfl
  obtain ⟨x6, e6, g6⟩ := (Reads.int Try.underlying3) H en w sp hd n _ _ hz6
  have q6 : cs.drop 6 = encI x6 ++ cs.drop (6 + 1) := cut2 co3 e6
  refine ⟨⟨x0, x1, x2, x3, x4, x5, x6⟩, ?_, g0, g1, g2, g3, g4, g5, g6⟩
  have q : cs = cs.drop 0 := rfl
  rw [q, q0, show 0 + 1 = 1 from rfl, q1, show 1 + 1 = 2 from rfl, q2, show 2 + 1 = 3 from rfl, q3, show 3 + 1 = 4 from rfl, q4, show 4 + 1 = 5 from rfl, q5, show 5 + 1 = 6 from rfl, q6, show 6 + 1 = 7 from rfl, List.drop_eq_nil_of_le (by omega)]
  all_goals rfl
theorem rh62 : Reads Try.prog 62 enc62 (fun w (x : (ByteArray × Int × Int × ByteArray × ByteArray × Int × Int) × ByteArray) => (fun w (x : ByteArray × Int × Int × ByteArray × ByteArray × Int × Int) => (fun _ s => s.size ≤ maxLen) w x.1 ∧ (fun _ n => In64 n) w x.2.1 ∧ (fun _ n => In64 n) w x.2.2.1 ∧ (fun _ s => s.size ≤ maxLen) w x.2.2.2.1 ∧ (fun _ s => s.size ≤ maxLen) w x.2.2.2.2.1 ∧ (fun _ n => In64 n) w x.2.2.2.2.2.1 ∧ (fun _ n => In64 n) w x.2.2.2.2.2.2) w x.1 ∧ (fun _ s => s.size ≤ maxLen) w x.2) := by
  intro H en w sp hd fuel cs y h
  obtain ⟨hl, n, hf⟩ := trod_field Try.underlying62 h
  rw [co62] at hl
  obtain ⟨z0, hz0⟩ := hf 0 _ rfl
  obtain ⟨x0, e0, g0⟩ := rh60 H en w sp hd n _ _ hz0
  have q0 : cs.drop 0 = enc60 x0 ++ cs.drop (0 + 7) := cut2 co60 e0
  obtain ⟨z1, hz1⟩ := hf 1 _ rfl
  obtain ⟨x1, e1, g1⟩ := (Reads.str Try.underlying9) H en w sp hd n _ _ hz1
  have q1 : cs.drop 7 = encStr x1 ++ cs.drop (7 + 1) := cut2 co9 e1
  refine ⟨⟨x0, x1⟩, ?_, g0, g1⟩
  have q : cs = cs.drop 0 := rfl
  rw [q, q0, show 0 + 7 = 7 from rfl, q1, show 7 + 1 = 8 from rfl, List.drop_eq_nil_of_le (by omega)]
  all_goals rfl
def enc47 (x : (SliceV ((ByteArray × Int × Int × ByteArray × ByteArray × Int × Int) × ByteArray)) × (SliceV (Int × Int × Int × Int))) : List Value := encSl x.1 ++ encSl x.2
theorem enc47_len (x : (SliceV ((ByteArray × Int × Int × ByteArray × ByteArray × Int × Int) × ByteArray)) × (SliceV (Int × Int × Int × Int))) : (enc47 x).length = 2 := by
  simp only [enc47, List.length_append, encSl_len]
theorem co45 : Try.prog.cellsOf 45 = 1 := by kernel_rfl
theorem co28 : Try.prog.cellsOf 28 = 1 := by kernel_rfl
theorem co47 : Try.prog.cellsOf 47 = 2 := by kernel_rfl
theorem rh47 : Reads Try.prog 47 enc47 (fun w (x : (SliceV ((ByteArray × Int × Int × ByteArray × ByteArray × Int × Int) × ByteArray)) × (SliceV (Int × Int × Int × Int))) => (fun w x => SliceV.In 8 enc62 w x ∧ ∀ y ∈ x.l, (fun w (x : (ByteArray × Int × Int × ByteArray × ByteArray × Int × Int) × ByteArray) => (fun w (x : ByteArray × Int × Int × ByteArray × ByteArray × Int × Int) => (fun _ s => s.size ≤ maxLen) w x.1 ∧ (fun _ n => In64 n) w x.2.1 ∧ (fun _ n => In64 n) w x.2.2.1 ∧ (fun _ s => s.size ≤ maxLen) w x.2.2.2.1 ∧ (fun _ s => s.size ≤ maxLen) w x.2.2.2.2.1 ∧ (fun _ n => In64 n) w x.2.2.2.2.2.1 ∧ (fun _ n => In64 n) w x.2.2.2.2.2.2) w x.1 ∧ (fun _ s => s.size ≤ maxLen) w x.2) w y) w x.1 ∧ (fun w x => SliceV.In 4 enc42 w x ∧ ∀ y ∈ x.l, (fun w (x : Int × Int × Int × Int) => (fun _ n => In64 n) w x.1 ∧ (fun _ n => In64 n) w x.2.1 ∧ (fun _ n => In64 n) w x.2.2.1 ∧ (fun _ n => In64 n) w x.2.2.2) w y) w x.2) := by
  intro H en w sp hd fuel cs y h
  obtain ⟨hl, n, hf⟩ := trod_field Try.underlying47 h
  rw [co47] at hl
  obtain ⟨z0, hz0⟩ := hf 0 _ rfl
  obtain ⟨x0, e0, g0⟩ := (Reads.slice Try.underlying45 co62 (by decide) rh62 enc62_len) H en w sp hd n _ _ hz0
  have q0 : cs.drop 0 = encSl x0 ++ cs.drop (0 + 1) := cut2 co45 e0
  obtain ⟨z1, hz1⟩ := hf 1 _ rfl
  obtain ⟨x1, e1, g1⟩ := (Reads.slice Try.underlying28 co42 (by decide) rh42 enc42_len) H en w sp hd n _ _ hz1
  have q1 : cs.drop 1 = encSl x1 ++ cs.drop (1 + 1) := cut2 co28 e1
  refine ⟨⟨x0, x1⟩, ?_, g0, g1⟩
  have q : cs = cs.drop 0 := rfl
  rw [q, q0, show 0 + 1 = 1 from rfl, q1, show 1 + 1 = 2 from rfl, List.drop_eq_nil_of_le (by omega)]
  all_goals rfl
end Go.Proofs.Ytblmafknmeicfaa
