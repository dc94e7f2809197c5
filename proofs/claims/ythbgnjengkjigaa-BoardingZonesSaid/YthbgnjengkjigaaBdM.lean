import Derived.Test.YthbgnjengkjigaaBdL
namespace Go.Proofs.Ythbgnjengkjigaa
open Go Go.RowKit Eng
set_option linter.unusedVariables false
set_option linter.unusedSimpArgs false

set_option maxHeartbeats 4000000 in
set_option maxRecDepth 100000 in
theorem zones_bad (T R : List Int) (ta ra : Option Addr) (n m tc rc : Nat) (hn : n = T.length) (hm : m = R.length) (he : newE T R ≠ 0) (w0 : World) (sT : SliceIn w0 1 ta n tc (rowsF encI T)) (sR : SliceIn w0 1 ra m rc (rowsF encI R)) : FnC Try.prog 3 [.slice ta n tc, .slice ra m rc] w0 fun v w' => v = .bool true := by
  refine fnc (N := 86) Try.func3 rfl rfl rfl ?_
  refine WC.seq ?_
  refine WC.region ?_
  refine SL.pure rfl rfl rfl (PureOp.assign rfl) ?_
  refine SL.nil_then ?_
  refine WC.seq ?_
  refine WC.region ?_
  refine SL.pure rfl rfl rfl (PureOp.move rfl) ?_
  refine SL.pure rfl rfl rfl (PureOp.move rfl) ?_
  refine SL.calle rfl rfl rfl rfl rfl rfl callable7 (fun w hw => pnewbad T R ta ra n m tc rc hn hm he w (sT.below hw.below) (sR.below hw.below)) ?_
  refine SL.norm [] rfl ?_
  refine SL.pure rfl rfl rfl (PureOp.move rfl) ?_
  refine SL.pure rfl rfl rfl (PureOp.extract rfl rfl) ?_
  refine SL.pure rfl rfl rfl (PureOp.extract rfl rfl) ?_
  refine SL.pure rfl rfl rfl (PureOp.assign rfl) ?_
  refine SL.pure rfl rfl rfl (PureOp.assign rfl) ?_
  refine SL.nil_then ?_
  refine WC.seq ?_
  refine WC.seq ?_
  refine WC.region ?_
  refine SL.pure rfl rfl rfl (PureOp.move rfl) ?_
  refine SL.pure rfl rfl rfl (PureOp.neq rfl rfl) ?_
  refine SL.lit 18 true rfl (by simpa using he) ?_
  refine SL.pure rfl rfl rfl (PureOp.move rfl) ?_
  refine SL.off rfl rfl rfl rfl rfl rfl ?_
  refine SL.off rfl rfl rfl rfl rfl rfl ?_
  refine SL.off rfl rfl rfl rfl rfl rfl ?_
  refine SL.pure rfl rfl rfl (PureOp.pickT rfl rfl) ?_
  refine SL.nil_then ?_
  refine WC.condT rfl ?_
  refine WC.seq ?_
  refine WC.region ?_
  refine SL.calle rfl rfl rfl rfl rfl rfl callable8 (fun w hw => knows_ok w) ?_
  refine SL.norm [] rfl ?_
  refine SL.pure rfl rfl rfl (PureOp.assign rfl) ?_
  refine SL.nil_then ?_
  refine WC.ret ?_
  refine QX.ret_then ?_
  refine QX.ret1 rfl rfl ?_
  intro w hw
  rfl

set_option maxHeartbeats 4000000 in
set_option maxRecDepth 100000 in
theorem zones_ok (T R : List Int) (ta ra : Option Addr) (n m tc rc : Nat) (hn : n = T.length) (hm : m = R.length) (he : newE T R = 0) (w0 : World) (sT : SliceIn w0 1 ta n tc (rowsF encI T)) (sR : SliceIn w0 1 ra m rc (rowsF encI R)) : FnC Try.prog 3 [.slice ta n tc, .slice ra m rc] w0 fun v w' => v = .bool true := by
  have hM := made_of he
  have h9 : n ≤ 999 := by have := hM.size; omega
  have hR : R.length = n := by rw [hM.len, hn]
  have hmn : m = n := by omega
  refine fnc (N := 86) Try.func3 rfl rfl rfl ?_
  refine WC.seq ?_
  refine WC.region ?_
  refine SL.pure rfl rfl rfl (PureOp.assign rfl) ?_
  refine SL.nil_then ?_
  refine WC.seq ?_
  refine WC.region ?_
  refine SL.pure rfl rfl rfl (PureOp.move rfl) ?_
  refine SL.pure rfl rfl rfl (PureOp.move rfl) ?_
  refine SL.callM [] rfl rfl rfl rfl rfl rfl callable7 (by decide) (pnew T R ta ra n m tc rc hn hm he w0 sT sR) rfl (fun _ _ => rfl) ?_
  rintro ⟨b, ⟨ta2, tc2⟩, ⟨ra2, rc2⟩, ab⟩ hb0
  refine SL.addnil 47 3 ?_
  refine SL.norm [_, _, _, _, _] rfl ?_
  refine SL.pure rfl rfl rfl (PureOp.move rfl) ?_
  refine SL.pure rfl rfl rfl (PureOp.extract rfl rfl) ?_
  refine SL.pure rfl rfl rfl (PureOp.extract rfl rfl) ?_
  refine SL.pure rfl rfl rfl (PureOp.assign rfl) ?_
  refine SL.pure rfl rfl rfl (PureOp.assign rfl) ?_
  refine SL.nil_then ?_
  refine WC.seq ?_
  refine WC.seq ?_
  refine WC.region ?_
  refine SL.pure rfl rfl rfl (PureOp.move rfl) ?_
  refine SL.pure rfl rfl rfl (PureOp.neq rfl rfl) ?_
  refine SL.lit 18 false rfl (by decide) ?_
  refine SL.pure rfl rfl rfl (PureOp.move rfl) ?_
  refine SL.ung rfl rfl rfl rfl ?_
  refine SL.pure rfl rfl rfl (PureOp.move rfl) ?_
  refine SL.ung rfl rfl rfl rfl ?_
  refine SL.pure rfl rfl rfl (PureOp.len rfl Try.underlying22) ?_
  refine SL.ung rfl rfl rfl rfl ?_
  refine SL.pure rfl rfl rfl (PureOp.gtr rfl rfl) ?_
  refine SL.pure rfl rfl rfl (PureOp.pickF rfl rfl) ?_
  refine SL.nil_then ?_
  refine WC.cond rfl (fun h1 => ?_) (fun h1 => ?_)
  · try simp only [Bool.and_eq_true, Bool.or_eq_true, Bool.not_eq_true', Bool.not_eq_false', Bool.and_eq_false_iff, Bool.or_eq_false_iff, decide_eq_true_eq, decide_eq_false_iff_not, Int.not_lt, Int.not_le, ne_eq, Decidable.not_not] at h1
    refine WC.seq ?_
    refine WC.region ?_
    refine SL.calle rfl rfl rfl rfl rfl rfl callable8 (fun w hw => knows_ok w) ?_
    refine SL.norm [_, _, _, _, _] rfl ?_
    refine SL.pure rfl rfl rfl (PureOp.assign rfl) ?_
    refine SL.nil_then ?_
    refine WC.ret ?_
    refine QX.ret_then ?_
    refine QX.ret1 rfl rfl ?_
    intro w hw
    rfl
  · try simp only [Bool.and_eq_true, Bool.or_eq_true, Bool.not_eq_true', Bool.not_eq_false', Bool.and_eq_false_iff, Bool.or_eq_false_iff, decide_eq_true_eq, decide_eq_false_iff_not, Int.not_lt, Int.not_le, ne_eq, Decidable.not_not] at h1
    refine WC.skip ?_
    refine QX.then_ ?_
    refine WC.seq ?_
    refine WC.seq ?_
    refine WC.region ?_
    refine SL.pure rfl rfl rfl (PureOp.assign rfl) ?_
    refine SL.nil_then ?_
    refine WC.block ?_
    refine WC.loop (σ := Nat) (fun q_ => [(0, 0, .slice ta n tc), (1, 0, .slice ra m rc), (5, 0, .pointer (some ⟨b, 0, none⟩)), (6, 0, .int .i64 0), (11, 0, .tuple #[.pointer (some ⟨b, 0, none⟩), .int .i64 0]), (12, 0, .slice ta n tc), (13, 0, .slice ra m rc), (14, 0, .tuple #[.pointer (some ⟨b, 0, none⟩), .int .i64 0]), (15, 0, .pointer (some ⟨b, 0, none⟩)), (16, 0, .int .i64 0), (17, 0, .int .i64 0), (18, 0, .bool false), (19, 0, .bool false), (20, 0, .slice ta n tc), (21, 0, .int .i64 ((n : Nat) : Int)), (22, 0, .bool (decide (100 < ((n : Nat) : Int)))), (23, 0, .bool (decide (100 < ((n : Nat) : Int)))), (7, 0, .int .i64 ((q_ : Nat) : Int))]) (fun q_ => [Item.cells b [.bool true, .bool false, .slice ta2 n tc2, .slice ra2 n rc2, .slice (some ⟨ab, 0, none⟩) n n, .slice none 0 0] 44, Item.own w0.heap.size ta2 n tc2 3 1 (cellsOf encI T), Item.own w0.heap.size ra2 n rc2 3 1 (cellsOf encI R), Item.own w0.heap.size (some ⟨ab, 0, none⟩) n n 4 1 (cellsOf encBo (List.replicate n false)), Item.own w0.heap.size none 0 0 47 3 ([])]) (fun q_ => q_ ≤ n) (fun q_ => n - q_) 5 (0) (Nat.zero_le _) ⟨rfl, rfl, rfl, rfl, rfl, rfl, rfl, rfl, rfl, rfl, rfl, rfl, rfl, rfl, rfl, rfl, rfl, rfl, rfl, rfl, rfl, rfl, rfl, rfl, rfl, rfl, rfl, rfl, rfl, rfl, rfl, rfl, rfl, rfl, rfl, rfl, trivial⟩ rfl ?_
    rintro i hi
    refine WC.seq ?_
    refine WC.seq ?_
    refine WC.region ?_
    refine SL.pure rfl rfl rfl (PureOp.move rfl) ?_
    refine SL.pure rfl rfl rfl (PureOp.move rfl) ?_
    refine SL.pure rfl rfl rfl (PureOp.len rfl Try.underlying22) ?_
    refine SL.pure rfl rfl rfl (PureOp.lss rfl rfl) ?_
    refine SL.nil_then ?_
    refine WC.cond rfl (fun h2 => ?_) (fun h2 => ?_)
    · try simp only [Bool.and_eq_true, Bool.or_eq_true, Bool.not_eq_true', Bool.not_eq_false', Bool.and_eq_false_iff, Bool.or_eq_false_iff, decide_eq_true_eq, decide_eq_false_iff_not, Int.not_lt, Int.not_le, ne_eq, Decidable.not_not] at h2
      have qz := zone_in hM (i := i) (by omega)
      refine WC.skip ?_
      refine QX.then_ ?_
      refine WC.seq ?_
      refine WC.block ?_
      refine WC.seq ?_
      refine WC.region ?_
      refine SL.pure rfl rfl rfl (PureOp.move rfl) ?_
      refine SL.pure rfl rfl rfl (PureOp.move rfl) ?_
      refine SL.pure rfl rfl rfl (PureOp.move rfl) ?_
      refine SL.pure rfl rfl rfl (PureOp.indexAddrN Try.underlying22 sz3 rfl rfl (AoOk.in_ sT) (fun _ => by omega)) ?_
      refine SL.pure rfl rfl rfl (PureOp.load (v := .int .i64 (nth T i)) Try.underlying3 rfl rfl (fun _ => (CellIs.in_ sT i 0 (by omega) (by omega)))) ?_
      refine SL.calle rfl rfl rfl rfl rfl rfl callable9 (fun w hw => pzone_ok b T R (List.replicate n false) false ([] : List Bag) ta2 ra2 (some ⟨ab, 0, none⟩) none n tc2 rc2 n 0 hM hn hR h9 List.length_replicate (known0 _) (Nat.zero_le _) (nth T i) w (ObjIn.of hw 0 rfl) (SliceIn.rows (l := T) (hw.mem (i := 1) rfl) encI_len (by omega)) (SliceIn.rows (l := R) (hw.mem (i := 2) rfl) encI_len (by omega)) (SliceIn.rows (l := (List.replicate n false)) (hw.mem (i := 3) rfl) encBo_len (Nat.le_of_eq (Eq.symm List.length_replicate))) (SliceIn.rows (l := ([] : List Bag)) (hw.mem (i := 4) rfl) encBag_len (Nat.le_refl _))) ?_
      refine SL.norm [_, _, _, _, _] rfl ?_
      refine SL.pure rfl rfl rfl (PureOp.assign rfl) ?_
      refine SL.nil_then ?_
      refine WC.seq ?_
      refine WC.seq ?_
      refine WC.region ?_
      refine SL.pure rfl rfl rfl (PureOp.move rfl) ?_
      refine SL.pure rfl rfl rfl (PureOp.lss rfl rfl) ?_
      refine SL.pure rfl rfl rfl (PureOp.move rfl) ?_
      refine SL.newg 39 false rfl ?_
      refine SL.gpure (c := 1) rfl rfl rfl rfl rfl rfl rfl (PureOp.move rfl) ?_
      refine SL.gpure (c := 1) rfl rfl rfl rfl rfl rfl rfl (PureOp.gtr rfl rfl) ?_
      refine SL.pure rfl rfl rfl (PureOp.or_ rfl rfl rfl rfl) ?_
      refine SL.nil_then ?_
      refine WC.cond rfl (fun h3 => ?_) (fun h3 => ?_)
      · try simp only [Bool.and_eq_true, Bool.or_eq_true, Bool.not_eq_true', Bool.not_eq_false', Bool.and_eq_false_iff, Bool.or_eq_false_iff, decide_eq_true_eq, decide_eq_false_iff_not, Int.not_lt, Int.not_le, ne_eq, Decidable.not_not] at h3
        exact absurd h3 (by omega)
      · try simp only [Bool.and_eq_true, Bool.or_eq_true, Bool.not_eq_true', Bool.not_eq_false', Bool.and_eq_false_iff, Bool.or_eq_false_iff, decide_eq_true_eq, decide_eq_false_iff_not, Int.not_lt, Int.not_le, ne_eq, Decidable.not_not] at h3
        refine WC.skip ?_
        refine QX.then_ ?_
        refine WC.seq ?_
        refine WC.region ?_
        refine SL.pure rfl rfl rfl (PureOp.assign rfl) ?_
        refine SL.nil_then ?_
        refine WC.seq ?_
        refine WC.seq ?_
        refine WC.region ?_
        refine SL.pure rfl rfl rfl (PureOp.assign rfl) ?_
        refine SL.nil_then ?_
        refine WC.block ?_
        refine WC.loop (σ := Nat × Bool) (fun q_ => [(0, 0, .slice ta n tc), (1, 0, .slice ra m rc), (5, 0, .pointer (some ⟨b, 0, none⟩)), (6, 0, .int .i64 0), (7, 0, .int .i64 ((i : Nat) : Int)), (8, 0, .int .i64 (zoneV T R (nth T i))), (11, 0, .tuple #[.pointer (some ⟨b, 0, none⟩), .int .i64 0]), (12, 0, .slice ta n tc), (13, 0, .slice ra m rc), (14, 0, .tuple #[.pointer (some ⟨b, 0, none⟩), .int .i64 0]), (15, 0, .pointer (some ⟨b, 0, none⟩)), (16, 0, .int .i64 0), (17, 0, .int .i64 0), (18, 0, .bool false), (19, 0, .bool false), (20, 0, .slice ta n tc), (21, 0, .int .i64 ((n : Nat) : Int)), (22, 0, .bool (decide (100 < ((n : Nat) : Int)))), (23, 0, .bool (decide (100 < ((n : Nat) : Int)))), (25, 0, .int .i64 ((i : Nat) : Int)), (26, 0, .slice ta n tc), (27, 0, .int .i64 ((n : Nat) : Int)), (28, 0, .bool (decide (((i : Nat) : Int) < ((n : Nat) : Int)))), (31, 0, .pointer (some ⟨b, 0, none⟩)), (32, 0, .slice ta n tc), (33, 0, .int .i64 ((i : Nat) : Int)), (34, 0, .pointer (some ⟨blk ta, off ta + i * 1, none⟩)), (35, 0, .int .i64 (nth T i)), (36, 0, .int .i64 (zoneV T R (nth T i))), (37, 0, .int .i64 (zoneV T R (nth T i))), (38, 0, .bool (decide (zoneV T R (nth T i) < 1))), (39, 0, .bool (decide (zoneV T R (nth T i) < 1))), (42, 0, .bool ((decide (zoneV T R (nth T i) < 1)) || (decide (4 < zoneV T R (nth T i))))), (10, 0, .int .i64 ((q_.1 : Nat) : Int)), (9, 0, .bool q_.2)]) (fun q_ => [Item.cells b [.bool true, .bool false, .slice ta2 n tc2, .slice ra2 n rc2, .slice (some ⟨ab, 0, none⟩) n n, .slice none 0 0] 44, Item.own w0.heap.size ta2 n tc2 3 1 (cellsOf encI T), Item.own w0.heap.size ra2 n rc2 3 1 (cellsOf encI R), Item.own w0.heap.size (some ⟨ab, 0, none⟩) n n 4 1 (cellsOf encBo (List.replicate n false)), Item.own w0.heap.size none 0 0 47 3 ([])]) (fun q_ => q_.1 ≤ n ∧ (q_.2 = true → ∀ k, k < q_.1 → nth R k ≤ nth R i)) (fun q_ => n - q_.1) 5 ((0, true)) (⟨Nat.zero_le _, fun _ k hk => absurd hk (Nat.not_lt_zero _)⟩) ⟨rfl, rfl, rfl, rfl, rfl, rfl, rfl, rfl, rfl, rfl, rfl, rfl, rfl, rfl, rfl, rfl, rfl, rfl, rfl, rfl, rfl, rfl, rfl, rfl, rfl, rfl, rfl, rfl, rfl, rfl, rfl, rfl, rfl, rfl, rfl, rfl, rfl, rfl, rfl, rfl, rfl, rfl, rfl, rfl, rfl, rfl, rfl, rfl, rfl, rfl, rfl, rfl, rfl, rfl, rfl, rfl, rfl, rfl, rfl, rfl, rfl, rfl, rfl, rfl, rfl, rfl, rfl, rfl, rfl, rfl, trivial⟩ rfl ?_
        rintro ⟨j, lb⟩ ⟨hj, hl⟩
        try dsimp only at *
        refine WC.seq ?_
        refine WC.seq ?_
        refine WC.region ?_
        refine SL.pure rfl rfl rfl (PureOp.move rfl) ?_
        refine SL.pure rfl rfl rfl (PureOp.move rfl) ?_
        refine SL.pure rfl rfl rfl (PureOp.len rfl Try.underlying22) ?_
        refine SL.pure rfl rfl rfl (PureOp.lss rfl rfl) ?_
        refine SL.nil_then ?_
        refine WC.cond rfl (fun h4 => ?_) (fun h4 => ?_)
        · try simp only [Bool.and_eq_true, Bool.or_eq_true, Bool.not_eq_true', Bool.not_eq_false', Bool.and_eq_false_iff, Bool.or_eq_false_iff, decide_eq_true_eq, decide_eq_false_iff_not, Int.not_lt, Int.not_le, ne_eq, Decidable.not_not] at h4
          refine WC.skip ?_
          refine QX.then_ ?_
          refine WC.seq ?_
          refine WC.block ?_
          refine WC.seq ?_
          refine WC.quiet rfl (by kernel_rfl) ?_
          refine SQ.pure rfl rfl rfl (PureOp.move rfl) ?_
          refine SQ.pure rfl rfl rfl (PureOp.move rfl) ?_
          refine SQ.newg 50 true rfl ?_
          refine SQ.gpure (c := 1) rfl rfl rfl rfl rfl rfl rfl (PureOp.move rfl) ?_
          refine SQ.gpure (c := 1) rfl rfl rfl rfl rfl rfl rfl (PureOp.move rfl) ?_
          refine SQ.gpure (c := 1) rfl rfl rfl rfl rfl rfl rfl (PureOp.indexAddrN Try.underlying22 sz3 rfl rfl (AoOk.in_ sR) (by intro hg; simp [gval] at hg; omega)) ?_
          refine SQ.gpure (c := 1) rfl rfl rfl rfl rfl rfl rfl (PureOp.load (v := .int .i64 (nth R j)) Try.underlying3 rfl rfl (by intro hg; simp [gval] at hg; exact (CellIs.in_ sR j 0 (by omega) (by omega)))) ?_
          refine SQ.gpure (c := 1) rfl rfl rfl rfl rfl rfl rfl (PureOp.move rfl) ?_
          refine SQ.gpure (c := 1) rfl rfl rfl rfl rfl rfl rfl (PureOp.move rfl) ?_
          refine SQ.gpure (c := 1) rfl rfl rfl rfl rfl rfl rfl (PureOp.indexAddrN Try.underlying22 sz3 rfl rfl (AoOk.in_ sR) (by intro hg; simp [gval] at hg; omega)) ?_
          refine SQ.gpure (c := 1) rfl rfl rfl rfl rfl rfl rfl (PureOp.load (v := .int .i64 (nth R i)) Try.underlying3 rfl rfl (by intro hg; simp [gval] at hg; exact (CellIs.in_ sR i 0 (by omega) (by omega)))) ?_
          refine SQ.gpure (c := 1) rfl rfl rfl rfl rfl rfl rfl (PureOp.leq rfl rfl) ?_
          refine SQ.pure rfl rfl rfl (PureOp.and_ rfl rfl rfl rfl) ?_
          refine SQ.pure rfl rfl rfl (PureOp.assign rfl) ?_
          refine SQ.nil_then ?_
          refine WC.seq ?_
          refine WC.drawH 19 [false, false, false, false, false, false, false, false, false, false, false, false, false, false, false, false, false, false, false] rfl rfl rfl ?_
          refine SD.take 0 [true, false, false, false, false, false, false, false, false, false, false, false, false, false, false, false, false, false, false] rfl (by kernel_rfl) rfl (fun _ h => h) rfl rfl rfl (PureOp.move rfl) ?_
          refine SD.take 1 [true, true, false, false, false, false, false, false, false, false, false, false, false, false, false, false, false, false, false] rfl (by kernel_rfl) rfl (fun _ h => h) rfl rfl rfl (PureOp.move rfl) ?_
          refine SD.take 2 [true, true, true, false, false, false, false, false, false, false, false, false, false, false, false, false, false, false, false] rfl (by kernel_rfl) rfl (fun _ h => h) rfl rfl rfl (PureOp.indexAddrN Try.underlying22 sz3 rfl rfl (AoOk.in_ sR) (fun _ => by omega)) ?_
          refine SD.take 3 [true, true, true, true, false, false, false, false, false, false, false, false, false, false, false, false, false, false, false] rfl (by kernel_rfl) rfl (fun _ h => h) rfl rfl rfl (PureOp.load (v := .int .i64 (nth R j)) Try.underlying3 rfl rfl (fun _ => (CellIs.in_ sR j 0 (by omega) (by omega)))) ?_
          refine SD.take 4 [true, true, true, true, true, false, false, false, false, false, false, false, false, false, false, false, false, false, false] rfl (by kernel_rfl) rfl (fun _ h => h) rfl rfl rfl (PureOp.move rfl) ?_
          refine SD.take 5 [true, true, true, true, true, true, false, false, false, false, false, false, false, false, false, false, false, false, false] rfl (by kernel_rfl) rfl (fun _ h => h) rfl rfl rfl (PureOp.move rfl) ?_
          refine SD.take 6 [true, true, true, true, true, true, true, false, false, false, false, false, false, false, false, false, false, false, false] rfl (by kernel_rfl) rfl (fun _ h => h) rfl rfl rfl (PureOp.indexAddrN Try.underlying22 sz3 rfl rfl (AoOk.in_ sR) (fun _ => by omega)) ?_
          refine SD.take 7 [true, true, true, true, true, true, true, true, false, false, false, false, false, false, false, false, false, false, false] rfl (by kernel_rfl) rfl (fun _ h => h) rfl rfl rfl (PureOp.load (v := .int .i64 (nth R i)) Try.underlying3 rfl rfl (fun _ => (CellIs.in_ sR i 0 (by omega) (by omega)))) ?_
          refine SD.take 8 [true, true, true, true, true, true, true, true, true, false, false, false, false, false, false, false, false, false, false] rfl (by kernel_rfl) rfl (fun _ h => h) rfl rfl rfl (PureOp.gtr rfl rfl) ?_
          refine SD.take 9 [true, true, true, true, true, true, true, true, true, true, false, false, false, false, false, false, false, false, false] rfl (by kernel_rfl) rfl (fun _ h => h) rfl rfl rfl (PureOp.move rfl) ?_
          refine SD.split 70 rfl (fun hs70 => ?_) (fun hs70 => ?_)
          · try simp only [Bool.and_eq_true, Bool.or_eq_true, Bool.not_eq_true', Bool.not_eq_false', Bool.and_eq_false_iff, Bool.or_eq_false_iff, decide_eq_true_eq, decide_eq_false_iff_not, Int.not_lt, Int.not_le, ne_eq, Decidable.not_not] at hs70
            refine SD.takeon 10 [true, true, true, true, true, true, true, true, true, true, true, false, false, false, false, false, false, false, false] rfl (by kernel_rfl) rfl (fun _ h => h) rfl rfl rfl rfl rfl rfl rfl (PureOp.move rfl) ?_
            refine SD.takeon 11 [true, true, true, true, true, true, true, true, true, true, true, true, false, false, false, false, false, false, false] rfl (by kernel_rfl) rfl (fun _ h => h) rfl rfl rfl rfl rfl rfl rfl (PureOp.move rfl) ?_
            refine SD.takeon 12 [true, true, true, true, true, true, true, true, true, true, true, true, true, false, false, false, false, false, false] rfl (by kernel_rfl) rfl (fun _ h => h) rfl rfl rfl rfl rfl rfl rfl (PureOp.move rfl) ?_
            refine SD.takeon 13 [true, true, true, true, true, true, true, true, true, true, true, true, true, true, false, false, false, false, false] rfl (by kernel_rfl) rfl (fun _ h => h) rfl rfl rfl rfl rfl rfl rfl (PureOp.indexAddrN Try.underlying22 sz3 rfl rfl (AoOk.in_ sT) (fun _ => by omega)) ?_
            refine SD.takeon 14 [true, true, true, true, true, true, true, true, true, true, true, true, true, true, true, false, false, false, false] rfl (by kernel_rfl) rfl (fun _ h => h) rfl rfl rfl rfl rfl rfl rfl (PureOp.load (v := .int .i64 (nth T j)) Try.underlying3 rfl rfl (fun _ => (CellIs.in_ sT j 0 (by omega) (by omega)))) ?_
            refine SD.takeon 16 [true, true, true, true, true, true, true, true, true, true, true, true, true, true, true, false, true, false, false] rfl (by kernel_rfl) rfl (fun _ h => h) rfl rfl rfl rfl rfl rfl rfl (PureOp.move rfl) ?_
            refine SD.one 15 [true, true, true, true, true, true, true, true, true, true, true, true, true, true, true, true, true, false, false] (by kernel_rfl) rfl rfl ?_
            refine SL.ung rfl rfl rfl rfl ?_
            refine SL.calle rfl rfl rfl rfl rfl rfl callable9 (fun w hw => pzone_ok b T R (List.replicate n false) false ([] : List Bag) ta2 ra2 (some ⟨ab, 0, none⟩) none n tc2 rc2 n 0 hM hn hR h9 List.length_replicate (known0 _) (Nat.zero_le _) (nth T j) w (ObjIn.of hw 0 rfl) (SliceIn.rows (l := T) (hw.mem (i := 1) rfl) encI_len (by omega)) (SliceIn.rows (l := R) (hw.mem (i := 2) rfl) encI_len (by omega)) (SliceIn.rows (l := (List.replicate n false)) (hw.mem (i := 3) rfl) encBo_len (Nat.le_of_eq (Eq.symm List.length_replicate))) (SliceIn.rows (l := ([] : List Bag)) (hw.mem (i := 4) rfl) encBag_len (Nat.le_refl _))) ?_
            refine SL.norm [_, _, _, _, _] rfl ?_
            refine SD.back (fun _ h => h) ?_
            refine SD.takeon 17 [true, true, true, true, true, true, true, true, true, true, true, true, true, true, true, true, true, true, false] rfl (by kernel_rfl) rfl (fun _ h => h) rfl rfl rfl rfl rfl rfl rfl (PureOp.gtr rfl rfl) ?_
            refine SD.take 18 [true, true, true, true, true, true, true, true, true, true, true, true, true, true, true, true, true, true, true] rfl (by kernel_rfl) rfl (fun _ h => h) rfl rfl rfl (PureOp.pickT rfl rfl) ?_
            refine SD.done (by kernel_rfl) ?_
            refine QX.ofK ?_
            refine QX.then_ ?_
            refine WC.cond rfl (fun h5 => ?_) (fun h5 => ?_)
            · try simp only [Bool.and_eq_true, Bool.or_eq_true, Bool.not_eq_true', Bool.not_eq_false', Bool.and_eq_false_iff, Bool.or_eq_false_iff, decide_eq_true_eq, decide_eq_false_iff_not, Int.not_lt, Int.not_le, ne_eq, Decidable.not_not] at h5
              exact (by exfalso; have := zone_mono hM (i := i) (k := j) (by omega) (by omega) (by omega); omega)
            · try simp only [Bool.and_eq_true, Bool.or_eq_true, Bool.not_eq_true', Bool.not_eq_false', Bool.and_eq_false_iff, Bool.or_eq_false_iff, decide_eq_true_eq, decide_eq_false_iff_not, Int.not_lt, Int.not_le, ne_eq, Decidable.not_not] at h5
              refine WC.skip ?_
              refine QX.normal_in ?_
              refine QX.then_ ?_
              refine WC.region ?_
              refine SL.pure rfl rfl rfl (PureOp.move rfl) ?_
              refine SL.pure rfl rfl rfl (PureOp.addN (k := 1) rfl rfl (fun _ => by omega)) ?_
              refine SL.pure rfl rfl rfl (PureOp.assign rfl) ?_
              refine SL.nil ?_
              refine QX.round (σ := Nat × Bool) (Ef := fun q_ => [(0, 0, .slice ta n tc), (1, 0, .slice ra m rc), (5, 0, .pointer (some ⟨b, 0, none⟩)), (6, 0, .int .i64 0), (7, 0, .int .i64 ((i : Nat) : Int)), (8, 0, .int .i64 (zoneV T R (nth T i))), (11, 0, .tuple #[.pointer (some ⟨b, 0, none⟩), .int .i64 0]), (12, 0, .slice ta n tc), (13, 0, .slice ra m rc), (14, 0, .tuple #[.pointer (some ⟨b, 0, none⟩), .int .i64 0]), (15, 0, .pointer (some ⟨b, 0, none⟩)), (16, 0, .int .i64 0), (17, 0, .int .i64 0), (18, 0, .bool false), (19, 0, .bool false), (20, 0, .slice ta n tc), (21, 0, .int .i64 ((n : Nat) : Int)), (22, 0, .bool (decide (100 < ((n : Nat) : Int)))), (23, 0, .bool (decide (100 < ((n : Nat) : Int)))), (25, 0, .int .i64 ((i : Nat) : Int)), (26, 0, .slice ta n tc), (27, 0, .int .i64 ((n : Nat) : Int)), (28, 0, .bool (decide (((i : Nat) : Int) < ((n : Nat) : Int)))), (31, 0, .pointer (some ⟨b, 0, none⟩)), (32, 0, .slice ta n tc), (33, 0, .int .i64 ((i : Nat) : Int)), (34, 0, .pointer (some ⟨blk ta, off ta + i * 1, none⟩)), (35, 0, .int .i64 (nth T i)), (36, 0, .int .i64 (zoneV T R (nth T i))), (37, 0, .int .i64 (zoneV T R (nth T i))), (38, 0, .bool (decide (zoneV T R (nth T i) < 1))), (39, 0, .bool (decide (zoneV T R (nth T i) < 1))), (42, 0, .bool ((decide (zoneV T R (nth T i) < 1)) || (decide (4 < zoneV T R (nth T i))))), (10, 0, .int .i64 ((q_.1 : Nat) : Int)), (9, 0, .bool q_.2)]) (Hf := fun q_ => [Item.cells b [.bool true, .bool false, .slice ta2 n tc2, .slice ra2 n rc2, .slice (some ⟨ab, 0, none⟩) n n, .slice none 0 0] 44, Item.own w0.heap.size ta2 n tc2 3 1 (cellsOf encI T), Item.own w0.heap.size ra2 n rc2 3 1 (cellsOf encI R), Item.own w0.heap.size (some ⟨ab, 0, none⟩) n n 4 1 (cellsOf encBo (List.replicate n false)), Item.own w0.heap.size none 0 0 47 3 ([])]) (I := fun q_ => q_.1 ≤ n ∧ (q_.2 = true → ∀ k, k < q_.1 → nth R k ≤ nth R i)) (μ := fun q_ => n - q_.1) (s := (j, lb)) 5 ((j + 1, lb && decide (nth R j ≤ nth R i))) ⟨⟨(by first | omega | (dsimp only; omega)), fun hb k hk => by
                    rw [Bool.and_eq_true, decide_eq_true_iff] at hb
                    by_cases e : k = j
                    · rw [e]; exact hb.2
                    · exact hl hb.1 k (by omega)⟩, by first | omega | (dsimp only; omega)⟩ ⟨rfl, rfl, rfl, rfl, rfl, rfl, rfl, rfl, rfl, rfl, rfl, rfl, rfl, rfl, rfl, rfl, rfl, rfl, rfl, rfl, rfl, rfl, rfl, rfl, rfl, rfl, rfl, rfl, rfl, rfl, rfl, rfl, rfl, rfl, rfl, rfl, rfl, rfl, rfl, rfl, rfl, rfl, rfl, rfl, rfl, rfl, rfl, rfl, rfl, rfl, rfl, rfl, rfl, rfl, rfl, rfl, rfl, rfl, rfl, rfl, rfl, rfl, rfl, rfl, rfl, rfl, rfl, rfl, rfl, rfl, trivial⟩ rfl
          · try simp only [Bool.and_eq_true, Bool.or_eq_true, Bool.not_eq_true', Bool.not_eq_false', Bool.and_eq_false_iff, Bool.or_eq_false_iff, decide_eq_true_eq, decide_eq_false_iff_not, Int.not_lt, Int.not_le, ne_eq, Decidable.not_not] at hs70
            refine SD.off 10 [true, true, true, true, true, true, true, true, true, true, true, false, false, false, false, false, false, false, false] rfl (by kernel_rfl) rfl (fun _ h => h) rfl rfl rfl rfl rfl rfl ?_
            refine SD.off 11 [true, true, true, true, true, true, true, true, true, true, true, true, false, false, false, false, false, false, false] rfl (by kernel_rfl) rfl (fun _ h => h) rfl rfl rfl rfl rfl rfl ?_
            refine SD.off 12 [true, true, true, true, true, true, true, true, true, true, true, true, true, false, false, false, false, false, false] rfl (by kernel_rfl) rfl (fun _ h => h) rfl rfl rfl rfl rfl rfl ?_
            refine SD.off 13 [true, true, true, true, true, true, true, true, true, true, true, true, true, true, false, false, false, false, false] rfl (by kernel_rfl) rfl (fun _ h => h) rfl rfl rfl rfl rfl rfl ?_
            refine SD.off 14 [true, true, true, true, true, true, true, true, true, true, true, true, true, true, true, false, false, false, false] rfl (by kernel_rfl) rfl (fun _ h => h) rfl rfl rfl rfl rfl rfl ?_
            refine SD.off 15 [true, true, true, true, true, true, true, true, true, true, true, true, true, true, true, true, false, false, false] rfl (by kernel_rfl) rfl (fun _ h => h) rfl rfl rfl rfl rfl rfl ?_
            refine SD.off 16 [true, true, true, true, true, true, true, true, true, true, true, true, true, true, true, true, true, false, false] rfl (by kernel_rfl) rfl (fun _ h => h) rfl rfl rfl rfl rfl rfl ?_
            refine SD.off 17 [true, true, true, true, true, true, true, true, true, true, true, true, true, true, true, true, true, true, false] rfl (by kernel_rfl) rfl (fun _ h => h) rfl rfl rfl rfl rfl rfl ?_
            refine SD.take 18 [true, true, true, true, true, true, true, true, true, true, true, true, true, true, true, true, true, true, true] rfl (by kernel_rfl) rfl (fun _ h => h) rfl rfl rfl (PureOp.pickF rfl rfl) ?_
            refine SD.done (by kernel_rfl) ?_
            refine QX.ofK ?_
            refine QX.then_ ?_
            refine WC.condF rfl ?_
            refine WC.skip ?_
            refine QX.normal_in ?_
            refine QX.then_ ?_
            refine WC.region ?_
            refine SL.pure rfl rfl rfl (PureOp.move rfl) ?_
            refine SL.pure rfl rfl rfl (PureOp.addN (k := 1) rfl rfl (fun _ => by omega)) ?_
            refine SL.pure rfl rfl rfl (PureOp.assign rfl) ?_
            refine SL.nil ?_
            refine QX.round (σ := Nat × Bool) (Ef := fun q_ => [(0, 0, .slice ta n tc), (1, 0, .slice ra m rc), (5, 0, .pointer (some ⟨b, 0, none⟩)), (6, 0, .int .i64 0), (7, 0, .int .i64 ((i : Nat) : Int)), (8, 0, .int .i64 (zoneV T R (nth T i))), (11, 0, .tuple #[.pointer (some ⟨b, 0, none⟩), .int .i64 0]), (12, 0, .slice ta n tc), (13, 0, .slice ra m rc), (14, 0, .tuple #[.pointer (some ⟨b, 0, none⟩), .int .i64 0]), (15, 0, .pointer (some ⟨b, 0, none⟩)), (16, 0, .int .i64 0), (17, 0, .int .i64 0), (18, 0, .bool false), (19, 0, .bool false), (20, 0, .slice ta n tc), (21, 0, .int .i64 ((n : Nat) : Int)), (22, 0, .bool (decide (100 < ((n : Nat) : Int)))), (23, 0, .bool (decide (100 < ((n : Nat) : Int)))), (25, 0, .int .i64 ((i : Nat) : Int)), (26, 0, .slice ta n tc), (27, 0, .int .i64 ((n : Nat) : Int)), (28, 0, .bool (decide (((i : Nat) : Int) < ((n : Nat) : Int)))), (31, 0, .pointer (some ⟨b, 0, none⟩)), (32, 0, .slice ta n tc), (33, 0, .int .i64 ((i : Nat) : Int)), (34, 0, .pointer (some ⟨blk ta, off ta + i * 1, none⟩)), (35, 0, .int .i64 (nth T i)), (36, 0, .int .i64 (zoneV T R (nth T i))), (37, 0, .int .i64 (zoneV T R (nth T i))), (38, 0, .bool (decide (zoneV T R (nth T i) < 1))), (39, 0, .bool (decide (zoneV T R (nth T i) < 1))), (42, 0, .bool ((decide (zoneV T R (nth T i) < 1)) || (decide (4 < zoneV T R (nth T i))))), (10, 0, .int .i64 ((q_.1 : Nat) : Int)), (9, 0, .bool q_.2)]) (Hf := fun q_ => [Item.cells b [.bool true, .bool false, .slice ta2 n tc2, .slice ra2 n rc2, .slice (some ⟨ab, 0, none⟩) n n, .slice none 0 0] 44, Item.own w0.heap.size ta2 n tc2 3 1 (cellsOf encI T), Item.own w0.heap.size ra2 n rc2 3 1 (cellsOf encI R), Item.own w0.heap.size (some ⟨ab, 0, none⟩) n n 4 1 (cellsOf encBo (List.replicate n false)), Item.own w0.heap.size none 0 0 47 3 ([])]) (I := fun q_ => q_.1 ≤ n ∧ (q_.2 = true → ∀ k, k < q_.1 → nth R k ≤ nth R i)) (μ := fun q_ => n - q_.1) (s := (j, lb)) 5 ((j + 1, lb && decide (nth R j ≤ nth R i))) ⟨⟨(by first | omega | (dsimp only; omega)), fun hb k hk => by
                  rw [Bool.and_eq_true, decide_eq_true_iff] at hb
                  by_cases e : k = j
                  · rw [e]; exact hb.2
                  · exact hl hb.1 k (by omega)⟩, by first | omega | (dsimp only; omega)⟩ ⟨rfl, rfl, rfl, rfl, rfl, rfl, rfl, rfl, rfl, rfl, rfl, rfl, rfl, rfl, rfl, rfl, rfl, rfl, rfl, rfl, rfl, rfl, rfl, rfl, rfl, rfl, rfl, rfl, rfl, rfl, rfl, rfl, rfl, rfl, rfl, rfl, rfl, rfl, rfl, rfl, rfl, rfl, rfl, rfl, rfl, rfl, rfl, rfl, rfl, rfl, rfl, rfl, rfl, rfl, rfl, rfl, rfl, rfl, rfl, rfl, rfl, rfl, rfl, rfl, rfl, rfl, rfl, rfl, rfl, rfl, trivial⟩ rfl
        · try simp only [Bool.and_eq_true, Bool.or_eq_true, Bool.not_eq_true', Bool.not_eq_false', Bool.and_eq_false_iff, Bool.or_eq_false_iff, decide_eq_true_eq, decide_eq_false_iff_not, Int.not_lt, Int.not_le, ne_eq, Decidable.not_not] at h4
          refine WC.exit ?_
          refine QX.exit_then ?_
          refine QX.exit_then ?_
          refine QX.exit_hit ?_
          refine QX.then_ ?_
          refine WC.seq ?_
          refine WC.region ?_
          refine SL.pure rfl rfl rfl (PureOp.move rfl) ?_
          refine SL.pure rfl rfl rfl (PureOp.move rfl) ?_
          refine SL.newg 81 true rfl ?_
          refine SL.gpure (c := 1) rfl rfl rfl rfl rfl rfl rfl (PureOp.move rfl) ?_
          refine SL.gpure (c := 1) rfl rfl rfl rfl rfl rfl rfl (PureOp.neq rfl rfl) ?_
          refine SL.pure rfl rfl rfl (PureOp.and_ rfl rfl rfl rfl) ?_
          refine SL.nil_then ?_
          refine WC.cond rfl (fun h6 => ?_) (fun h6 => ?_)
          · try simp only [Bool.and_eq_true, Bool.or_eq_true, Bool.not_eq_true', Bool.not_eq_false', Bool.and_eq_false_iff, Bool.or_eq_false_iff, decide_eq_true_eq, decide_eq_false_iff_not, Int.not_lt, Int.not_le, ne_eq, Decidable.not_not] at h6
            exact (by exfalso; have := zone_last hM (i := i) (by omega) (fun k hk => hl h6.1 k (by omega)); exact h6.2 this)
          · try simp only [Bool.and_eq_true, Bool.or_eq_true, Bool.not_eq_true', Bool.not_eq_false', Bool.and_eq_false_iff, Bool.or_eq_false_iff, decide_eq_true_eq, decide_eq_false_iff_not, Int.not_lt, Int.not_le, ne_eq, Decidable.not_not] at h6
            refine WC.skip ?_
            refine QX.normal_in ?_
            refine QX.then_ ?_
            refine WC.region ?_
            refine SL.pure rfl rfl rfl (PureOp.move rfl) ?_
            refine SL.pure rfl rfl rfl (PureOp.addN (k := 1) rfl rfl (fun _ => by omega)) ?_
            refine SL.pure rfl rfl rfl (PureOp.assign rfl) ?_
            refine SL.nil ?_
            refine QX.round 5 (i + 1) ⟨(by first | omega | (dsimp only; omega)), by first | omega | (dsimp only; omega)⟩ ⟨rfl, rfl, rfl, rfl, rfl, rfl, rfl, rfl, rfl, rfl, rfl, rfl, rfl, rfl, rfl, rfl, rfl, rfl, rfl, rfl, rfl, rfl, rfl, rfl, rfl, rfl, rfl, rfl, rfl, rfl, rfl, rfl, rfl, rfl, rfl, rfl, trivial⟩ rfl
    · try simp only [Bool.and_eq_true, Bool.or_eq_true, Bool.not_eq_true', Bool.not_eq_false', Bool.and_eq_false_iff, Bool.or_eq_false_iff, decide_eq_true_eq, decide_eq_false_iff_not, Int.not_lt, Int.not_le, ne_eq, Decidable.not_not] at h2
      refine WC.exit ?_
      refine QX.exit_then ?_
      refine QX.exit_then ?_
      refine QX.exit_hit ?_
      refine QX.then_ ?_
      refine WC.seq ?_
      refine WC.region ?_
      refine SL.calle rfl rfl rfl rfl rfl rfl callable8 (fun w hw => knows_ok w) ?_
      refine SL.norm [_, _, _, _, _] rfl ?_
      refine SL.pure rfl rfl rfl (PureOp.assign rfl) ?_
      refine SL.nil_then ?_
      refine WC.ret ?_
      refine QX.ret1 rfl rfl ?_
      intro w hw
      rfl

end Go.Proofs.Ythbgnjengkjigaa
