import Derived.Test.YthbgnjengkjigaaBdL
namespace Go.Proofs.Ythbgnjengkjigaa
open Go Go.RowKit Eng
set_option linter.unusedVariables false
set_option linter.unusedSimpArgs false

set_option maxHeartbeats 4000000 in
set_option maxRecDepth 100000 in
theorem runs_bad (T R : List Int) (ta ra : Option Addr) (n m tc rc : Nat) (hn : n = T.length) (hm : m = R.length) (l : List (Int × Int × Int)) (al : Option Addr) (nl cl_ : Nat) (hl : nl = l.length) (he : newE T R ≠ 0) (w0 : World) (sT : SliceIn w0 1 ta n tc (rowsF encI T)) (sR : SliceIn w0 1 ra m rc (rowsF encI R)) (sL : SliceIn w0 3 al nl cl_ (rowsF enc36 l)) : FnC Try.prog 4 [.slice ta n tc, .slice ra m rc, .slice al nl cl_] w0 fun v w' => v = .bool true := by
  refine fnc (N := 100) Try.func4 rfl rfl rfl ?_
  refine WC.seq ?_
  refine WC.region ?_
  refine SL.pure rfl rfl rfl (PureOp.assign rfl) ?_
  refine SL.nil_then ?_
  refine WC.seq ?_
  refine WC.seq ?_
  refine WC.region ?_
  refine SL.pure rfl rfl rfl (PureOp.move rfl) ?_
  refine SL.pure rfl rfl rfl (PureOp.len rfl Try.underlying22) ?_
  refine SL.pure rfl rfl rfl (PureOp.gtr rfl rfl) ?_
  refine SL.pure rfl rfl rfl (PureOp.move rfl) ?_
  refine SL.newg 15 true rfl ?_
  refine SL.gpure (c := 1) rfl rfl rfl rfl rfl rfl rfl (PureOp.move rfl) ?_
  refine SL.gpure (c := 1) rfl rfl rfl rfl rfl rfl rfl (PureOp.len rfl Try.underlying22) ?_
  refine SL.gpure (c := 1) rfl rfl rfl rfl rfl rfl rfl (PureOp.leq rfl rfl) ?_
  refine SL.pure rfl rfl rfl (PureOp.and_ rfl rfl rfl rfl) ?_
  refine SL.pure rfl rfl rfl (PureOp.move rfl) ?_
  refine SL.newg 20 false rfl ?_
  refine SL.gpure (c := 2) rfl rfl rfl rfl rfl rfl rfl (PureOp.move rfl) ?_
  refine SL.gpure (c := 2) rfl rfl rfl rfl rfl rfl rfl (PureOp.len rfl Try.underlying22) ?_
  refine SL.gpure (c := 2) rfl rfl rfl rfl rfl rfl rfl (PureOp.gtr rfl rfl) ?_
  refine SL.pure rfl rfl rfl (PureOp.or_ rfl rfl rfl rfl) ?_
  refine SL.nil_then ?_
  refine WC.cond rfl (fun h1 => ?_) (fun h1 => ?_)
  · try simp only [Bool.and_eq_true, Bool.or_eq_true, Bool.not_eq_true', Bool.not_eq_false', Bool.and_eq_false_iff, Bool.or_eq_false_iff, decide_eq_true_eq, decide_eq_false_iff_not, Int.not_lt, Int.not_le, ne_eq, Decidable.not_not] at h1
    refine WC.seq ?_
    refine WC.region ?_
    refine SL.calle rfl rfl rfl rfl rfl rfl callable8 (fun w hw => knows_ok w) ?_
    refine SL.norm [] rfl ?_
    refine SL.pure rfl rfl rfl (PureOp.assign rfl) ?_
    refine SL.nil_then ?_
    refine WC.ret ?_
    refine QX.ret_then ?_
    refine QX.ret1 rfl rfl ?_
    intro w hw
    rfl
  · try simp only [Bool.and_eq_true, Bool.or_eq_true, Bool.not_eq_true', Bool.not_eq_false', Bool.and_eq_false_iff, Bool.or_eq_false_iff, decide_eq_true_eq, decide_eq_false_iff_not, Int.not_lt, Int.not_le, ne_eq, Decidable.not_not] at h1
    refine WC.skip ?_
    refine QX.then_ ?_
    refine WC.seq ?_
    refine WC.region ?_
    refine SL.pure rfl rfl rfl (PureOp.move rfl) ?_
    refine SL.pure rfl rfl rfl (PureOp.move rfl) ?_
    refine SL.calle rfl rfl rfl rfl rfl rfl callable7 (fun w hw => pnewbad T R ta ra n m tc rc hn hm he w (sT.below hw.below) (sR.below hw.below)) ?_
    refine SL.norm [] rfl ?_
    refine SL.pure rfl rfl rfl (PureOp.move rfl) ?_
    refine SL.pure rfl rfl rfl (PureOp.extract rfl rfl) ?_
    refine SL.pure rfl rfl rfl (PureOp.extract rfl rfl) ?_
    refine SL.pure rfl rfl rfl (PureOp.assign rfl) ?_
    refine SL.pure rfl rfl rfl (PureOp.assign rfl) ?_
    refine SL.nil_then ?_
    refine WC.seq ?_
    refine WC.region ?_
    refine SL.pure rfl rfl rfl (PureOp.move rfl) ?_
    refine SL.pure rfl rfl rfl (PureOp.move rfl) ?_
    refine SL.calle rfl rfl rfl rfl rfl rfl callable10 (fun w hw => rnewbad T R ta ra n m tc rc hn hm he w (sT.below hw.below) (sR.below hw.below)) ?_
    refine SL.norm [] rfl ?_
    refine SL.pure rfl rfl rfl (PureOp.move rfl) ?_
    refine SL.pure rfl rfl rfl (PureOp.extract rfl rfl) ?_
    refine SL.pure rfl rfl rfl (PureOp.extract rfl rfl) ?_
    refine SL.pure rfl rfl rfl (PureOp.assign rfl) ?_
    refine SL.pure rfl rfl rfl (PureOp.assign rfl) ?_
    refine SL.nil_then ?_
    refine WC.seq ?_
    refine WC.seq ?_
    refine WC.region ?_
    refine SL.pure rfl rfl rfl (PureOp.move rfl) ?_
    refine SL.pure rfl rfl rfl (PureOp.move rfl) ?_
    refine SL.pure rfl rfl rfl (PureOp.neq rfl rfl) ?_
    refine SL.lit 40 false rfl (by simp) ?_
    refine SL.pure rfl rfl rfl (PureOp.move rfl) ?_
    refine SL.ung rfl rfl rfl rfl ?_
    refine SL.pure rfl rfl rfl (PureOp.move rfl) ?_
    refine SL.ung rfl rfl rfl rfl ?_
    refine SL.pure rfl rfl rfl (PureOp.eqlpnil0 rfl rfl Try.underlying23) ?_
    refine SL.ung rfl rfl rfl rfl ?_
    refine SL.pure rfl rfl rfl (PureOp.move rfl) ?_
    refine SL.ung rfl rfl rfl rfl ?_
    refine SL.pure rfl rfl rfl (PureOp.eqlpnil0 rfl rfl Try.underlying31) ?_
    refine SL.ung rfl rfl rfl rfl ?_
    refine SL.pure rfl rfl rfl (PureOp.neqb rfl rfl Try.underlying4) ?_
    refine SL.pure rfl rfl rfl (PureOp.pickF rfl rfl) ?_
    refine SL.nil_then ?_
    refine WC.condF rfl ?_
    refine WC.skip ?_
    refine QX.then_ ?_
    refine WC.seq ?_
    refine WC.seq ?_
    refine WC.region ?_
    refine SL.pure rfl rfl rfl (PureOp.assign rfl) ?_
    refine SL.nil_then ?_
    refine WC.block ?_
    refine WC.loop (σ := Nat) (fun q_ => [(0, 0, .slice ta n tc), (1, 0, .slice ra m rc), (2, 0, .slice al nl cl_), (7, 0, .pointer none), (8, 0, .int .i64 (newE T R)), (9, 0, .pointer none), (10, 0, .int .i64 (newE T R)), (12, 0, .slice ta n tc), (13, 0, .int .i64 ((n : Nat) : Int)), (14, 0, .bool (decide (100 < ((n : Nat) : Int)))), (15, 0, .bool (decide (100 < ((n : Nat) : Int)))), (19, 0, .bool ((decide (100 < ((n : Nat) : Int))) && (decide (((n : Nat) : Int) ≤ 999)))), (20, 0, .bool ((decide (100 < ((n : Nat) : Int))) && (decide (((n : Nat) : Int) ≤ 999)))), (24, 0, .bool (((decide (100 < ((n : Nat) : Int))) && (decide (((n : Nat) : Int) ≤ 999))) || (decide (1998 < ((m : Nat) : Int))))), (26, 0, .tuple #[.pointer none, .int .i64 (newE T R)]), (27, 0, .slice ta n tc), (28, 0, .slice ra m rc), (29, 0, .tuple #[.pointer none, .int .i64 (newE T R)]), (30, 0, .pointer none), (31, 0, .int .i64 (newE T R)), (32, 0, .tuple #[.pointer none, .int .i64 (newE T R)]), (33, 0, .slice ta n tc), (34, 0, .slice ra m rc), (35, 0, .tuple #[.pointer none, .int .i64 (newE T R)]), (36, 0, .pointer none), (37, 0, .int .i64 (newE T R)), (38, 0, .int .i64 (newE T R)), (39, 0, .int .i64 (newE T R)), (40, 0, .bool false), (41, 0, .bool false), (42, 0, .pointer none), (43, 0, .bool true), (44, 0, .pointer none), (45, 0, .bool true), (46, 0, .bool false), (47, 0, .bool false), (11, 0, .int .i64 ((q_ : Nat) : Int))]) (fun q_ => []) (fun q_ => q_ ≤ nl) (fun q_ => nl - q_) 0 (0) (Nat.zero_le _) ⟨rfl, rfl, rfl, rfl, rfl, rfl, rfl, rfl, rfl, rfl, rfl, rfl, rfl, rfl, rfl, rfl, rfl, rfl, rfl, rfl, rfl, rfl, rfl, rfl, rfl, rfl, rfl, rfl, rfl, rfl, rfl, rfl, rfl, rfl, rfl, rfl, rfl, rfl, rfl, rfl, rfl, rfl, rfl, rfl, rfl, rfl, rfl, rfl, rfl, rfl, rfl, rfl, rfl, rfl, rfl, rfl, rfl, rfl, rfl, rfl, rfl, rfl, rfl, rfl, rfl, rfl, rfl, rfl, rfl, rfl, rfl, rfl, rfl, rfl, trivial⟩ rfl ?_
    rintro i hi
    refine WC.seq ?_
    refine WC.seq ?_
    refine WC.region ?_
    refine SL.pure rfl rfl rfl (PureOp.move rfl) ?_
    refine SL.pure rfl rfl rfl (PureOp.move rfl) ?_
    refine SL.pure rfl rfl rfl (PureOp.len rfl Try.underlying30) ?_
    refine SL.pure rfl rfl rfl (PureOp.lss rfl rfl) ?_
    refine SL.pure rfl rfl rfl (PureOp.move rfl) ?_
    refine SL.newg 52 true rfl ?_
    refine SL.gpure (c := 1) rfl rfl rfl rfl rfl rfl rfl (PureOp.move rfl) ?_
    refine SL.gpure (c := 1) rfl rfl rfl rfl rfl rfl rfl (PureOp.lss rfl rfl) ?_
    refine SL.pure rfl rfl rfl (PureOp.and_ rfl rfl rfl rfl) ?_
    refine SL.nil_then ?_
    refine WC.cond rfl (fun h2 => ?_) (fun h2 => ?_)
    · try simp only [Bool.and_eq_true, Bool.or_eq_true, Bool.not_eq_true', Bool.not_eq_false', Bool.and_eq_false_iff, Bool.or_eq_false_iff, decide_eq_true_eq, decide_eq_false_iff_not, Int.not_lt, Int.not_le, ne_eq, Decidable.not_not] at h2
      refine WC.skip ?_
      refine QX.then_ ?_
      refine WC.seq ?_
      refine WC.block ?_
      refine WC.seq ?_
      refine WC.drawH 41 [false, false, false, false, false, false, false, false, false, false, false, false, false, false, false, false, false, false, false, false, false, false, false, false, false, false, false, false, false, false, false, false, false, false, false, false, false, false, false, false, false] rfl rfl rfl ?_
      refine SD.take 0 [true, false, false, false, false, false, false, false, false, false, false, false, false, false, false, false, false, false, false, false, false, false, false, false, false, false, false, false, false, false, false, false, false, false, false, false, false, false, false, false, false] rfl (by kernel_rfl) rfl (fun _ h => h) rfl rfl rfl (PureOp.move rfl) ?_
      refine SD.take 1 [true, true, false, false, false, false, false, false, false, false, false, false, false, false, false, false, false, false, false, false, false, false, false, false, false, false, false, false, false, false, false, false, false, false, false, false, false, false, false, false, false] rfl (by kernel_rfl) rfl (fun _ h => h) rfl rfl rfl (PureOp.move rfl) ?_
      refine SD.take 2 [true, true, true, false, false, false, false, false, false, false, false, false, false, false, false, false, false, false, false, false, false, false, false, false, false, false, false, false, false, false, false, false, false, false, false, false, false, false, false, false, false] rfl (by kernel_rfl) rfl (fun _ h => h) rfl rfl rfl (PureOp.move rfl) ?_
      refine SD.take 3 [true, true, true, true, false, false, false, false, false, false, false, false, false, false, false, false, false, false, false, false, false, false, false, false, false, false, false, false, false, false, false, false, false, false, false, false, false, false, false, false, false] rfl (by kernel_rfl) rfl (fun _ h => h) rfl rfl rfl (PureOp.move rfl) ?_
      refine SD.take 4 [true, true, true, true, true, false, false, false, false, false, false, false, false, false, false, false, false, false, false, false, false, false, false, false, false, false, false, false, false, false, false, false, false, false, false, false, false, false, false, false, false] rfl (by kernel_rfl) rfl (fun _ h => h) rfl rfl rfl (PureOp.indexAddrN Try.underlying30 sz36 rfl rfl (AoOk.in_ sL) (fun _ => by omega)) ?_
      refine SD.take 5 [true, true, true, true, true, true, false, false, false, false, false, false, false, false, false, false, false, false, false, false, false, false, false, false, false, false, false, false, false, false, false, false, false, false, false, false, false, false, false, false, false] rfl (by kernel_rfl) rfl (fun _ h => h) rfl rfl rfl (PureOp.loads (vs := [.int .i64 ((nth l i).1), .int .i64 ((nth l i).2.1), .int .i64 ((nth l i).2.2)]) Try.underlying36 rfl rfl (fun _ => (RowIs.in_ sL i 0 3 (by omega) (by omega))) sz36) ?_
      refine SD.one 6 [true, true, true, true, true, true, true, false, false, false, false, false, false, false, false, false, false, false, false, false, false, false, false, false, false, false, false, false, false, false, false, false, false, false, false, false, false, false, false, false, false] (by kernel_rfl) rfl rfl ?_
      refine SL.calle rfl rfl rfl rfl rfl rfl callable11 (fun w hw => stepnil_ok (nth l i) w) ?_
      refine SL.norm [] rfl ?_
      refine SD.back (fun _ h => h) ?_
      refine SD.take 7 [true, true, true, true, true, true, true, true, false, false, false, false, false, false, false, false, false, false, false, false, false, false, false, false, false, false, false, false, false, false, false, false, false, false, false, false, false, false, false, false, false] rfl (by kernel_rfl) rfl (fun _ h => h) rfl rfl rfl (PureOp.not rfl) ?_
      refine SD.take 8 [true, true, true, true, true, true, true, true, true, false, false, false, false, false, false, false, false, false, false, false, false, false, false, false, false, false, false, false, false, false, false, false, false, false, false, false, false, false, false, false, false] rfl (by kernel_rfl) rfl (fun _ h => h) rfl rfl rfl (PureOp.move rfl) ?_
      refine SD.takeon 9 [true, true, true, true, true, true, true, true, true, true, false, false, false, false, false, false, false, false, false, false, false, false, false, false, false, false, false, false, false, false, false, false, false, false, false, false, false, false, false, false, false] rfl (by kernel_rfl) rfl (fun _ h => h) rfl rfl rfl rfl rfl rfl rfl (PureOp.move rfl) ?_
      refine SD.takeon 10 [true, true, true, true, true, true, true, true, true, true, true, false, false, false, false, false, false, false, false, false, false, false, false, false, false, false, false, false, false, false, false, false, false, false, false, false, false, false, false, false, false] rfl (by kernel_rfl) rfl (fun _ h => h) rfl rfl rfl rfl rfl rfl rfl (PureOp.move rfl) ?_
      refine SD.takeon 11 [true, true, true, true, true, true, true, true, true, true, true, true, false, false, false, false, false, false, false, false, false, false, false, false, false, false, false, false, false, false, false, false, false, false, false, false, false, false, false, false, false] rfl (by kernel_rfl) rfl (fun _ h => h) rfl rfl rfl rfl rfl rfl rfl (PureOp.move rfl) ?_
      refine SD.takeon 12 [true, true, true, true, true, true, true, true, true, true, true, true, true, false, false, false, false, false, false, false, false, false, false, false, false, false, false, false, false, false, false, false, false, false, false, false, false, false, false, false, false] rfl (by kernel_rfl) rfl (fun _ h => h) rfl rfl rfl rfl rfl rfl rfl (PureOp.indexAddrN Try.underlying30 sz36 rfl rfl (AoOk.in_ sL) (fun _ => by omega)) ?_
      refine SD.takeon 13 [true, true, true, true, true, true, true, true, true, true, true, true, true, true, false, false, false, false, false, false, false, false, false, false, false, false, false, false, false, false, false, false, false, false, false, false, false, false, false, false, false] rfl (by kernel_rfl) rfl (fun _ h => h) rfl rfl rfl rfl rfl rfl rfl (PureOp.fieldAddr 2 Try.underlying36 rfl rfl sz3 rfl) ?_
      refine SD.takeon 14 [true, true, true, true, true, true, true, true, true, true, true, true, true, true, true, false, false, false, false, false, false, false, false, false, false, false, false, false, false, false, false, false, false, false, false, false, false, false, false, false, false] rfl (by kernel_rfl) rfl (fun _ h => h) rfl rfl rfl rfl rfl rfl rfl (PureOp.load (v := .int .i64 ((nth l i).2.2)) Try.underlying3 rfl rfl (fun _ => (CellIs.in_ sL i 2 (by omega) (by omega)))) ?_
      refine SD.takeon 16 [true, true, true, true, true, true, true, true, true, true, true, true, true, true, true, false, true, false, false, false, false, false, false, false, false, false, false, false, false, false, false, false, false, false, false, false, false, false, false, false, false] rfl (by kernel_rfl) rfl (fun _ h => h) rfl rfl rfl rfl rfl rfl rfl (PureOp.move rfl) ?_
      refine SD.takeon 17 [true, true, true, true, true, true, true, true, true, true, true, true, true, true, true, false, true, true, false, false, false, false, false, false, false, false, false, false, false, false, false, false, false, false, false, false, false, false, false, false, false] rfl (by kernel_rfl) rfl (fun _ h => h) rfl rfl rfl rfl rfl rfl rfl (PureOp.move rfl) ?_
      refine SD.takeon 18 [true, true, true, true, true, true, true, true, true, true, true, true, true, true, true, false, true, true, true, false, false, false, false, false, false, false, false, false, false, false, false, false, false, false, false, false, false, false, false, false, false] rfl (by kernel_rfl) rfl (fun _ h => h) rfl rfl rfl rfl rfl rfl rfl (PureOp.move rfl) ?_
      refine SD.takeon 19 [true, true, true, true, true, true, true, true, true, true, true, true, true, true, true, false, true, true, true, true, false, false, false, false, false, false, false, false, false, false, false, false, false, false, false, false, false, false, false, false, false] rfl (by kernel_rfl) rfl (fun _ h => h) rfl rfl rfl rfl rfl rfl rfl (PureOp.indexAddrN Try.underlying30 sz36 rfl rfl (AoOk.in_ sL) (fun _ => by omega)) ?_
      refine SD.takeon 20 [true, true, true, true, true, true, true, true, true, true, true, true, true, true, true, false, true, true, true, true, true, false, false, false, false, false, false, false, false, false, false, false, false, false, false, false, false, false, false, false, false] rfl (by kernel_rfl) rfl (fun _ h => h) rfl rfl rfl rfl rfl rfl rfl (PureOp.fieldAddr 2 Try.underlying36 rfl rfl sz3 rfl) ?_
      refine SD.takeon 21 [true, true, true, true, true, true, true, true, true, true, true, true, true, true, true, false, true, true, true, true, true, true, false, false, false, false, false, false, false, false, false, false, false, false, false, false, false, false, false, false, false] rfl (by kernel_rfl) rfl (fun _ h => h) rfl rfl rfl rfl rfl rfl rfl (PureOp.load (v := .int .i64 ((nth l i).2.2)) Try.underlying3 rfl rfl (fun _ => (CellIs.in_ sL i 2 (by omega) (by omega)))) ?_
      refine SD.one 15 [true, true, true, true, true, true, true, true, true, true, true, true, true, true, true, true, true, true, true, true, true, true, false, false, false, false, false, false, false, false, false, false, false, false, false, false, false, false, false, false, false] (by kernel_rfl) rfl rfl ?_
      refine SL.ung rfl rfl rfl rfl ?_
      refine SL.calle rfl rfl rfl rfl rfl rfl callable9 (fun w hw => dzone_nil ((nth l i).2.2) w) ?_
      refine SL.norm [] rfl ?_
      refine SD.back (fun _ h => h) ?_
      refine SD.one 22 [true, true, true, true, true, true, true, true, true, true, true, true, true, true, true, true, true, true, true, true, true, true, true, false, false, false, false, false, false, false, false, false, false, false, false, false, false, false, false, false, false] (by kernel_rfl) rfl rfl ?_
      refine SL.ung rfl rfl rfl rfl ?_
      refine SL.calle rfl rfl rfl rfl rfl rfl callable12 (fun w hw => erzone_nil ((nth l i).2.2) w) ?_
      refine SL.norm [] rfl ?_
      refine SD.back (fun _ h => h) ?_
      refine SD.takeon 23 [true, true, true, true, true, true, true, true, true, true, true, true, true, true, true, true, true, true, true, true, true, true, true, true, false, false, false, false, false, false, false, false, false, false, false, false, false, false, false, false, false] rfl (by kernel_rfl) rfl (fun _ h => h) rfl rfl rfl rfl rfl rfl rfl (PureOp.neq rfl rfl) ?_
      refine SD.lit 81 false rfl (by decide) ?_
      refine SD.take 24 [true, true, true, true, true, true, true, true, true, true, true, true, true, true, true, true, true, true, true, true, true, true, true, true, true, false, false, false, false, false, false, false, false, false, false, false, false, false, false, false, false] rfl (by kernel_rfl) rfl (fun _ h => h) rfl rfl rfl (PureOp.pickF rfl rfl) ?_
      refine SD.take 25 [true, true, true, true, true, true, true, true, true, true, true, true, true, true, true, true, true, true, true, true, true, true, true, true, true, true, false, false, false, false, false, false, false, false, false, false, false, false, false, false, false] rfl (by kernel_rfl) rfl (fun _ h => h) rfl rfl rfl (PureOp.move rfl) ?_
      refine SD.takeon 26 [true, true, true, true, true, true, true, true, true, true, true, true, true, true, true, true, true, true, true, true, true, true, true, true, true, true, true, false, false, false, false, false, false, false, false, false, false, false, false, false, false] rfl (by kernel_rfl) rfl (fun _ h => h) rfl rfl rfl rfl rfl rfl rfl (PureOp.move rfl) ?_
      refine SD.takeon 28 [true, true, true, true, true, true, true, true, true, true, true, true, true, true, true, true, true, true, true, true, true, true, true, true, true, true, true, false, true, false, false, false, false, false, false, false, false, false, false, false, false] rfl (by kernel_rfl) rfl (fun _ h => h) rfl rfl rfl rfl rfl rfl rfl (PureOp.move rfl) ?_
      refine SD.one 27 [true, true, true, true, true, true, true, true, true, true, true, true, true, true, true, true, true, true, true, true, true, true, true, true, true, true, true, true, true, false, false, false, false, false, false, false, false, false, false, false, false] (by kernel_rfl) rfl rfl ?_
      refine SL.ung rfl rfl rfl rfl ?_
      refine SL.calle rfl rfl rfl rfl rfl rfl callable14 (fun w hw => dmiss_nil w) ?_
      refine SL.norm [] rfl ?_
      refine SD.back (fun _ h => h) ?_
      refine SD.one 29 [true, true, true, true, true, true, true, true, true, true, true, true, true, true, true, true, true, true, true, true, true, true, true, true, true, true, true, true, true, true, false, false, false, false, false, false, false, false, false, false, false] (by kernel_rfl) rfl rfl ?_
      refine SL.ung rfl rfl rfl rfl ?_
      refine SL.calle rfl rfl rfl rfl rfl rfl callable15 (fun w hw => ermiss_nil w) ?_
      refine SL.norm [] rfl ?_
      refine SD.back (fun _ h => h) ?_
      refine SD.one 30 [true, true, true, true, true, true, true, true, true, true, true, true, true, true, true, true, true, true, true, true, true, true, true, true, true, true, true, true, true, true, true, false, false, false, false, false, false, false, false, false, false] (by kernel_rfl) rfl rfl ?_
      refine SL.ung rfl rfl rfl rfl ?_
      refine SL.calle rfl rfl rfl rfl rfl rfl callable13 (fun w hw => sameb_ok [] none none 0 0 0 0 rfl rfl w (nil_in w) (nil_in w) (by decide)) ?_
      refine SL.norm [] rfl ?_
      refine SD.back (fun _ h => h) ?_
      refine SD.takeon 31 [true, true, true, true, true, true, true, true, true, true, true, true, true, true, true, true, true, true, true, true, true, true, true, true, true, true, true, true, true, true, true, true, false, false, false, false, false, false, false, false, false] rfl (by kernel_rfl) rfl (fun _ h => h) rfl rfl rfl rfl rfl rfl rfl (PureOp.not rfl) ?_
      refine SD.take 32 [true, true, true, true, true, true, true, true, true, true, true, true, true, true, true, true, true, true, true, true, true, true, true, true, true, true, true, true, true, true, true, true, true, false, false, false, false, false, false, false, false] rfl (by kernel_rfl) rfl (fun _ h => h) rfl rfl rfl (PureOp.pickF rfl rfl) ?_
      refine SD.take 33 [true, true, true, true, true, true, true, true, true, true, true, true, true, true, true, true, true, true, true, true, true, true, true, true, true, true, true, true, true, true, true, true, true, true, false, false, false, false, false, false, false] rfl (by kernel_rfl) rfl (fun _ h => h) rfl rfl rfl (PureOp.move rfl) ?_
      refine SD.takeon 34 [true, true, true, true, true, true, true, true, true, true, true, true, true, true, true, true, true, true, true, true, true, true, true, true, true, true, true, true, true, true, true, true, true, true, true, false, false, false, false, false, false] rfl (by kernel_rfl) rfl (fun _ h => h) rfl rfl rfl rfl rfl rfl rfl (PureOp.move rfl) ?_
      refine SD.takeon 36 [true, true, true, true, true, true, true, true, true, true, true, true, true, true, true, true, true, true, true, true, true, true, true, true, true, true, true, true, true, true, true, true, true, true, true, false, true, false, false, false, false] rfl (by kernel_rfl) rfl (fun _ h => h) rfl rfl rfl rfl rfl rfl rfl (PureOp.move rfl) ?_
      refine SD.one 35 [true, true, true, true, true, true, true, true, true, true, true, true, true, true, true, true, true, true, true, true, true, true, true, true, true, true, true, true, true, true, true, true, true, true, true, true, true, false, false, false, false] (by kernel_rfl) rfl rfl ?_
      refine SL.ung rfl rfl rfl rfl ?_
      refine SL.calle rfl rfl rfl rfl rfl rfl callable17 (fun w hw => dwait_nil w) ?_
      refine SL.norm [] rfl ?_
      refine SD.back (fun _ h => h) ?_
      refine SD.one 37 [true, true, true, true, true, true, true, true, true, true, true, true, true, true, true, true, true, true, true, true, true, true, true, true, true, true, true, true, true, true, true, true, true, true, true, true, true, true, false, false, false] (by kernel_rfl) rfl rfl ?_
      refine SL.ung rfl rfl rfl rfl ?_
      refine SL.calle rfl rfl rfl rfl rfl rfl callable18 (fun w hw => erwait_nil w) ?_
      refine SL.norm [] rfl ?_
      refine SD.back (fun _ h => h) ?_
      refine SD.one 38 [true, true, true, true, true, true, true, true, true, true, true, true, true, true, true, true, true, true, true, true, true, true, true, true, true, true, true, true, true, true, true, true, true, true, true, true, true, true, true, false, false] (by kernel_rfl) rfl rfl ?_
      refine SL.ung rfl rfl rfl rfl ?_
      refine SL.calle rfl rfl rfl rfl rfl rfl callable16 (fun w hw => samei_ok [] none none 0 0 0 0 rfl rfl w (nil_in w) (nil_in w) (by decide)) ?_
      refine SL.norm [] rfl ?_
      refine SD.back (fun _ h => h) ?_
      refine SD.takeon 39 [true, true, true, true, true, true, true, true, true, true, true, true, true, true, true, true, true, true, true, true, true, true, true, true, true, true, true, true, true, true, true, true, true, true, true, true, true, true, true, true, false] rfl (by kernel_rfl) rfl (fun _ h => h) rfl rfl rfl rfl rfl rfl rfl (PureOp.not rfl) ?_
      refine SD.take 40 [true, true, true, true, true, true, true, true, true, true, true, true, true, true, true, true, true, true, true, true, true, true, true, true, true, true, true, true, true, true, true, true, true, true, true, true, true, true, true, true, true] rfl (by kernel_rfl) rfl (fun _ h => h) rfl rfl rfl (PureOp.pickF rfl rfl) ?_
      refine SD.done (by kernel_rfl) ?_
      refine QX.ofK ?_
      refine QX.then_ ?_
      refine WC.condF rfl ?_
      refine WC.skip ?_
      refine QX.normal_in ?_
      refine QX.then_ ?_
      refine WC.region ?_
      refine SL.pure rfl rfl rfl (PureOp.move rfl) ?_
      refine SL.pure rfl rfl rfl (PureOp.addN (k := 1) rfl rfl (fun _ => by omega)) ?_
      refine SL.pure rfl rfl rfl (PureOp.assign rfl) ?_
      refine SL.nil ?_
      refine QX.round 0 (i + 1) ⟨(by first | omega | (dsimp only; omega)), by first | omega | (dsimp only; omega)⟩ ⟨rfl, rfl, rfl, rfl, rfl, rfl, rfl, rfl, rfl, rfl, rfl, rfl, rfl, rfl, rfl, rfl, rfl, rfl, rfl, rfl, rfl, rfl, rfl, rfl, rfl, rfl, rfl, rfl, rfl, rfl, rfl, rfl, rfl, rfl, rfl, rfl, rfl, rfl, rfl, rfl, rfl, rfl, rfl, rfl, rfl, rfl, rfl, rfl, rfl, rfl, rfl, rfl, rfl, rfl, rfl, rfl, rfl, rfl, rfl, rfl, rfl, rfl, rfl, rfl, rfl, rfl, rfl, rfl, rfl, rfl, rfl, rfl, rfl, rfl, trivial⟩ rfl
    · try simp only [Bool.and_eq_true, Bool.or_eq_true, Bool.not_eq_true', Bool.not_eq_false', Bool.and_eq_false_iff, Bool.or_eq_false_iff, decide_eq_true_eq, decide_eq_false_iff_not, Int.not_lt, Int.not_le, ne_eq, Decidable.not_not] at h2
      refine WC.exit ?_
      refine QX.exit_then ?_
      refine QX.exit_then ?_
      refine QX.exit_hit ?_
      refine QX.then_ ?_
      refine WC.seq ?_
      refine WC.region ?_
      refine SL.calle rfl rfl rfl rfl rfl rfl callable8 (fun w hw => knows_ok w) ?_
      refine SL.norm [] rfl ?_
      refine SL.pure rfl rfl rfl (PureOp.assign rfl) ?_
      refine SL.nil_then ?_
      refine WC.ret ?_
      refine QX.ret1 rfl rfl ?_
      intro w hw
      rfl

set_option maxHeartbeats 4000000 in
set_option maxRecDepth 100000 in
theorem runs_ok (T R : List Int) (ta ra : Option Addr) (n m tc rc : Nat) (hn : n = T.length) (hm : m = R.length) (l : List (Int × Int × Int)) (al : Option Addr) (nl cl_ : Nat) (hl : nl = l.length) (he : newE T R = 0) (w0 : World) (sT : SliceIn w0 1 ta n tc (rowsF encI T)) (sR : SliceIn w0 1 ra m rc (rowsF encI R)) (sL : SliceIn w0 3 al nl cl_ (rowsF enc36 l)) : FnC Try.prog 4 [.slice ta n tc, .slice ra m rc, .slice al nl cl_] w0 fun v w' => v = .bool true := by
  have hM := made_of he
  have h9 : n ≤ 999 := by have := hM.size; omega
  have hR : R.length = n := by rw [hM.len, hn]
  have hmn : m = n := by omega
  refine fnc (N := 100) Try.func4 rfl rfl rfl ?_
  refine WC.seq ?_
  refine WC.region ?_
  refine SL.pure rfl rfl rfl (PureOp.assign rfl) ?_
  refine SL.nil_then ?_
  refine WC.seq ?_
  refine WC.seq ?_
  refine WC.region ?_
  refine SL.pure rfl rfl rfl (PureOp.move rfl) ?_
  refine SL.pure rfl rfl rfl (PureOp.len rfl Try.underlying22) ?_
  refine SL.pure rfl rfl rfl (PureOp.gtr rfl rfl) ?_
  refine SL.pure rfl rfl rfl (PureOp.move rfl) ?_
  refine SL.newg 15 true rfl ?_
  refine SL.gpure (c := 1) rfl rfl rfl rfl rfl rfl rfl (PureOp.move rfl) ?_
  refine SL.gpure (c := 1) rfl rfl rfl rfl rfl rfl rfl (PureOp.len rfl Try.underlying22) ?_
  refine SL.gpure (c := 1) rfl rfl rfl rfl rfl rfl rfl (PureOp.leq rfl rfl) ?_
  refine SL.pure rfl rfl rfl (PureOp.and_ rfl rfl rfl rfl) ?_
  refine SL.pure rfl rfl rfl (PureOp.move rfl) ?_
  refine SL.newg 20 false rfl ?_
  refine SL.gpure (c := 2) rfl rfl rfl rfl rfl rfl rfl (PureOp.move rfl) ?_
  refine SL.gpure (c := 2) rfl rfl rfl rfl rfl rfl rfl (PureOp.len rfl Try.underlying22) ?_
  refine SL.gpure (c := 2) rfl rfl rfl rfl rfl rfl rfl (PureOp.gtr rfl rfl) ?_
  refine SL.pure rfl rfl rfl (PureOp.or_ rfl rfl rfl rfl) ?_
  refine SL.nil_then ?_
  refine WC.cond rfl (fun h1 => ?_) (fun h1 => ?_)
  · try simp only [Bool.and_eq_true, Bool.or_eq_true, Bool.not_eq_true', Bool.not_eq_false', Bool.and_eq_false_iff, Bool.or_eq_false_iff, decide_eq_true_eq, decide_eq_false_iff_not, Int.not_lt, Int.not_le, ne_eq, Decidable.not_not] at h1
    refine WC.seq ?_
    refine WC.region ?_
    refine SL.calle rfl rfl rfl rfl rfl rfl callable8 (fun w hw => knows_ok w) ?_
    refine SL.norm [] rfl ?_
    refine SL.pure rfl rfl rfl (PureOp.assign rfl) ?_
    refine SL.nil_then ?_
    refine WC.ret ?_
    refine QX.ret_then ?_
    refine QX.ret1 rfl rfl ?_
    intro w hw
    rfl
  · try simp only [Bool.and_eq_true, Bool.or_eq_true, Bool.not_eq_true', Bool.not_eq_false', Bool.and_eq_false_iff, Bool.or_eq_false_iff, decide_eq_true_eq, decide_eq_false_iff_not, Int.not_lt, Int.not_le, ne_eq, Decidable.not_not] at h1
    refine WC.skip ?_
    refine QX.then_ ?_
    refine WC.seq ?_
    refine WC.region ?_
    refine SL.pure rfl rfl rfl (PureOp.move rfl) ?_
    refine SL.pure rfl rfl rfl (PureOp.move rfl) ?_
    refine SL.callM [] rfl rfl rfl rfl rfl rfl callable7 (by decide) (pnew T R ta ra n m tc rc hn hm he w0 sT sR) rfl (fun _ _ => rfl) ?_
    rintro ⟨b, ⟨ta2, tc2⟩, ⟨ra2, rc2⟩, ab⟩ hb0
    refine SL.addnil 47 3 ?_
    refine SL.norm [_, _, _, _, _] rfl ?_
    refine SL.pure rfl rfl rfl (PureOp.move rfl) ?_
    refine SL.pure rfl rfl rfl (PureOp.extract rfl rfl) ?_
    refine SL.pure rfl rfl rfl (PureOp.extract rfl rfl) ?_
    refine SL.pure rfl rfl rfl (PureOp.assign rfl) ?_
    refine SL.pure rfl rfl rfl (PureOp.assign rfl) ?_
    refine SL.nil_then ?_
    refine WC.seq ?_
    refine WC.region ?_
    refine SL.pure rfl rfl rfl (PureOp.move rfl) ?_
    refine SL.pure rfl rfl rfl (PureOp.move rfl) ?_
    refine SL.callM [] rfl rfl rfl rfl rfl rfl callable10 (by decide) (rnew T R ta ra n m tc rc hn hm he w0 sT sR) rfl (fun _ _ => rfl) ?_
    rintro ⟨d, ⟨xa, xc⟩, ⟨ya, yc⟩, zb⟩ hd0
    refine SL.addnil 47 3 ?_
    refine SL.norm [_, _, _, _, _, _, _, _, _, _] rfl ?_
    refine SL.pure rfl rfl rfl (PureOp.move rfl) ?_
    refine SL.pure rfl rfl rfl (PureOp.extract rfl rfl) ?_
    refine SL.pure rfl rfl rfl (PureOp.extract rfl rfl) ?_
    refine SL.pure rfl rfl rfl (PureOp.assign rfl) ?_
    refine SL.pure rfl rfl rfl (PureOp.assign rfl) ?_
    refine SL.nil_then ?_
    refine WC.seq ?_
    refine WC.seq ?_
    refine WC.region ?_
    refine SL.pure rfl rfl rfl (PureOp.move rfl) ?_
    refine SL.pure rfl rfl rfl (PureOp.move rfl) ?_
    refine SL.pure rfl rfl rfl (PureOp.neq rfl rfl) ?_
    refine SL.lit 40 false rfl (by decide) ?_
    refine SL.pure rfl rfl rfl (PureOp.move rfl) ?_
    refine SL.ung rfl rfl rfl rfl ?_
    refine SL.pure rfl rfl rfl (PureOp.move rfl) ?_
    refine SL.ung rfl rfl rfl rfl ?_
    refine SL.pure rfl rfl rfl (PureOp.eqlpnil1 rfl rfl Try.underlying23) ?_
    refine SL.ung rfl rfl rfl rfl ?_
    refine SL.pure rfl rfl rfl (PureOp.move rfl) ?_
    refine SL.ung rfl rfl rfl rfl ?_
    refine SL.pure rfl rfl rfl (PureOp.eqlpnil1 rfl rfl Try.underlying31) ?_
    refine SL.ung rfl rfl rfl rfl ?_
    refine SL.pure rfl rfl rfl (PureOp.neqb rfl rfl Try.underlying4) ?_
    refine SL.pure rfl rfl rfl (PureOp.pickF rfl rfl) ?_
    refine SL.nil_then ?_
    refine WC.condF rfl ?_
    refine WC.skip ?_
    refine QX.then_ ?_
    refine WC.seq ?_
    refine WC.seq ?_
    refine WC.region ?_
    refine SL.pure rfl rfl rfl (PureOp.assign rfl) ?_
    refine SL.nil_then ?_
    refine WC.block ?_
    refine WC.loop (σ := Nat × List Bool × Bool × List Bag × Option Addr × Nat × Option Addr × Nat) (fun q_ => [(0, 0, .slice ta n tc), (1, 0, .slice ra m rc), (2, 0, .slice al nl cl_), (7, 0, .pointer (some ⟨b, 0, none⟩)), (8, 0, .int .i64 0), (9, 0, .pointer (some ⟨d, 0, none⟩)), (10, 0, .int .i64 0), (12, 0, .slice ta n tc), (13, 0, .int .i64 ((n : Nat) : Int)), (14, 0, .bool (decide (100 < ((n : Nat) : Int)))), (15, 0, .bool (decide (100 < ((n : Nat) : Int)))), (19, 0, .bool ((decide (100 < ((n : Nat) : Int))) && (decide (((n : Nat) : Int) ≤ 999)))), (20, 0, .bool ((decide (100 < ((n : Nat) : Int))) && (decide (((n : Nat) : Int) ≤ 999)))), (24, 0, .bool (((decide (100 < ((n : Nat) : Int))) && (decide (((n : Nat) : Int) ≤ 999))) || (decide (1998 < ((m : Nat) : Int))))), (26, 0, .tuple #[.pointer (some ⟨b, 0, none⟩), .int .i64 0]), (27, 0, .slice ta n tc), (28, 0, .slice ra m rc), (29, 0, .tuple #[.pointer (some ⟨b, 0, none⟩), .int .i64 0]), (30, 0, .pointer (some ⟨b, 0, none⟩)), (31, 0, .int .i64 0), (32, 0, .tuple #[.pointer (some ⟨d, 0, none⟩), .int .i64 0]), (33, 0, .slice ta n tc), (34, 0, .slice ra m rc), (35, 0, .tuple #[.pointer (some ⟨d, 0, none⟩), .int .i64 0]), (36, 0, .pointer (some ⟨d, 0, none⟩)), (37, 0, .int .i64 0), (38, 0, .int .i64 0), (39, 0, .int .i64 0), (40, 0, .bool false), (41, 0, .bool false), (42, 0, .pointer (some ⟨b, 0, none⟩)), (43, 0, .bool false), (44, 0, .pointer (some ⟨d, 0, none⟩)), (45, 0, .bool false), (46, 0, .bool false), (47, 0, .bool false), (11, 0, .int .i64 ((q_.1 : Nat) : Int))]) (fun q_ => [Item.cells b [.bool true, .bool q_.2.2.1, .slice ta2 n tc2, .slice ra2 n rc2, .slice (some ⟨ab, 0, none⟩) n n, .slice q_.2.2.2.2.1 ((q_.2.2.2.1).length) q_.2.2.2.2.2.1] 44, Item.own w0.heap.size ta2 n tc2 3 1 (cellsOf encI T), Item.own w0.heap.size ra2 n rc2 3 1 (cellsOf encI R), Item.own w0.heap.size (some ⟨ab, 0, none⟩) n n 4 1 (cellsOf encBo (q_.2.1)), Item.own w0.heap.size q_.2.2.2.2.1 ((q_.2.2.2.1).length) q_.2.2.2.2.2.1 47 3 (cellsOf encBag (q_.2.2.2.1)), Item.cells d [.slice xa n xc, .slice ya n yc, .slice (some ⟨zb, 0, none⟩) n n, .slice q_.2.2.2.2.2.2.1 ((q_.2.2.2.1).length) q_.2.2.2.2.2.2.2, .bool true, .bool q_.2.2.1] 59, Item.own w0.heap.size xa n xc 3 1 (cellsOf encI T), Item.own w0.heap.size ya n yc 3 1 (cellsOf encI R), Item.own w0.heap.size (some ⟨zb, 0, none⟩) n n 4 1 (cellsOf encBo (q_.2.1)), Item.own w0.heap.size q_.2.2.2.2.2.2.1 ((q_.2.2.2.1).length) q_.2.2.2.2.2.2.2 47 3 (cellsOf encBag (q_.2.2.2.1))]) (fun q_ => q_.1 ≤ nl ∧ q_.1 ≤ 60 ∧ q_.2.1.length = n ∧ Known T q_.2.2.2.1 ∧ q_.2.2.2.1.length ≤ q_.1) (fun q_ => nl - q_.1) 10 ((0, List.replicate n false, false, [], none, 0, none, 0)) (⟨Nat.zero_le _, Nat.zero_le _, List.length_replicate, known0 _, Nat.le_refl _⟩) ⟨rfl, rfl, rfl, rfl, rfl, rfl, rfl, rfl, rfl, rfl, rfl, rfl, rfl, rfl, rfl, rfl, rfl, rfl, rfl, rfl, rfl, rfl, rfl, rfl, rfl, rfl, rfl, rfl, rfl, rfl, rfl, rfl, rfl, rfl, rfl, rfl, rfl, rfl, rfl, rfl, rfl, rfl, rfl, rfl, rfl, rfl, rfl, rfl, rfl, rfl, rfl, rfl, rfl, rfl, rfl, rfl, rfl, rfl, rfl, rfl, rfl, rfl, rfl, rfl, rfl, rfl, rfl, rfl, rfl, rfl, rfl, rfl, rfl, rfl, trivial⟩ rfl ?_
    rintro ⟨i, A, cl, G, ga, gc, ha, hc⟩ ⟨hi, hi6, hA, hK, hGi⟩
    try dsimp only at *
    refine WC.seq ?_
    refine WC.seq ?_
    refine WC.region ?_
    refine SL.pure rfl rfl rfl (PureOp.move rfl) ?_
    refine SL.pure rfl rfl rfl (PureOp.move rfl) ?_
    refine SL.pure rfl rfl rfl (PureOp.len rfl Try.underlying30) ?_
    refine SL.pure rfl rfl rfl (PureOp.lss rfl rfl) ?_
    refine SL.pure rfl rfl rfl (PureOp.move rfl) ?_
    refine SL.newg 52 true rfl ?_
    refine SL.gpure (c := 1) rfl rfl rfl rfl rfl rfl rfl (PureOp.move rfl) ?_
    refine SL.gpure (c := 1) rfl rfl rfl rfl rfl rfl rfl (PureOp.lss rfl rfl) ?_
    refine SL.pure rfl rfl rfl (PureOp.and_ rfl rfl rfl rfl) ?_
    refine SL.nil_then ?_
    refine WC.cond rfl (fun h2 => ?_) (fun h2 => ?_)
    · try simp only [Bool.and_eq_true, Bool.or_eq_true, Bool.not_eq_true', Bool.not_eq_false', Bool.and_eq_false_iff, Bool.or_eq_false_iff, decide_eq_true_eq, decide_eq_false_iff_not, Int.not_lt, Int.not_le, ne_eq, Decidable.not_not] at h2
      refine WC.skip ?_
      refine QX.then_ ?_
      refine WC.seq ?_
      refine WC.block ?_
      refine WC.seq ?_
      refine WC.drawh ([Item.triv, Item.triv, Item.triv, Item.triv, Item.triv, Item.triv, Item.triv, Item.triv, Item.triv, Item.triv]) 41 [false, false, false, false, false, false, false, false, false, false, false, false, false, false, false, false, false, false, false, false, false, false, false, false, false, false, false, false, false, false, false, false, false, false, false, false, false, false, false, false, false] rfl rfl rfl ?_
      refine SD.take 0 [true, false, false, false, false, false, false, false, false, false, false, false, false, false, false, false, false, false, false, false, false, false, false, false, false, false, false, false, false, false, false, false, false, false, false, false, false, false, false, false, false] rfl (by kernel_rfl) rfl (fun _ h => (HeapOk.settriv (HeapOk.settriv (HeapOk.settriv (HeapOk.settriv (HeapOk.settriv (HeapOk.settriv (HeapOk.settriv (HeapOk.settriv (HeapOk.settriv (HeapOk.settriv h (i := 0) rfl) (i := 1) rfl) (i := 2) rfl) (i := 3) rfl) (i := 4) rfl) (i := 5) rfl) (i := 6) rfl) (i := 7) rfl) (i := 8) rfl) (i := 9) rfl)) rfl rfl rfl (PureOp.move rfl) ?_
      refine SD.take 1 [true, true, false, false, false, false, false, false, false, false, false, false, false, false, false, false, false, false, false, false, false, false, false, false, false, false, false, false, false, false, false, false, false, false, false, false, false, false, false, false, false] rfl (by kernel_rfl) rfl (fun _ h => (HeapOk.settriv (HeapOk.settriv (HeapOk.settriv (HeapOk.settriv (HeapOk.settriv (HeapOk.settriv (HeapOk.settriv (HeapOk.settriv (HeapOk.settriv (HeapOk.settriv h (i := 0) rfl) (i := 1) rfl) (i := 2) rfl) (i := 3) rfl) (i := 4) rfl) (i := 5) rfl) (i := 6) rfl) (i := 7) rfl) (i := 8) rfl) (i := 9) rfl)) rfl rfl rfl (PureOp.move rfl) ?_
      refine SD.take 2 [true, true, true, false, false, false, false, false, false, false, false, false, false, false, false, false, false, false, false, false, false, false, false, false, false, false, false, false, false, false, false, false, false, false, false, false, false, false, false, false, false] rfl (by kernel_rfl) rfl (fun _ h => (HeapOk.settriv (HeapOk.settriv (HeapOk.settriv (HeapOk.settriv (HeapOk.settriv (HeapOk.settriv (HeapOk.settriv (HeapOk.settriv (HeapOk.settriv (HeapOk.settriv h (i := 0) rfl) (i := 1) rfl) (i := 2) rfl) (i := 3) rfl) (i := 4) rfl) (i := 5) rfl) (i := 6) rfl) (i := 7) rfl) (i := 8) rfl) (i := 9) rfl)) rfl rfl rfl (PureOp.move rfl) ?_
      refine SD.take 3 [true, true, true, true, false, false, false, false, false, false, false, false, false, false, false, false, false, false, false, false, false, false, false, false, false, false, false, false, false, false, false, false, false, false, false, false, false, false, false, false, false] rfl (by kernel_rfl) rfl (fun _ h => (HeapOk.settriv (HeapOk.settriv (HeapOk.settriv (HeapOk.settriv (HeapOk.settriv (HeapOk.settriv (HeapOk.settriv (HeapOk.settriv (HeapOk.settriv (HeapOk.settriv h (i := 0) rfl) (i := 1) rfl) (i := 2) rfl) (i := 3) rfl) (i := 4) rfl) (i := 5) rfl) (i := 6) rfl) (i := 7) rfl) (i := 8) rfl) (i := 9) rfl)) rfl rfl rfl (PureOp.move rfl) ?_
      refine SD.take 4 [true, true, true, true, true, false, false, false, false, false, false, false, false, false, false, false, false, false, false, false, false, false, false, false, false, false, false, false, false, false, false, false, false, false, false, false, false, false, false, false, false] rfl (by kernel_rfl) rfl (fun _ h => (HeapOk.settriv (HeapOk.settriv (HeapOk.settriv (HeapOk.settriv (HeapOk.settriv (HeapOk.settriv (HeapOk.settriv (HeapOk.settriv (HeapOk.settriv (HeapOk.settriv h (i := 0) rfl) (i := 1) rfl) (i := 2) rfl) (i := 3) rfl) (i := 4) rfl) (i := 5) rfl) (i := 6) rfl) (i := 7) rfl) (i := 8) rfl) (i := 9) rfl)) rfl rfl rfl (PureOp.indexAddrN Try.underlying30 sz36 rfl rfl (AoOk.in_ sL) (fun _ => by omega)) ?_
      refine SD.take 5 [true, true, true, true, true, true, false, false, false, false, false, false, false, false, false, false, false, false, false, false, false, false, false, false, false, false, false, false, false, false, false, false, false, false, false, false, false, false, false, false, false] rfl (by kernel_rfl) rfl (fun _ h => (HeapOk.settriv (HeapOk.settriv (HeapOk.settriv (HeapOk.settriv (HeapOk.settriv (HeapOk.settriv (HeapOk.settriv (HeapOk.settriv (HeapOk.settriv (HeapOk.settriv h (i := 0) rfl) (i := 1) rfl) (i := 2) rfl) (i := 3) rfl) (i := 4) rfl) (i := 5) rfl) (i := 6) rfl) (i := 7) rfl) (i := 8) rfl) (i := 9) rfl)) rfl rfl rfl (PureOp.loads (vs := [.int .i64 ((nth l i).1), .int .i64 ((nth l i).2.1), .int .i64 ((nth l i).2.2)]) Try.underlying36 rfl rfl (fun _ => (RowIs.in_ sL i 0 3 (by omega) (by omega))) sz36) ?_
      refine SD.one 6 [true, true, true, true, true, true, true, false, false, false, false, false, false, false, false, false, false, false, false, false, false, false, false, false, false, false, false, false, false, false, false, false, false, false, false, false, false, false, false, false, false] (by kernel_rfl) rfl rfl ?_
      refine SL.callM [0, 1, 2, 3, 4, 5, 6, 7, 8, 9] rfl rfl rfl rfl rfl rfl callable11 (by decide) (step_ok b d T R A cl G ta2 ra2 (some ⟨ab, 0, none⟩) ga xa ya (some ⟨zb, 0, none⟩) ha n tc2 rc2 n gc xc yc n hc hM hn hR h9 hA hK (by omega) (nth l i) w0) rfl (fun _ _ => rfl) ?_
      rintro ⟨A2, cl2, G3, ⟨ga2, gc2⟩, ⟨ha2, hc2⟩⟩ ⟨hA2, hK2, hG2⟩
      dsimp only at hA2 hK2 hG2 ⊢
      have hG3 : G3.length ≤ 500 := by omega
      refine SL.norm [_, _, _, _, _, _, _, _, _, _] rfl ?_
      refine SD.back (fun _ h => (HeapOk.settriv (HeapOk.settriv (HeapOk.settriv (HeapOk.settriv (HeapOk.settriv (HeapOk.settriv (HeapOk.settriv (HeapOk.settriv (HeapOk.settriv (HeapOk.settriv h (i := 0) rfl) (i := 1) rfl) (i := 2) rfl) (i := 3) rfl) (i := 4) rfl) (i := 5) rfl) (i := 6) rfl) (i := 7) rfl) (i := 8) rfl) (i := 9) rfl)) ?_
      refine SD.take 7 [true, true, true, true, true, true, true, true, false, false, false, false, false, false, false, false, false, false, false, false, false, false, false, false, false, false, false, false, false, false, false, false, false, false, false, false, false, false, false, false, false] rfl (by kernel_rfl) rfl (fun _ h => (HeapOk.settriv (HeapOk.settriv (HeapOk.settriv (HeapOk.settriv (HeapOk.settriv (HeapOk.settriv (HeapOk.settriv (HeapOk.settriv (HeapOk.settriv (HeapOk.settriv h (i := 0) rfl) (i := 1) rfl) (i := 2) rfl) (i := 3) rfl) (i := 4) rfl) (i := 5) rfl) (i := 6) rfl) (i := 7) rfl) (i := 8) rfl) (i := 9) rfl)) rfl rfl rfl (PureOp.not rfl) ?_
      refine SD.take 8 [true, true, true, true, true, true, true, true, true, false, false, false, false, false, false, false, false, false, false, false, false, false, false, false, false, false, false, false, false, false, false, false, false, false, false, false, false, false, false, false, false] rfl (by kernel_rfl) rfl (fun _ h => (HeapOk.settriv (HeapOk.settriv (HeapOk.settriv (HeapOk.settriv (HeapOk.settriv (HeapOk.settriv (HeapOk.settriv (HeapOk.settriv (HeapOk.settriv (HeapOk.settriv h (i := 0) rfl) (i := 1) rfl) (i := 2) rfl) (i := 3) rfl) (i := 4) rfl) (i := 5) rfl) (i := 6) rfl) (i := 7) rfl) (i := 8) rfl) (i := 9) rfl)) rfl rfl rfl (PureOp.move rfl) ?_
      refine SD.takeon 9 [true, true, true, true, true, true, true, true, true, true, false, false, false, false, false, false, false, false, false, false, false, false, false, false, false, false, false, false, false, false, false, false, false, false, false, false, false, false, false, false, false] rfl (by kernel_rfl) rfl (fun _ h => (HeapOk.settriv (HeapOk.settriv (HeapOk.settriv (HeapOk.settriv (HeapOk.settriv (HeapOk.settriv (HeapOk.settriv (HeapOk.settriv (HeapOk.settriv (HeapOk.settriv h (i := 0) rfl) (i := 1) rfl) (i := 2) rfl) (i := 3) rfl) (i := 4) rfl) (i := 5) rfl) (i := 6) rfl) (i := 7) rfl) (i := 8) rfl) (i := 9) rfl)) rfl rfl rfl rfl rfl rfl rfl (PureOp.move rfl) ?_
      refine SD.takeon 10 [true, true, true, true, true, true, true, true, true, true, true, false, false, false, false, false, false, false, false, false, false, false, false, false, false, false, false, false, false, false, false, false, false, false, false, false, false, false, false, false, false] rfl (by kernel_rfl) rfl (fun _ h => (HeapOk.settriv (HeapOk.settriv (HeapOk.settriv (HeapOk.settriv (HeapOk.settriv (HeapOk.settriv (HeapOk.settriv (HeapOk.settriv (HeapOk.settriv (HeapOk.settriv h (i := 0) rfl) (i := 1) rfl) (i := 2) rfl) (i := 3) rfl) (i := 4) rfl) (i := 5) rfl) (i := 6) rfl) (i := 7) rfl) (i := 8) rfl) (i := 9) rfl)) rfl rfl rfl rfl rfl rfl rfl (PureOp.move rfl) ?_
      refine SD.takeon 11 [true, true, true, true, true, true, true, true, true, true, true, true, false, false, false, false, false, false, false, false, false, false, false, false, false, false, false, false, false, false, false, false, false, false, false, false, false, false, false, false, false] rfl (by kernel_rfl) rfl (fun _ h => (HeapOk.settriv (HeapOk.settriv (HeapOk.settriv (HeapOk.settriv (HeapOk.settriv (HeapOk.settriv (HeapOk.settriv (HeapOk.settriv (HeapOk.settriv (HeapOk.settriv h (i := 0) rfl) (i := 1) rfl) (i := 2) rfl) (i := 3) rfl) (i := 4) rfl) (i := 5) rfl) (i := 6) rfl) (i := 7) rfl) (i := 8) rfl) (i := 9) rfl)) rfl rfl rfl rfl rfl rfl rfl (PureOp.move rfl) ?_
      refine SD.takeon 12 [true, true, true, true, true, true, true, true, true, true, true, true, true, false, false, false, false, false, false, false, false, false, false, false, false, false, false, false, false, false, false, false, false, false, false, false, false, false, false, false, false] rfl (by kernel_rfl) rfl (fun _ h => (HeapOk.settriv (HeapOk.settriv (HeapOk.settriv (HeapOk.settriv (HeapOk.settriv (HeapOk.settriv (HeapOk.settriv (HeapOk.settriv (HeapOk.settriv (HeapOk.settriv h (i := 0) rfl) (i := 1) rfl) (i := 2) rfl) (i := 3) rfl) (i := 4) rfl) (i := 5) rfl) (i := 6) rfl) (i := 7) rfl) (i := 8) rfl) (i := 9) rfl)) rfl rfl rfl rfl rfl rfl rfl (PureOp.indexAddrN Try.underlying30 sz36 rfl rfl (AoOk.in_ sL) (fun _ => by omega)) ?_
      refine SD.takeon 13 [true, true, true, true, true, true, true, true, true, true, true, true, true, true, false, false, false, false, false, false, false, false, false, false, false, false, false, false, false, false, false, false, false, false, false, false, false, false, false, false, false] rfl (by kernel_rfl) rfl (fun _ h => (HeapOk.settriv (HeapOk.settriv (HeapOk.settriv (HeapOk.settriv (HeapOk.settriv (HeapOk.settriv (HeapOk.settriv (HeapOk.settriv (HeapOk.settriv (HeapOk.settriv h (i := 0) rfl) (i := 1) rfl) (i := 2) rfl) (i := 3) rfl) (i := 4) rfl) (i := 5) rfl) (i := 6) rfl) (i := 7) rfl) (i := 8) rfl) (i := 9) rfl)) rfl rfl rfl rfl rfl rfl rfl (PureOp.fieldAddr 2 Try.underlying36 rfl rfl sz3 rfl) ?_
      refine SD.takeon 14 [true, true, true, true, true, true, true, true, true, true, true, true, true, true, true, false, false, false, false, false, false, false, false, false, false, false, false, false, false, false, false, false, false, false, false, false, false, false, false, false, false] rfl (by kernel_rfl) rfl (fun _ h => (HeapOk.settriv (HeapOk.settriv (HeapOk.settriv (HeapOk.settriv (HeapOk.settriv (HeapOk.settriv (HeapOk.settriv (HeapOk.settriv (HeapOk.settriv (HeapOk.settriv h (i := 0) rfl) (i := 1) rfl) (i := 2) rfl) (i := 3) rfl) (i := 4) rfl) (i := 5) rfl) (i := 6) rfl) (i := 7) rfl) (i := 8) rfl) (i := 9) rfl)) rfl rfl rfl rfl rfl rfl rfl (PureOp.load (v := .int .i64 ((nth l i).2.2)) Try.underlying3 rfl rfl (fun _ => (CellIs.in_ sL i 2 (by omega) (by omega)))) ?_
      refine SD.takeon 16 [true, true, true, true, true, true, true, true, true, true, true, true, true, true, true, false, true, false, false, false, false, false, false, false, false, false, false, false, false, false, false, false, false, false, false, false, false, false, false, false, false] rfl (by kernel_rfl) rfl (fun _ h => (HeapOk.settriv (HeapOk.settriv (HeapOk.settriv (HeapOk.settriv (HeapOk.settriv (HeapOk.settriv (HeapOk.settriv (HeapOk.settriv (HeapOk.settriv (HeapOk.settriv h (i := 0) rfl) (i := 1) rfl) (i := 2) rfl) (i := 3) rfl) (i := 4) rfl) (i := 5) rfl) (i := 6) rfl) (i := 7) rfl) (i := 8) rfl) (i := 9) rfl)) rfl rfl rfl rfl rfl rfl rfl (PureOp.move rfl) ?_
      refine SD.takeon 17 [true, true, true, true, true, true, true, true, true, true, true, true, true, true, true, false, true, true, false, false, false, false, false, false, false, false, false, false, false, false, false, false, false, false, false, false, false, false, false, false, false] rfl (by kernel_rfl) rfl (fun _ h => (HeapOk.settriv (HeapOk.settriv (HeapOk.settriv (HeapOk.settriv (HeapOk.settriv (HeapOk.settriv (HeapOk.settriv (HeapOk.settriv (HeapOk.settriv (HeapOk.settriv h (i := 0) rfl) (i := 1) rfl) (i := 2) rfl) (i := 3) rfl) (i := 4) rfl) (i := 5) rfl) (i := 6) rfl) (i := 7) rfl) (i := 8) rfl) (i := 9) rfl)) rfl rfl rfl rfl rfl rfl rfl (PureOp.move rfl) ?_
      refine SD.takeon 18 [true, true, true, true, true, true, true, true, true, true, true, true, true, true, true, false, true, true, true, false, false, false, false, false, false, false, false, false, false, false, false, false, false, false, false, false, false, false, false, false, false] rfl (by kernel_rfl) rfl (fun _ h => (HeapOk.settriv (HeapOk.settriv (HeapOk.settriv (HeapOk.settriv (HeapOk.settriv (HeapOk.settriv (HeapOk.settriv (HeapOk.settriv (HeapOk.settriv (HeapOk.settriv h (i := 0) rfl) (i := 1) rfl) (i := 2) rfl) (i := 3) rfl) (i := 4) rfl) (i := 5) rfl) (i := 6) rfl) (i := 7) rfl) (i := 8) rfl) (i := 9) rfl)) rfl rfl rfl rfl rfl rfl rfl (PureOp.move rfl) ?_
      refine SD.takeon 19 [true, true, true, true, true, true, true, true, true, true, true, true, true, true, true, false, true, true, true, true, false, false, false, false, false, false, false, false, false, false, false, false, false, false, false, false, false, false, false, false, false] rfl (by kernel_rfl) rfl (fun _ h => (HeapOk.settriv (HeapOk.settriv (HeapOk.settriv (HeapOk.settriv (HeapOk.settriv (HeapOk.settriv (HeapOk.settriv (HeapOk.settriv (HeapOk.settriv (HeapOk.settriv h (i := 0) rfl) (i := 1) rfl) (i := 2) rfl) (i := 3) rfl) (i := 4) rfl) (i := 5) rfl) (i := 6) rfl) (i := 7) rfl) (i := 8) rfl) (i := 9) rfl)) rfl rfl rfl rfl rfl rfl rfl (PureOp.indexAddrN Try.underlying30 sz36 rfl rfl (AoOk.in_ sL) (fun _ => by omega)) ?_
      refine SD.takeon 20 [true, true, true, true, true, true, true, true, true, true, true, true, true, true, true, false, true, true, true, true, true, false, false, false, false, false, false, false, false, false, false, false, false, false, false, false, false, false, false, false, false] rfl (by kernel_rfl) rfl (fun _ h => (HeapOk.settriv (HeapOk.settriv (HeapOk.settriv (HeapOk.settriv (HeapOk.settriv (HeapOk.settriv (HeapOk.settriv (HeapOk.settriv (HeapOk.settriv (HeapOk.settriv h (i := 0) rfl) (i := 1) rfl) (i := 2) rfl) (i := 3) rfl) (i := 4) rfl) (i := 5) rfl) (i := 6) rfl) (i := 7) rfl) (i := 8) rfl) (i := 9) rfl)) rfl rfl rfl rfl rfl rfl rfl (PureOp.fieldAddr 2 Try.underlying36 rfl rfl sz3 rfl) ?_
      refine SD.takeon 21 [true, true, true, true, true, true, true, true, true, true, true, true, true, true, true, false, true, true, true, true, true, true, false, false, false, false, false, false, false, false, false, false, false, false, false, false, false, false, false, false, false] rfl (by kernel_rfl) rfl (fun _ h => (HeapOk.settriv (HeapOk.settriv (HeapOk.settriv (HeapOk.settriv (HeapOk.settriv (HeapOk.settriv (HeapOk.settriv (HeapOk.settriv (HeapOk.settriv (HeapOk.settriv h (i := 0) rfl) (i := 1) rfl) (i := 2) rfl) (i := 3) rfl) (i := 4) rfl) (i := 5) rfl) (i := 6) rfl) (i := 7) rfl) (i := 8) rfl) (i := 9) rfl)) rfl rfl rfl rfl rfl rfl rfl (PureOp.load (v := .int .i64 ((nth l i).2.2)) Try.underlying3 rfl rfl (fun _ => (CellIs.in_ sL i 2 (by omega) (by omega)))) ?_
      refine SD.one 15 [true, true, true, true, true, true, true, true, true, true, true, true, true, true, true, true, true, true, true, true, true, true, false, false, false, false, false, false, false, false, false, false, false, false, false, false, false, false, false, false, false] (by kernel_rfl) rfl rfl ?_
      refine SL.ung rfl rfl rfl rfl ?_
      refine SL.calle rfl rfl rfl rfl rfl rfl callable9 (fun w hw => pzone_ok b T R A2 cl2 G3 ta2 ra2 (some ⟨ab, 0, none⟩) ga2 n tc2 rc2 n gc2 hM hn hR h9 hA2 hK2 hG3 ((nth l i).2.2) w (ObjIn.of hw 0 rfl) (SliceIn.rows (l := T) (hw.mem (i := 1) rfl) encI_len (by omega)) (SliceIn.rows (l := R) (hw.mem (i := 2) rfl) encI_len (by omega)) (SliceIn.rows (l := A2) (hw.mem (i := 3) rfl) encBo_len (Nat.le_of_eq (Eq.symm hA2))) (SliceIn.rows (l := G3) (hw.mem (i := 4) rfl) encBag_len (Nat.le_refl _))) ?_
      refine SL.norm [_, _, _, _, _, _, _, _, _, _] rfl ?_
      refine SD.back (fun _ h => (HeapOk.settriv (HeapOk.settriv (HeapOk.settriv (HeapOk.settriv (HeapOk.settriv (HeapOk.settriv (HeapOk.settriv (HeapOk.settriv (HeapOk.settriv (HeapOk.settriv h (i := 0) rfl) (i := 1) rfl) (i := 2) rfl) (i := 3) rfl) (i := 4) rfl) (i := 5) rfl) (i := 6) rfl) (i := 7) rfl) (i := 8) rfl) (i := 9) rfl)) ?_
      refine SD.one 22 [true, true, true, true, true, true, true, true, true, true, true, true, true, true, true, true, true, true, true, true, true, true, true, false, false, false, false, false, false, false, false, false, false, false, false, false, false, false, false, false, false] (by kernel_rfl) rfl rfl ?_
      refine SL.ung rfl rfl rfl rfl ?_
      refine SL.calle rfl rfl rfl rfl rfl rfl callable12 (fun w hw => rzone_ok d T R A2 cl2 G3 xa ya (some ⟨zb, 0, none⟩) ha2 n xc yc n hc2 hM hn hR h9 hA2 hK2 hG3 ((nth l i).2.2) w (ObjIn.of hw 5 rfl) (SliceIn.rows (l := T) (hw.mem (i := 6) rfl) encI_len (by omega)) (SliceIn.rows (l := R) (hw.mem (i := 7) rfl) encI_len (by omega)) (SliceIn.rows (l := A2) (hw.mem (i := 8) rfl) encBo_len (Nat.le_of_eq (Eq.symm hA2))) (SliceIn.rows (l := G3) (hw.mem (i := 9) rfl) encBag_len (Nat.le_refl _))) ?_
      refine SL.norm [_, _, _, _, _, _, _, _, _, _] rfl ?_
      refine SD.back (fun _ h => (HeapOk.settriv (HeapOk.settriv (HeapOk.settriv (HeapOk.settriv (HeapOk.settriv (HeapOk.settriv (HeapOk.settriv (HeapOk.settriv (HeapOk.settriv (HeapOk.settriv h (i := 0) rfl) (i := 1) rfl) (i := 2) rfl) (i := 3) rfl) (i := 4) rfl) (i := 5) rfl) (i := 6) rfl) (i := 7) rfl) (i := 8) rfl) (i := 9) rfl)) ?_
      refine SD.takeon 23 [true, true, true, true, true, true, true, true, true, true, true, true, true, true, true, true, true, true, true, true, true, true, true, true, false, false, false, false, false, false, false, false, false, false, false, false, false, false, false, false, false] rfl (by kernel_rfl) rfl (fun _ h => (HeapOk.settriv (HeapOk.settriv (HeapOk.settriv (HeapOk.settriv (HeapOk.settriv (HeapOk.settriv (HeapOk.settriv (HeapOk.settriv (HeapOk.settriv (HeapOk.settriv h (i := 0) rfl) (i := 1) rfl) (i := 2) rfl) (i := 3) rfl) (i := 4) rfl) (i := 5) rfl) (i := 6) rfl) (i := 7) rfl) (i := 8) rfl) (i := 9) rfl)) rfl rfl rfl rfl rfl rfl rfl (PureOp.neq rfl rfl) ?_
      refine SD.lit 81 false rfl (by simp) ?_
      refine SD.take 24 [true, true, true, true, true, true, true, true, true, true, true, true, true, true, true, true, true, true, true, true, true, true, true, true, true, false, false, false, false, false, false, false, false, false, false, false, false, false, false, false, false] rfl (by kernel_rfl) rfl (fun _ h => (HeapOk.settriv (HeapOk.settriv (HeapOk.settriv (HeapOk.settriv (HeapOk.settriv (HeapOk.settriv (HeapOk.settriv (HeapOk.settriv (HeapOk.settriv (HeapOk.settriv h (i := 0) rfl) (i := 1) rfl) (i := 2) rfl) (i := 3) rfl) (i := 4) rfl) (i := 5) rfl) (i := 6) rfl) (i := 7) rfl) (i := 8) rfl) (i := 9) rfl)) rfl rfl rfl (PureOp.pickF rfl rfl) ?_
      refine SD.take 25 [true, true, true, true, true, true, true, true, true, true, true, true, true, true, true, true, true, true, true, true, true, true, true, true, true, true, false, false, false, false, false, false, false, false, false, false, false, false, false, false, false] rfl (by kernel_rfl) rfl (fun _ h => (HeapOk.settriv (HeapOk.settriv (HeapOk.settriv (HeapOk.settriv (HeapOk.settriv (HeapOk.settriv (HeapOk.settriv (HeapOk.settriv (HeapOk.settriv (HeapOk.settriv h (i := 0) rfl) (i := 1) rfl) (i := 2) rfl) (i := 3) rfl) (i := 4) rfl) (i := 5) rfl) (i := 6) rfl) (i := 7) rfl) (i := 8) rfl) (i := 9) rfl)) rfl rfl rfl (PureOp.move rfl) ?_
      refine SD.takeon 26 [true, true, true, true, true, true, true, true, true, true, true, true, true, true, true, true, true, true, true, true, true, true, true, true, true, true, true, false, false, false, false, false, false, false, false, false, false, false, false, false, false] rfl (by kernel_rfl) rfl (fun _ h => (HeapOk.settriv (HeapOk.settriv (HeapOk.settriv (HeapOk.settriv (HeapOk.settriv (HeapOk.settriv (HeapOk.settriv (HeapOk.settriv (HeapOk.settriv (HeapOk.settriv h (i := 0) rfl) (i := 1) rfl) (i := 2) rfl) (i := 3) rfl) (i := 4) rfl) (i := 5) rfl) (i := 6) rfl) (i := 7) rfl) (i := 8) rfl) (i := 9) rfl)) rfl rfl rfl rfl rfl rfl rfl (PureOp.move rfl) ?_
      refine SD.takeon 28 [true, true, true, true, true, true, true, true, true, true, true, true, true, true, true, true, true, true, true, true, true, true, true, true, true, true, true, false, true, false, false, false, false, false, false, false, false, false, false, false, false] rfl (by kernel_rfl) rfl (fun _ h => (HeapOk.settriv (HeapOk.settriv (HeapOk.settriv (HeapOk.settriv (HeapOk.settriv (HeapOk.settriv (HeapOk.settriv (HeapOk.settriv (HeapOk.settriv (HeapOk.settriv h (i := 0) rfl) (i := 1) rfl) (i := 2) rfl) (i := 3) rfl) (i := 4) rfl) (i := 5) rfl) (i := 6) rfl) (i := 7) rfl) (i := 8) rfl) (i := 9) rfl)) rfl rfl rfl rfl rfl rfl rfl (PureOp.move rfl) ?_
      refine SD.one 27 [true, true, true, true, true, true, true, true, true, true, true, true, true, true, true, true, true, true, true, true, true, true, true, true, true, true, true, true, true, false, false, false, false, false, false, false, false, false, false, false, false] (by kernel_rfl) rfl rfl ?_
      refine SL.ung rfl rfl rfl rfl ?_
      refine SL.callo (fun mpa mpc => .slice mpa ((missL T A2 G3).length) mpc) rfl rfl rfl rfl rfl rfl callable14 (fun w hw => pmiss_ok b T R A2 cl2 G3 ta2 ra2 (some ⟨ab, 0, none⟩) ga2 n tc2 rc2 n gc2 hM hn hR h9 hA2 hK2 hG3 w (ObjIn.of hw 0 rfl) (SliceIn.rows (l := T) (hw.mem (i := 1) rfl) encI_len (by omega)) (SliceIn.rows (l := R) (hw.mem (i := 2) rfl) encI_len (by omega)) (SliceIn.rows (l := A2) (hw.mem (i := 3) rfl) encBo_len (Nat.le_of_eq (Eq.symm hA2))) (SliceIn.rows (l := G3) (hw.mem (i := 4) rfl) encBag_len (Nat.le_refl _))) (fun mpa mpc => ?_)
      refine SL.norm [_, _, _, _, _, _, _, _, _, _, _] rfl ?_
      refine SD.back (fun _ h => (HeapOk.settriv (HeapOk.settriv (HeapOk.settriv (HeapOk.settriv (HeapOk.settriv (HeapOk.settriv (HeapOk.settriv (HeapOk.settriv (HeapOk.settriv (HeapOk.settriv (HeapOk.take h 10) (i := 0) rfl) (i := 1) rfl) (i := 2) rfl) (i := 3) rfl) (i := 4) rfl) (i := 5) rfl) (i := 6) rfl) (i := 7) rfl) (i := 8) rfl) (i := 9) rfl)) ?_
      refine SD.one 29 [true, true, true, true, true, true, true, true, true, true, true, true, true, true, true, true, true, true, true, true, true, true, true, true, true, true, true, true, true, true, false, false, false, false, false, false, false, false, false, false, false] (by kernel_rfl) rfl rfl ?_
      refine SL.ung rfl rfl rfl rfl ?_
      refine SL.callo (fun mra mrc => .slice mra ((missL T A2 G3).length) mrc) rfl rfl rfl rfl rfl rfl callable15 (fun w hw => rmiss_ok d T R A2 cl2 G3 xa ya (some ⟨zb, 0, none⟩) ha2 n xc yc n hc2 hM hn hR h9 hA2 hK2 hG3 w (ObjIn.of hw 5 rfl) (SliceIn.rows (l := T) (hw.mem (i := 6) rfl) encI_len (by omega)) (SliceIn.rows (l := R) (hw.mem (i := 7) rfl) encI_len (by omega)) (SliceIn.rows (l := A2) (hw.mem (i := 8) rfl) encBo_len (Nat.le_of_eq (Eq.symm hA2))) (SliceIn.rows (l := G3) (hw.mem (i := 9) rfl) encBag_len (Nat.le_refl _))) (fun mra mrc => ?_)
      refine SL.norm [_, _, _, _, _, _, _, _, _, _, _, _] rfl ?_
      refine SD.back (fun _ h => (HeapOk.settriv (HeapOk.settriv (HeapOk.settriv (HeapOk.settriv (HeapOk.settriv (HeapOk.settriv (HeapOk.settriv (HeapOk.settriv (HeapOk.settriv (HeapOk.settriv (HeapOk.take h 10) (i := 0) rfl) (i := 1) rfl) (i := 2) rfl) (i := 3) rfl) (i := 4) rfl) (i := 5) rfl) (i := 6) rfl) (i := 7) rfl) (i := 8) rfl) (i := 9) rfl)) ?_
      refine SD.one 30 [true, true, true, true, true, true, true, true, true, true, true, true, true, true, true, true, true, true, true, true, true, true, true, true, true, true, true, true, true, true, true, false, false, false, false, false, false, false, false, false, false] (by kernel_rfl) rfl rfl ?_
      refine SL.ung rfl rfl rfl rfl ?_
      refine SL.calle rfl rfl rfl rfl rfl rfl callable13 (fun w hw => sameb_ok (missL T A2 G3) _ _ _ _ _ _ rfl rfl w (SliceIn.rows (hw.mem (i := 10) rfl) encBag_len (Nat.le_refl _)) (SliceIn.rows (hw.mem (i := 11) rfl) encBag_len (Nat.le_refl _)) (by have := missL_le T A2 G3; omega)) ?_
      refine SL.norm [_, _, _, _, _, _, _, _, _, _, _, _] rfl ?_
      refine SD.back (fun _ h => (HeapOk.settriv (HeapOk.settriv (HeapOk.settriv (HeapOk.settriv (HeapOk.settriv (HeapOk.settriv (HeapOk.settriv (HeapOk.settriv (HeapOk.settriv (HeapOk.settriv (HeapOk.take h 10) (i := 0) rfl) (i := 1) rfl) (i := 2) rfl) (i := 3) rfl) (i := 4) rfl) (i := 5) rfl) (i := 6) rfl) (i := 7) rfl) (i := 8) rfl) (i := 9) rfl)) ?_
      refine SD.takeon 31 [true, true, true, true, true, true, true, true, true, true, true, true, true, true, true, true, true, true, true, true, true, true, true, true, true, true, true, true, true, true, true, true, false, false, false, false, false, false, false, false, false] rfl (by kernel_rfl) rfl (fun _ h => (HeapOk.settriv (HeapOk.settriv (HeapOk.settriv (HeapOk.settriv (HeapOk.settriv (HeapOk.settriv (HeapOk.settriv (HeapOk.settriv (HeapOk.settriv (HeapOk.settriv (HeapOk.take h 10) (i := 0) rfl) (i := 1) rfl) (i := 2) rfl) (i := 3) rfl) (i := 4) rfl) (i := 5) rfl) (i := 6) rfl) (i := 7) rfl) (i := 8) rfl) (i := 9) rfl)) rfl rfl rfl rfl rfl rfl rfl (PureOp.not rfl) ?_
      refine SD.take 32 [true, true, true, true, true, true, true, true, true, true, true, true, true, true, true, true, true, true, true, true, true, true, true, true, true, true, true, true, true, true, true, true, true, false, false, false, false, false, false, false, false] rfl (by kernel_rfl) rfl (fun _ h => (HeapOk.settriv (HeapOk.settriv (HeapOk.settriv (HeapOk.settriv (HeapOk.settriv (HeapOk.settriv (HeapOk.settriv (HeapOk.settriv (HeapOk.settriv (HeapOk.settriv (HeapOk.take h 10) (i := 0) rfl) (i := 1) rfl) (i := 2) rfl) (i := 3) rfl) (i := 4) rfl) (i := 5) rfl) (i := 6) rfl) (i := 7) rfl) (i := 8) rfl) (i := 9) rfl)) rfl rfl rfl (PureOp.pickF rfl rfl) ?_
      refine SD.take 33 [true, true, true, true, true, true, true, true, true, true, true, true, true, true, true, true, true, true, true, true, true, true, true, true, true, true, true, true, true, true, true, true, true, true, false, false, false, false, false, false, false] rfl (by kernel_rfl) rfl (fun _ h => (HeapOk.settriv (HeapOk.settriv (HeapOk.settriv (HeapOk.settriv (HeapOk.settriv (HeapOk.settriv (HeapOk.settriv (HeapOk.settriv (HeapOk.settriv (HeapOk.settriv (HeapOk.take h 10) (i := 0) rfl) (i := 1) rfl) (i := 2) rfl) (i := 3) rfl) (i := 4) rfl) (i := 5) rfl) (i := 6) rfl) (i := 7) rfl) (i := 8) rfl) (i := 9) rfl)) rfl rfl rfl (PureOp.move rfl) ?_
      refine SD.takeon 34 [true, true, true, true, true, true, true, true, true, true, true, true, true, true, true, true, true, true, true, true, true, true, true, true, true, true, true, true, true, true, true, true, true, true, true, false, false, false, false, false, false] rfl (by kernel_rfl) rfl (fun _ h => (HeapOk.settriv (HeapOk.settriv (HeapOk.settriv (HeapOk.settriv (HeapOk.settriv (HeapOk.settriv (HeapOk.settriv (HeapOk.settriv (HeapOk.settriv (HeapOk.settriv (HeapOk.take h 10) (i := 0) rfl) (i := 1) rfl) (i := 2) rfl) (i := 3) rfl) (i := 4) rfl) (i := 5) rfl) (i := 6) rfl) (i := 7) rfl) (i := 8) rfl) (i := 9) rfl)) rfl rfl rfl rfl rfl rfl rfl (PureOp.move rfl) ?_
      refine SD.takeon 36 [true, true, true, true, true, true, true, true, true, true, true, true, true, true, true, true, true, true, true, true, true, true, true, true, true, true, true, true, true, true, true, true, true, true, true, false, true, false, false, false, false] rfl (by kernel_rfl) rfl (fun _ h => (HeapOk.settriv (HeapOk.settriv (HeapOk.settriv (HeapOk.settriv (HeapOk.settriv (HeapOk.settriv (HeapOk.settriv (HeapOk.settriv (HeapOk.settriv (HeapOk.settriv (HeapOk.take h 10) (i := 0) rfl) (i := 1) rfl) (i := 2) rfl) (i := 3) rfl) (i := 4) rfl) (i := 5) rfl) (i := 6) rfl) (i := 7) rfl) (i := 8) rfl) (i := 9) rfl)) rfl rfl rfl rfl rfl rfl rfl (PureOp.move rfl) ?_
      refine SD.one 35 [true, true, true, true, true, true, true, true, true, true, true, true, true, true, true, true, true, true, true, true, true, true, true, true, true, true, true, true, true, true, true, true, true, true, true, true, true, false, false, false, false] (by kernel_rfl) rfl rfl ?_
      refine SL.ung rfl rfl rfl rfl ?_
      refine SL.callo (fun wpa wpc => .slice wpa ((listL T A2 false n).length) wpc) rfl rfl rfl rfl rfl rfl callable17 (fun w hw => pwait_ok b T R A2 cl2 G3 ta2 ra2 (some ⟨ab, 0, none⟩) ga2 n tc2 rc2 n gc2 hM hn hR h9 hA2 hK2 hG3 w (ObjIn.of hw 0 rfl) (SliceIn.rows (l := T) (hw.mem (i := 1) rfl) encI_len (by omega)) (SliceIn.rows (l := R) (hw.mem (i := 2) rfl) encI_len (by omega)) (SliceIn.rows (l := A2) (hw.mem (i := 3) rfl) encBo_len (Nat.le_of_eq (Eq.symm hA2))) (SliceIn.rows (l := G3) (hw.mem (i := 4) rfl) encBag_len (Nat.le_refl _))) (fun wpa wpc => ?_)
      refine SL.norm [_, _, _, _, _, _, _, _, _, _, _, _, _] rfl ?_
      refine SD.back (fun _ h => (HeapOk.settriv (HeapOk.settriv (HeapOk.settriv (HeapOk.settriv (HeapOk.settriv (HeapOk.settriv (HeapOk.settriv (HeapOk.settriv (HeapOk.settriv (HeapOk.settriv (HeapOk.take h 10) (i := 0) rfl) (i := 1) rfl) (i := 2) rfl) (i := 3) rfl) (i := 4) rfl) (i := 5) rfl) (i := 6) rfl) (i := 7) rfl) (i := 8) rfl) (i := 9) rfl)) ?_
      refine SD.one 37 [true, true, true, true, true, true, true, true, true, true, true, true, true, true, true, true, true, true, true, true, true, true, true, true, true, true, true, true, true, true, true, true, true, true, true, true, true, true, false, false, false] (by kernel_rfl) rfl rfl ?_
      refine SL.ung rfl rfl rfl rfl ?_
      refine SL.callo (fun wra wrc => .slice wra ((listL T A2 false n).length) wrc) rfl rfl rfl rfl rfl rfl callable18 (fun w hw => rwait_ok d T R A2 cl2 G3 xa ya (some ⟨zb, 0, none⟩) ha2 n xc yc n hc2 hM hn hR h9 hA2 hK2 hG3 w (ObjIn.of hw 5 rfl) (SliceIn.rows (l := T) (hw.mem (i := 6) rfl) encI_len (by omega)) (SliceIn.rows (l := R) (hw.mem (i := 7) rfl) encI_len (by omega)) (SliceIn.rows (l := A2) (hw.mem (i := 8) rfl) encBo_len (Nat.le_of_eq (Eq.symm hA2))) (SliceIn.rows (l := G3) (hw.mem (i := 9) rfl) encBag_len (Nat.le_refl _))) (fun wra wrc => ?_)
      refine SL.norm [_, _, _, _, _, _, _, _, _, _, _, _, _, _] rfl ?_
      refine SD.back (fun _ h => (HeapOk.settriv (HeapOk.settriv (HeapOk.settriv (HeapOk.settriv (HeapOk.settriv (HeapOk.settriv (HeapOk.settriv (HeapOk.settriv (HeapOk.settriv (HeapOk.settriv (HeapOk.take h 10) (i := 0) rfl) (i := 1) rfl) (i := 2) rfl) (i := 3) rfl) (i := 4) rfl) (i := 5) rfl) (i := 6) rfl) (i := 7) rfl) (i := 8) rfl) (i := 9) rfl)) ?_
      refine SD.one 38 [true, true, true, true, true, true, true, true, true, true, true, true, true, true, true, true, true, true, true, true, true, true, true, true, true, true, true, true, true, true, true, true, true, true, true, true, true, true, true, false, false] (by kernel_rfl) rfl rfl ?_
      refine SL.ung rfl rfl rfl rfl ?_
      refine SL.calle rfl rfl rfl rfl rfl rfl callable16 (fun w hw => samei_ok (listL T A2 false n) _ _ _ _ _ _ rfl rfl w (SliceIn.rows (hw.mem (i := 12) rfl) encI_len (Nat.le_refl _)) (SliceIn.rows (hw.mem (i := 13) rfl) encI_len (Nat.le_refl _)) (by have := listL_le T A2 false n; omega)) ?_
      refine SL.norm [_, _, _, _, _, _, _, _, _, _, _, _, _, _] rfl ?_
      refine SD.back (fun _ h => (HeapOk.settriv (HeapOk.settriv (HeapOk.settriv (HeapOk.settriv (HeapOk.settriv (HeapOk.settriv (HeapOk.settriv (HeapOk.settriv (HeapOk.settriv (HeapOk.settriv (HeapOk.take h 10) (i := 0) rfl) (i := 1) rfl) (i := 2) rfl) (i := 3) rfl) (i := 4) rfl) (i := 5) rfl) (i := 6) rfl) (i := 7) rfl) (i := 8) rfl) (i := 9) rfl)) ?_
      refine SD.takeon 39 [true, true, true, true, true, true, true, true, true, true, true, true, true, true, true, true, true, true, true, true, true, true, true, true, true, true, true, true, true, true, true, true, true, true, true, true, true, true, true, true, false] rfl (by kernel_rfl) rfl (fun _ h => (HeapOk.settriv (HeapOk.settriv (HeapOk.settriv (HeapOk.settriv (HeapOk.settriv (HeapOk.settriv (HeapOk.settriv (HeapOk.settriv (HeapOk.settriv (HeapOk.settriv (HeapOk.take h 10) (i := 0) rfl) (i := 1) rfl) (i := 2) rfl) (i := 3) rfl) (i := 4) rfl) (i := 5) rfl) (i := 6) rfl) (i := 7) rfl) (i := 8) rfl) (i := 9) rfl)) rfl rfl rfl rfl rfl rfl rfl (PureOp.not rfl) ?_
      refine SD.take 40 [true, true, true, true, true, true, true, true, true, true, true, true, true, true, true, true, true, true, true, true, true, true, true, true, true, true, true, true, true, true, true, true, true, true, true, true, true, true, true, true, true] rfl (by kernel_rfl) rfl (fun _ h => (HeapOk.settriv (HeapOk.settriv (HeapOk.settriv (HeapOk.settriv (HeapOk.settriv (HeapOk.settriv (HeapOk.settriv (HeapOk.settriv (HeapOk.settriv (HeapOk.settriv (HeapOk.take h 10) (i := 0) rfl) (i := 1) rfl) (i := 2) rfl) (i := 3) rfl) (i := 4) rfl) (i := 5) rfl) (i := 6) rfl) (i := 7) rfl) (i := 8) rfl) (i := 9) rfl)) rfl rfl rfl (PureOp.pickF rfl rfl) ?_
      refine SD.done (by kernel_rfl) ?_
      refine QX.ofK ?_
      refine QX.then_ ?_
      refine WC.condF rfl ?_
      refine WC.skip ?_
      refine QX.normal_in ?_
      refine QX.then_ ?_
      refine WC.region ?_
      refine SL.pure rfl rfl rfl (PureOp.move rfl) ?_
      refine SL.pure rfl rfl rfl (PureOp.addN (k := 1) rfl rfl (fun _ => by omega)) ?_
      refine SL.pure rfl rfl rfl (PureOp.assign rfl) ?_
      refine SL.nil ?_
      refine QX.round (σ := Nat × List Bool × Bool × List Bag × Option Addr × Nat × Option Addr × Nat) (Ef := fun q_ => [(0, 0, .slice ta n tc), (1, 0, .slice ra m rc), (2, 0, .slice al nl cl_), (7, 0, .pointer (some ⟨b, 0, none⟩)), (8, 0, .int .i64 0), (9, 0, .pointer (some ⟨d, 0, none⟩)), (10, 0, .int .i64 0), (12, 0, .slice ta n tc), (13, 0, .int .i64 ((n : Nat) : Int)), (14, 0, .bool (decide (100 < ((n : Nat) : Int)))), (15, 0, .bool (decide (100 < ((n : Nat) : Int)))), (19, 0, .bool ((decide (100 < ((n : Nat) : Int))) && (decide (((n : Nat) : Int) ≤ 999)))), (20, 0, .bool ((decide (100 < ((n : Nat) : Int))) && (decide (((n : Nat) : Int) ≤ 999)))), (24, 0, .bool (((decide (100 < ((n : Nat) : Int))) && (decide (((n : Nat) : Int) ≤ 999))) || (decide (1998 < ((m : Nat) : Int))))), (26, 0, .tuple #[.pointer (some ⟨b, 0, none⟩), .int .i64 0]), (27, 0, .slice ta n tc), (28, 0, .slice ra m rc), (29, 0, .tuple #[.pointer (some ⟨b, 0, none⟩), .int .i64 0]), (30, 0, .pointer (some ⟨b, 0, none⟩)), (31, 0, .int .i64 0), (32, 0, .tuple #[.pointer (some ⟨d, 0, none⟩), .int .i64 0]), (33, 0, .slice ta n tc), (34, 0, .slice ra m rc), (35, 0, .tuple #[.pointer (some ⟨d, 0, none⟩), .int .i64 0]), (36, 0, .pointer (some ⟨d, 0, none⟩)), (37, 0, .int .i64 0), (38, 0, .int .i64 0), (39, 0, .int .i64 0), (40, 0, .bool false), (41, 0, .bool false), (42, 0, .pointer (some ⟨b, 0, none⟩)), (43, 0, .bool false), (44, 0, .pointer (some ⟨d, 0, none⟩)), (45, 0, .bool false), (46, 0, .bool false), (47, 0, .bool false), (11, 0, .int .i64 ((q_.1 : Nat) : Int))]) (Hf := fun q_ => [Item.cells b [.bool true, .bool q_.2.2.1, .slice ta2 n tc2, .slice ra2 n rc2, .slice (some ⟨ab, 0, none⟩) n n, .slice q_.2.2.2.2.1 ((q_.2.2.2.1).length) q_.2.2.2.2.2.1] 44, Item.own w0.heap.size ta2 n tc2 3 1 (cellsOf encI T), Item.own w0.heap.size ra2 n rc2 3 1 (cellsOf encI R), Item.own w0.heap.size (some ⟨ab, 0, none⟩) n n 4 1 (cellsOf encBo (q_.2.1)), Item.own w0.heap.size q_.2.2.2.2.1 ((q_.2.2.2.1).length) q_.2.2.2.2.2.1 47 3 (cellsOf encBag (q_.2.2.2.1)), Item.cells d [.slice xa n xc, .slice ya n yc, .slice (some ⟨zb, 0, none⟩) n n, .slice q_.2.2.2.2.2.2.1 ((q_.2.2.2.1).length) q_.2.2.2.2.2.2.2, .bool true, .bool q_.2.2.1] 59, Item.own w0.heap.size xa n xc 3 1 (cellsOf encI T), Item.own w0.heap.size ya n yc 3 1 (cellsOf encI R), Item.own w0.heap.size (some ⟨zb, 0, none⟩) n n 4 1 (cellsOf encBo (q_.2.1)), Item.own w0.heap.size q_.2.2.2.2.2.2.1 ((q_.2.2.2.1).length) q_.2.2.2.2.2.2.2 47 3 (cellsOf encBag (q_.2.2.2.1))]) (I := fun q_ => q_.1 ≤ nl ∧ q_.1 ≤ 60 ∧ q_.2.1.length = n ∧ Known T q_.2.2.2.1 ∧ q_.2.2.2.1.length ≤ q_.1) (μ := fun q_ => nl - q_.1) (s := (i, A, cl, G, ga, gc, ha, hc)) 10 ((i + 1, A2, cl2, G3, ga2, gc2, ha2, hc2)) ⟨⟨(by first | omega | (dsimp only; omega)), (by first | omega | (dsimp only; omega)), hA2, hK2, Nat.le_trans hG2 (by first | omega | (dsimp only; omega))⟩, by first | omega | (dsimp only; omega)⟩ ⟨rfl, rfl, rfl, rfl, rfl, rfl, rfl, rfl, rfl, rfl, rfl, rfl, rfl, rfl, rfl, rfl, rfl, rfl, rfl, rfl, rfl, rfl, rfl, rfl, rfl, rfl, rfl, rfl, rfl, rfl, rfl, rfl, rfl, rfl, rfl, rfl, rfl, rfl, rfl, rfl, rfl, rfl, rfl, rfl, rfl, rfl, rfl, rfl, rfl, rfl, rfl, rfl, rfl, rfl, rfl, rfl, rfl, rfl, rfl, rfl, rfl, rfl, rfl, rfl, rfl, rfl, rfl, rfl, rfl, rfl, rfl, rfl, rfl, rfl, trivial⟩ rfl
    · try simp only [Bool.and_eq_true, Bool.or_eq_true, Bool.not_eq_true', Bool.not_eq_false', Bool.and_eq_false_iff, Bool.or_eq_false_iff, decide_eq_true_eq, decide_eq_false_iff_not, Int.not_lt, Int.not_le, ne_eq, Decidable.not_not] at h2
      refine WC.exit ?_
      refine QX.exit_then ?_
      refine QX.exit_then ?_
      refine QX.exit_hit ?_
      refine QX.then_ ?_
      refine WC.seq ?_
      refine WC.region ?_
      refine SL.calle rfl rfl rfl rfl rfl rfl callable8 (fun w hw => knows_ok w) ?_
      refine SL.norm [_, _, _, _, _, _, _, _, _, _] rfl ?_
      refine SL.pure rfl rfl rfl (PureOp.assign rfl) ?_
      refine SL.nil_then ?_
      refine WC.ret ?_
      refine QX.ret1 rfl rfl ?_
      intro w hw
      rfl

end Go.Proofs.Ythbgnjengkjigaa
