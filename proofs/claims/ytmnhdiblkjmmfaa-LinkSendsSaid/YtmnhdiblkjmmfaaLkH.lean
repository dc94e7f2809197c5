import Derived.Test.YtmnhdiblkjmmfaaLkG
namespace Go.Proofs.Ytmnhdiblkjmmfaa
open Go Go.RowKit Eng
set_option linter.unusedVariables false
set_option linter.unusedSimpArgs false

set_option maxHeartbeats 4000000 in
set_option maxRecDepth 100000 in
theorem sends_bad (room : Int) (l : List (Bool × Msg)) (al : Option Addr) (n cl : Nat) (hn : n = l.length) (w0 : World) (hl : SliceIn w0 5 al n cl (rowsF enc34 l)) (hr : room < 1 ∨ 9999 < room) : FnC Try.prog 3 [.int .i64 room, .slice al n cl] w0 fun v w' => v = .bool true := by
  refine fnc (N := 128) Try.func3 rfl rfl rfl ?_
  refine WC.seq ?_
  refine WC.region ?_
  refine SL.pure rfl rfl rfl (PureOp.assign rfl) ?_
  refine SL.nil_then ?_
  refine WC.seq ?_
  refine WC.seq ?_
  refine WC.region ?_
  refine SL.pure rfl rfl rfl (PureOp.move rfl) ?_
  refine SL.pure rfl rfl rfl (PureOp.len rfl Try.underlying22) ?_
  refine SL.pure rfl rfl rfl (PureOp.gtr rfl rfl) ?_
  refine SL.nil_then ?_
  refine WC.cond rfl (fun h1 => ?_) (fun h1 => ?_)
  · try simp only [Bool.and_eq_true, Bool.or_eq_true, Bool.not_eq_true', Bool.not_eq_false', Bool.and_eq_false_iff, Bool.or_eq_false_iff, decide_eq_true_eq, decide_eq_false_iff_not, Int.not_lt, Int.not_le, ne_eq, Decidable.not_not] at h1
    refine WC.seq ?_
    refine WC.region ?_
    refine SL.calle rfl rfl rfl rfl rfl rfl callable7 (fun w hw => awake_ok w) ?_
    refine SL.norm [] rfl ?_
    refine SL.pure rfl rfl rfl (PureOp.assign rfl) ?_
    refine SL.nil_then ?_
    refine WC.ret ?_
    refine QX.ret_then ?_
    refine QX.ret1 rfl rfl ?_
    intro w hw
    rfl
  · try simp only [Bool.and_eq_true, Bool.or_eq_true, Bool.not_eq_true', Bool.not_eq_false', Bool.and_eq_false_iff, Bool.or_eq_false_iff, decide_eq_true_eq, decide_eq_false_iff_not, Int.not_lt, Int.not_le, ne_eq, Decidable.not_not] at h1
    refine WC.skip ?_
    refine QX.then_ ?_
    refine WC.seq ?_
    refine WC.region ?_
    refine SL.pure rfl rfl rfl (PureOp.move rfl) ?_
    refine SL.calle rfl rfl rfl rfl rfl rfl callable8 (fun w hw => newsender_bad room hr w) ?_
    refine SL.norm [] rfl ?_
    refine SL.pure rfl rfl rfl (PureOp.move rfl) ?_
    refine SL.pure rfl rfl rfl (PureOp.extract rfl rfl) ?_
    refine SL.pure rfl rfl rfl (PureOp.extract rfl rfl) ?_
    refine SL.pure rfl rfl rfl (PureOp.assign rfl) ?_
    refine SL.pure rfl rfl rfl (PureOp.assign rfl) ?_
    refine SL.nil_then ?_
    refine WC.seq ?_
    refine WC.region ?_
    refine SL.pure rfl rfl rfl (PureOp.move rfl) ?_
    refine SL.calle rfl rfl rfl rfl rfl rfl callable9 (fun w hw => rnewsender_bad room hr w) ?_
    refine SL.norm [] rfl ?_
    refine SL.pure rfl rfl rfl (PureOp.move rfl) ?_
    refine SL.pure rfl rfl rfl (PureOp.extract rfl rfl) ?_
    refine SL.pure rfl rfl rfl (PureOp.extract rfl rfl) ?_
    refine SL.pure rfl rfl rfl (PureOp.assign rfl) ?_
    refine SL.pure rfl rfl rfl (PureOp.assign rfl) ?_
    refine SL.nil_then ?_
    refine WC.seq ?_
    refine WC.seq ?_
    refine WC.region ?_
    refine SL.pure rfl rfl rfl (PureOp.move rfl) ?_
    refine SL.pure rfl rfl rfl (PureOp.move rfl) ?_
    refine SL.pure rfl rfl rfl (PureOp.neq rfl rfl) ?_
    refine SL.lit 30 false rfl (by decide) ?_
    refine SL.pure rfl rfl rfl (PureOp.move rfl) ?_
    refine SL.ung rfl rfl rfl rfl ?_
    refine SL.pure rfl rfl rfl (PureOp.move rfl) ?_
    refine SL.ung rfl rfl rfl rfl ?_
    refine SL.pure rfl rfl rfl (PureOp.eqlpnil0 rfl rfl Try.underlying24) ?_
    refine SL.ung rfl rfl rfl rfl ?_
    refine SL.pure rfl rfl rfl (PureOp.move rfl) ?_
    refine SL.ung rfl rfl rfl rfl ?_
    refine SL.pure rfl rfl rfl (PureOp.eqlpnil0 rfl rfl Try.underlying28) ?_
    refine SL.ung rfl rfl rfl rfl ?_
    refine SL.pure rfl rfl rfl (PureOp.neqb rfl rfl Try.underlying4) ?_
    refine SL.pure rfl rfl rfl (PureOp.pickF rfl rfl) ?_
    refine SL.nil_then ?_
    refine WC.condF rfl ?_
    refine WC.skip ?_
    refine QX.then_ ?_
    refine WC.seq ?_
    refine WC.seq ?_
    refine WC.region ?_
    refine SL.pure rfl rfl rfl (PureOp.assign rfl) ?_
    refine SL.nil_then ?_
    refine WC.block ?_
    refine WC.loop (σ := Nat) (fun q_ => [(0, 0, .int .i64 room), (1, 0, .slice al n cl), (5, 0, .pointer none), (6, 0, .int .i64 2), (7, 0, .pointer none), (8, 0, .int .i64 2), (14, 0, .slice al n cl), (15, 0, .int .i64 ((n : Nat) : Int)), (16, 0, .bool (decide (40 < ((n : Nat) : Int)))), (18, 0, .tuple #[.pointer none, .int .i64 2]), (19, 0, .int .i64 room), (20, 0, .tuple #[.pointer none, .int .i64 2]), (21, 0, .pointer none), (22, 0, .int .i64 2), (23, 0, .tuple #[.pointer none, .int .i64 2]), (24, 0, .int .i64 room), (25, 0, .tuple #[.pointer none, .int .i64 2]), (26, 0, .pointer none), (27, 0, .int .i64 2), (28, 0, .int .i64 2), (29, 0, .int .i64 2), (30, 0, .bool false), (31, 0, .bool false), (32, 0, .pointer none), (33, 0, .bool true), (34, 0, .pointer none), (35, 0, .bool true), (36, 0, .bool false), (37, 0, .bool false), (9, 0, .int .i64 ((q_ : Nat) : Int))]) (fun q_ => []) (fun q_ => True) (fun q_ => 0) 0 (0) (trivial) ⟨rfl, rfl, rfl, rfl, rfl, rfl, rfl, rfl, rfl, rfl, rfl, rfl, rfl, rfl, rfl, rfl, rfl, rfl, rfl, rfl, rfl, rfl, rfl, rfl, rfl, rfl, rfl, rfl, rfl, rfl, rfl, rfl, rfl, rfl, rfl, rfl, rfl, rfl, rfl, rfl, rfl, rfl, rfl, rfl, rfl, rfl, rfl, rfl, rfl, rfl, rfl, rfl, rfl, rfl, rfl, rfl, rfl, rfl, rfl, rfl, trivial⟩ rfl ?_
    rintro k _
    refine WC.seq ?_
    refine WC.seq ?_
    refine WC.region ?_
    refine SL.pure rfl rfl rfl (PureOp.move rfl) ?_
    refine SL.pure rfl rfl rfl (PureOp.move rfl) ?_
    refine SL.pure rfl rfl rfl (PureOp.len rfl Try.underlying22) ?_
    refine SL.pure rfl rfl rfl (PureOp.lss rfl rfl) ?_
    refine SL.pure rfl rfl rfl (PureOp.move rfl) ?_
    refine SL.newg 42 true rfl ?_
    refine SL.gpure (c := 1) rfl rfl rfl rfl rfl rfl rfl (PureOp.move rfl) ?_
    refine SL.gpure (c := 1) rfl rfl rfl rfl rfl rfl rfl (PureOp.neqpnil0 rfl rfl Try.underlying24) ?_
    refine SL.pure rfl rfl rfl (PureOp.and_ rfl rfl rfl rfl) ?_
    refine SL.nil_then ?_
    refine WC.cond rfl (fun h2 => ?_) (fun h2 => ?_)
    · try simp only [Bool.and_eq_true, Bool.or_eq_true, Bool.not_eq_true', Bool.not_eq_false', Bool.and_eq_false_iff, Bool.or_eq_false_iff, decide_eq_true_eq, decide_eq_false_iff_not, Int.not_lt, Int.not_le, ne_eq, Decidable.not_not] at h2
      exact absurd h2 (by simp)
    · try simp only [Bool.and_eq_true, Bool.or_eq_true, Bool.not_eq_true', Bool.not_eq_false', Bool.and_eq_false_iff, Bool.or_eq_false_iff, decide_eq_true_eq, decide_eq_false_iff_not, Int.not_lt, Int.not_le, ne_eq, Decidable.not_not] at h2
      refine WC.exit ?_
      refine QX.exit_then ?_
      refine QX.exit_then ?_
      refine QX.exit_hit ?_
      refine QX.then_ ?_
      refine WC.seq ?_
      refine WC.region ?_
      refine SL.calle rfl rfl rfl rfl rfl rfl callable7 (fun w hw => awake_ok w) ?_
      refine SL.norm [] rfl ?_
      refine SL.pure rfl rfl rfl (PureOp.assign rfl) ?_
      refine SL.nil_then ?_
      refine WC.ret ?_
      refine QX.ret1 rfl rfl ?_
      intro w hw
      rfl

set_option maxHeartbeats 4000000 in
set_option maxRecDepth 100000 in
theorem sends_ok (room : Int) (l : List (Bool × Msg)) (al : Option Addr) (n cl : Nat) (hn : n = l.length) (w0 : World) (hl : SliceIn w0 5 al n cl (rowsF enc34 l)) (hr : 1 ≤ room ∧ room ≤ 9999) : FnC Try.prog 3 [.int .i64 room, .slice al n cl] w0 fun v w' => v = .bool true := by
  refine fnc (N := 128) Try.func3 rfl rfl rfl ?_
  refine WC.seq ?_
  refine WC.region ?_
  refine SL.pure rfl rfl rfl (PureOp.assign rfl) ?_
  refine SL.nil_then ?_
  refine WC.seq ?_
  refine WC.seq ?_
  refine WC.region ?_
  refine SL.pure rfl rfl rfl (PureOp.move rfl) ?_
  refine SL.pure rfl rfl rfl (PureOp.len rfl Try.underlying22) ?_
  refine SL.pure rfl rfl rfl (PureOp.gtr rfl rfl) ?_
  refine SL.nil_then ?_
  refine WC.cond rfl (fun h1 => ?_) (fun h1 => ?_)
  · try simp only [Bool.and_eq_true, Bool.or_eq_true, Bool.not_eq_true', Bool.not_eq_false', Bool.and_eq_false_iff, Bool.or_eq_false_iff, decide_eq_true_eq, decide_eq_false_iff_not, Int.not_lt, Int.not_le, ne_eq, Decidable.not_not] at h1
    refine WC.seq ?_
    refine WC.region ?_
    refine SL.calle rfl rfl rfl rfl rfl rfl callable7 (fun w hw => awake_ok w) ?_
    refine SL.norm [] rfl ?_
    refine SL.pure rfl rfl rfl (PureOp.assign rfl) ?_
    refine SL.nil_then ?_
    refine WC.ret ?_
    refine QX.ret_then ?_
    refine QX.ret1 rfl rfl ?_
    intro w hw
    rfl
  · try simp only [Bool.and_eq_true, Bool.or_eq_true, Bool.not_eq_true', Bool.not_eq_false', Bool.and_eq_false_iff, Bool.or_eq_false_iff, decide_eq_true_eq, decide_eq_false_iff_not, Int.not_lt, Int.not_le, ne_eq, Decidable.not_not] at h1
    refine WC.skip ?_
    refine QX.then_ ?_
    refine WC.seq ?_
    refine WC.region ?_
    refine SL.pure rfl rfl rfl (PureOp.move rfl) ?_
    refine SL.callM [] rfl rfl rfl rfl rfl rfl callable8 (by decide) (newsender_ok room hr w0) rfl (fun _ _ => rfl) ?_
    rintro bs hbs
    refine SL.addnil 32 4 ?_
    refine SL.norm [_, _] rfl ?_
    refine SL.pure rfl rfl rfl (PureOp.move rfl) ?_
    refine SL.pure rfl rfl rfl (PureOp.extract rfl rfl) ?_
    refine SL.pure rfl rfl rfl (PureOp.extract rfl rfl) ?_
    refine SL.pure rfl rfl rfl (PureOp.assign rfl) ?_
    refine SL.pure rfl rfl rfl (PureOp.assign rfl) ?_
    refine SL.nil_then ?_
    refine WC.seq ?_
    refine WC.region ?_
    refine SL.pure rfl rfl rfl (PureOp.move rfl) ?_
    refine SL.callM [] rfl rfl rfl rfl rfl rfl callable9 (by decide) (rnewsender_ok room hr w0) rfl (fun _ _ => rfl) ?_
    rintro bt hbt
    refine SL.addnil 9 1 ?_
    refine SL.norm [_, _, _, _] rfl ?_
    refine SL.pure rfl rfl rfl (PureOp.move rfl) ?_
    refine SL.pure rfl rfl rfl (PureOp.extract rfl rfl) ?_
    refine SL.pure rfl rfl rfl (PureOp.extract rfl rfl) ?_
    refine SL.pure rfl rfl rfl (PureOp.assign rfl) ?_
    refine SL.pure rfl rfl rfl (PureOp.assign rfl) ?_
    refine SL.nil_then ?_
    refine WC.seq ?_
    refine WC.seq ?_
    refine WC.region ?_
    refine SL.pure rfl rfl rfl (PureOp.move rfl) ?_
    refine SL.pure rfl rfl rfl (PureOp.move rfl) ?_
    refine SL.pure rfl rfl rfl (PureOp.neq rfl rfl) ?_
    refine SL.lit 30 false rfl (by decide) ?_
    refine SL.pure rfl rfl rfl (PureOp.move rfl) ?_
    refine SL.ung rfl rfl rfl rfl ?_
    refine SL.pure rfl rfl rfl (PureOp.move rfl) ?_
    refine SL.ung rfl rfl rfl rfl ?_
    refine SL.pure rfl rfl rfl (PureOp.eqlpnil1 rfl rfl Try.underlying24) ?_
    refine SL.ung rfl rfl rfl rfl ?_
    refine SL.pure rfl rfl rfl (PureOp.move rfl) ?_
    refine SL.ung rfl rfl rfl rfl ?_
    refine SL.pure rfl rfl rfl (PureOp.eqlpnil1 rfl rfl Try.underlying28) ?_
    refine SL.ung rfl rfl rfl rfl ?_
    refine SL.pure rfl rfl rfl (PureOp.neqb rfl rfl Try.underlying4) ?_
    refine SL.pure rfl rfl rfl (PureOp.pickF rfl rfl) ?_
    refine SL.nil_then ?_
    refine WC.condF rfl ?_
    refine WC.skip ?_
    refine QX.then_ ?_
    refine WC.seq ?_
    refine WC.seq ?_
    refine WC.region ?_
    refine SL.pure rfl rfl rfl (PureOp.assign rfl) ?_
    refine SL.nil_then ?_
    refine WC.block ?_
    refine WC.loop (σ := Nat × List ByteArray × Nat × Option Addr × Nat × Option Addr × Nat) (fun q_ => [(0, 0, .int .i64 room), (1, 0, .slice al n cl), (5, 0, .pointer (some ⟨bs, 0, none⟩)), (6, 0, .int .i64 0), (7, 0, .pointer (some ⟨bt, 0, none⟩)), (8, 0, .int .i64 0), (14, 0, .slice al n cl), (15, 0, .int .i64 ((n : Nat) : Int)), (16, 0, .bool (decide (40 < ((n : Nat) : Int)))), (18, 0, .tuple #[.pointer (some ⟨bs, 0, none⟩), .int .i64 0]), (19, 0, .int .i64 room), (20, 0, .tuple #[.pointer (some ⟨bs, 0, none⟩), .int .i64 0]), (21, 0, .pointer (some ⟨bs, 0, none⟩)), (22, 0, .int .i64 0), (23, 0, .tuple #[.pointer (some ⟨bt, 0, none⟩), .int .i64 0]), (24, 0, .int .i64 room), (25, 0, .tuple #[.pointer (some ⟨bt, 0, none⟩), .int .i64 0]), (26, 0, .pointer (some ⟨bt, 0, none⟩)), (27, 0, .int .i64 0), (28, 0, .int .i64 0), (29, 0, .int .i64 0), (30, 0, .bool false), (31, 0, .bool false), (32, 0, .pointer (some ⟨bs, 0, none⟩)), (33, 0, .bool false), (34, 0, .pointer (some ⟨bt, 0, none⟩)), (35, 0, .bool false), (36, 0, .bool false), (37, 0, .bool false), (9, 0, .int .i64 ((q_.1 : Nat) : Int))]) (fun q_ => [Item.cells bs [.int .i64 room, .int .i64 (((q_.2.1).length : Nat) : Int), .int .i64 ((q_.2.2.1 : Nat) : Int), .slice q_.2.2.2.1 ((q_.2.1).length - (q_.2.2.1)) q_.2.2.2.2.1] 57, Item.own w0.heap.size q_.2.2.2.1 ((q_.2.1).length - (q_.2.2.1)) q_.2.2.2.2.1 32 4 (cellsOf enc32 (keptL (q_.2.1) (q_.2.2.1))), Item.cells bt [.int .i64 room, .slice q_.2.2.2.2.2.1 ((q_.2.1).length) q_.2.2.2.2.2.2, .int .i64 ((q_.2.2.1 : Nat) : Int)] 64, Item.own w0.heap.size q_.2.2.2.2.2.1 ((q_.2.1).length) q_.2.2.2.2.2.2 9 1 (cellsOf encStr (q_.2.1))]) (fun q_ => q_.1 ≤ n ∧ q_.2.2.1 ≤ q_.2.1.length ∧ q_.2.1.length ≤ q_.1) (fun q_ => n - q_.1) 4 ((0, [], 0, none, 0, none, 0)) (⟨Nat.zero_le _, Nat.le_refl _, Nat.le_refl _⟩) ⟨rfl, rfl, rfl, rfl, rfl, rfl, rfl, rfl, rfl, rfl, rfl, rfl, rfl, rfl, rfl, rfl, rfl, rfl, rfl, rfl, rfl, rfl, rfl, rfl, rfl, rfl, rfl, rfl, rfl, rfl, rfl, rfl, rfl, rfl, rfl, rfl, rfl, rfl, rfl, rfl, rfl, rfl, rfl, rfl, rfl, rfl, rfl, rfl, rfl, rfl, rfl, rfl, rfl, rfl, rfl, rfl, rfl, rfl, rfl, rfl, trivial⟩ rfl ?_
    rintro ⟨i, B, d, ka, kc, ba, bc⟩ ⟨hi, hd, hB⟩
    try dsimp only at *
    refine WC.seq ?_
    refine WC.seq ?_
    refine WC.region ?_
    refine SL.pure rfl rfl rfl (PureOp.move rfl) ?_
    refine SL.pure rfl rfl rfl (PureOp.move rfl) ?_
    refine SL.pure rfl rfl rfl (PureOp.len rfl Try.underlying22) ?_
    refine SL.pure rfl rfl rfl (PureOp.lss rfl rfl) ?_
    refine SL.pure rfl rfl rfl (PureOp.move rfl) ?_
    refine SL.newg 42 true rfl ?_
    refine SL.gpure (c := 1) rfl rfl rfl rfl rfl rfl rfl (PureOp.move rfl) ?_
    refine SL.gpure (c := 1) rfl rfl rfl rfl rfl rfl rfl (PureOp.neqpnil1 rfl rfl Try.underlying24) ?_
    refine SL.pure rfl rfl rfl (PureOp.and_ rfl rfl rfl rfl) ?_
    refine SL.nil_then ?_
    refine WC.cond rfl (fun h2 => ?_) (fun h2 => ?_)
    · try simp only [Bool.and_eq_true, Bool.or_eq_true, Bool.not_eq_true', Bool.not_eq_false', Bool.and_eq_false_iff, Bool.or_eq_false_iff, decide_eq_true_eq, decide_eq_false_iff_not, Int.not_lt, Int.not_le, ne_eq, Decidable.not_not] at h2
      refine WC.skip ?_
      refine QX.then_ ?_
      refine WC.seq ?_
      refine WC.block ?_
      refine WC.seq ?_
      refine WC.seq ?_
      refine WC.region ?_
      refine SL.pure rfl rfl rfl (PureOp.move rfl) ?_
      refine SL.pure rfl rfl rfl (PureOp.move rfl) ?_
      refine SL.pure rfl rfl rfl (PureOp.indexAddrN Try.underlying22 sz34 rfl rfl (AoOk.in_ hl) (fun _ => by omega)) ?_
      refine SL.pure rfl rfl rfl (PureOp.fieldAddr 1 Try.underlying34 rfl rfl sz32 rfl) ?_
      refine SL.pure rfl rfl rfl (PureOp.fieldAddr 3 Try.underlying32 rfl rfl sz9 rfl) ?_
      refine SL.pure rfl rfl rfl (PureOp.load (v := .string ((nth l i).2.2.2.2)) Try.underlying9 rfl rfl (fun _ => (CellIs.in_ hl i 4 (by omega) (by omega)))) ?_
      refine SL.pure rfl rfl rfl (PureOp.lens rfl Try.underlying9) ?_
      refine SL.pure rfl rfl rfl (PureOp.gtr rfl rfl) ?_
      refine SL.nil_then ?_
      refine WC.cond rfl (fun h3 => ?_) (fun h3 => ?_)
      · try simp only [Bool.and_eq_true, Bool.or_eq_true, Bool.not_eq_true', Bool.not_eq_false', Bool.and_eq_false_iff, Bool.or_eq_false_iff, decide_eq_true_eq, decide_eq_false_iff_not, Int.not_lt, Int.not_le, ne_eq, Decidable.not_not] at h3
        refine WC.seq ?_
        refine WC.region ?_
        refine SL.calle rfl rfl rfl rfl rfl rfl callable7 (fun w hw => awake_ok w) ?_
        refine SL.norm [_, _, _, _] rfl ?_
        refine SL.pure rfl rfl rfl (PureOp.assign rfl) ?_
        refine SL.nil_then ?_
        refine WC.ret ?_
        refine QX.ret_then ?_
        refine QX.ret_in ?_
        refine QX.ret_then ?_
        refine QX.ret_then ?_
        refine QX.ret_in ?_
        refine QX.ret_then ?_
        refine QX.ret1 rfl rfl ?_
        intro w hw
        rfl
      · try simp only [Bool.and_eq_true, Bool.or_eq_true, Bool.not_eq_true', Bool.not_eq_false', Bool.and_eq_false_iff, Bool.or_eq_false_iff, decide_eq_true_eq, decide_eq_false_iff_not, Int.not_lt, Int.not_le, ne_eq, Decidable.not_not] at h3
        refine WC.skip ?_
        refine QX.then_ ?_
        refine WC.seq ?_
        refine WC.seq ?_
        refine WC.region ?_
        refine SL.pure rfl rfl rfl (PureOp.move rfl) ?_
        refine SL.pure rfl rfl rfl (PureOp.move rfl) ?_
        refine SL.pure rfl rfl rfl (PureOp.indexAddrN Try.underlying22 sz34 rfl rfl (AoOk.in_ hl) (fun _ => by omega)) ?_
        refine SL.pure rfl rfl rfl (PureOp.fieldAddr 0 Try.underlying34 rfl rfl sz4 rfl) ?_
        refine SL.pure rfl rfl rfl (PureOp.load (v := .bool ((nth l i).1)) Try.underlying4 rfl rfl (fun _ => (CellIs.in_ hl i 0 (by omega) (by omega)))) ?_
        refine SL.nil_then ?_
        refine WC.cond rfl (fun h4 => ?_) (fun h4 => ?_)
        · try simp only [Bool.and_eq_true, Bool.or_eq_true, Bool.not_eq_true', Bool.not_eq_false', Bool.and_eq_false_iff, Bool.or_eq_false_iff, decide_eq_true_eq, decide_eq_false_iff_not, Int.not_lt, Int.not_le, ne_eq, Decidable.not_not] at h4
          refine WC.seq ?_
          refine WC.region ?_
          refine SL.pure rfl rfl rfl (PureOp.move rfl) ?_
          refine SL.pure rfl rfl rfl (PureOp.move rfl) ?_
          refine SL.pure rfl rfl rfl (PureOp.move rfl) ?_
          refine SL.pure rfl rfl rfl (PureOp.indexAddrN Try.underlying22 sz34 rfl rfl (AoOk.in_ hl) (fun _ => by omega)) ?_
          refine SL.pure rfl rfl rfl (PureOp.fieldAddr 1 Try.underlying34 rfl rfl sz32 rfl) ?_
          refine SL.pure rfl rfl rfl (PureOp.fieldAddr 3 Try.underlying32 rfl rfl sz9 rfl) ?_
          refine SL.pure rfl rfl rfl (PureOp.load (v := .string ((nth l i).2.2.2.2)) Try.underlying9 rfl rfl (fun _ => (CellIs.in_ hl i 4 (by omega) (by omega)))) ?_
          refine SL.callM [0, 1] rfl rfl rfl rfl rfl rfl callable10 (by decide) (send_ok bs room B d ka (B.length - d) kc hr.1 hd rfl (by omega) w0 (nth l i).2.2.2.2) rfl (fun _ _ => rfl) ?_
          rintro ⟨ka2, kc2⟩ _
          refine SL.norm [_, _, _, _] rfl ?_
          refine SL.pure rfl rfl rfl (PureOp.move rfl) ?_
          refine SL.pure rfl rfl rfl (PureOp.extract rfl rfl) ?_
          refine SL.pure rfl rfl rfl (PureOp.extract rfl rfl) ?_
          refine SL.alloc rfl rfl zero32 (fun b1 hb1 => ?_)
          refine SL.norm [_, _, _, _, _] rfl ?_
          refine SL.store 4 rfl rfl rfl rfl sz32 rfl rfl ?_
          refine SL.norm [_, _, _, _, _] rfl ?_
          refine SL.pure rfl rfl rfl (PureOp.assign rfl) ?_
          refine SL.nil_then ?_
          refine WC.seq ?_
          refine WC.region ?_
          refine SL.pure rfl rfl rfl (PureOp.move rfl) ?_
          refine SL.pure rfl rfl rfl (PureOp.move rfl) ?_
          refine SL.pure rfl rfl rfl (PureOp.move rfl) ?_
          refine SL.pure rfl rfl rfl (PureOp.indexAddrN Try.underlying22 sz34 rfl rfl (AoOk.in_ hl) (fun _ => by omega)) ?_
          refine SL.pure rfl rfl rfl (PureOp.fieldAddr 1 Try.underlying34 rfl rfl sz32 rfl) ?_
          refine SL.pure rfl rfl rfl (PureOp.fieldAddr 3 Try.underlying32 rfl rfl sz9 rfl) ?_
          refine SL.pure rfl rfl rfl (PureOp.load (v := .string ((nth l i).2.2.2.2)) Try.underlying9 rfl rfl (fun _ => (CellIs.in_ hl i 4 (by omega) (by omega)))) ?_
          refine SL.callM [2, 3] rfl rfl rfl rfl rfl rfl callable11 (by decide) (rsend_ok bt room B d ba bc hd (by omega) w0 (nth l i).2.2.2.2) rfl (fun _ _ => rfl) ?_
          rintro ⟨ba2, bc2⟩ _
          refine SL.norm [_, _, _, _, _] rfl ?_
          refine SL.pure rfl rfl rfl (PureOp.move rfl) ?_
          refine SL.pure rfl rfl rfl (PureOp.extract rfl rfl) ?_
          refine SL.pure rfl rfl rfl (PureOp.extract rfl rfl) ?_
          refine SL.alloc rfl rfl zero32 (fun b2 hb2 => ?_)
          refine SL.norm [_, _, _, _, _, _] rfl ?_
          refine SL.store 5 rfl rfl rfl rfl sz32 rfl rfl ?_
          refine SL.norm [_, _, _, _, _, _] rfl ?_
          refine SL.pure rfl rfl rfl (PureOp.assign rfl) ?_
          refine SL.nil_then ?_
          refine WC.seq ?_
          refine WC.region ?_
          refine SL.pure rfl rfl rfl (PureOp.loads (vs := [.int .i64 ((sendM room B d (nth l i).2.2.2.2).1), .int .i64 ((sendM room B d (nth l i).2.2.2.2).2.1), .int .i64 ((sendM room B d (nth l i).2.2.2.2).2.2.1), .string ((sendM room B d (nth l i).2.2.2.2).2.2.2)]) Try.underlying32 rfl rfl (fun _ => (RowIs.cells 4 0 4 rfl rfl)) sz32) ?_
          refine SL.pure rfl rfl rfl (PureOp.loads (vs := [.int .i64 ((sendM room B d (nth l i).2.2.2.2).1), .int .i64 ((sendM room B d (nth l i).2.2.2.2).2.1), .int .i64 ((sendM room B d (nth l i).2.2.2.2).2.2.1), .string ((sendM room B d (nth l i).2.2.2.2).2.2.2)]) Try.underlying32 rfl rfl (fun _ => (RowIs.cells 5 0 4 rfl rfl)) sz32) ?_
          refine SL.pure rfl rfl rfl (PureOp.neqa rfl rfl flat32 rfl) ?_
          refine SL.lit 86 false rfl (by rw [eqB_refl (ks := [0, 0, 0, 1]) rfl]; rfl) ?_
          refine SL.pure rfl rfl rfl (PureOp.move rfl) ?_
          refine SL.ung rfl rfl rfl rfl ?_
          refine SL.pure rfl rfl rfl (PureOp.move rfl) ?_
          refine SL.ung rfl rfl rfl rfl ?_
          refine SL.pure rfl rfl rfl (PureOp.move rfl) ?_
          refine SL.ung rfl rfl rfl rfl ?_
          refine SL.pure rfl rfl rfl (PureOp.neq rfl rfl) ?_
          refine SL.lit 90 false rfl (by simp) ?_
          refine SL.pure rfl rfl rfl (PureOp.pickF rfl rfl) ?_
          refine SL.nil_then ?_
          refine WC.condF rfl ?_
          refine WC.skip ?_
          refine QX.then_ ?_
          refine WC.seq ?_
          refine WC.region ?_
          refine SL.pure rfl rfl rfl (PureOp.move rfl) ?_
          refine SL.callo (fun aa ac => .slice aa ((sendB room B d (nth l i).2.2.2.2).length - d) ac) rfl rfl rfl rfl rfl rfl callable15 (fun w hw => sagain_ok bs room (sendB room B d (nth l i).2.2.2.2) d _ _ _ hr.1 (by have q1 := sendB_le (room := room) (B := B) (d := d) (b := (nth l i).2.2.2.2); have q2 := ackD_le (m := (nth l i).2) hd; omega) rfl (by have q1 := sendB_le (room := room) (B := B) (d := d) (b := (nth l i).2.2.2.2); have q2 := ackD_le (m := (nth l i).2) hd; omega) w (ObjIn.of hw 0 rfl) (SliceIn.rows (hw.mem (i := 1) rfl) enc32_len (by rw [keptL_len]; exact Nat.le_refl _))) (fun aa ac => ?_)
          refine SL.norm [_, _, _, _, _, _, _] rfl ?_
          refine SL.pure rfl rfl rfl (PureOp.move rfl) ?_
          refine SL.callo (fun ra rc => .slice ra ((sendB room B d (nth l i).2.2.2.2).length - d) rc) rfl rfl rfl rfl rfl rfl callable16 (fun w hw => ragain_ok bt room (sendB room B d (nth l i).2.2.2.2) d _ _ (by have q1 := sendB_le (room := room) (B := B) (d := d) (b := (nth l i).2.2.2.2); have q2 := ackD_le (m := (nth l i).2) hd; omega) (by have q1 := sendB_le (room := room) (B := B) (d := d) (b := (nth l i).2.2.2.2); have q2 := ackD_le (m := (nth l i).2) hd; omega) w (ObjIn.of hw 2 rfl) (SliceIn.rows (hw.mem (i := 3) rfl) encStr_len (Nat.le_refl _))) (fun ra rc => ?_)
          refine SL.norm [_, _, _, _, _, _, _, _] rfl ?_
          refine SL.calle rfl rfl rfl rfl rfl rfl callable14 (fun w hw => samem_ok (keptL (sendB room B d (nth l i).2.2.2.2) d) _ _ _ _ _ _ (by rw [keptL_len]) (by rw [keptL_len]) w (SliceIn.rows (hw.mem (i := 6) rfl) enc32_len (by rw [keptL_len]; exact Nat.le_refl _)) (SliceIn.rows (hw.mem (i := 7) rfl) enc32_len (by rw [keptL_len]; exact Nat.le_refl _)) (by have q1 := sendB_le (room := room) (B := B) (d := d) (b := (nth l i).2.2.2.2); have q2 := ackD_le (m := (nth l i).2) hd; omega)) ?_
          refine SL.norm [_, _, _, _, _, _, _, _] rfl ?_
          refine SL.pure rfl rfl rfl (PureOp.not rfl) ?_
          refine SL.pure rfl rfl rfl (PureOp.move rfl) ?_
          refine SL.ung rfl rfl rfl rfl ?_
          refine SL.pure rfl rfl rfl (PureOp.move rfl) ?_
          refine SL.ung rfl rfl rfl rfl ?_
          refine SL.calle rfl rfl rfl rfl rfl rfl callable17 (fun w hw => slast_ok bs room (sendB room B d (nth l i).2.2.2.2) d _ _ _ hr.1 (by have q1 := sendB_le (room := room) (B := B) (d := d) (b := (nth l i).2.2.2.2); have q2 := ackD_le (m := (nth l i).2) hd; omega) rfl (by have q1 := sendB_le (room := room) (B := B) (d := d) (b := (nth l i).2.2.2.2); have q2 := ackD_le (m := (nth l i).2) hd; omega) w (ObjIn.of hw 0 rfl)) ?_
          refine SL.norm [_, _, _, _, _, _, _, _] rfl ?_
          refine SL.ung rfl rfl rfl rfl ?_
          refine SL.pure rfl rfl rfl (PureOp.move rfl) ?_
          refine SL.ung rfl rfl rfl rfl ?_
          refine SL.calle rfl rfl rfl rfl rfl rfl callable18 (fun w hw => rlast_ok bt room (sendB room B d (nth l i).2.2.2.2) d _ _ (by have q1 := sendB_le (room := room) (B := B) (d := d) (b := (nth l i).2.2.2.2); have q2 := ackD_le (m := (nth l i).2) hd; omega) (by have q1 := sendB_le (room := room) (B := B) (d := d) (b := (nth l i).2.2.2.2); have q2 := ackD_le (m := (nth l i).2) hd; omega) w (ObjIn.of hw 2 rfl)) ?_
          refine SL.norm [_, _, _, _, _, _, _, _] rfl ?_
          refine SL.ung rfl rfl rfl rfl ?_
          refine SL.pure rfl rfl rfl (PureOp.neq rfl rfl) ?_
          refine SL.lit 118 false rfl (by simp) ?_
          refine SL.pure rfl rfl rfl (PureOp.pickF rfl rfl) ?_
          refine SL.pure rfl rfl rfl (PureOp.move rfl) ?_
          refine SL.ung rfl rfl rfl rfl ?_
          refine SL.pure rfl rfl rfl (PureOp.move rfl) ?_
          refine SL.ung rfl rfl rfl rfl ?_
          refine SL.calle rfl rfl rfl rfl rfl rfl callable19 (fun w hw => skept_ok bs room (sendB room B d (nth l i).2.2.2.2) d _ _ _ hr.1 (by have q1 := sendB_le (room := room) (B := B) (d := d) (b := (nth l i).2.2.2.2); have q2 := ackD_le (m := (nth l i).2) hd; omega) rfl (by have q1 := sendB_le (room := room) (B := B) (d := d) (b := (nth l i).2.2.2.2); have q2 := ackD_le (m := (nth l i).2) hd; omega) w (ObjIn.of hw 0 rfl) (SliceIn.rows (hw.mem (i := 1) rfl) enc32_len (by rw [keptL_len]; exact Nat.le_refl _))) ?_
          refine SL.norm [_, _, _, _, _, _, _, _] rfl ?_
          refine SL.ung rfl rfl rfl rfl ?_
          refine SL.pure rfl rfl rfl (PureOp.move rfl) ?_
          refine SL.ung rfl rfl rfl rfl ?_
          refine SL.calle rfl rfl rfl rfl rfl rfl callable20 (fun w hw => rkept_ok bt room (sendB room B d (nth l i).2.2.2.2) d _ _ (by have q1 := sendB_le (room := room) (B := B) (d := d) (b := (nth l i).2.2.2.2); have q2 := ackD_le (m := (nth l i).2) hd; omega) (by have q1 := sendB_le (room := room) (B := B) (d := d) (b := (nth l i).2.2.2.2); have q2 := ackD_le (m := (nth l i).2) hd; omega) w (ObjIn.of hw 2 rfl)) ?_
          refine SL.norm [_, _, _, _, _, _, _, _] rfl ?_
          refine SL.ung rfl rfl rfl rfl ?_
          refine SL.pure rfl rfl rfl (PureOp.neq rfl rfl) ?_
          refine SL.lit 125 false rfl (by simp) ?_
          refine SL.pure rfl rfl rfl (PureOp.pickF rfl rfl) ?_
          refine SL.nil_then ?_
          refine WC.condF rfl ?_
          refine WC.skip ?_
          refine QX.normal_in ?_
          refine QX.then_ ?_
          refine WC.region ?_
          refine SL.pure rfl rfl rfl (PureOp.move rfl) ?_
          refine SL.pure rfl rfl rfl (PureOp.addN (k := 1) rfl rfl (fun _ => by omega)) ?_
          refine SL.pure rfl rfl rfl (PureOp.assign rfl) ?_
          refine SL.nil ?_
          refine QX.round (σ := Nat × List ByteArray × Nat × Option Addr × Nat × Option Addr × Nat) (Ef := fun q_ => [(0, 0, .int .i64 room), (1, 0, .slice al n cl), (5, 0, .pointer (some ⟨bs, 0, none⟩)), (6, 0, .int .i64 0), (7, 0, .pointer (some ⟨bt, 0, none⟩)), (8, 0, .int .i64 0), (14, 0, .slice al n cl), (15, 0, .int .i64 ((n : Nat) : Int)), (16, 0, .bool (decide (40 < ((n : Nat) : Int)))), (18, 0, .tuple #[.pointer (some ⟨bs, 0, none⟩), .int .i64 0]), (19, 0, .int .i64 room), (20, 0, .tuple #[.pointer (some ⟨bs, 0, none⟩), .int .i64 0]), (21, 0, .pointer (some ⟨bs, 0, none⟩)), (22, 0, .int .i64 0), (23, 0, .tuple #[.pointer (some ⟨bt, 0, none⟩), .int .i64 0]), (24, 0, .int .i64 room), (25, 0, .tuple #[.pointer (some ⟨bt, 0, none⟩), .int .i64 0]), (26, 0, .pointer (some ⟨bt, 0, none⟩)), (27, 0, .int .i64 0), (28, 0, .int .i64 0), (29, 0, .int .i64 0), (30, 0, .bool false), (31, 0, .bool false), (32, 0, .pointer (some ⟨bs, 0, none⟩)), (33, 0, .bool false), (34, 0, .pointer (some ⟨bt, 0, none⟩)), (35, 0, .bool false), (36, 0, .bool false), (37, 0, .bool false), (9, 0, .int .i64 ((q_.1 : Nat) : Int))]) (Hf := fun q_ => [Item.cells bs [.int .i64 room, .int .i64 (((q_.2.1).length : Nat) : Int), .int .i64 ((q_.2.2.1 : Nat) : Int), .slice q_.2.2.2.1 ((q_.2.1).length - (q_.2.2.1)) q_.2.2.2.2.1] 57, Item.own w0.heap.size q_.2.2.2.1 ((q_.2.1).length - (q_.2.2.1)) q_.2.2.2.2.1 32 4 (cellsOf enc32 (keptL (q_.2.1) (q_.2.2.1))), Item.cells bt [.int .i64 room, .slice q_.2.2.2.2.2.1 ((q_.2.1).length) q_.2.2.2.2.2.2, .int .i64 ((q_.2.2.1 : Nat) : Int)] 64, Item.own w0.heap.size q_.2.2.2.2.2.1 ((q_.2.1).length) q_.2.2.2.2.2.2 9 1 (cellsOf encStr (q_.2.1))]) (I := fun q_ => q_.1 ≤ n ∧ q_.2.2.1 ≤ q_.2.1.length ∧ q_.2.1.length ≤ q_.1) (μ := fun q_ => n - q_.1) (s := (i, B, d, ka, kc, ba, bc)) 4 ((i + 1, sendB room B d (nth l i).2.2.2.2, d, ka2, kc2, ba2, bc2)) ⟨⟨(by first | omega | (dsimp only; omega)), (by have q1 := sendB_le (room := room) (B := B) (d := d) (b := (nth l i).2.2.2.2); have q2 := ackD_le (m := (nth l i).2) hd; first | omega | (dsimp only; omega)), (by have q1 := sendB_le (room := room) (B := B) (d := d) (b := (nth l i).2.2.2.2); have q2 := ackD_le (m := (nth l i).2) hd; first | omega | (dsimp only; omega))⟩, by first | omega | (dsimp only; omega)⟩ ⟨rfl, rfl, rfl, rfl, rfl, rfl, rfl, rfl, rfl, rfl, rfl, rfl, rfl, rfl, rfl, rfl, rfl, rfl, rfl, rfl, rfl, rfl, rfl, rfl, rfl, rfl, rfl, rfl, rfl, rfl, rfl, rfl, rfl, rfl, rfl, rfl, rfl, rfl, rfl, rfl, rfl, rfl, rfl, rfl, rfl, rfl, rfl, rfl, rfl, rfl, rfl, rfl, rfl, rfl, rfl, rfl, rfl, rfl, rfl, rfl, trivial⟩ rfl
        · try simp only [Bool.and_eq_true, Bool.or_eq_true, Bool.not_eq_true', Bool.not_eq_false', Bool.and_eq_false_iff, Bool.or_eq_false_iff, decide_eq_true_eq, decide_eq_false_iff_not, Int.not_lt, Int.not_le, ne_eq, Decidable.not_not] at h4
          refine WC.seq ?_
          refine WC.drawh ([Item.triv, Item.triv, Item.triv, Item.triv]) 15 [false, false, false, false, false, false, false, false, false, false, false, false, false, false, false] rfl rfl rfl ?_
          refine SD.take 0 [true, false, false, false, false, false, false, false, false, false, false, false, false, false, false] rfl (by kernel_rfl) rfl (fun _ h => (HeapOk.settriv (HeapOk.settriv (HeapOk.settriv (HeapOk.settriv h (i := 0) rfl) (i := 1) rfl) (i := 2) rfl) (i := 3) rfl)) rfl rfl rfl (PureOp.move rfl) ?_
          refine SD.take 1 [true, true, false, false, false, false, false, false, false, false, false, false, false, false, false] rfl (by kernel_rfl) rfl (fun _ h => (HeapOk.settriv (HeapOk.settriv (HeapOk.settriv (HeapOk.settriv h (i := 0) rfl) (i := 1) rfl) (i := 2) rfl) (i := 3) rfl)) rfl rfl rfl (PureOp.move rfl) ?_
          refine SD.take 2 [true, true, true, false, false, false, false, false, false, false, false, false, false, false, false] rfl (by kernel_rfl) rfl (fun _ h => (HeapOk.settriv (HeapOk.settriv (HeapOk.settriv (HeapOk.settriv h (i := 0) rfl) (i := 1) rfl) (i := 2) rfl) (i := 3) rfl)) rfl rfl rfl (PureOp.move rfl) ?_
          refine SD.take 3 [true, true, true, true, false, false, false, false, false, false, false, false, false, false, false] rfl (by kernel_rfl) rfl (fun _ h => (HeapOk.settriv (HeapOk.settriv (HeapOk.settriv (HeapOk.settriv h (i := 0) rfl) (i := 1) rfl) (i := 2) rfl) (i := 3) rfl)) rfl rfl rfl (PureOp.indexAddrN Try.underlying22 sz34 rfl rfl (AoOk.in_ hl) (fun _ => by omega)) ?_
          refine SD.take 4 [true, true, true, true, true, false, false, false, false, false, false, false, false, false, false] rfl (by kernel_rfl) rfl (fun _ h => (HeapOk.settriv (HeapOk.settriv (HeapOk.settriv (HeapOk.settriv h (i := 0) rfl) (i := 1) rfl) (i := 2) rfl) (i := 3) rfl)) rfl rfl rfl (PureOp.fieldAddr 1 Try.underlying34 rfl rfl sz32 rfl) ?_
          refine SD.take 5 [true, true, true, true, true, true, false, false, false, false, false, false, false, false, false] rfl (by kernel_rfl) rfl (fun _ h => (HeapOk.settriv (HeapOk.settriv (HeapOk.settriv (HeapOk.settriv h (i := 0) rfl) (i := 1) rfl) (i := 2) rfl) (i := 3) rfl)) rfl rfl rfl (PureOp.loads (vs := [.int .i64 ((nth l i).2.1), .int .i64 ((nth l i).2.2.1), .int .i64 ((nth l i).2.2.2.1), .string ((nth l i).2.2.2.2)]) Try.underlying32 rfl rfl (fun _ => (RowIs.in_ hl i 1 4 (by omega) (by omega))) sz32) ?_
          refine SD.take 7 [true, true, true, true, true, true, false, true, false, false, false, false, false, false, false] rfl (by kernel_rfl) rfl (fun _ h => (HeapOk.settriv (HeapOk.settriv (HeapOk.settriv (HeapOk.settriv h (i := 0) rfl) (i := 1) rfl) (i := 2) rfl) (i := 3) rfl)) rfl rfl rfl (PureOp.move rfl) ?_
          refine SD.take 8 [true, true, true, true, true, true, false, true, true, false, false, false, false, false, false] rfl (by kernel_rfl) rfl (fun _ h => (HeapOk.settriv (HeapOk.settriv (HeapOk.settriv (HeapOk.settriv h (i := 0) rfl) (i := 1) rfl) (i := 2) rfl) (i := 3) rfl)) rfl rfl rfl (PureOp.move rfl) ?_
          refine SD.take 9 [true, true, true, true, true, true, false, true, true, true, false, false, false, false, false] rfl (by kernel_rfl) rfl (fun _ h => (HeapOk.settriv (HeapOk.settriv (HeapOk.settriv (HeapOk.settriv h (i := 0) rfl) (i := 1) rfl) (i := 2) rfl) (i := 3) rfl)) rfl rfl rfl (PureOp.move rfl) ?_
          refine SD.take 10 [true, true, true, true, true, true, false, true, true, true, true, false, false, false, false] rfl (by kernel_rfl) rfl (fun _ h => (HeapOk.settriv (HeapOk.settriv (HeapOk.settriv (HeapOk.settriv h (i := 0) rfl) (i := 1) rfl) (i := 2) rfl) (i := 3) rfl)) rfl rfl rfl (PureOp.indexAddrN Try.underlying22 sz34 rfl rfl (AoOk.in_ hl) (fun _ => by omega)) ?_
          refine SD.take 11 [true, true, true, true, true, true, false, true, true, true, true, true, false, false, false] rfl (by kernel_rfl) rfl (fun _ h => (HeapOk.settriv (HeapOk.settriv (HeapOk.settriv (HeapOk.settriv h (i := 0) rfl) (i := 1) rfl) (i := 2) rfl) (i := 3) rfl)) rfl rfl rfl (PureOp.fieldAddr 1 Try.underlying34 rfl rfl sz32 rfl) ?_
          refine SD.take 12 [true, true, true, true, true, true, false, true, true, true, true, true, true, false, false] rfl (by kernel_rfl) rfl (fun _ h => (HeapOk.settriv (HeapOk.settriv (HeapOk.settriv (HeapOk.settriv h (i := 0) rfl) (i := 1) rfl) (i := 2) rfl) (i := 3) rfl)) rfl rfl rfl (PureOp.loads (vs := [.int .i64 ((nth l i).2.1), .int .i64 ((nth l i).2.2.1), .int .i64 ((nth l i).2.2.2.1), .string ((nth l i).2.2.2.2)]) Try.underlying32 rfl rfl (fun _ => (RowIs.in_ hl i 1 4 (by omega) (by omega))) sz32) ?_
          refine SD.one 6 [true, true, true, true, true, true, true, true, true, true, true, true, true, false, false] (by kernel_rfl) rfl rfl ?_
          refine SL.callM [0, 1] rfl rfl rfl rfl rfl rfl callable12 (by decide) (acked_ok bs room B d ka (B.length - d) kc hr.1 hd rfl (by omega) w0 (nth l i).2) rfl (fun _ _ => rfl) ?_
          rintro ⟨ka2, kc2⟩ _
          refine SL.norm [_, _, _, _] rfl ?_
          refine SD.back (fun _ h => (HeapOk.settriv (HeapOk.settriv (HeapOk.settriv (HeapOk.settriv h (i := 0) rfl) (i := 1) rfl) (i := 2) rfl) (i := 3) rfl)) ?_
          refine SD.one 13 [true, true, true, true, true, true, true, true, true, true, true, true, true, true, false] (by kernel_rfl) rfl rfl ?_
          refine SL.callM [2, 3] rfl rfl rfl rfl rfl rfl callable13 (by decide) (racked_ok bt room B d ba bc hd (by omega) w0 (nth l i).2) rfl (fun _ _ => rfl) ?_
          rintro ⟨ba2, bc2⟩ _
          refine SL.norm [_, _, _, _] rfl ?_
          refine SD.back (fun _ h => (HeapOk.settriv (HeapOk.settriv (HeapOk.settriv (HeapOk.settriv h (i := 0) rfl) (i := 1) rfl) (i := 2) rfl) (i := 3) rfl)) ?_
          refine SD.take 14 [true, true, true, true, true, true, true, true, true, true, true, true, true, true, true] rfl (by kernel_rfl) rfl (fun _ h => (HeapOk.settriv (HeapOk.settriv (HeapOk.settriv (HeapOk.settriv h (i := 0) rfl) (i := 1) rfl) (i := 2) rfl) (i := 3) rfl)) rfl rfl rfl (PureOp.neq rfl rfl) ?_
          refine SD.lit 106 false rfl (by simp) ?_
          refine SD.done (by kernel_rfl) ?_
          refine QX.ofK ?_
          refine QX.then_ ?_
          refine WC.condF rfl ?_
          refine WC.skip ?_
          refine QX.then_ ?_
          refine WC.seq ?_
          refine WC.region ?_
          refine SL.pure rfl rfl rfl (PureOp.move rfl) ?_
          refine SL.callo (fun aa ac => .slice aa (B.length - (ackD B d (nth l i).2)) ac) rfl rfl rfl rfl rfl rfl callable15 (fun w hw => sagain_ok bs room B (ackD B d (nth l i).2) _ _ _ hr.1 (by have q1 := sendB_le (room := room) (B := B) (d := d) (b := (nth l i).2.2.2.2); have q2 := ackD_le (m := (nth l i).2) hd; omega) rfl (by have q1 := sendB_le (room := room) (B := B) (d := d) (b := (nth l i).2.2.2.2); have q2 := ackD_le (m := (nth l i).2) hd; omega) w (ObjIn.of hw 0 rfl) (SliceIn.rows (hw.mem (i := 1) rfl) enc32_len (by rw [keptL_len]; exact Nat.le_refl _))) (fun aa ac => ?_)
          refine SL.norm [_, _, _, _, _] rfl ?_
          refine SL.pure rfl rfl rfl (PureOp.move rfl) ?_
          refine SL.callo (fun ra rc => .slice ra (B.length - (ackD B d (nth l i).2)) rc) rfl rfl rfl rfl rfl rfl callable16 (fun w hw => ragain_ok bt room B (ackD B d (nth l i).2) _ _ (by have q1 := sendB_le (room := room) (B := B) (d := d) (b := (nth l i).2.2.2.2); have q2 := ackD_le (m := (nth l i).2) hd; omega) (by have q1 := sendB_le (room := room) (B := B) (d := d) (b := (nth l i).2.2.2.2); have q2 := ackD_le (m := (nth l i).2) hd; omega) w (ObjIn.of hw 2 rfl) (SliceIn.rows (hw.mem (i := 3) rfl) encStr_len (Nat.le_refl _))) (fun ra rc => ?_)
          refine SL.norm [_, _, _, _, _, _] rfl ?_
          refine SL.calle rfl rfl rfl rfl rfl rfl callable14 (fun w hw => samem_ok (keptL B (ackD B d (nth l i).2)) _ _ _ _ _ _ (by rw [keptL_len]) (by rw [keptL_len]) w (SliceIn.rows (hw.mem (i := 4) rfl) enc32_len (by rw [keptL_len]; exact Nat.le_refl _)) (SliceIn.rows (hw.mem (i := 5) rfl) enc32_len (by rw [keptL_len]; exact Nat.le_refl _)) (by have q1 := sendB_le (room := room) (B := B) (d := d) (b := (nth l i).2.2.2.2); have q2 := ackD_le (m := (nth l i).2) hd; omega)) ?_
          refine SL.norm [_, _, _, _, _, _] rfl ?_
          refine SL.pure rfl rfl rfl (PureOp.not rfl) ?_
          refine SL.pure rfl rfl rfl (PureOp.move rfl) ?_
          refine SL.ung rfl rfl rfl rfl ?_
          refine SL.pure rfl rfl rfl (PureOp.move rfl) ?_
          refine SL.ung rfl rfl rfl rfl ?_
          refine SL.calle rfl rfl rfl rfl rfl rfl callable17 (fun w hw => slast_ok bs room B (ackD B d (nth l i).2) _ _ _ hr.1 (by have q1 := sendB_le (room := room) (B := B) (d := d) (b := (nth l i).2.2.2.2); have q2 := ackD_le (m := (nth l i).2) hd; omega) rfl (by have q1 := sendB_le (room := room) (B := B) (d := d) (b := (nth l i).2.2.2.2); have q2 := ackD_le (m := (nth l i).2) hd; omega) w (ObjIn.of hw 0 rfl)) ?_
          refine SL.norm [_, _, _, _, _, _] rfl ?_
          refine SL.ung rfl rfl rfl rfl ?_
          refine SL.pure rfl rfl rfl (PureOp.move rfl) ?_
          refine SL.ung rfl rfl rfl rfl ?_
          refine SL.calle rfl rfl rfl rfl rfl rfl callable18 (fun w hw => rlast_ok bt room B (ackD B d (nth l i).2) _ _ (by have q1 := sendB_le (room := room) (B := B) (d := d) (b := (nth l i).2.2.2.2); have q2 := ackD_le (m := (nth l i).2) hd; omega) (by have q1 := sendB_le (room := room) (B := B) (d := d) (b := (nth l i).2.2.2.2); have q2 := ackD_le (m := (nth l i).2) hd; omega) w (ObjIn.of hw 2 rfl)) ?_
          refine SL.norm [_, _, _, _, _, _] rfl ?_
          refine SL.ung rfl rfl rfl rfl ?_
          refine SL.pure rfl rfl rfl (PureOp.neq rfl rfl) ?_
          refine SL.lit 118 false rfl (by simp) ?_
          refine SL.pure rfl rfl rfl (PureOp.pickF rfl rfl) ?_
          refine SL.pure rfl rfl rfl (PureOp.move rfl) ?_
          refine SL.ung rfl rfl rfl rfl ?_
          refine SL.pure rfl rfl rfl (PureOp.move rfl) ?_
          refine SL.ung rfl rfl rfl rfl ?_
          refine SL.calle rfl rfl rfl rfl rfl rfl callable19 (fun w hw => skept_ok bs room B (ackD B d (nth l i).2) _ _ _ hr.1 (by have q1 := sendB_le (room := room) (B := B) (d := d) (b := (nth l i).2.2.2.2); have q2 := ackD_le (m := (nth l i).2) hd; omega) rfl (by have q1 := sendB_le (room := room) (B := B) (d := d) (b := (nth l i).2.2.2.2); have q2 := ackD_le (m := (nth l i).2) hd; omega) w (ObjIn.of hw 0 rfl) (SliceIn.rows (hw.mem (i := 1) rfl) enc32_len (by rw [keptL_len]; exact Nat.le_refl _))) ?_
          refine SL.norm [_, _, _, _, _, _] rfl ?_
          refine SL.ung rfl rfl rfl rfl ?_
          refine SL.pure rfl rfl rfl (PureOp.move rfl) ?_
          refine SL.ung rfl rfl rfl rfl ?_
          refine SL.calle rfl rfl rfl rfl rfl rfl callable20 (fun w hw => rkept_ok bt room B (ackD B d (nth l i).2) _ _ (by have q1 := sendB_le (room := room) (B := B) (d := d) (b := (nth l i).2.2.2.2); have q2 := ackD_le (m := (nth l i).2) hd; omega) (by have q1 := sendB_le (room := room) (B := B) (d := d) (b := (nth l i).2.2.2.2); have q2 := ackD_le (m := (nth l i).2) hd; omega) w (ObjIn.of hw 2 rfl)) ?_
          refine SL.norm [_, _, _, _, _, _] rfl ?_
          refine SL.ung rfl rfl rfl rfl ?_
          refine SL.pure rfl rfl rfl (PureOp.neq rfl rfl) ?_
          refine SL.lit 125 false rfl (by simp) ?_
          refine SL.pure rfl rfl rfl (PureOp.pickF rfl rfl) ?_
          refine SL.nil_then ?_
          refine WC.condF rfl ?_
          refine WC.skip ?_
          refine QX.normal_in ?_
          refine QX.then_ ?_
          refine WC.region ?_
          refine SL.pure rfl rfl rfl (PureOp.move rfl) ?_
          refine SL.pure rfl rfl rfl (PureOp.addN (k := 1) rfl rfl (fun _ => by omega)) ?_
          refine SL.pure rfl rfl rfl (PureOp.assign rfl) ?_
          refine SL.nil ?_
          refine QX.round (σ := Nat × List ByteArray × Nat × Option Addr × Nat × Option Addr × Nat) (Ef := fun q_ => [(0, 0, .int .i64 room), (1, 0, .slice al n cl), (5, 0, .pointer (some ⟨bs, 0, none⟩)), (6, 0, .int .i64 0), (7, 0, .pointer (some ⟨bt, 0, none⟩)), (8, 0, .int .i64 0), (14, 0, .slice al n cl), (15, 0, .int .i64 ((n : Nat) : Int)), (16, 0, .bool (decide (40 < ((n : Nat) : Int)))), (18, 0, .tuple #[.pointer (some ⟨bs, 0, none⟩), .int .i64 0]), (19, 0, .int .i64 room), (20, 0, .tuple #[.pointer (some ⟨bs, 0, none⟩), .int .i64 0]), (21, 0, .pointer (some ⟨bs, 0, none⟩)), (22, 0, .int .i64 0), (23, 0, .tuple #[.pointer (some ⟨bt, 0, none⟩), .int .i64 0]), (24, 0, .int .i64 room), (25, 0, .tuple #[.pointer (some ⟨bt, 0, none⟩), .int .i64 0]), (26, 0, .pointer (some ⟨bt, 0, none⟩)), (27, 0, .int .i64 0), (28, 0, .int .i64 0), (29, 0, .int .i64 0), (30, 0, .bool false), (31, 0, .bool false), (32, 0, .pointer (some ⟨bs, 0, none⟩)), (33, 0, .bool false), (34, 0, .pointer (some ⟨bt, 0, none⟩)), (35, 0, .bool false), (36, 0, .bool false), (37, 0, .bool false), (9, 0, .int .i64 ((q_.1 : Nat) : Int))]) (Hf := fun q_ => [Item.cells bs [.int .i64 room, .int .i64 (((q_.2.1).length : Nat) : Int), .int .i64 ((q_.2.2.1 : Nat) : Int), .slice q_.2.2.2.1 ((q_.2.1).length - (q_.2.2.1)) q_.2.2.2.2.1] 57, Item.own w0.heap.size q_.2.2.2.1 ((q_.2.1).length - (q_.2.2.1)) q_.2.2.2.2.1 32 4 (cellsOf enc32 (keptL (q_.2.1) (q_.2.2.1))), Item.cells bt [.int .i64 room, .slice q_.2.2.2.2.2.1 ((q_.2.1).length) q_.2.2.2.2.2.2, .int .i64 ((q_.2.2.1 : Nat) : Int)] 64, Item.own w0.heap.size q_.2.2.2.2.2.1 ((q_.2.1).length) q_.2.2.2.2.2.2 9 1 (cellsOf encStr (q_.2.1))]) (I := fun q_ => q_.1 ≤ n ∧ q_.2.2.1 ≤ q_.2.1.length ∧ q_.2.1.length ≤ q_.1) (μ := fun q_ => n - q_.1) (s := (i, B, d, ka, kc, ba, bc)) 4 ((i + 1, B, ackD B d (nth l i).2, ka2, kc2, ba2, bc2)) ⟨⟨(by first | omega | (dsimp only; omega)), (by have q1 := sendB_le (room := room) (B := B) (d := d) (b := (nth l i).2.2.2.2); have q2 := ackD_le (m := (nth l i).2) hd; first | omega | (dsimp only; omega)), (by have q1 := sendB_le (room := room) (B := B) (d := d) (b := (nth l i).2.2.2.2); have q2 := ackD_le (m := (nth l i).2) hd; first | omega | (dsimp only; omega))⟩, by first | omega | (dsimp only; omega)⟩ ⟨rfl, rfl, rfl, rfl, rfl, rfl, rfl, rfl, rfl, rfl, rfl, rfl, rfl, rfl, rfl, rfl, rfl, rfl, rfl, rfl, rfl, rfl, rfl, rfl, rfl, rfl, rfl, rfl, rfl, rfl, rfl, rfl, rfl, rfl, rfl, rfl, rfl, rfl, rfl, rfl, rfl, rfl, rfl, rfl, rfl, rfl, rfl, rfl, rfl, rfl, rfl, rfl, rfl, rfl, rfl, rfl, rfl, rfl, rfl, rfl, trivial⟩ rfl
    · try simp only [Bool.and_eq_true, Bool.or_eq_true, Bool.not_eq_true', Bool.not_eq_false', Bool.and_eq_false_iff, Bool.or_eq_false_iff, decide_eq_true_eq, decide_eq_false_iff_not, Int.not_lt, Int.not_le, ne_eq, Decidable.not_not] at h2
      refine WC.exit ?_
      refine QX.exit_then ?_
      refine QX.exit_then ?_
      refine QX.exit_hit ?_
      refine QX.then_ ?_
      refine WC.seq ?_
      refine WC.region ?_
      refine SL.calle rfl rfl rfl rfl rfl rfl callable7 (fun w hw => awake_ok w) ?_
      refine SL.norm [_, _, _, _] rfl ?_
      refine SL.pure rfl rfl rfl (PureOp.assign rfl) ?_
      refine SL.nil_then ?_
      refine WC.ret ?_
      refine QX.ret1 rfl rfl ?_
      intro w hw
      rfl

end Go.Proofs.Ytmnhdiblkjmmfaa
