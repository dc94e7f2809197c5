import Derived.Test.YtngkbnaehkailaaFlH
namespace Go.Proofs.Ytngkbnaehkailaa
open Go Go.RowKit Eng
set_option linter.unusedVariables false
set_option linter.unusedSimpArgs false

abbrev dia : List Ed := [(0, 1, 2, 1), (1, 3, 2, 1), (0, 2, 2, 5), (2, 3, 1, 5)]
theorem dia_solve : slv dia 4 0 3 9 5 (List.replicate 4 0) 0 0 = some ([2, 2, 1, 1], 3, 14) := by kernel_rfl
theorem dia_v1 : validR 4 dia 0 3 [2, 2, 1, 1] = (3, 14, 0) := by kernel_rfl
theorem dia_v2 : validR 4 dia 0 3 [2, 1, 1, 1] = (0, 0, 35) := by kernel_rfl
theorem dia_p : pricesF 4 dia [2, 2, 1, 1] = ([-10, -1, -5, 0], true) := by kernel_rfl
theorem dia_pr : provesB 4 dia [2, 2, 1, 1] [-10, -1, -5, 0] = true := by kernel_rfl
theorem dia_c : checkE 4 dia 0 3 = 0 := by kernel_rfl
theorem dia_c0 : checkE 4 dia 0 0 = 2 := by kernel_rfl
set_option maxHeartbeats 4000000 in
set_option maxRecDepth 100000 in
theorem diamond_ok (w0 : World) : FnC Try.prog 39 [] w0 fun v w' => ∃ a c, v = .agg #[.int .i64 4, .slice a 4 c, .int .i64 0, .int .i64 3] ∧ w'.ownsRow w0.heap.size 61 4 (.slice a 4 c) 4 (cellsOf encEd dia) := by
  refine fnc (N := 7) Try.func39 rfl rfl rfl ?_
  refine WC.seq ?_
  refine WC.region ?_
  refine SL.alloc rfl rfl zero24 (fun b1 hb1 => ?_)
  refine SL.norm [_] rfl ?_
  refine SL.nil_then ?_
  refine WC.seq ?_
  refine WC.region ?_
  refine SL.pure rfl rfl rfl (PureOp.build bld61 rfl rfl) ?_
  refine SL.pure rfl rfl rfl (PureOp.build bld61 rfl rfl) ?_
  refine SL.pure rfl rfl rfl (PureOp.build bld61 rfl rfl) ?_
  refine SL.pure rfl rfl rfl (PureOp.build bld61 rfl rfl) ?_
  refine SL.buildSlice rfl rfl Try.underlying22 elem61 rfl rfl rfl rfl (fun b2 hb2 => ?_)
  refine SL.norm [_, _] rfl ?_
  refine SL.pure rfl rfl rfl (PureOp.build bld24 rfl rfl) ?_
  refine SL.store 0 rfl rfl rfl rfl sz24 rfl rfl ?_
  refine SL.norm [_, _] rfl ?_
  refine SL.nil_then ?_
  refine WC.ret ?_
  refine QX.retv rfl (RVs.cons (RV.cell rfl Try.underlying24 rfl (RowIs.cells 0 0 4 rfl rfl) sz24) RVs.nil) ?_
  intro w hw
  exact ⟨_, _, rfl, hw.mem (i := 1) rfl⟩

end Go.Proofs.Ytngkbnaehkailaa
