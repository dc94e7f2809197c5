import Derived.Test.YtmnhdiblkjmmfaaLkB
namespace Go.Proofs.Ytmnhdiblkjmmfaa
open Go Go.RowKit Eng
set_option linter.unusedVariables false
set_option linter.unusedSimpArgs false

theorem m_sready (A : Option Addr) (w : World) : (method (Try.prog.types.size + Made.depth) 24 (.pointer A) "airline/link.ready").run Try.prog w = .ok (29, .pointer A) w := by kernel_rfl
theorem m_skind (A : Option Addr) (w : World) : (method (Try.prog.types.size + Made.depth) 24 (.pointer A) "airline/link.kind").run Try.prog w = .ok (50, .pointer A) w := by kernel_rfl
theorem m_rready (A : Option Addr) (w : World) : (method (Try.prog.types.size + Made.depth) 43 (.pointer A) "airline/link.ready").run Try.prog w = .ok (33, .pointer A) w := by kernel_rfl
theorem m_rkind (A : Option Addr) (w : World) : (method (Try.prog.types.size + Made.depth) 43 (.pointer A) "airline/link.kind").run Try.prog w = .ok (52, .pointer A) w := by kernel_rfl
set_option maxHeartbeats 4000000 in
set_option maxRecDepth 100000 in
theorem skind_ok (A : Option Addr) (w0 : World) : FnC Try.prog 50 [.pointer A] w0 fun v w' => v = .int .i64 2 := by
  refine fnc (N := 3) Try.func50 rfl rfl rfl ?_
  refine WC.seq ?_
  refine WC.region ?_
  refine SL.pure rfl rfl rfl (PureOp.assign rfl) ?_
  refine SL.nil_then ?_
  refine WC.seq ?_
  refine WC.region ?_
  refine SL.pure rfl rfl rfl (PureOp.assign rfl) ?_
  refine SL.nil_then ?_
  refine WC.ret ?_
  refine QX.ret1 rfl rfl ?_
  intro w hw
  rfl

set_option maxHeartbeats 4000000 in
set_option maxRecDepth 100000 in
theorem rkind_ok (A : Option Addr) (w0 : World) : FnC Try.prog 52 [.pointer A] w0 fun v w' => v = .int .i64 1 := by
  refine fnc (N := 3) Try.func52 rfl rfl rfl ?_
  refine WC.seq ?_
  refine WC.region ?_
  refine SL.pure rfl rfl rfl (PureOp.assign rfl) ?_
  refine SL.nil_then ?_
  refine WC.seq ?_
  refine WC.region ?_
  refine SL.pure rfl rfl rfl (PureOp.assign rfl) ?_
  refine SL.nil_then ?_
  refine WC.ret ?_
  refine QX.ret1 rfl rfl ?_
  intro w hw
  rfl

set_option maxHeartbeats 4000000 in
set_option maxRecDepth 100000 in
theorem rready_ok (b : Nat) (ra : Option Addr) (rn rc : Nat) (w0 : World) (ho : ObjIn w0 b [.slice ra rn rc, .bool true]) : FnC Try.prog 33 [.pointer (some ⟨b, 0, none⟩)] w0 fun v w' => v = .bool true := by
  refine fnc (N := 11) Try.func33 rfl rfl rfl ?_
  refine WC.seq ?_
  refine WC.region ?_
  refine SL.pure rfl rfl rfl (PureOp.assign rfl) ?_
  refine SL.nil_then ?_
  refine WC.seq ?_
  refine WC.region ?_
  refine SL.pure rfl rfl rfl (PureOp.move rfl) ?_
  refine SL.pure rfl rfl rfl (PureOp.neqpnil1 rfl rfl Try.underlying43) ?_
  refine SL.pure rfl rfl rfl (PureOp.move rfl) ?_
  refine SL.ung rfl rfl rfl rfl ?_
  refine SL.pure rfl rfl rfl (PureOp.move rfl) ?_
  refine SL.ung rfl rfl rfl rfl ?_
  refine SL.pure rfl rfl rfl (PureOp.nilCheckp rfl) ?_
  refine SL.ung rfl rfl rfl rfl ?_
  refine SL.pure rfl rfl rfl (PureOp.fieldAddrT 1 Try.underlying60 rfl sz4 rfl rfl) ?_
  refine SL.ung rfl rfl rfl rfl ?_
  refine SL.pure rfl rfl rfl (PureOp.load (v := .bool true) Try.underlying4 rfl rfl (fun _ => (ho.cell 1 rfl))) ?_
  refine SL.pure rfl rfl rfl (PureOp.pickT rfl rfl) ?_
  refine SL.pure rfl rfl rfl (PureOp.assign rfl) ?_
  refine SL.nil_then ?_
  refine WC.ret ?_
  refine QX.ret1 rfl rfl ?_
  intro w hw
  rfl

set_option maxHeartbeats 4000000 in
set_option maxRecDepth 100000 in
theorem takess_ok (b : Nat) (room : Int) (B : List ByteArray) (d : Nat) (ka : Option Addr) (kn kc : Nat) (hr : 1 ≤ room) (hd : d ≤ B.length) (hkn : kn = B.length - d) (hB : B.length ≤ 1000) (w0 : World) (ho : ObjIn w0 b [.int .i64 room, .int .i64 (B.length : Int), .int .i64 (d : Int), .slice ka kn kc]) (m : Msg) : FnC Try.prog 31 [.iface 24 (.pointer (some ⟨b, 0, none⟩)), .agg #[.int .i64 m.1, .int .i64 m.2.1, .int .i64 m.2.2.1, .string m.2.2.2]] w0 fun v w' => v = .int .i64 (if m.1 ≠ 2 then 8 else 0) := by
  refine fnc (N := 15) Try.func31 rfl rfl rfl ?_
  refine WC.seq ?_
  refine WC.region ?_
  refine SL.box rfl rfl rfl (fun b1 hb1 => ?_)
  refine SL.norm [_] rfl ?_
  refine SL.pure rfl rfl rfl (PureOp.assign rfl) ?_
  refine SL.nil_then ?_
  refine WC.seq ?_
  refine WC.block ?_
  refine WC.seq ?_
  refine WC.region ?_
  refine SL.pure rfl rfl rfl (PureOp.move rfl) ?_
  refine SL.callI rfl rfl rfl rfl rfl callable29 (fun w => m_sready _ w) (fun w hw => sready_ok b room B d ka kn kc hr hd hkn hB w (ho.below hw.below)) ?_
  refine SL.pure rfl rfl rfl (PureOp.not rfl) ?_
  refine SL.pure rfl rfl rfl (PureOp.assign rfl) ?_
  refine SL.nil_then ?_
  refine WC.condF rfl ?_
  refine WC.seq ?_
  refine WC.quiet rfl (by kernel_rfl) ?_
  refine SQ.pure rfl rfl rfl (PureOp.fieldAddrT 0 Try.underlying32 rfl sz3 rfl rfl) ?_
  refine SQ.pure rfl rfl rfl (PureOp.load (v := .int .i64 m.1) Try.underlying3 rfl rfl (fun _ => (CellIs.cells 0 rfl rfl))) ?_
  refine SQ.pure rfl rfl rfl (PureOp.move rfl) ?_
  refine SQ.callI rfl rfl rfl rfl rfl callable50 (fun w => m_skind _ w) (fun w hw => skind_ok _ w) ?_
  refine SQ.pure rfl rfl rfl (PureOp.neq rfl rfl) ?_
  refine SQ.pure rfl rfl rfl (PureOp.assign rfl) ?_
  refine SQ.nil_then ?_
  refine WC.cond rfl (fun h1 => ?_) (fun h1 => ?_)
  · try simp only [Bool.and_eq_true, Bool.or_eq_true, Bool.not_eq_true', Bool.not_eq_false', Bool.and_eq_false_iff, Bool.or_eq_false_iff, decide_eq_true_eq, decide_eq_false_iff_not, Int.not_lt, Int.not_le, ne_eq, Decidable.not_not] at h1
    refine WC.seq ?_
    refine WC.region ?_
    refine SL.pure rfl rfl rfl (PureOp.assign rfl) ?_
    refine SL.nil_then ?_
    refine WC.ret ?_
    refine QX.ret_in ?_
    refine QX.ret_then ?_
    refine QX.ret1 rfl rfl ?_
    intro w hw
    rw [if_pos h1]
  · try simp only [Bool.and_eq_true, Bool.or_eq_true, Bool.not_eq_true', Bool.not_eq_false', Bool.and_eq_false_iff, Bool.or_eq_false_iff, decide_eq_true_eq, decide_eq_false_iff_not, Int.not_lt, Int.not_le, ne_eq, Decidable.not_not] at h1
    refine WC.skip ?_
    refine QX.normal_in ?_
    refine QX.then_ ?_
    refine WC.seq ?_
    refine WC.region ?_
    refine SL.pure rfl rfl rfl (PureOp.assign rfl) ?_
    refine SL.nil_then ?_
    refine WC.ret ?_
    refine QX.ret1 rfl rfl ?_
    intro w hw
    rw [if_neg (by omega)]

set_option maxHeartbeats 4000000 in
set_option maxRecDepth 100000 in
theorem takesr_ok (b : Nat) (ra : Option Addr) (rn rc : Nat) (w0 : World) (ho : ObjIn w0 b [.slice ra rn rc, .bool true]) (m : Msg) : FnC Try.prog 31 [.iface 43 (.pointer (some ⟨b, 0, none⟩)), .agg #[.int .i64 m.1, .int .i64 m.2.1, .int .i64 m.2.2.1, .string m.2.2.2]] w0 fun v w' => v = .int .i64 (if m.1 ≠ 1 then 8 else 0) := by
  refine fnc (N := 15) Try.func31 rfl rfl rfl ?_
  refine WC.seq ?_
  refine WC.region ?_
  refine SL.box rfl rfl rfl (fun b1 hb1 => ?_)
  refine SL.norm [_] rfl ?_
  refine SL.pure rfl rfl rfl (PureOp.assign rfl) ?_
  refine SL.nil_then ?_
  refine WC.seq ?_
  refine WC.block ?_
  refine WC.seq ?_
  refine WC.region ?_
  refine SL.pure rfl rfl rfl (PureOp.move rfl) ?_
  refine SL.callI rfl rfl rfl rfl rfl callable33 (fun w => m_rready _ w) (fun w hw => rready_ok b ra rn rc w (ho.below hw.below)) ?_
  refine SL.pure rfl rfl rfl (PureOp.not rfl) ?_
  refine SL.pure rfl rfl rfl (PureOp.assign rfl) ?_
  refine SL.nil_then ?_
  refine WC.condF rfl ?_
  refine WC.seq ?_
  refine WC.quiet rfl (by kernel_rfl) ?_
  refine SQ.pure rfl rfl rfl (PureOp.fieldAddrT 0 Try.underlying32 rfl sz3 rfl rfl) ?_
  refine SQ.pure rfl rfl rfl (PureOp.load (v := .int .i64 m.1) Try.underlying3 rfl rfl (fun _ => (CellIs.cells 0 rfl rfl))) ?_
  refine SQ.pure rfl rfl rfl (PureOp.move rfl) ?_
  refine SQ.callI rfl rfl rfl rfl rfl callable52 (fun w => m_rkind _ w) (fun w hw => rkind_ok _ w) ?_
  refine SQ.pure rfl rfl rfl (PureOp.neq rfl rfl) ?_
  refine SQ.pure rfl rfl rfl (PureOp.assign rfl) ?_
  refine SQ.nil_then ?_
  refine WC.cond rfl (fun h1 => ?_) (fun h1 => ?_)
  · try simp only [Bool.and_eq_true, Bool.or_eq_true, Bool.not_eq_true', Bool.not_eq_false', Bool.and_eq_false_iff, Bool.or_eq_false_iff, decide_eq_true_eq, decide_eq_false_iff_not, Int.not_lt, Int.not_le, ne_eq, Decidable.not_not] at h1
    refine WC.seq ?_
    refine WC.region ?_
    refine SL.pure rfl rfl rfl (PureOp.assign rfl) ?_
    refine SL.nil_then ?_
    refine WC.ret ?_
    refine QX.ret_in ?_
    refine QX.ret_then ?_
    refine QX.ret1 rfl rfl ?_
    intro w hw
    rw [if_pos h1]
  · try simp only [Bool.and_eq_true, Bool.or_eq_true, Bool.not_eq_true', Bool.not_eq_false', Bool.and_eq_false_iff, Bool.or_eq_false_iff, decide_eq_true_eq, decide_eq_false_iff_not, Int.not_lt, Int.not_le, ne_eq, Decidable.not_not] at h1
    refine WC.skip ?_
    refine QX.normal_in ?_
    refine QX.then_ ?_
    refine WC.seq ?_
    refine WC.region ?_
    refine SL.pure rfl rfl rfl (PureOp.assign rfl) ?_
    refine SL.nil_then ?_
    refine WC.ret ?_
    refine QX.ret1 rfl rfl ?_
    intro w hw
    rw [if_neg (by omega)]

end Go.Proofs.Ytmnhdiblkjmmfaa
