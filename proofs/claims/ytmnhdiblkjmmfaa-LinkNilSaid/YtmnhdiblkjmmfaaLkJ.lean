import Derived.Test.YtmnhdiblkjmmfaaLkG
namespace Go.Proofs.Ytmnhdiblkjmmfaa
open Go Go.RowKit Eng
set_option linter.unusedVariables false
set_option linter.unusedSimpArgs false

set_option maxHeartbeats 4000000 in
set_option maxRecDepth 100000 in
theorem dsready_nil  (w0 : World) : FnC Try.prog 29 [.pointer none] w0 fun v w' => v = .bool false := by
  refine fnc (N := 12) Try.func29 rfl rfl rfl ?_
  refine WC.seq ?_
  refine WC.region ?_
  refine SL.pure rfl rfl rfl (PureOp.assign rfl) ?_
  refine SL.nil_then ?_
  refine WC.seq ?_
  refine WC.region ?_
  refine SL.pure rfl rfl rfl (PureOp.move rfl) ?_
  refine SL.pure rfl rfl rfl (PureOp.neqpnil0 rfl rfl Try.underlying24) ?_
  refine SL.pure rfl rfl rfl (PureOp.move rfl) ?_
  refine SL.off rfl rfl rfl rfl rfl rfl ?_
  refine SL.off rfl rfl rfl rfl rfl rfl ?_
  refine SL.off rfl rfl rfl rfl rfl rfl ?_
  refine SL.off rfl rfl rfl rfl rfl rfl ?_
  refine SL.off rfl rfl rfl rfl rfl rfl ?_
  refine SL.pure rfl rfl rfl (PureOp.pickF rfl rfl) ?_
  refine SL.pure rfl rfl rfl (PureOp.assign rfl) ?_
  refine SL.nil_then ?_
  refine WC.ret ?_
  refine QX.ret1 rfl rfl ?_
  intro w hw
  rfl

set_option maxHeartbeats 4000000 in
set_option maxRecDepth 100000 in
theorem dsready_zero (b : Nat)  (w0 : World) (ho : ObjIn w0 b [.int .i64 0, .int .i64 0, .int .i64 0, .slice none 0 0]) : FnC Try.prog 29 [.pointer (some ⟨b, 0, none⟩)] w0 fun v w' => v = .bool false := by
  refine fnc (N := 12) Try.func29 rfl rfl rfl ?_
  refine WC.seq ?_
  refine WC.region ?_
  refine SL.pure rfl rfl rfl (PureOp.assign rfl) ?_
  refine SL.nil_then ?_
  refine WC.seq ?_
  refine WC.region ?_
  refine SL.pure rfl rfl rfl (PureOp.move rfl) ?_
  refine SL.pure rfl rfl rfl (PureOp.neqpnil1 rfl rfl Try.underlying24) ?_
  refine SL.pure rfl rfl rfl (PureOp.move rfl) ?_
  refine SL.ung rfl rfl rfl rfl ?_
  refine SL.pure rfl rfl rfl (PureOp.move rfl) ?_
  refine SL.ung rfl rfl rfl rfl ?_
  refine SL.pure rfl rfl rfl (PureOp.nilCheckp rfl) ?_
  refine SL.ung rfl rfl rfl rfl ?_
  refine SL.pure rfl rfl rfl (PureOp.fieldAddrT 0 Try.underlying57 rfl sz3 rfl rfl) ?_
  refine SL.ung rfl rfl rfl rfl ?_
  refine SL.pure rfl rfl rfl (PureOp.load (v := .int .i64 0) Try.underlying3 rfl rfl (fun _ => (ho.cell 0 rfl))) ?_
  refine SL.ung rfl rfl rfl rfl ?_
  refine SL.pure rfl rfl rfl (PureOp.gtr rfl rfl) ?_
  refine SL.lit 10 false rfl (by decide) ?_
  refine SL.pure rfl rfl rfl (PureOp.pickT rfl rfl) ?_
  refine SL.pure rfl rfl rfl (PureOp.assign rfl) ?_
  refine SL.nil_then ?_
  refine WC.ret ?_
  refine QX.ret1 rfl rfl ?_
  intro w hw
  rfl

theorem dsready_dead (A : Option Addr)  (w0 : World) (hA : A = none ∨ ∃ b, A = some ⟨b, 0, none⟩ ∧ ObjIn w0 b [.int .i64 0, .int .i64 0, .int .i64 0, .slice none 0 0]) : FnC Try.prog 29 [.pointer A] w0 fun v w' => v = .bool false := by
  rcases hA with rfl | ⟨b, rfl, ho⟩
  · exact dsready_nil  w0
  · exact dsready_zero b  w0 ho
set_option maxHeartbeats 4000000 in
set_option maxRecDepth 100000 in
theorem drready_nil  (w0 : World) : FnC Try.prog 33 [.pointer none] w0 fun v w' => v = .bool false := by
  refine fnc (N := 11) Try.func33 rfl rfl rfl ?_
  refine WC.seq ?_
  refine WC.region ?_
  refine SL.pure rfl rfl rfl (PureOp.assign rfl) ?_
  refine SL.nil_then ?_
  refine WC.seq ?_
  refine WC.region ?_
  refine SL.pure rfl rfl rfl (PureOp.move rfl) ?_
  refine SL.pure rfl rfl rfl (PureOp.neqpnil0 rfl rfl Try.underlying43) ?_
  refine SL.pure rfl rfl rfl (PureOp.move rfl) ?_
  refine SL.off rfl rfl rfl rfl rfl rfl ?_
  refine SL.off rfl rfl rfl rfl rfl rfl ?_
  refine SL.off rfl rfl rfl rfl rfl rfl ?_
  refine SL.off rfl rfl rfl rfl rfl rfl ?_
  refine SL.pure rfl rfl rfl (PureOp.pickF rfl rfl) ?_
  refine SL.pure rfl rfl rfl (PureOp.assign rfl) ?_
  refine SL.nil_then ?_
  refine WC.ret ?_
  refine QX.ret1 rfl rfl ?_
  intro w hw
  rfl

set_option maxHeartbeats 4000000 in
set_option maxRecDepth 100000 in
theorem drready_zero (b : Nat)  (w0 : World) (ho : ObjIn w0 b [.slice none 0 0, .bool false]) : FnC Try.prog 33 [.pointer (some ⟨b, 0, none⟩)] w0 fun v w' => v = .bool false := by
  refine fnc (N := 11) Try.func33 rfl rfl rfl ?_
  refine WC.seq ?_
  refine WC.region ?_
  refine SL.pure rfl rfl rfl (PureOp.assign rfl) ?_
  refine SL.nil_then ?_
  refine WC.seq ?_
  refine WC.region ?_
  refine SL.pure rfl rfl rfl (PureOp.move rfl) ?_
  refine SL.pure rfl rfl rfl (PureOp.neqpnil1 rfl rfl Try.underlying43) ?_
  refine SL.pure rfl rfl rfl (PureOp.move rfl) ?_
  refine SL.ung rfl rfl rfl rfl ?_
  refine SL.pure rfl rfl rfl (PureOp.move rfl) ?_
  refine SL.ung rfl rfl rfl rfl ?_
  refine SL.pure rfl rfl rfl (PureOp.nilCheckp rfl) ?_
  refine SL.ung rfl rfl rfl rfl ?_
  refine SL.pure rfl rfl rfl (PureOp.fieldAddrT 1 Try.underlying60 rfl sz4 rfl rfl) ?_
  refine SL.ung rfl rfl rfl rfl ?_
  refine SL.pure rfl rfl rfl (PureOp.load (v := .bool false) Try.underlying4 rfl rfl (fun _ => (ho.cell 1 rfl))) ?_
  refine SL.pure rfl rfl rfl (PureOp.pickT rfl rfl) ?_
  refine SL.pure rfl rfl rfl (PureOp.assign rfl) ?_
  refine SL.nil_then ?_
  refine WC.ret ?_
  refine QX.ret1 rfl rfl ?_
  intro w hw
  rfl

theorem drready_dead (A : Option Addr)  (w0 : World) (hA : A = none ∨ ∃ b, A = some ⟨b, 0, none⟩ ∧ ObjIn w0 b [.slice none 0 0, .bool false]) : FnC Try.prog 33 [.pointer A] w0 fun v w' => v = .bool false := by
  rcases hA with rfl | ⟨b, rfl, ho⟩
  · exact drready_nil  w0
  · exact drready_zero b  w0 ho
set_option maxHeartbeats 4000000 in
set_option maxRecDepth 100000 in
theorem dtakess_nil (m : Msg) (w0 : World) : FnC Try.prog 31 [.iface 24 (.pointer none), .agg #[.int .i64 m.1, .int .i64 m.2.1, .int .i64 m.2.2.1, .string m.2.2.2]] w0 fun v w' => v = .int .i64 1 := by
  refine fnc (N := 15) Try.func31 rfl rfl rfl ?_
  refine WC.seq ?_
  refine WC.region ?_
  refine SL.box rfl rfl rfl (fun b1 hb1 => ?_)
  refine SL.norm [_] rfl ?_
  refine SL.pure rfl rfl rfl (PureOp.assign rfl) ?_
  refine SL.nil_then ?_
  refine WC.seq ?_
  refine WC.block ?_
  refine WC.seq ?_
  refine WC.region ?_
  refine SL.pure rfl rfl rfl (PureOp.move rfl) ?_
  refine SL.callI rfl rfl rfl rfl rfl callable29 (fun w => m_sready _ w) (fun w hw => dsready_nil w) ?_
  refine SL.pure rfl rfl rfl (PureOp.not rfl) ?_
  refine SL.pure rfl rfl rfl (PureOp.assign rfl) ?_
  refine SL.nil_then ?_
  refine WC.condT rfl ?_
  refine WC.seq ?_
  refine WC.region ?_
  refine SL.pure rfl rfl rfl (PureOp.assign rfl) ?_
  refine SL.nil_then ?_
  refine WC.ret ?_
  refine QX.ret_in ?_
  refine QX.ret_then ?_
  refine QX.ret1 rfl rfl ?_
  intro w hw
  rfl

set_option maxHeartbeats 4000000 in
set_option maxRecDepth 100000 in
theorem dtakess_zero (b : Nat) (m : Msg) (w0 : World) (ho : ObjIn w0 b [.int .i64 0, .int .i64 0, .int .i64 0, .slice none 0 0]) : FnC Try.prog 31 [.iface 24 (.pointer (some ⟨b, 0, none⟩)), .agg #[.int .i64 m.1, .int .i64 m.2.1, .int .i64 m.2.2.1, .string m.2.2.2]] w0 fun v w' => v = .int .i64 1 := by
  refine fnc (N := 15) Try.func31 rfl rfl rfl ?_
  refine WC.seq ?_
  refine WC.region ?_
  refine SL.box rfl rfl rfl (fun b1 hb1 => ?_)
  refine SL.norm [_] rfl ?_
  refine SL.pure rfl rfl rfl (PureOp.assign rfl) ?_
  refine SL.nil_then ?_
  refine WC.seq ?_
  refine WC.block ?_
  refine WC.seq ?_
  refine WC.region ?_
  refine SL.pure rfl rfl rfl (PureOp.move rfl) ?_
  refine SL.callI rfl rfl rfl rfl rfl callable29 (fun w => m_sready _ w) (fun w hw => dsready_zero b w (ho.below hw.below)) ?_
  refine SL.pure rfl rfl rfl (PureOp.not rfl) ?_
  refine SL.pure rfl rfl rfl (PureOp.assign rfl) ?_
  refine SL.nil_then ?_
  refine WC.condT rfl ?_
  refine WC.seq ?_
  refine WC.region ?_
  refine SL.pure rfl rfl rfl (PureOp.assign rfl) ?_
  refine SL.nil_then ?_
  refine WC.ret ?_
  refine QX.ret_in ?_
  refine QX.ret_then ?_
  refine QX.ret1 rfl rfl ?_
  intro w hw
  rfl

set_option maxHeartbeats 4000000 in
set_option maxRecDepth 100000 in
theorem dtakesr_nil (m : Msg) (w0 : World) : FnC Try.prog 31 [.iface 43 (.pointer none), .agg #[.int .i64 m.1, .int .i64 m.2.1, .int .i64 m.2.2.1, .string m.2.2.2]] w0 fun v w' => v = .int .i64 1 := by
  refine fnc (N := 15) Try.func31 rfl rfl rfl ?_
  refine WC.seq ?_
  refine WC.region ?_
  refine SL.box rfl rfl rfl (fun b1 hb1 => ?_)
  refine SL.norm [_] rfl ?_
  refine SL.pure rfl rfl rfl (PureOp.assign rfl) ?_
  refine SL.nil_then ?_
  refine WC.seq ?_
  refine WC.block ?_
  refine WC.seq ?_
  refine WC.region ?_
  refine SL.pure rfl rfl rfl (PureOp.move rfl) ?_
  refine SL.callI rfl rfl rfl rfl rfl callable33 (fun w => m_rready _ w) (fun w hw => drready_nil w) ?_
  refine SL.pure rfl rfl rfl (PureOp.not rfl) ?_
  refine SL.pure rfl rfl rfl (PureOp.assign rfl) ?_
  refine SL.nil_then ?_
  refine WC.condT rfl ?_
  refine WC.seq ?_
  refine WC.region ?_
  refine SL.pure rfl rfl rfl (PureOp.assign rfl) ?_
  refine SL.nil_then ?_
  refine WC.ret ?_
  refine QX.ret_in ?_
  refine QX.ret_then ?_
  refine QX.ret1 rfl rfl ?_
  intro w hw
  rfl

set_option maxHeartbeats 4000000 in
set_option maxRecDepth 100000 in
theorem dtakesr_zero (b : Nat) (m : Msg) (w0 : World) (ho : ObjIn w0 b [.slice none 0 0, .bool false]) : FnC Try.prog 31 [.iface 43 (.pointer (some ⟨b, 0, none⟩)), .agg #[.int .i64 m.1, .int .i64 m.2.1, .int .i64 m.2.2.1, .string m.2.2.2]] w0 fun v w' => v = .int .i64 1 := by
  refine fnc (N := 15) Try.func31 rfl rfl rfl ?_
  refine WC.seq ?_
  refine WC.region ?_
  refine SL.box rfl rfl rfl (fun b1 hb1 => ?_)
  refine SL.norm [_] rfl ?_
  refine SL.pure rfl rfl rfl (PureOp.assign rfl) ?_
  refine SL.nil_then ?_
  refine WC.seq ?_
  refine WC.block ?_
  refine WC.seq ?_
  refine WC.region ?_
  refine SL.pure rfl rfl rfl (PureOp.move rfl) ?_
  refine SL.callI rfl rfl rfl rfl rfl callable33 (fun w => m_rready _ w) (fun w hw => drready_zero b w (ho.below hw.below)) ?_
  refine SL.pure rfl rfl rfl (PureOp.not rfl) ?_
  refine SL.pure rfl rfl rfl (PureOp.assign rfl) ?_
  refine SL.nil_then ?_
  refine WC.condT rfl ?_
  refine WC.seq ?_
  refine WC.region ?_
  refine SL.pure rfl rfl rfl (PureOp.assign rfl) ?_
  refine SL.nil_then ?_
  refine WC.ret ?_
  refine QX.ret_in ?_
  refine QX.ret_then ?_
  refine QX.ret1 rfl rfl ?_
  intro w hw
  rfl

set_option maxHeartbeats 4000000 in
set_option maxRecDepth 100000 in
theorem dsend_nil (body : ByteArray) (w0 : World) : FnC Try.prog 10 [.pointer none, .string body] w0 fun v w' => v = .tuple #[.agg (enc32 zeroM).toArray, .int .i64 1] := by
  refine fnc (N := 53) Try.func10 rfl rfl rfl ?_
  refine WC.seq ?_
  refine WC.region ?_
  refine SL.alloc rfl rfl zero32 (fun b1 hb1 => ?_)
  refine SL.norm [_] rfl ?_
  refine SL.pure rfl rfl rfl (PureOp.assign rfl) ?_
  refine SL.nil_then ?_
  refine WC.seq ?_
  refine WC.block ?_
  refine WC.seq ?_
  refine WC.region ?_
  refine SL.pure rfl rfl rfl (PureOp.move rfl) ?_
  refine SL.calle rfl rfl rfl rfl rfl rfl callable29 (fun w hw => dsready_nil w) ?_
  refine SL.norm [_] rfl ?_
  refine SL.pure rfl rfl rfl (PureOp.not rfl) ?_
  refine SL.pure rfl rfl rfl (PureOp.assign rfl) ?_
  refine SL.nil_then ?_
  refine WC.condT rfl ?_
  refine WC.seq ?_
  refine WC.region ?_
  refine SL.pure rfl rfl rfl (PureOp.build bld32 rfl rfl) ?_
  refine SL.store 0 rfl rfl rfl rfl sz32 rfl rfl ?_
  refine SL.norm [_] rfl ?_
  refine SL.pure rfl rfl rfl (PureOp.assign rfl) ?_
  refine SL.nil_then ?_
  refine WC.ret ?_
  refine QX.ret_in ?_
  refine QX.ret_then ?_
  refine QX.retv rfl (RVs.cons (RV.cell rfl Try.underlying32 rfl (RowIs.cells 0 0 4 rfl rfl) sz32) (RVs.cons (RV.tmp rfl) RVs.nil)) ?_
  intro w hw
  rfl

set_option maxHeartbeats 4000000 in
set_option maxRecDepth 100000 in
theorem dsend_zero (b : Nat) (body : ByteArray) (w0 : World) (ho : ObjIn w0 b [.int .i64 0, .int .i64 0, .int .i64 0, .slice none 0 0]) : FnC Try.prog 10 [.pointer (some ⟨b, 0, none⟩), .string body] w0 fun v w' => v = .tuple #[.agg (enc32 zeroM).toArray, .int .i64 1] := by
  refine fnc (N := 53) Try.func10 rfl rfl rfl ?_
  refine WC.seq ?_
  refine WC.region ?_
  refine SL.alloc rfl rfl zero32 (fun b1 hb1 => ?_)
  refine SL.norm [_] rfl ?_
  refine SL.pure rfl rfl rfl (PureOp.assign rfl) ?_
  refine SL.nil_then ?_
  refine WC.seq ?_
  refine WC.block ?_
  refine WC.seq ?_
  refine WC.region ?_
  refine SL.pure rfl rfl rfl (PureOp.move rfl) ?_
  refine SL.calle rfl rfl rfl rfl rfl rfl callable29 (fun w hw => dsready_zero b w (ho.below hw.below)) ?_
  refine SL.norm [_] rfl ?_
  refine SL.pure rfl rfl rfl (PureOp.not rfl) ?_
  refine SL.pure rfl rfl rfl (PureOp.assign rfl) ?_
  refine SL.nil_then ?_
  refine WC.condT rfl ?_
  refine WC.seq ?_
  refine WC.region ?_
  refine SL.pure rfl rfl rfl (PureOp.build bld32 rfl rfl) ?_
  refine SL.store 0 rfl rfl rfl rfl sz32 rfl rfl ?_
  refine SL.norm [_] rfl ?_
  refine SL.pure rfl rfl rfl (PureOp.assign rfl) ?_
  refine SL.nil_then ?_
  refine WC.ret ?_
  refine QX.ret_in ?_
  refine QX.ret_then ?_
  refine QX.retv rfl (RVs.cons (RV.cell rfl Try.underlying32 rfl (RowIs.cells 0 0 4 rfl rfl) sz32) (RVs.cons (RV.tmp rfl) RVs.nil)) ?_
  intro w hw
  rfl

theorem dsend_dead (A : Option Addr) (body : ByteArray) (w0 : World) (hA : A = none ∨ ∃ b, A = some ⟨b, 0, none⟩ ∧ ObjIn w0 b [.int .i64 0, .int .i64 0, .int .i64 0, .slice none 0 0]) : FnC Try.prog 10 [.pointer A, .string body] w0 fun v w' => v = .tuple #[.agg (enc32 zeroM).toArray, .int .i64 1] := by
  rcases hA with rfl | ⟨b, rfl, ho⟩
  · exact dsend_nil body w0
  · exact dsend_zero b body w0 ho
set_option maxHeartbeats 4000000 in
set_option maxRecDepth 100000 in
theorem dagain_nil  (w0 : World) : FnC Try.prog 15 [.pointer none] w0 fun v w' => v = .slice none 0 0 := by
  refine fnc (N := 11) Try.func15 rfl rfl rfl ?_
  refine WC.seq ?_
  refine WC.region ?_
  refine SL.pure rfl rfl rfl (PureOp.assign rfl) ?_
  refine SL.nil_then ?_
  refine WC.seq ?_
  refine WC.seq ?_
  refine WC.region ?_
  refine SL.pure rfl rfl rfl (PureOp.move rfl) ?_
  refine SL.calle rfl rfl rfl rfl rfl rfl callable29 (fun w hw => dsready_nil w) ?_
  refine SL.norm [] rfl ?_
  refine SL.pure rfl rfl rfl (PureOp.not rfl) ?_
  refine SL.nil_then ?_
  refine WC.condT rfl ?_
  refine WC.seq ?_
  refine WC.region ?_
  refine SL.pure rfl rfl rfl (PureOp.assign rfl) ?_
  refine SL.nil_then ?_
  refine WC.ret ?_
  refine QX.ret_then ?_
  refine QX.ret1 rfl rfl ?_
  intro w hw
  rfl

set_option maxHeartbeats 4000000 in
set_option maxRecDepth 100000 in
theorem dagain_zero (b : Nat)  (w0 : World) (ho : ObjIn w0 b [.int .i64 0, .int .i64 0, .int .i64 0, .slice none 0 0]) : FnC Try.prog 15 [.pointer (some ⟨b, 0, none⟩)] w0 fun v w' => v = .slice none 0 0 := by
  refine fnc (N := 11) Try.func15 rfl rfl rfl ?_
  refine WC.seq ?_
  refine WC.region ?_
  refine SL.pure rfl rfl rfl (PureOp.assign rfl) ?_
  refine SL.nil_then ?_
  refine WC.seq ?_
  refine WC.seq ?_
  refine WC.region ?_
  refine SL.pure rfl rfl rfl (PureOp.move rfl) ?_
  refine SL.calle rfl rfl rfl rfl rfl rfl callable29 (fun w hw => dsready_zero b w (ho.below hw.below)) ?_
  refine SL.norm [] rfl ?_
  refine SL.pure rfl rfl rfl (PureOp.not rfl) ?_
  refine SL.nil_then ?_
  refine WC.condT rfl ?_
  refine WC.seq ?_
  refine WC.region ?_
  refine SL.pure rfl rfl rfl (PureOp.assign rfl) ?_
  refine SL.nil_then ?_
  refine WC.ret ?_
  refine QX.ret_then ?_
  refine QX.ret1 rfl rfl ?_
  intro w hw
  rfl

theorem dagain_dead (A : Option Addr)  (w0 : World) (hA : A = none ∨ ∃ b, A = some ⟨b, 0, none⟩ ∧ ObjIn w0 b [.int .i64 0, .int .i64 0, .int .i64 0, .slice none 0 0]) : FnC Try.prog 15 [.pointer A] w0 fun v w' => v = .slice none 0 0 := by
  rcases hA with rfl | ⟨b, rfl, ho⟩
  · exact dagain_nil  w0
  · exact dagain_zero b  w0 ho
set_option maxHeartbeats 4000000 in
set_option maxRecDepth 100000 in
theorem dlast_nil  (w0 : World) : FnC Try.prog 17 [.pointer none] w0 fun v w' => v = .int .i64 0 := by
  refine fnc (N := 10) Try.func17 rfl rfl rfl ?_
  refine WC.seq ?_
  refine WC.region ?_
  refine SL.pure rfl rfl rfl (PureOp.assign rfl) ?_
  refine SL.nil_then ?_
  refine WC.seq ?_
  refine WC.seq ?_
  refine WC.region ?_
  refine SL.pure rfl rfl rfl (PureOp.move rfl) ?_
  refine SL.calle rfl rfl rfl rfl rfl rfl callable29 (fun w hw => dsready_nil w) ?_
  refine SL.norm [] rfl ?_
  refine SL.pure rfl rfl rfl (PureOp.not rfl) ?_
  refine SL.nil_then ?_
  refine WC.condT rfl ?_
  refine WC.seq ?_
  refine WC.region ?_
  refine SL.pure rfl rfl rfl (PureOp.assign rfl) ?_
  refine SL.nil_then ?_
  refine WC.ret ?_
  refine QX.ret_then ?_
  refine QX.ret1 rfl rfl ?_
  intro w hw
  rfl

set_option maxHeartbeats 4000000 in
set_option maxRecDepth 100000 in
theorem dlast_zero (b : Nat)  (w0 : World) (ho : ObjIn w0 b [.int .i64 0, .int .i64 0, .int .i64 0, .slice none 0 0]) : FnC Try.prog 17 [.pointer (some ⟨b, 0, none⟩)] w0 fun v w' => v = .int .i64 0 := by
  refine fnc (N := 10) Try.func17 rfl rfl rfl ?_
  refine WC.seq ?_
  refine WC.region ?_
  refine SL.pure rfl rfl rfl (PureOp.assign rfl) ?_
  refine SL.nil_then ?_
  refine WC.seq ?_
  refine WC.seq ?_
  refine WC.region ?_
  refine SL.pure rfl rfl rfl (PureOp.move rfl) ?_
  refine SL.calle rfl rfl rfl rfl rfl rfl callable29 (fun w hw => dsready_zero b w (ho.below hw.below)) ?_
  refine SL.norm [] rfl ?_
  refine SL.pure rfl rfl rfl (PureOp.not rfl) ?_
  refine SL.nil_then ?_
  refine WC.condT rfl ?_
  refine WC.seq ?_
  refine WC.region ?_
  refine SL.pure rfl rfl rfl (PureOp.assign rfl) ?_
  refine SL.nil_then ?_
  refine WC.ret ?_
  refine QX.ret_then ?_
  refine QX.ret1 rfl rfl ?_
  intro w hw
  rfl

theorem dlast_dead (A : Option Addr)  (w0 : World) (hA : A = none ∨ ∃ b, A = some ⟨b, 0, none⟩ ∧ ObjIn w0 b [.int .i64 0, .int .i64 0, .int .i64 0, .slice none 0 0]) : FnC Try.prog 17 [.pointer A] w0 fun v w' => v = .int .i64 0 := by
  rcases hA with rfl | ⟨b, rfl, ho⟩
  · exact dlast_nil  w0
  · exact dlast_zero b  w0 ho
set_option maxHeartbeats 4000000 in
set_option maxRecDepth 100000 in
theorem dkept_nil  (w0 : World) : FnC Try.prog 19 [.pointer none] w0 fun v w' => v = .int .i64 0 := by
  refine fnc (N := 6) Try.func19 rfl rfl rfl ?_
  refine WC.seq ?_
  refine WC.region ?_
  refine SL.pure rfl rfl rfl (PureOp.assign rfl) ?_
  refine SL.nil_then ?_
  refine WC.seq ?_
  refine WC.region ?_
  refine SL.pure rfl rfl rfl (PureOp.move rfl) ?_
  refine SL.calle rfl rfl rfl rfl rfl rfl callable15 (fun w hw => dagain_nil w) ?_
  refine SL.norm [] rfl ?_
  refine SL.pure rfl rfl rfl (PureOp.len rfl Try.underlying39) ?_
  refine SL.pure rfl rfl rfl (PureOp.assign rfl) ?_
  refine SL.nil_then ?_
  refine WC.ret ?_
  refine QX.ret1 rfl rfl ?_
  intro w hw
  rfl

set_option maxHeartbeats 4000000 in
set_option maxRecDepth 100000 in
theorem dkept_zero (b : Nat)  (w0 : World) (ho : ObjIn w0 b [.int .i64 0, .int .i64 0, .int .i64 0, .slice none 0 0]) : FnC Try.prog 19 [.pointer (some ⟨b, 0, none⟩)] w0 fun v w' => v = .int .i64 0 := by
  refine fnc (N := 6) Try.func19 rfl rfl rfl ?_
  refine WC.seq ?_
  refine WC.region ?_
  refine SL.pure rfl rfl rfl (PureOp.assign rfl) ?_
  refine SL.nil_then ?_
  refine WC.seq ?_
  refine WC.region ?_
  refine SL.pure rfl rfl rfl (PureOp.move rfl) ?_
  refine SL.calle rfl rfl rfl rfl rfl rfl callable15 (fun w hw => dagain_zero b w (ho.below hw.below)) ?_
  refine SL.norm [] rfl ?_
  refine SL.pure rfl rfl rfl (PureOp.len rfl Try.underlying39) ?_
  refine SL.pure rfl rfl rfl (PureOp.assign rfl) ?_
  refine SL.nil_then ?_
  refine WC.ret ?_
  refine QX.ret1 rfl rfl ?_
  intro w hw
  rfl

theorem dkept_dead (A : Option Addr)  (w0 : World) (hA : A = none ∨ ∃ b, A = some ⟨b, 0, none⟩ ∧ ObjIn w0 b [.int .i64 0, .int .i64 0, .int .i64 0, .slice none 0 0]) : FnC Try.prog 19 [.pointer A] w0 fun v w' => v = .int .i64 0 := by
  rcases hA with rfl | ⟨b, rfl, ho⟩
  · exact dkept_nil  w0
  · exact dkept_zero b  w0 ho
set_option maxHeartbeats 4000000 in
set_option maxRecDepth 100000 in
theorem dacked_nil (m : Msg) (w0 : World) : FnC Try.prog 12 [.pointer none, .agg #[.int .i64 m.1, .int .i64 m.2.1, .int .i64 m.2.2.1, .string m.2.2.2]] w0 fun v w' => v = .int .i64 1 := by
  refine fnc (N := 55) Try.func12 rfl rfl rfl ?_
  refine WC.seq ?_
  refine WC.region ?_
  refine SL.box rfl rfl rfl (fun b1 hb1 => ?_)
  refine SL.norm [_] rfl ?_
  refine SL.pure rfl rfl rfl (PureOp.assign rfl) ?_
  refine SL.nil_then ?_
  refine WC.seq ?_
  refine WC.seq ?_
  refine WC.region ?_
  refine SL.pure rfl rfl rfl (PureOp.move rfl) ?_
  refine SL.pure rfl rfl rfl (PureOp.makeIface Try.underlying24 rfl) ?_
  refine SL.pure rfl rfl rfl (PureOp.loads (vs := [.int .i64 m.1, .int .i64 m.2.1, .int .i64 m.2.2.1, .string m.2.2.2]) Try.underlying32 rfl rfl (fun _ => (RowIs.cells 0 0 4 rfl rfl)) sz32) ?_
  refine SL.calle rfl rfl rfl rfl rfl rfl callable31 (fun w hw => dtakess_nil m w) ?_
  refine SL.norm [_] rfl ?_
  refine SL.pure rfl rfl rfl (PureOp.assign rfl) ?_
  refine SL.nil_then ?_
  refine WC.seq ?_
  refine WC.region ?_
  refine SL.pure rfl rfl rfl (PureOp.move rfl) ?_
  refine SL.pure rfl rfl rfl (PureOp.neq rfl rfl) ?_
  refine SL.lit 11 true rfl (by decide) ?_
  refine SL.nil_then ?_
  refine WC.condT rfl ?_
  refine WC.seq ?_
  refine WC.region ?_
  refine SL.pure rfl rfl rfl (PureOp.move rfl) ?_
  refine SL.pure rfl rfl rfl (PureOp.assign rfl) ?_
  refine SL.nil_then ?_
  refine WC.ret ?_
  refine QX.ret_then ?_
  refine QX.ret1 rfl rfl ?_
  intro w hw
  rfl

set_option maxHeartbeats 4000000 in
set_option maxRecDepth 100000 in
theorem dacked_zero (b : Nat) (m : Msg) (w0 : World) (ho : ObjIn w0 b [.int .i64 0, .int .i64 0, .int .i64 0, .slice none 0 0]) : FnC Try.prog 12 [.pointer (some ⟨b, 0, none⟩), .agg #[.int .i64 m.1, .int .i64 m.2.1, .int .i64 m.2.2.1, .string m.2.2.2]] w0 fun v w' => v = .int .i64 1 := by
  refine fnc (N := 55) Try.func12 rfl rfl rfl ?_
  refine WC.seq ?_
  refine WC.region ?_
  refine SL.box rfl rfl rfl (fun b1 hb1 => ?_)
  refine SL.norm [_] rfl ?_
  refine SL.pure rfl rfl rfl (PureOp.assign rfl) ?_
  refine SL.nil_then ?_
  refine WC.seq ?_
  refine WC.seq ?_
  refine WC.region ?_
  refine SL.pure rfl rfl rfl (PureOp.move rfl) ?_
  refine SL.pure rfl rfl rfl (PureOp.makeIface Try.underlying24 rfl) ?_
  refine SL.pure rfl rfl rfl (PureOp.loads (vs := [.int .i64 m.1, .int .i64 m.2.1, .int .i64 m.2.2.1, .string m.2.2.2]) Try.underlying32 rfl rfl (fun _ => (RowIs.cells 0 0 4 rfl rfl)) sz32) ?_
  refine SL.calle rfl rfl rfl rfl rfl rfl callable31 (fun w hw => dtakess_zero b m w (ho.below hw.below)) ?_
  refine SL.norm [_] rfl ?_
  refine SL.pure rfl rfl rfl (PureOp.assign rfl) ?_
  refine SL.nil_then ?_
  refine WC.seq ?_
  refine WC.region ?_
  refine SL.pure rfl rfl rfl (PureOp.move rfl) ?_
  refine SL.pure rfl rfl rfl (PureOp.neq rfl rfl) ?_
  refine SL.lit 11 true rfl (by decide) ?_
  refine SL.nil_then ?_
  refine WC.condT rfl ?_
  refine WC.seq ?_
  refine WC.region ?_
  refine SL.pure rfl rfl rfl (PureOp.move rfl) ?_
  refine SL.pure rfl rfl rfl (PureOp.assign rfl) ?_
  refine SL.nil_then ?_
  refine WC.ret ?_
  refine QX.ret_then ?_
  refine QX.ret1 rfl rfl ?_
  intro w hw
  rfl

theorem dacked_dead (A : Option Addr) (m : Msg) (w0 : World) (hA : A = none ∨ ∃ b, A = some ⟨b, 0, none⟩ ∧ ObjIn w0 b [.int .i64 0, .int .i64 0, .int .i64 0, .slice none 0 0]) : FnC Try.prog 12 [.pointer A, .agg #[.int .i64 m.1, .int .i64 m.2.1, .int .i64 m.2.2.1, .string m.2.2.2]] w0 fun v w' => v = .int .i64 1 := by
  rcases hA with rfl | ⟨b, rfl, ho⟩
  · exact dacked_nil m w0
  · exact dacked_zero b m w0 ho
set_option maxHeartbeats 4000000 in
set_option maxRecDepth 100000 in
theorem drecv_nil (m : Msg) (w0 : World) : FnC Try.prog 23 [.pointer none, .agg #[.int .i64 m.1, .int .i64 m.2.1, .int .i64 m.2.2.1, .string m.2.2.2]] w0 fun v w' => v = .tuple #[.agg (enc32 zeroM).toArray, .int .i64 1] := by
  refine fnc (N := 56) Try.func23 rfl rfl rfl ?_
  refine WC.seq ?_
  refine WC.region ?_
  refine SL.box rfl rfl rfl (fun b1 hb1 => ?_)
  refine SL.norm [_] rfl ?_
  refine SL.alloc rfl rfl zero32 (fun b2 hb2 => ?_)
  refine SL.norm [_, _] rfl ?_
  refine SL.pure rfl rfl rfl (PureOp.assign rfl) ?_
  refine SL.nil_then ?_
  refine WC.seq ?_
  refine WC.seq ?_
  refine WC.region ?_
  refine SL.pure rfl rfl rfl (PureOp.move rfl) ?_
  refine SL.pure rfl rfl rfl (PureOp.makeIface Try.underlying43 rfl) ?_
  refine SL.pure rfl rfl rfl (PureOp.loads (vs := [.int .i64 m.1, .int .i64 m.2.1, .int .i64 m.2.2.1, .string m.2.2.2]) Try.underlying32 rfl rfl (fun _ => (RowIs.cells 0 0 4 rfl rfl)) sz32) ?_
  refine SL.calle rfl rfl rfl rfl rfl rfl callable31 (fun w hw => dtakesr_nil m w) ?_
  refine SL.norm [_, _] rfl ?_
  refine SL.pure rfl rfl rfl (PureOp.assign rfl) ?_
  refine SL.nil_then ?_
  refine WC.seq ?_
  refine WC.region ?_
  refine SL.pure rfl rfl rfl (PureOp.move rfl) ?_
  refine SL.pure rfl rfl rfl (PureOp.neq rfl rfl) ?_
  refine SL.lit 14 true rfl (by decide) ?_
  refine SL.nil_then ?_
  refine WC.condT rfl ?_
  refine WC.seq ?_
  refine WC.region ?_
  refine SL.pure rfl rfl rfl (PureOp.build bld32 rfl rfl) ?_
  refine SL.pure rfl rfl rfl (PureOp.move rfl) ?_
  refine SL.store 1 rfl rfl rfl rfl sz32 rfl rfl ?_
  refine SL.norm [_, _] rfl ?_
  refine SL.pure rfl rfl rfl (PureOp.assign rfl) ?_
  refine SL.nil_then ?_
  refine WC.ret ?_
  refine QX.ret_then ?_
  refine QX.retv rfl (RVs.cons (RV.cell rfl Try.underlying32 rfl (RowIs.cells 1 0 4 rfl rfl) sz32) (RVs.cons (RV.tmp rfl) RVs.nil)) ?_
  intro w hw
  rfl

set_option maxHeartbeats 4000000 in
set_option maxRecDepth 100000 in
theorem drecv_zero (b : Nat) (m : Msg) (w0 : World) (ho : ObjIn w0 b [.slice none 0 0, .bool false]) : FnC Try.prog 23 [.pointer (some ⟨b, 0, none⟩), .agg #[.int .i64 m.1, .int .i64 m.2.1, .int .i64 m.2.2.1, .string m.2.2.2]] w0 fun v w' => v = .tuple #[.agg (enc32 zeroM).toArray, .int .i64 1] := by
  refine fnc (N := 56) Try.func23 rfl rfl rfl ?_
  refine WC.seq ?_
  refine WC.region ?_
  refine SL.box rfl rfl rfl (fun b1 hb1 => ?_)
  refine SL.norm [_] rfl ?_
  refine SL.alloc rfl rfl zero32 (fun b2 hb2 => ?_)
  refine SL.norm [_, _] rfl ?_
  refine SL.pure rfl rfl rfl (PureOp.assign rfl) ?_
  refine SL.nil_then ?_
  refine WC.seq ?_
  refine WC.seq ?_
  refine WC.region ?_
  refine SL.pure rfl rfl rfl (PureOp.move rfl) ?_
  refine SL.pure rfl rfl rfl (PureOp.makeIface Try.underlying43 rfl) ?_
  refine SL.pure rfl rfl rfl (PureOp.loads (vs := [.int .i64 m.1, .int .i64 m.2.1, .int .i64 m.2.2.1, .string m.2.2.2]) Try.underlying32 rfl rfl (fun _ => (RowIs.cells 0 0 4 rfl rfl)) sz32) ?_
  refine SL.calle rfl rfl rfl rfl rfl rfl callable31 (fun w hw => dtakesr_zero b m w (ho.below hw.below)) ?_
  refine SL.norm [_, _] rfl ?_
  refine SL.pure rfl rfl rfl (PureOp.assign rfl) ?_
  refine SL.nil_then ?_
  refine WC.seq ?_
  refine WC.region ?_
  refine SL.pure rfl rfl rfl (PureOp.move rfl) ?_
  refine SL.pure rfl rfl rfl (PureOp.neq rfl rfl) ?_
  refine SL.lit 14 true rfl (by decide) ?_
  refine SL.nil_then ?_
  refine WC.condT rfl ?_
  refine WC.seq ?_
  refine WC.region ?_
  refine SL.pure rfl rfl rfl (PureOp.build bld32 rfl rfl) ?_
  refine SL.pure rfl rfl rfl (PureOp.move rfl) ?_
  refine SL.store 1 rfl rfl rfl rfl sz32 rfl rfl ?_
  refine SL.norm [_, _] rfl ?_
  refine SL.pure rfl rfl rfl (PureOp.assign rfl) ?_
  refine SL.nil_then ?_
  refine WC.ret ?_
  refine QX.ret_then ?_
  refine QX.retv rfl (RVs.cons (RV.cell rfl Try.underlying32 rfl (RowIs.cells 1 0 4 rfl rfl) sz32) (RVs.cons (RV.tmp rfl) RVs.nil)) ?_
  intro w hw
  rfl

theorem drecv_dead (A : Option Addr) (m : Msg) (w0 : World) (hA : A = none ∨ ∃ b, A = some ⟨b, 0, none⟩ ∧ ObjIn w0 b [.slice none 0 0, .bool false]) : FnC Try.prog 23 [.pointer A, .agg #[.int .i64 m.1, .int .i64 m.2.1, .int .i64 m.2.2.1, .string m.2.2.2]] w0 fun v w' => v = .tuple #[.agg (enc32 zeroM).toArray, .int .i64 1] := by
  rcases hA with rfl | ⟨b, rfl, ho⟩
  · exact drecv_nil m w0
  · exact drecv_zero b m w0 ho
set_option maxHeartbeats 4000000 in
set_option maxRecDepth 100000 in
theorem dgot_nil (f : Int) (w0 : World) : FnC Try.prog 26 [.pointer none, .int .i64 f] w0 fun v w' => v = .slice none 0 0 := by
  refine fnc (N := 26) Try.func26 rfl rfl rfl ?_
  refine WC.seq ?_
  refine WC.region ?_
  refine SL.pure rfl rfl rfl (PureOp.assign rfl) ?_
  refine SL.nil_then ?_
  refine WC.seq ?_
  refine WC.seq ?_
  refine WC.region ?_
  refine SL.pure rfl rfl rfl (PureOp.move rfl) ?_
  refine SL.calle rfl rfl rfl rfl rfl rfl callable33 (fun w hw => drready_nil w) ?_
  refine SL.norm [] rfl ?_
  refine SL.pure rfl rfl rfl (PureOp.not rfl) ?_
  refine SL.pure rfl rfl rfl (PureOp.move rfl) ?_
  refine SL.off rfl rfl rfl rfl rfl rfl ?_
  refine SL.off rfl rfl rfl rfl rfl rfl ?_
  refine SL.off rfl rfl rfl rfl rfl rfl ?_
  refine SL.off rfl rfl rfl rfl rfl rfl ?_
  refine SL.off rfl rfl rfl rfl rfl rfl ?_
  refine SL.off rfl rfl rfl rfl rfl rfl ?_
  refine SL.off rfl rfl rfl rfl rfl rfl ?_
  refine SL.pure rfl rfl rfl (PureOp.pickT rfl rfl) ?_
  refine SL.nil_then ?_
  refine WC.condT rfl ?_
  refine WC.seq ?_
  refine WC.region ?_
  refine SL.pure rfl rfl rfl (PureOp.assign rfl) ?_
  refine SL.nil_then ?_
  refine WC.ret ?_
  refine QX.ret_then ?_
  refine QX.ret1 rfl rfl ?_
  intro w hw
  rfl

set_option maxHeartbeats 4000000 in
set_option maxRecDepth 100000 in
theorem dgot_zero (b : Nat) (f : Int) (w0 : World) (ho : ObjIn w0 b [.slice none 0 0, .bool false]) : FnC Try.prog 26 [.pointer (some ⟨b, 0, none⟩), .int .i64 f] w0 fun v w' => v = .slice none 0 0 := by
  refine fnc (N := 26) Try.func26 rfl rfl rfl ?_
  refine WC.seq ?_
  refine WC.region ?_
  refine SL.pure rfl rfl rfl (PureOp.assign rfl) ?_
  refine SL.nil_then ?_
  refine WC.seq ?_
  refine WC.seq ?_
  refine WC.region ?_
  refine SL.pure rfl rfl rfl (PureOp.move rfl) ?_
  refine SL.calle rfl rfl rfl rfl rfl rfl callable33 (fun w hw => drready_zero b w (ho.below hw.below)) ?_
  refine SL.norm [] rfl ?_
  refine SL.pure rfl rfl rfl (PureOp.not rfl) ?_
  refine SL.pure rfl rfl rfl (PureOp.move rfl) ?_
  refine SL.off rfl rfl rfl rfl rfl rfl ?_
  refine SL.off rfl rfl rfl rfl rfl rfl ?_
  refine SL.off rfl rfl rfl rfl rfl rfl ?_
  refine SL.off rfl rfl rfl rfl rfl rfl ?_
  refine SL.off rfl rfl rfl rfl rfl rfl ?_
  refine SL.off rfl rfl rfl rfl rfl rfl ?_
  refine SL.off rfl rfl rfl rfl rfl rfl ?_
  refine SL.pure rfl rfl rfl (PureOp.pickT rfl rfl) ?_
  refine SL.nil_then ?_
  refine WC.condT rfl ?_
  refine WC.seq ?_
  refine WC.region ?_
  refine SL.pure rfl rfl rfl (PureOp.assign rfl) ?_
  refine SL.nil_then ?_
  refine WC.ret ?_
  refine QX.ret_then ?_
  refine QX.ret1 rfl rfl ?_
  intro w hw
  rfl

theorem dgot_dead (A : Option Addr) (f : Int) (w0 : World) (hA : A = none ∨ ∃ b, A = some ⟨b, 0, none⟩ ∧ ObjIn w0 b [.slice none 0 0, .bool false]) : FnC Try.prog 26 [.pointer A, .int .i64 f] w0 fun v w' => v = .slice none 0 0 := by
  rcases hA with rfl | ⟨b, rfl, ho⟩
  · exact dgot_nil f w0
  · exact dgot_zero b f w0 ho
end Go.Proofs.Ytmnhdiblkjmmfaa
