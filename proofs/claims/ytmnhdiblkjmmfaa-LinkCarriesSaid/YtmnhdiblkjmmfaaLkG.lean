import Derived.Test.YtmnhdiblkjmmfaaLkF
namespace Go.Proofs.Ytmnhdiblkjmmfaa
open Go Go.RowKit Eng
set_option linter.unusedVariables false
set_option linter.unusedSimpArgs false

theorem aws0 (bs : Nat) (ka : Option Addr) (kc : Nat) (w0 : World) : MC Try.prog 10 [.pointer (some ⟨bs, 0, none⟩), .string ⟨#[97]⟩] w0 [.cells bs [.int .i64 2, .int .i64 0, .int .i64 0, .slice ka 0 kc] 57, .own w0.heap.size ka 0 kc 32 4 (cellsOf enc32 (keptL ([] : List ByteArray) 0))] (fun _ : Option Addr × Nat => .tuple #[.agg (enc32 (1, 1, 0, ⟨#[97]⟩)).toArray, .int .i64 0]) (fun t => [.cells bs [.int .i64 2, .int .i64 1, .int .i64 0, .slice t.1 1 t.2] 57, .own w0.heap.size t.1 1 t.2 32 4 (cellsOf enc32 (keptL ([⟨#[97]⟩] : List ByteArray) 0))]) (fun _ => True) (fun _ => []) := by
  have h := send_ok bs 2 ([] : List ByteArray) 0 ka 0 kc (by decide) (by decide) (by decide) (by decide) w0 ⟨#[97]⟩
  have e2 : sendE 2 ([] : List ByteArray) 0 ⟨#[97]⟩ = 0 := by decide
  have e1 : sendB 2 ([] : List ByteArray) 0 ⟨#[97]⟩ = ([⟨#[97]⟩] : List ByteArray) := by rw [sendB, e2]; rfl
  have e3 : sendM 2 ([] : List ByteArray) 0 ⟨#[97]⟩ = (1, 1, 0, ⟨#[97]⟩) := by rw [sendM, e2]; rfl
  rw [e1, e2, e3] at h
  exact h
theorem aws1 (bs : Nat) (ka : Option Addr) (kc : Nat) (w0 : World) : MC Try.prog 10 [.pointer (some ⟨bs, 0, none⟩), .string ⟨#[98]⟩] w0 [.cells bs [.int .i64 2, .int .i64 1, .int .i64 0, .slice ka 1 kc] 57, .own w0.heap.size ka 1 kc 32 4 (cellsOf enc32 (keptL ([⟨#[97]⟩] : List ByteArray) 0))] (fun _ : Option Addr × Nat => .tuple #[.agg (enc32 (1, 2, 0, ⟨#[98]⟩)).toArray, .int .i64 0]) (fun t => [.cells bs [.int .i64 2, .int .i64 2, .int .i64 0, .slice t.1 2 t.2] 57, .own w0.heap.size t.1 2 t.2 32 4 (cellsOf enc32 (keptL ([⟨#[97]⟩, ⟨#[98]⟩] : List ByteArray) 0))]) (fun _ => True) (fun _ => []) := by
  have h := send_ok bs 2 ([⟨#[97]⟩] : List ByteArray) 0 ka 1 kc (by decide) (by decide) (by decide) (by decide) w0 ⟨#[98]⟩
  have e2 : sendE 2 ([⟨#[97]⟩] : List ByteArray) 0 ⟨#[98]⟩ = 0 := by decide
  have e1 : sendB 2 ([⟨#[97]⟩] : List ByteArray) 0 ⟨#[98]⟩ = ([⟨#[97]⟩, ⟨#[98]⟩] : List ByteArray) := by rw [sendB, e2]; rfl
  have e3 : sendM 2 ([⟨#[97]⟩] : List ByteArray) 0 ⟨#[98]⟩ = (1, 2, 0, ⟨#[98]⟩) := by rw [sendM, e2]; rfl
  rw [e1, e2, e3] at h
  exact h
theorem aws2 (bs : Nat) (ka : Option Addr) (kc : Nat) (w0 : World) : MC Try.prog 10 [.pointer (some ⟨bs, 0, none⟩), .string ⟨#[99]⟩] w0 [.cells bs [.int .i64 2, .int .i64 2, .int .i64 0, .slice ka 2 kc] 57, .own w0.heap.size ka 2 kc 32 4 (cellsOf enc32 (keptL ([⟨#[97]⟩, ⟨#[98]⟩] : List ByteArray) 0))] (fun _ : Option Addr × Nat => .tuple #[.agg (enc32 zeroM).toArray, .int .i64 9]) (fun t => [.cells bs [.int .i64 2, .int .i64 2, .int .i64 0, .slice t.1 2 t.2] 57, .own w0.heap.size t.1 2 t.2 32 4 (cellsOf enc32 (keptL ([⟨#[97]⟩, ⟨#[98]⟩] : List ByteArray) 0))]) (fun _ => True) (fun _ => []) := by
  have h := send_ok bs 2 ([⟨#[97]⟩, ⟨#[98]⟩] : List ByteArray) 0 ka 2 kc (by decide) (by decide) (by decide) (by decide) w0 ⟨#[99]⟩
  have e2 : sendE 2 ([⟨#[97]⟩, ⟨#[98]⟩] : List ByteArray) 0 ⟨#[99]⟩ = 9 := by decide
  have e1 : sendB 2 ([⟨#[97]⟩, ⟨#[98]⟩] : List ByteArray) 0 ⟨#[99]⟩ = ([⟨#[97]⟩, ⟨#[98]⟩] : List ByteArray) := by rw [sendB, e2]; rfl
  have e3 : sendM 2 ([⟨#[97]⟩, ⟨#[98]⟩] : List ByteArray) 0 ⟨#[99]⟩ = zeroM := by rw [sendM, e2]; rfl
  rw [e1, e2, e3] at h
  exact h
theorem awr0 (br : Nat) (ra : Option Addr) (rc : Nat) (w0 : World) : MC Try.prog 23 [.pointer (some ⟨br, 0, none⟩), .agg (enc32 (1, 2, 0, ⟨#[98]⟩)).toArray] w0 [.cells br [.slice ra 0 rc, .bool true] 60, .own w0.heap.size ra 0 rc 9 1 (cellsOf encStr ([] : List ByteArray))] (fun _ : Option Addr × Nat => .tuple #[.agg (enc32 (ackM 0)).toArray, .int .i64 29]) (fun t => [.cells br [.slice t.1 0 t.2, .bool true] 60, .own w0.heap.size t.1 0 t.2 9 1 (cellsOf encStr ([] : List ByteArray))]) (fun _ => True) (fun _ => []) := by
  have h := recv_ok br ([] : List ByteArray) ra rc (by decide) w0 (1, 2, 0, ⟨#[98]⟩)
  have e2 : recvE ([] : List ByteArray) (1, 2, 0, ⟨#[98]⟩) = 29 := by decide
  have e1 : recvB ([] : List ByteArray) (1, 2, 0, ⟨#[98]⟩) = ([] : List ByteArray) := by rw [recvB, e2]; rfl
  have e3 : recvM ([] : List ByteArray) (1, 2, 0, ⟨#[98]⟩) = ackM 0 := by rw [recvM, e2, e1]; rfl
  rw [e1, e2, e3] at h
  exact h
theorem awr1 (br : Nat) (ra : Option Addr) (rc : Nat) (w0 : World) : MC Try.prog 23 [.pointer (some ⟨br, 0, none⟩), .agg (enc32 (1, 1, 0, ⟨#[97]⟩)).toArray] w0 [.cells br [.slice ra 0 rc, .bool true] 60, .own w0.heap.size ra 0 rc 9 1 (cellsOf encStr ([] : List ByteArray))] (fun _ : Option Addr × Nat => .tuple #[.agg (enc32 (ackM 1)).toArray, .int .i64 0]) (fun t => [.cells br [.slice t.1 1 t.2, .bool true] 60, .own w0.heap.size t.1 1 t.2 9 1 (cellsOf encStr ([⟨#[97]⟩] : List ByteArray))]) (fun _ => True) (fun _ => []) := by
  have h := recv_ok br ([] : List ByteArray) ra rc (by decide) w0 (1, 1, 0, ⟨#[97]⟩)
  have e2 : recvE ([] : List ByteArray) (1, 1, 0, ⟨#[97]⟩) = 0 := by decide
  have e1 : recvB ([] : List ByteArray) (1, 1, 0, ⟨#[97]⟩) = ([⟨#[97]⟩] : List ByteArray) := by rw [recvB, e2]; rfl
  have e3 : recvM ([] : List ByteArray) (1, 1, 0, ⟨#[97]⟩) = ackM 1 := by rw [recvM, e2, e1]; rfl
  rw [e1, e2, e3] at h
  exact h
theorem awr2 (br : Nat) (ra : Option Addr) (rc : Nat) (w0 : World) : MC Try.prog 23 [.pointer (some ⟨br, 0, none⟩), .agg (enc32 (1, 1, 0, ⟨#[97]⟩)).toArray] w0 [.cells br [.slice ra 1 rc, .bool true] 60, .own w0.heap.size ra 1 rc 9 1 (cellsOf encStr ([⟨#[97]⟩] : List ByteArray))] (fun _ : Option Addr × Nat => .tuple #[.agg (enc32 (ackM 1)).toArray, .int .i64 30]) (fun t => [.cells br [.slice t.1 1 t.2, .bool true] 60, .own w0.heap.size t.1 1 t.2 9 1 (cellsOf encStr ([⟨#[97]⟩] : List ByteArray))]) (fun _ => True) (fun _ => []) := by
  have h := recv_ok br ([⟨#[97]⟩] : List ByteArray) ra rc (by decide) w0 (1, 1, 0, ⟨#[97]⟩)
  have e2 : recvE ([⟨#[97]⟩] : List ByteArray) (1, 1, 0, ⟨#[97]⟩) = 30 := by decide
  have e1 : recvB ([⟨#[97]⟩] : List ByteArray) (1, 1, 0, ⟨#[97]⟩) = ([⟨#[97]⟩] : List ByteArray) := by rw [recvB, e2]; rfl
  have e3 : recvM ([⟨#[97]⟩] : List ByteArray) (1, 1, 0, ⟨#[97]⟩) = ackM 1 := by rw [recvM, e2, e1]; rfl
  rw [e1, e2, e3] at h
  exact h
theorem awa (bs : Nat) (ka : Option Addr) (kc : Nat) (w0 : World) : MC Try.prog 12 [.pointer (some ⟨bs, 0, none⟩), .agg (enc32 (ackM 1)).toArray] w0 [.cells bs [.int .i64 2, .int .i64 2, .int .i64 0, .slice ka 2 kc] 57, .own w0.heap.size ka 2 kc 32 4 (cellsOf enc32 (keptL ([⟨#[97]⟩, ⟨#[98]⟩] : List ByteArray) 0))] (fun _ : Option Addr × Nat => .int .i64 0) (fun t => [.cells bs [.int .i64 2, .int .i64 2, .int .i64 1, .slice t.1 1 t.2] 57, .own w0.heap.size t.1 1 t.2 32 4 (cellsOf enc32 (keptL ([⟨#[97]⟩, ⟨#[98]⟩] : List ByteArray) 1))]) (fun _ => True) (fun _ => []) := by
  have h := acked_ok bs 2 ([⟨#[97]⟩, ⟨#[98]⟩] : List ByteArray) 0 ka 2 kc (by decide) (by decide) (by decide) (by decide) w0 (ackM 1)
  have e2 : ackE ([⟨#[97]⟩, ⟨#[98]⟩] : List ByteArray) 0 (ackM 1) = 0 := by decide
  have e1 : ackD ([⟨#[97]⟩, ⟨#[98]⟩] : List ByteArray) 0 (ackM 1) = 1 := by rw [ackD, e2]; rfl
  rw [e1, e2] at h
  exact h
set_option maxHeartbeats 4000000 in
set_option maxRecDepth 100000 in
theorem awake_ok (w0 : World) : FnC Try.prog 7 [] w0 fun v w' => v = .bool true := by
  refine fnc (N := 113) Try.func7 rfl rfl rfl ?_
  refine WC.seq ?_
  refine WC.region ?_
  refine SL.pure rfl rfl rfl (PureOp.assign rfl) ?_
  refine SL.nil_then ?_
  refine WC.seq ?_
  refine WC.region ?_
  refine SL.callM [] rfl rfl rfl rfl rfl rfl callable8 (by decide) (newsender_ok 2 (by decide) w0) rfl (fun _ _ => rfl) ?_
  rintro bs hbs
  refine SL.addnil 32 4 ?_
  refine SL.norm [_, _] rfl ?_
  refine SL.pure rfl rfl rfl (PureOp.move rfl) ?_
  refine SL.pure rfl rfl rfl (PureOp.extract rfl rfl) ?_
  refine SL.pure rfl rfl rfl (PureOp.extract rfl rfl) ?_
  refine SL.pure rfl rfl rfl (PureOp.assign rfl) ?_
  refine SL.pure rfl rfl rfl (PureOp.assign rfl) ?_
  refine SL.nil_then ?_
  refine WC.seq ?_
  refine WC.seq ?_
  refine WC.region ?_
  refine SL.pure rfl rfl rfl (PureOp.move rfl) ?_
  refine SL.pure rfl rfl rfl (PureOp.neq rfl rfl) ?_
  refine SL.lit 21 false rfl (by decide) ?_
  refine SL.pure rfl rfl rfl (PureOp.move rfl) ?_
  refine SL.ung rfl rfl rfl rfl ?_
  refine SL.pure rfl rfl rfl (PureOp.move rfl) ?_
  refine SL.ung rfl rfl rfl rfl ?_
  refine SL.pure rfl rfl rfl (PureOp.eqlpnil1 rfl rfl Try.underlying24) ?_
  refine SL.pure rfl rfl rfl (PureOp.pickF rfl rfl) ?_
  refine SL.nil_then ?_
  refine WC.condF rfl ?_
  refine WC.skip ?_
  refine QX.then_ ?_
  refine WC.seq ?_
  refine WC.region ?_
  refine SL.pure rfl rfl rfl (PureOp.move rfl) ?_
  refine SL.callM [0, 1] rfl rfl rfl rfl rfl rfl callable10 (by decide) (aws0 bs none 0 w0) rfl (fun _ _ => rfl) ?_
  rintro ⟨ka1, kc1⟩ _
  refine SL.norm [_, _] rfl ?_
  refine SL.pure rfl rfl rfl (PureOp.move rfl) ?_
  refine SL.pure rfl rfl rfl (PureOp.extract rfl rfl) ?_
  refine SL.pure rfl rfl rfl (PureOp.extract rfl rfl) ?_
  refine SL.alloc rfl rfl zero32 (fun b1 hb1 => ?_)
  refine SL.norm [_, _, _] rfl ?_
  refine SL.store 2 rfl rfl rfl rfl sz32 rfl rfl ?_
  refine SL.norm [_, _, _] rfl ?_
  refine SL.pure rfl rfl rfl (PureOp.assign rfl) ?_
  refine SL.nil_then ?_
  refine WC.seq ?_
  refine WC.region ?_
  refine SL.pure rfl rfl rfl (PureOp.move rfl) ?_
  refine SL.callM [0, 1] rfl rfl rfl rfl rfl rfl callable10 (by decide) (aws1 bs ka1 kc1 w0) rfl (fun _ _ => rfl) ?_
  rintro ⟨ka2, kc2⟩ _
  refine SL.norm [_, _, _] rfl ?_
  refine SL.pure rfl rfl rfl (PureOp.move rfl) ?_
  refine SL.pure rfl rfl rfl (PureOp.extract rfl rfl) ?_
  refine SL.pure rfl rfl rfl (PureOp.extract rfl rfl) ?_
  refine SL.alloc rfl rfl zero32 (fun b2 hb2 => ?_)
  refine SL.norm [_, _, _, _] rfl ?_
  refine SL.store 3 rfl rfl rfl rfl sz32 rfl rfl ?_
  refine SL.norm [_, _, _, _] rfl ?_
  refine SL.pure rfl rfl rfl (PureOp.assign rfl) ?_
  refine SL.nil_then ?_
  refine WC.seq ?_
  refine WC.region ?_
  refine SL.pure rfl rfl rfl (PureOp.move rfl) ?_
  refine SL.callM [0, 1] rfl rfl rfl rfl rfl rfl callable10 (by decide) (aws2 bs ka2 kc2 w0) rfl (fun _ _ => rfl) ?_
  rintro ⟨ka3, kc3⟩ _
  refine SL.norm [_, _, _, _] rfl ?_
  refine SL.pure rfl rfl rfl (PureOp.move rfl) ?_
  refine SL.pure rfl rfl rfl (PureOp.extract rfl rfl) ?_
  refine SL.pure rfl rfl rfl (PureOp.extract rfl rfl) ?_
  refine SL.alloc rfl rfl zero32 (fun b3 hb3 => ?_)
  refine SL.norm [_, _, _, _, _] rfl ?_
  refine SL.store 4 rfl rfl rfl rfl sz32 rfl rfl ?_
  refine SL.norm [_, _, _, _, _] rfl ?_
  refine SL.pure rfl rfl rfl (PureOp.assign rfl) ?_
  refine SL.nil_then ?_
  refine WC.seq ?_
  refine WC.region ?_
  refine SL.callM [] rfl rfl rfl rfl rfl rfl callable21 (by decide) (newrecv_ok w0) rfl (fun _ _ => rfl) ?_
  rintro br hbr
  refine SL.addnil 9 1 ?_
  refine SL.norm [_, _, _, _, _, _, _] rfl ?_
  refine SL.pure rfl rfl rfl (PureOp.assign rfl) ?_
  refine SL.nil_then ?_
  refine WC.seq ?_
  refine WC.region ?_
  refine SL.pure rfl rfl rfl (PureOp.move rfl) ?_
  refine SL.pure rfl rfl rfl (PureOp.loads (vs := [.int .i64 1, .int .i64 2, .int .i64 0, .string (⟨#[98]⟩)]) Try.underlying32 rfl rfl (fun _ => (RowIs.cells 3 0 4 rfl rfl)) sz32) ?_
  refine SL.callM [5, 6] rfl rfl rfl rfl rfl rfl callable23 (by decide) (awr0 br none 0 w0) rfl (fun _ _ => rfl) ?_
  rintro ⟨ra1, rc1⟩ _
  refine SL.norm [_, _, _, _, _, _, _] rfl ?_
  refine SL.pure rfl rfl rfl (PureOp.move rfl) ?_
  refine SL.pure rfl rfl rfl (PureOp.extract rfl rfl) ?_
  refine SL.pure rfl rfl rfl (PureOp.extract rfl rfl) ?_
  refine SL.alloc rfl rfl zero32 (fun b4 hb4 => ?_)
  refine SL.norm [_, _, _, _, _, _, _, _] rfl ?_
  refine SL.store 7 rfl rfl rfl rfl sz32 rfl rfl ?_
  refine SL.norm [_, _, _, _, _, _, _, _] rfl ?_
  refine SL.pure rfl rfl rfl (PureOp.assign rfl) ?_
  refine SL.nil_then ?_
  refine WC.seq ?_
  refine WC.region ?_
  refine SL.pure rfl rfl rfl (PureOp.move rfl) ?_
  refine SL.pure rfl rfl rfl (PureOp.loads (vs := [.int .i64 1, .int .i64 1, .int .i64 0, .string (⟨#[97]⟩)]) Try.underlying32 rfl rfl (fun _ => (RowIs.cells 2 0 4 rfl rfl)) sz32) ?_
  refine SL.callM [5, 6] rfl rfl rfl rfl rfl rfl callable23 (by decide) (awr1 br ra1 rc1 w0) rfl (fun _ _ => rfl) ?_
  rintro ⟨ra2, rc2⟩ _
  refine SL.norm [_, _, _, _, _, _, _, _] rfl ?_
  refine SL.pure rfl rfl rfl (PureOp.move rfl) ?_
  refine SL.pure rfl rfl rfl (PureOp.extract rfl rfl) ?_
  refine SL.pure rfl rfl rfl (PureOp.extract rfl rfl) ?_
  refine SL.alloc rfl rfl zero32 (fun b5 hb5 => ?_)
  refine SL.norm [_, _, _, _, _, _, _, _, _] rfl ?_
  refine SL.store 8 rfl rfl rfl rfl sz32 rfl rfl ?_
  refine SL.norm [_, _, _, _, _, _, _, _, _] rfl ?_
  refine SL.pure rfl rfl rfl (PureOp.assign rfl) ?_
  refine SL.nil_then ?_
  refine WC.seq ?_
  refine WC.region ?_
  refine SL.pure rfl rfl rfl (PureOp.move rfl) ?_
  refine SL.pure rfl rfl rfl (PureOp.loads (vs := [.int .i64 1, .int .i64 1, .int .i64 0, .string (⟨#[97]⟩)]) Try.underlying32 rfl rfl (fun _ => (RowIs.cells 2 0 4 rfl rfl)) sz32) ?_
  refine SL.callM [5, 6] rfl rfl rfl rfl rfl rfl callable23 (by decide) (awr2 br ra2 rc2 w0) rfl (fun _ _ => rfl) ?_
  rintro ⟨ra3, rc3⟩ _
  refine SL.norm [_, _, _, _, _, _, _, _, _] rfl ?_
  refine SL.pure rfl rfl rfl (PureOp.move rfl) ?_
  refine SL.pure rfl rfl rfl (PureOp.extract rfl rfl) ?_
  refine SL.pure rfl rfl rfl (PureOp.extract rfl rfl) ?_
  refine SL.alloc rfl rfl zero32 (fun b6 hb6 => ?_)
  refine SL.norm [_, _, _, _, _, _, _, _, _, _] rfl ?_
  refine SL.store 9 rfl rfl rfl rfl sz32 rfl rfl ?_
  refine SL.norm [_, _, _, _, _, _, _, _, _, _] rfl ?_
  refine SL.pure rfl rfl rfl (PureOp.assign rfl) ?_
  refine SL.nil_then ?_
  refine WC.seq ?_
  refine WC.region ?_
  refine SL.pure rfl rfl rfl (PureOp.move rfl) ?_
  refine SL.pure rfl rfl rfl (PureOp.eql rfl rfl) ?_
  refine SL.lit 61 true rfl (by decide) ?_
  refine SL.pure rfl rfl rfl (PureOp.move rfl) ?_
  refine SL.ung rfl rfl rfl rfl ?_
  refine SL.pure rfl rfl rfl (PureOp.move rfl) ?_
  refine SL.ung rfl rfl rfl rfl ?_
  refine SL.pure rfl rfl rfl (PureOp.eql rfl rfl) ?_
  refine SL.lit 64 true rfl (by decide) ?_
  refine SL.pure rfl rfl rfl (PureOp.pickT rfl rfl) ?_
  refine SL.pure rfl rfl rfl (PureOp.move rfl) ?_
  refine SL.ung rfl rfl rfl rfl ?_
  refine SL.pure rfl rfl rfl (PureOp.move rfl) ?_
  refine SL.ung rfl rfl rfl rfl ?_
  refine SL.pure rfl rfl rfl (PureOp.eql rfl rfl) ?_
  refine SL.lit 68 true rfl (by decide) ?_
  refine SL.pure rfl rfl rfl (PureOp.pickT rfl rfl) ?_
  refine SL.pure rfl rfl rfl (PureOp.move rfl) ?_
  refine SL.ung rfl rfl rfl rfl ?_
  refine SL.pure rfl rfl rfl (PureOp.move rfl) ?_
  refine SL.ung rfl rfl rfl rfl ?_
  refine SL.pure rfl rfl rfl (PureOp.eql rfl rfl) ?_
  refine SL.lit 72 true rfl (by decide) ?_
  refine SL.pure rfl rfl rfl (PureOp.pickT rfl rfl) ?_
  refine SL.pure rfl rfl rfl (PureOp.move rfl) ?_
  refine SL.ung rfl rfl rfl rfl ?_
  refine SL.pure rfl rfl rfl (PureOp.move rfl) ?_
  refine SL.ung rfl rfl rfl rfl ?_
  refine SL.pure rfl rfl rfl (PureOp.eql rfl rfl) ?_
  refine SL.lit 76 true rfl (by decide) ?_
  refine SL.pure rfl rfl rfl (PureOp.pickT rfl rfl) ?_
  refine SL.pure rfl rfl rfl (PureOp.move rfl) ?_
  refine SL.ung rfl rfl rfl rfl ?_
  refine SL.pure rfl rfl rfl (PureOp.move rfl) ?_
  refine SL.ung rfl rfl rfl rfl ?_
  refine SL.pure rfl rfl rfl (PureOp.eql rfl rfl) ?_
  refine SL.lit 80 true rfl (by decide) ?_
  refine SL.pure rfl rfl rfl (PureOp.pickT rfl rfl) ?_
  refine SL.pure rfl rfl rfl (PureOp.move rfl) ?_
  refine SL.ung rfl rfl rfl rfl ?_
  refine SL.pure rfl rfl rfl (PureOp.loads (vs := [.int .i64 2, .int .i64 0, .int .i64 0, .string (⟨#[]⟩)]) Try.underlying32 rfl rfl (fun _ => (RowIs.cells 7 0 4 rfl rfl)) sz32) ?_
  refine SL.ung rfl rfl rfl rfl ?_
  refine SL.pure rfl rfl rfl (PureOp.build bld32 rfl rfl) ?_
  refine SL.ung rfl rfl rfl rfl ?_
  refine SL.pure rfl rfl rfl (PureOp.eqla rfl rfl flat32 rfl) ?_
  refine SL.lit 85 true rfl (by show eqB (enc32 (ackM 0)) (enc32 (ackM 0)) = true; exact eqB_refl (ks := [0, 0, 0, 1]) rfl) ?_
  refine SL.pure rfl rfl rfl (PureOp.pickT rfl rfl) ?_
  refine SL.pure rfl rfl rfl (PureOp.move rfl) ?_
  refine SL.ung rfl rfl rfl rfl ?_
  refine SL.pure rfl rfl rfl (PureOp.loads (vs := [.int .i64 2, .int .i64 0, .int .i64 1, .string (⟨#[]⟩)]) Try.underlying32 rfl rfl (fun _ => (RowIs.cells 8 0 4 rfl rfl)) sz32) ?_
  refine SL.ung rfl rfl rfl rfl ?_
  refine SL.pure rfl rfl rfl (PureOp.loads (vs := [.int .i64 2, .int .i64 0, .int .i64 1, .string (⟨#[]⟩)]) Try.underlying32 rfl rfl (fun _ => (RowIs.cells 9 0 4 rfl rfl)) sz32) ?_
  refine SL.ung rfl rfl rfl rfl ?_
  refine SL.pure rfl rfl rfl (PureOp.eqla rfl rfl flat32 rfl) ?_
  refine SL.lit 90 true rfl (by show eqB (enc32 (ackM 1)) (enc32 (ackM 1)) = true; exact eqB_refl (ks := [0, 0, 0, 1]) rfl) ?_
  refine SL.pure rfl rfl rfl (PureOp.pickT rfl rfl) ?_
  refine SL.pure rfl rfl rfl (PureOp.move rfl) ?_
  refine SL.ung rfl rfl rfl rfl ?_
  refine SL.pure rfl rfl rfl (PureOp.fieldAddrT 2 Try.underlying32 rfl sz3 rfl rfl) ?_
  refine SL.ung rfl rfl rfl rfl ?_
  refine SL.pure rfl rfl rfl (PureOp.load (v := .int .i64 1) Try.underlying3 rfl rfl (fun _ => (CellIs.cells 8 rfl rfl))) ?_
  refine SL.ung rfl rfl rfl rfl ?_
  refine SL.pure rfl rfl rfl (PureOp.eql rfl rfl) ?_
  refine SL.lit 95 true rfl (by decide) ?_
  refine SL.pure rfl rfl rfl (PureOp.pickT rfl rfl) ?_
  refine SL.pure rfl rfl rfl (PureOp.move rfl) ?_
  refine SL.ung rfl rfl rfl rfl ?_
  refine SL.pure rfl rfl rfl (PureOp.move rfl) ?_
  refine SL.ung rfl rfl rfl rfl ?_
  refine SL.pure rfl rfl rfl (PureOp.loads (vs := [.int .i64 2, .int .i64 0, .int .i64 1, .string (⟨#[]⟩)]) Try.underlying32 rfl rfl (fun _ => (RowIs.cells 8 0 4 rfl rfl)) sz32) ?_
  refine SL.ung rfl rfl rfl rfl ?_
  refine SL.callM [0, 1] rfl rfl rfl rfl rfl rfl callable12 (by decide) (awa bs ka3 kc3 w0) rfl (fun _ _ => rfl) ?_
  rintro ⟨ka4, kc4⟩ _
  refine SL.norm [_, _, _, _, _, _, _, _, _, _] rfl ?_
  refine SL.ung rfl rfl rfl rfl ?_
  refine SL.pure rfl rfl rfl (PureOp.eql rfl rfl) ?_
  refine SL.lit 101 true rfl (by decide) ?_
  refine SL.pure rfl rfl rfl (PureOp.pickT rfl rfl) ?_
  refine SL.pure rfl rfl rfl (PureOp.move rfl) ?_
  refine SL.ung rfl rfl rfl rfl ?_
  refine SL.pure rfl rfl rfl (PureOp.move rfl) ?_
  refine SL.ung rfl rfl rfl rfl ?_
  refine SL.calle rfl rfl rfl rfl rfl rfl callable19 (fun w hw => skept_ok bs 2 ([⟨#[97]⟩, ⟨#[98]⟩] : List ByteArray) 1 ka4 1 kc4 (by decide) (by decide) (by decide) (by decide) w (ObjIn.of hw 0 rfl) (SliceIn.rows (hw.mem (i := 1) rfl) enc32_len (by decide))) ?_
  refine SL.norm [_, _, _, _, _, _, _, _, _, _] rfl ?_
  refine SL.ung rfl rfl rfl rfl ?_
  refine SL.pure rfl rfl rfl (PureOp.eql rfl rfl) ?_
  refine SL.lit 106 true rfl (by decide) ?_
  refine SL.pure rfl rfl rfl (PureOp.pickT rfl rfl) ?_
  refine SL.pure rfl rfl rfl (PureOp.move rfl) ?_
  refine SL.ung rfl rfl rfl rfl ?_
  refine SL.pure rfl rfl rfl (PureOp.move rfl) ?_
  refine SL.ung rfl rfl rfl rfl ?_
  refine SL.calle rfl rfl rfl rfl rfl rfl callable17 (fun w hw => slast_ok bs 2 ([⟨#[97]⟩, ⟨#[98]⟩] : List ByteArray) 1 ka4 1 kc4 (by decide) (by decide) (by decide) (by decide) w (ObjIn.of hw 0 rfl)) ?_
  refine SL.norm [_, _, _, _, _, _, _, _, _, _] rfl ?_
  refine SL.ung rfl rfl rfl rfl ?_
  refine SL.pure rfl rfl rfl (PureOp.eql rfl rfl) ?_
  refine SL.lit 111 true rfl (by decide) ?_
  refine SL.pure rfl rfl rfl (PureOp.pickT rfl rfl) ?_
  refine SL.pure rfl rfl rfl (PureOp.assign rfl) ?_
  refine SL.nil_then ?_
  refine WC.ret ?_
  refine QX.ret1 rfl rfl ?_
  intro w hw
  rfl

end Go.Proofs.Ytmnhdiblkjmmfaa
