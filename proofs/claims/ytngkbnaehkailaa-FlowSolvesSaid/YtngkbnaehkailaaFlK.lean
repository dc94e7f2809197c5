import Derived.Test.YtngkbnaehkailaaFlJ
namespace Go.Proofs.Ytngkbnaehkailaa
open Go Go.RowKit Eng
set_option linter.unusedVariables false
set_option linter.unusedSimpArgs false

set_option maxHeartbeats 4000000 in
set_option maxRecDepth 100000 in
theorem awake_ok (w0 : World) : FnC Try.prog 14 [] w0 fun v w' => v = .bool true := by
  refine fnc (N := 122) Try.func14 rfl rfl rfl ?_
  refine WC.seq ?_
  refine WC.region ?_
  refine SL.pure rfl rfl rfl (PureOp.assign rfl) ?_
  refine SL.nil_then ?_
  refine WC.seq ?_
  refine WC.region ?_
  refine SL.callo (fun da dc => .agg #[.int .i64 4, .slice da 4 dc, .int .i64 0, .int .i64 3]) rfl rfl rfl rfl rfl rfl callable39 (fun w hw => diamond_ok w) (fun da dc => ?_)
  refine SL.norm [_] rfl ?_
  refine SL.alloc rfl rfl zero24 (fun b1 hb1 => ?_)
  refine SL.norm [_, _] rfl ?_
  refine SL.store 1 rfl rfl rfl rfl sz24 rfl rfl ?_
  refine SL.norm [_, _] rfl ?_
  refine SL.nil_then ?_
  refine WC.seq ?_
  refine WC.region ?_
  refine SL.pure rfl rfl rfl (PureOp.fieldAddrT 0 Try.underlying24 rfl sz3 rfl rfl) ?_
  refine SL.pure rfl rfl rfl (PureOp.load (v := .int .i64 4) Try.underlying3 rfl rfl (fun _ => (CellIs.cells 1 rfl rfl))) ?_
  refine SL.pure rfl rfl rfl (PureOp.fieldAddrT 1 Try.underlying24 rfl sz22 rfl rfl) ?_
  refine SL.pure rfl rfl rfl (PureOp.load (v := .slice da 4 dc) Try.underlying22 rfl rfl (fun _ => (CellIs.cells 1 rfl rfl))) ?_
  refine SL.pure rfl rfl rfl (PureOp.fieldAddrT 2 Try.underlying24 rfl sz3 rfl rfl) ?_
  refine SL.pure rfl rfl rfl (PureOp.load (v := .int .i64 0) Try.underlying3 rfl rfl (fun _ => (CellIs.cells 1 rfl rfl))) ?_
  refine SL.pure rfl rfl rfl (PureOp.fieldAddrT 3 Try.underlying24 rfl sz3 rfl rfl) ?_
  refine SL.pure rfl rfl rfl (PureOp.load (v := .int .i64 3) Try.underlying3 rfl rfl (fun _ => (CellIs.cells 1 rfl rfl))) ?_
  refine SL.callo (fun fa fc => .tuple #[.slice fa 4 fc, .int .i64 3, .int .i64 14, .int .i64 0]) rfl rfl rfl rfl rfl rfl callable18 (fun w hw => solve_ok 4 dia da 4 dc rfl 0 3 9 dia_c (by decide) 5 ([2, 2, 1, 1], 3, 14) dia_solve w (SliceIn.rows (l := dia) (hw.mem (i := 0) rfl) encEd_len (by decide))) (fun fa fc => ?_)
  refine SL.norm [_, _, _] rfl ?_
  refine SL.pure rfl rfl rfl (PureOp.move rfl) ?_
  refine SL.pure rfl rfl rfl (PureOp.extract rfl rfl) ?_
  refine SL.pure rfl rfl rfl (PureOp.extract rfl rfl) ?_
  refine SL.pure rfl rfl rfl (PureOp.extract rfl rfl) ?_
  refine SL.pure rfl rfl rfl (PureOp.extract rfl rfl) ?_
  refine SL.pure rfl rfl rfl (PureOp.assign rfl) ?_
  refine SL.pure rfl rfl rfl (PureOp.assign rfl) ?_
  refine SL.pure rfl rfl rfl (PureOp.assign rfl) ?_
  refine SL.pure rfl rfl rfl (PureOp.assign rfl) ?_
  refine SL.nil_then ?_
  refine WC.seq ?_
  refine WC.region ?_
  refine SL.pure rfl rfl rfl (PureOp.fieldAddrT 0 Try.underlying24 rfl sz3 rfl rfl) ?_
  refine SL.pure rfl rfl rfl (PureOp.load (v := .int .i64 4) Try.underlying3 rfl rfl (fun _ => (CellIs.cells 1 rfl rfl))) ?_
  refine SL.pure rfl rfl rfl (PureOp.fieldAddrT 1 Try.underlying24 rfl sz22 rfl rfl) ?_
  refine SL.pure rfl rfl rfl (PureOp.load (v := .slice da 4 dc) Try.underlying22 rfl rfl (fun _ => (CellIs.cells 1 rfl rfl))) ?_
  refine SL.pure rfl rfl rfl (PureOp.fieldAddrT 2 Try.underlying24 rfl sz3 rfl rfl) ?_
  refine SL.pure rfl rfl rfl (PureOp.load (v := .int .i64 0) Try.underlying3 rfl rfl (fun _ => (CellIs.cells 1 rfl rfl))) ?_
  refine SL.pure rfl rfl rfl (PureOp.fieldAddrT 3 Try.underlying24 rfl sz3 rfl rfl) ?_
  refine SL.pure rfl rfl rfl (PureOp.load (v := .int .i64 3) Try.underlying3 rfl rfl (fun _ => (CellIs.cells 1 rfl rfl))) ?_
  refine SL.buildSlice rfl rfl Try.underlying29 elem3 rfl rfl rfl rfl (fun b2 hb2 => ?_)
  refine SL.norm [_, _, _, _] rfl ?_
  refine SL.calle rfl rfl rfl rfl rfl rfl callable15 (fun w hw => (by have h := pvalid_ok 4 dia da 4 dc rfl 0 3 [2, 2, 1, 1] _ 4 _ rfl w (SliceIn.rows (l := dia) (hw.mem (i := 0) rfl) encEd_len (by decide)) (SliceIn.rows (l := [2, 2, 1, 1]) (hw.mem (i := 3) rfl) encI_len (by decide)); rw [dia_v1] at h; exact h)) ?_
  refine SL.norm [_, _, _, _] rfl ?_
  refine SL.pure rfl rfl rfl (PureOp.move rfl) ?_
  refine SL.pure rfl rfl rfl (PureOp.extract rfl rfl) ?_
  refine SL.pure rfl rfl rfl (PureOp.extract rfl rfl) ?_
  refine SL.pure rfl rfl rfl (PureOp.extract rfl rfl) ?_
  refine SL.pure rfl rfl rfl (PureOp.assign rfl) ?_
  refine SL.pure rfl rfl rfl (PureOp.assign rfl) ?_
  refine SL.pure rfl rfl rfl (PureOp.assign rfl) ?_
  refine SL.nil_then ?_
  refine WC.seq ?_
  refine WC.region ?_
  refine SL.pure rfl rfl rfl (PureOp.fieldAddrT 0 Try.underlying24 rfl sz3 rfl rfl) ?_
  refine SL.pure rfl rfl rfl (PureOp.load (v := .int .i64 4) Try.underlying3 rfl rfl (fun _ => (CellIs.cells 1 rfl rfl))) ?_
  refine SL.pure rfl rfl rfl (PureOp.fieldAddrT 1 Try.underlying24 rfl sz22 rfl rfl) ?_
  refine SL.pure rfl rfl rfl (PureOp.load (v := .slice da 4 dc) Try.underlying22 rfl rfl (fun _ => (CellIs.cells 1 rfl rfl))) ?_
  refine SL.buildSlice rfl rfl Try.underlying29 elem3 rfl rfl rfl rfl (fun b3 hb3 => ?_)
  refine SL.norm [_, _, _, _, _] rfl ?_
  refine SL.callo (fun pa pc => .tuple #[.slice pa 4 pc, .bool true]) rfl rfl rfl rfl rfl rfl callable20 (fun w hw => (by have h := prices_ok 4 dia da 4 dc rfl [2, 2, 1, 1] _ 4 _ rfl w (SliceIn.rows (l := dia) (hw.mem (i := 0) rfl) encEd_len (by decide)) (SliceIn.rows (l := [2, 2, 1, 1]) (hw.mem (i := 4) rfl) encI_len (by decide)); rw [dia_p] at h; exact h)) (fun pa pc => ?_)
  refine SL.norm [_, _, _, _, _, _] rfl ?_
  refine SL.pure rfl rfl rfl (PureOp.move rfl) ?_
  refine SL.pure rfl rfl rfl (PureOp.extract rfl rfl) ?_
  refine SL.pure rfl rfl rfl (PureOp.extract rfl rfl) ?_
  refine SL.pure rfl rfl rfl (PureOp.assign rfl) ?_
  refine SL.pure rfl rfl rfl (PureOp.assign rfl) ?_
  refine SL.nil_then ?_
  refine WC.seq ?_
  refine WC.region ?_
  refine SL.pure rfl rfl rfl (PureOp.fieldAddrT 0 Try.underlying24 rfl sz3 rfl rfl) ?_
  refine SL.pure rfl rfl rfl (PureOp.load (v := .int .i64 4) Try.underlying3 rfl rfl (fun _ => (CellIs.cells 1 rfl rfl))) ?_
  refine SL.pure rfl rfl rfl (PureOp.fieldAddrT 1 Try.underlying24 rfl sz22 rfl rfl) ?_
  refine SL.pure rfl rfl rfl (PureOp.load (v := .slice da 4 dc) Try.underlying22 rfl rfl (fun _ => (CellIs.cells 1 rfl rfl))) ?_
  refine SL.pure rfl rfl rfl (PureOp.fieldAddrT 2 Try.underlying24 rfl sz3 rfl rfl) ?_
  refine SL.pure rfl rfl rfl (PureOp.load (v := .int .i64 0) Try.underlying3 rfl rfl (fun _ => (CellIs.cells 1 rfl rfl))) ?_
  refine SL.pure rfl rfl rfl (PureOp.fieldAddrT 3 Try.underlying24 rfl sz3 rfl rfl) ?_
  refine SL.pure rfl rfl rfl (PureOp.load (v := .int .i64 3) Try.underlying3 rfl rfl (fun _ => (CellIs.cells 1 rfl rfl))) ?_
  refine SL.buildSlice rfl rfl Try.underlying29 elem3 rfl rfl rfl rfl (fun b4 hb4 => ?_)
  refine SL.norm [_, _, _, _, _, _, _] rfl ?_
  refine SL.calle rfl rfl rfl rfl rfl rfl callable15 (fun w hw => (by have h := pvalid_ok 4 dia da 4 dc rfl 0 3 [2, 1, 1, 1] _ 4 _ rfl w (SliceIn.rows (l := dia) (hw.mem (i := 0) rfl) encEd_len (by decide)) (SliceIn.rows (l := [2, 1, 1, 1]) (hw.mem (i := 6) rfl) encI_len (by decide)); rw [dia_v2] at h; exact h)) ?_
  refine SL.norm [_, _, _, _, _, _, _] rfl ?_
  refine SL.pure rfl rfl rfl (PureOp.move rfl) ?_
  refine SL.pure rfl rfl rfl (PureOp.extract rfl rfl) ?_
  refine SL.pure rfl rfl rfl (PureOp.extract rfl rfl) ?_
  refine SL.pure rfl rfl rfl (PureOp.extract rfl rfl) ?_
  refine SL.pure rfl rfl rfl (PureOp.assign rfl) ?_
  refine SL.pure rfl rfl rfl (PureOp.assign rfl) ?_
  refine SL.pure rfl rfl rfl (PureOp.assign rfl) ?_
  refine SL.nil_then ?_
  refine WC.seq ?_
  refine WC.region ?_
  refine SL.pure rfl rfl rfl (PureOp.move rfl) ?_
  refine SL.buildSlice rfl rfl Try.underlying29 elem3 rfl rfl rfl rfl (fun b5 hb5 => ?_)
  refine SL.norm [_, _, _, _, _, _, _, _] rfl ?_
  refine SL.calle rfl rfl rfl rfl rfl rfl callable22 (fun w hw => (by have h := ints_ok [2, 2, 1, 1] [2, 2, 1, 1] _ _ 4 4 _ _ rfl rfl w (SliceIn.rows (l := [2, 2, 1, 1]) (hw.mem (i := 2) rfl) encI_len (by decide)) (SliceIn.rows (l := [2, 2, 1, 1]) (hw.mem (i := 7) rfl) encI_len (by decide)) (by decide); rw [show decide (([2, 2, 1, 1] : List Int) = [2, 2, 1, 1]) = true from by decide] at h; exact h)) ?_
  refine SL.norm [_, _, _, _, _, _, _, _] rfl ?_
  refine SL.pure rfl rfl rfl (PureOp.move rfl) ?_
  refine SL.ung rfl rfl rfl rfl ?_
  refine SL.pure rfl rfl rfl (PureOp.move rfl) ?_
  refine SL.ung rfl rfl rfl rfl ?_
  refine SL.pure rfl rfl rfl (PureOp.eql rfl rfl) ?_
  refine SL.lit 71 true rfl (by decide) ?_
  refine SL.pure rfl rfl rfl (PureOp.pickT rfl rfl) ?_
  refine SL.pure rfl rfl rfl (PureOp.move rfl) ?_
  refine SL.ung rfl rfl rfl rfl ?_
  refine SL.pure rfl rfl rfl (PureOp.move rfl) ?_
  refine SL.ung rfl rfl rfl rfl ?_
  refine SL.pure rfl rfl rfl (PureOp.eql rfl rfl) ?_
  refine SL.lit 75 true rfl (by decide) ?_
  refine SL.pure rfl rfl rfl (PureOp.pickT rfl rfl) ?_
  refine SL.pure rfl rfl rfl (PureOp.move rfl) ?_
  refine SL.ung rfl rfl rfl rfl ?_
  refine SL.pure rfl rfl rfl (PureOp.move rfl) ?_
  refine SL.ung rfl rfl rfl rfl ?_
  refine SL.pure rfl rfl rfl (PureOp.eql rfl rfl) ?_
  refine SL.lit 79 true rfl (by decide) ?_
  refine SL.pure rfl rfl rfl (PureOp.pickT rfl rfl) ?_
  refine SL.pure rfl rfl rfl (PureOp.move rfl) ?_
  refine SL.ung rfl rfl rfl rfl ?_
  refine SL.pure rfl rfl rfl (PureOp.move rfl) ?_
  refine SL.ung rfl rfl rfl rfl ?_
  refine SL.pure rfl rfl rfl (PureOp.eql rfl rfl) ?_
  refine SL.lit 83 true rfl (by decide) ?_
  refine SL.pure rfl rfl rfl (PureOp.pickT rfl rfl) ?_
  refine SL.pure rfl rfl rfl (PureOp.move rfl) ?_
  refine SL.ung rfl rfl rfl rfl ?_
  refine SL.pure rfl rfl rfl (PureOp.move rfl) ?_
  refine SL.ung rfl rfl rfl rfl ?_
  refine SL.pure rfl rfl rfl (PureOp.eql rfl rfl) ?_
  refine SL.lit 87 true rfl (by decide) ?_
  refine SL.pure rfl rfl rfl (PureOp.pickT rfl rfl) ?_
  refine SL.pure rfl rfl rfl (PureOp.move rfl) ?_
  refine SL.ung rfl rfl rfl rfl ?_
  refine SL.pure rfl rfl rfl (PureOp.move rfl) ?_
  refine SL.ung rfl rfl rfl rfl ?_
  refine SL.pure rfl rfl rfl (PureOp.eql rfl rfl) ?_
  refine SL.lit 91 true rfl (by decide) ?_
  refine SL.pure rfl rfl rfl (PureOp.pickT rfl rfl) ?_
  refine SL.pure rfl rfl rfl (PureOp.move rfl) ?_
  refine SL.ung rfl rfl rfl rfl ?_
  refine SL.pure rfl rfl rfl (PureOp.move rfl) ?_
  refine SL.pure rfl rfl rfl (PureOp.pickT rfl rfl) ?_
  refine SL.pure rfl rfl rfl (PureOp.move rfl) ?_
  refine SL.ung rfl rfl rfl rfl ?_
  refine SL.pure rfl rfl rfl (PureOp.move rfl) ?_
  refine SL.ung rfl rfl rfl rfl ?_
  refine SL.buildSlice rfl rfl Try.underlying29 elem3 rfl rfl rfl rfl (fun b6 hb6 => ?_)
  refine SL.norm [_, _, _, _, _, _, _, _, _] rfl ?_
  refine SL.ung rfl rfl rfl rfl ?_
  refine SL.calle rfl rfl rfl rfl rfl rfl callable22 (fun w hw => (by have h := ints_ok [-10, -1, -5, 0] [-10, -1, -5, 0] _ _ 4 4 _ _ rfl rfl w (SliceIn.rows (l := [-10, -1, -5, 0]) (hw.mem (i := 5) rfl) encI_len (by decide)) (SliceIn.rows (l := [-10, -1, -5, 0]) (hw.mem (i := 8) rfl) encI_len (by decide)) (by decide); rw [show decide (([-10, -1, -5, 0] : List Int) = [-10, -1, -5, 0]) = true from by decide] at h; exact h)) ?_
  refine SL.norm [_, _, _, _, _, _, _, _, _] rfl ?_
  refine SL.pure rfl rfl rfl (PureOp.pickT rfl rfl) ?_
  refine SL.pure rfl rfl rfl (PureOp.move rfl) ?_
  refine SL.ung rfl rfl rfl rfl ?_
  refine SL.pure rfl rfl rfl (PureOp.move rfl) ?_
  refine SL.ung rfl rfl rfl rfl ?_
  refine SL.pure rfl rfl rfl (PureOp.eql rfl rfl) ?_
  refine SL.lit 103 true rfl (by decide) ?_
  refine SL.pure rfl rfl rfl (PureOp.pickT rfl rfl) ?_
  refine SL.pure rfl rfl rfl (PureOp.move rfl) ?_
  refine SL.ung rfl rfl rfl rfl ?_
  refine SL.pure rfl rfl rfl (PureOp.fieldAddrT 0 Try.underlying24 rfl sz3 rfl rfl) ?_
  refine SL.ung rfl rfl rfl rfl ?_
  refine SL.pure rfl rfl rfl (PureOp.load (v := .int .i64 4) Try.underlying3 rfl rfl (fun _ => (CellIs.cells 1 rfl rfl))) ?_
  refine SL.ung rfl rfl rfl rfl ?_
  refine SL.pure rfl rfl rfl (PureOp.fieldAddrT 1 Try.underlying24 rfl sz22 rfl rfl) ?_
  refine SL.ung rfl rfl rfl rfl ?_
  refine SL.pure rfl rfl rfl (PureOp.load (v := .slice da 4 dc) Try.underlying22 rfl rfl (fun _ => (CellIs.cells 1 rfl rfl))) ?_
  refine SL.ung rfl rfl rfl rfl ?_
  refine SL.pure rfl rfl rfl (PureOp.move rfl) ?_
  refine SL.ung rfl rfl rfl rfl ?_
  refine SL.pure rfl rfl rfl (PureOp.move rfl) ?_
  refine SL.ung rfl rfl rfl rfl ?_
  refine SL.calle rfl rfl rfl rfl rfl rfl callable23 (fun w hw => (by have h := pproves_ok 4 dia da 4 dc rfl [2, 2, 1, 1] _ 4 _ rfl [-10, -1, -5, 0] _ 4 _ rfl w (SliceIn.rows (l := dia) (hw.mem (i := 0) rfl) encEd_len (by decide)) (SliceIn.rows (l := [2, 2, 1, 1]) (hw.mem (i := 2) rfl) encI_len (by decide)) (SliceIn.rows (l := [-10, -1, -5, 0]) (hw.mem (i := 5) rfl) encI_len (by decide)); rw [dia_pr] at h; exact h)) ?_
  refine SL.norm [_, _, _, _, _, _, _, _, _] rfl ?_
  refine SL.pure rfl rfl rfl (PureOp.pickT rfl rfl) ?_
  refine SL.pure rfl rfl rfl (PureOp.move rfl) ?_
  refine SL.ung rfl rfl rfl rfl ?_
  refine SL.pure rfl rfl rfl (PureOp.fieldAddrT 0 Try.underlying24 rfl sz3 rfl rfl) ?_
  refine SL.ung rfl rfl rfl rfl ?_
  refine SL.pure rfl rfl rfl (PureOp.load (v := .int .i64 4) Try.underlying3 rfl rfl (fun _ => (CellIs.cells 1 rfl rfl))) ?_
  refine SL.ung rfl rfl rfl rfl ?_
  refine SL.pure rfl rfl rfl (PureOp.fieldAddrT 1 Try.underlying24 rfl sz22 rfl rfl) ?_
  refine SL.ung rfl rfl rfl rfl ?_
  refine SL.pure rfl rfl rfl (PureOp.load (v := .slice da 4 dc) Try.underlying22 rfl rfl (fun _ => (CellIs.cells 1 rfl rfl))) ?_
  refine SL.ung rfl rfl rfl rfl ?_
  refine SL.calle rfl rfl rfl rfl rfl rfl callable12 (fun w hw => (by have h := pcheck_ok 4 dia da 4 dc rfl 0 0 w (SliceIn.rows (l := dia) (hw.mem (i := 0) rfl) encEd_len (by decide)); rw [dia_c0] at h; exact h)) ?_
  refine SL.norm [_, _, _, _, _, _, _, _, _] rfl ?_
  refine SL.ung rfl rfl rfl rfl ?_
  refine SL.pure rfl rfl rfl (PureOp.eql rfl rfl) ?_
  refine SL.lit 120 true rfl (by decide) ?_
  refine SL.pure rfl rfl rfl (PureOp.pickT rfl rfl) ?_
  refine SL.pure rfl rfl rfl (PureOp.assign rfl) ?_
  refine SL.nil_then ?_
  refine WC.ret ?_
  refine QX.ret1 rfl rfl ?_
  intro w hw
  rfl

end Go.Proofs.Ytngkbnaehkailaa
