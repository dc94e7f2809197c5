import Derived.Test.YtngkbnaehkailaaFlM
namespace Go.Proofs.Ytngkbnaehkailaa
open Go Go.RowKit Eng
set_option linter.unusedVariables false
set_option linter.unusedSimpArgs false

set_option maxHeartbeats 4000000 in
set_option maxRecDepth 100000 in
theorem small_ok (n : Int) (l : List Ed) (ea : Option Addr) (m ec : Nat) (hm : m = l.length) (s t : Int) (w0 : World) : FnC Try.prog 17 [.agg #[.int .i64 n, .slice ea m ec, .int .i64 s, .int .i64 t]] w0 fun v w' => v = .bool (decide (n ≤ 16) && decide ((m : Int) ≤ 40)) := by
  refine fnc (N := 12) Try.func17 rfl rfl rfl ?_
  refine WC.seq ?_
  refine WC.region ?_
  refine SL.box rfl rfl rfl (fun b1 hb1 => ?_)
  refine SL.norm [_] rfl ?_
  refine SL.pure rfl rfl rfl (PureOp.assign rfl) ?_
  refine SL.nil_then ?_
  refine WC.seq ?_
  refine WC.region ?_
  refine SL.pure rfl rfl rfl (PureOp.fieldAddrT 0 Try.underlying24 rfl sz3 rfl rfl) ?_
  refine SL.pure rfl rfl rfl (PureOp.load (v := .int .i64 n) Try.underlying3 rfl rfl (fun _ => (CellIs.cells 0 rfl rfl))) ?_
  refine SL.pure rfl rfl rfl (PureOp.leq rfl rfl) ?_
  refine SL.pure rfl rfl rfl (PureOp.move rfl) ?_
  refine SL.newg 6 true rfl ?_
  refine SL.gpure (c := 1) rfl rfl rfl rfl rfl rfl rfl (PureOp.fieldAddrT 1 Try.underlying24 rfl sz22 rfl rfl) ?_
  refine SL.gpure (c := 1) rfl rfl rfl rfl rfl rfl rfl (PureOp.load (v := .slice ea m ec) Try.underlying22 rfl rfl (fun _ => (CellIs.cells 0 rfl rfl))) ?_
  refine SL.gpure (c := 1) rfl rfl rfl rfl rfl rfl rfl (PureOp.len rfl Try.underlying22) ?_
  refine SL.gpure (c := 1) rfl rfl rfl rfl rfl rfl rfl (PureOp.leq rfl rfl) ?_
  refine SL.pure rfl rfl rfl (PureOp.and_ rfl rfl rfl rfl) ?_
  refine SL.pure rfl rfl rfl (PureOp.assign rfl) ?_
  refine SL.nil_then ?_
  refine WC.ret ?_
  refine QX.ret1 rfl rfl ?_
  intro w hw
  rfl

set_option maxHeartbeats 4000000 in
set_option maxRecDepth 100000 in
theorem prices_law (n : Int) (l : List Ed) (ea : Option Addr) (m ec : Nat) (hm : m = l.length) (s t : Int) (f : List Int) (fa : Option Addr) (q fc : Nat) (hq : q = f.length) (p : List Int) (pa : Option Addr) (u pc : Nat) (hu : u = p.length) (w0 : World) (sE : SliceIn w0 4 ea m ec (rowsF encEd l)) (sF : SliceIn w0 1 fa q fc (rowsF encI f)) (sP : SliceIn w0 1 pa u pc (rowsF encI p)) : FnC Try.prog 7 [.agg #[.int .i64 n, .slice ea m ec, .int .i64 s, .int .i64 t], .slice fa q fc, .slice pa u pc] w0 fun v w' => v = .bool true := by
  refine fnc (N := 80) Try.func7 rfl rfl rfl ?_
  refine WC.seq ?_
  refine WC.region ?_
  refine SL.box rfl rfl rfl (fun b1 hb1 => ?_)
  refine SL.norm [_] rfl ?_
  refine SL.pure rfl rfl rfl (PureOp.assign rfl) ?_
  refine SL.nil_then ?_
  refine WC.seq ?_
  refine WC.seq ?_
  refine WC.region ?_
  refine SL.pure rfl rfl rfl (PureOp.fieldAddrT 1 Try.underlying24 rfl sz22 rfl rfl) ?_
  refine SL.pure rfl rfl rfl (PureOp.load (v := .slice ea m ec) Try.underlying22 rfl rfl (fun _ => (CellIs.cells 0 rfl rfl))) ?_
  refine SL.pure rfl rfl rfl (PureOp.len rfl Try.underlying22) ?_
  refine SL.pure rfl rfl rfl (PureOp.gtr rfl rfl) ?_
  refine SL.pure rfl rfl rfl (PureOp.move rfl) ?_
  refine SL.newg 15 false rfl ?_
  refine SL.gpure (c := 1) rfl rfl rfl rfl rfl rfl rfl (PureOp.move rfl) ?_
  refine SL.gpure (c := 1) rfl rfl rfl rfl rfl rfl rfl (PureOp.len rfl Try.underlying29) ?_
  refine SL.gpure (c := 1) rfl rfl rfl rfl rfl rfl rfl (PureOp.gtr rfl rfl) ?_
  refine SL.pure rfl rfl rfl (PureOp.or_ rfl rfl rfl rfl) ?_
  refine SL.pure rfl rfl rfl (PureOp.move rfl) ?_
  refine SL.newg 20 false rfl ?_
  refine SL.gpure (c := 2) rfl rfl rfl rfl rfl rfl rfl (PureOp.loads (vs := [.int .i64 n, .slice ea m ec, .int .i64 s, .int .i64 t]) Try.underlying24 rfl rfl (fun _ => (RowIs.cells 0 0 4 rfl rfl)) sz24) ?_
  refine SL.gcalle (c := 2) rfl rfl rfl rfl rfl rfl rfl rfl rfl rfl callable17 (by intro hg; simp [gval] at hg; exact (fun w hw => small_ok n l ea m ec hm s t w)) ?_
  refine SL.norm [_] rfl ?_
  refine SL.gpure (c := 2) rfl rfl rfl rfl rfl rfl rfl (PureOp.not rfl) ?_
  refine SL.gpure (c := 2) rfl rfl rfl rfl rfl rfl rfl (PureOp.move rfl) ?_
  refine SL.newg 24 true rfl ?_
  refine SL.gpure (c := 3) rfl rfl rfl rfl rfl rfl rfl (PureOp.fieldAddrT 0 Try.underlying24 rfl sz3 rfl rfl) ?_
  refine SL.gpure (c := 3) rfl rfl rfl rfl rfl rfl rfl (PureOp.load (v := .int .i64 n) Try.underlying3 rfl rfl (fun _ => (CellIs.cells 0 rfl rfl))) ?_
  refine SL.gpure (c := 3) rfl rfl rfl rfl rfl rfl rfl (PureOp.fieldAddrT 1 Try.underlying24 rfl sz22 rfl rfl) ?_
  refine SL.gpure (c := 3) rfl rfl rfl rfl rfl rfl rfl (PureOp.load (v := .slice ea m ec) Try.underlying22 rfl rfl (fun _ => (CellIs.cells 0 rfl rfl))) ?_
  refine SL.gcalle (c := 3) rfl rfl rfl rfl rfl rfl rfl rfl rfl rfl callable13 (by intro hg; simp [gval] at hg; exact (fun w hw => rcheck_ok n l ea m ec hm 0 1 w (sE.below hw.below))) ?_
  refine SL.norm [_] rfl ?_
  refine SL.gpure (c := 3) rfl rfl rfl rfl rfl rfl rfl (PureOp.eql rfl rfl) ?_
  refine SL.gpure (c := 2) rfl rfl rfl rfl rfl rfl rfl (PureOp.and_ rfl rfl rfl rfl) ?_
  refine SL.pure rfl rfl rfl (PureOp.or_ rfl rfl rfl rfl) ?_
  refine SL.nil_then ?_
  refine WC.cond rfl (fun h1 => ?_) (fun h1 => ?_)
  · try simp only [Bool.and_eq_true, Bool.or_eq_true, Bool.not_eq_true', Bool.not_eq_false', Bool.and_eq_false_iff, Bool.or_eq_false_iff, decide_eq_true_eq, decide_eq_false_iff_not, Int.not_lt, Int.not_le, ne_eq, Decidable.not_not] at h1
    refine WC.seq ?_
    refine WC.region ?_
    refine SL.calle rfl rfl rfl rfl rfl rfl callable14 (fun w hw => awake_ok w) ?_
    refine SL.norm [_] rfl ?_
    refine SL.pure rfl rfl rfl (PureOp.assign rfl) ?_
    refine SL.nil_then ?_
    refine WC.ret ?_
    refine QX.ret_then ?_
    refine QX.ret1 rfl rfl ?_
    intro w hw
    rfl
  · try simp only [Bool.and_eq_true, Bool.or_eq_true, Bool.not_eq_true', Bool.not_eq_false', Bool.and_eq_false_iff, Bool.or_eq_false_iff, decide_eq_true_eq, decide_eq_false_iff_not, Int.not_lt, Int.not_le, ne_eq, Decidable.not_not] at h1
    have hpe : pricesF n l f = rpricesF n l f := prices_eq (by
        by_cases q : checkE n l 0 1 = 0
        · exact .inr (by have h2 := h1.2; omega)
        · exact .inl (by rw [rightB, decide_eq_false q]; rfl))
    have hpl : (pricesF n l f).1.length ≤ 100000 := prices_len
    refine WC.skip ?_
    refine QX.then_ ?_
    refine WC.seq ?_
    refine WC.region ?_
    refine SL.pure rfl rfl rfl (PureOp.fieldAddrT 0 Try.underlying24 rfl sz3 rfl rfl) ?_
    refine SL.pure rfl rfl rfl (PureOp.load (v := .int .i64 n) Try.underlying3 rfl rfl (fun _ => (CellIs.cells 0 rfl rfl))) ?_
    refine SL.pure rfl rfl rfl (PureOp.fieldAddrT 1 Try.underlying24 rfl sz22 rfl rfl) ?_
    refine SL.pure rfl rfl rfl (PureOp.load (v := .slice ea m ec) Try.underlying22 rfl rfl (fun _ => (CellIs.cells 0 rfl rfl))) ?_
    refine SL.pure rfl rfl rfl (PureOp.move rfl) ?_
    refine SL.callo (fun ya yc => .tuple #[.slice ya ((pricesF n l f).1.length) yc, .bool ((pricesF n l f).2)]) rfl rfl rfl rfl rfl rfl callable20 (fun w hw => prices_ok n l ea m ec hm f fa q fc hq w (sE.below hw.below) (sF.below hw.below)) (fun ya yc => ?_)
    refine SL.norm [_, _] rfl ?_
    refine SL.pure rfl rfl rfl (PureOp.move rfl) ?_
    refine SL.pure rfl rfl rfl (PureOp.extract rfl rfl) ?_
    refine SL.pure rfl rfl rfl (PureOp.extract rfl rfl) ?_
    refine SL.pure rfl rfl rfl (PureOp.assign rfl) ?_
    refine SL.pure rfl rfl rfl (PureOp.assign rfl) ?_
    refine SL.nil_then ?_
    refine WC.seq ?_
    refine WC.region ?_
    refine SL.pure rfl rfl rfl (PureOp.fieldAddrT 0 Try.underlying24 rfl sz3 rfl rfl) ?_
    refine SL.pure rfl rfl rfl (PureOp.load (v := .int .i64 n) Try.underlying3 rfl rfl (fun _ => (CellIs.cells 0 rfl rfl))) ?_
    refine SL.pure rfl rfl rfl (PureOp.fieldAddrT 1 Try.underlying24 rfl sz22 rfl rfl) ?_
    refine SL.pure rfl rfl rfl (PureOp.load (v := .slice ea m ec) Try.underlying22 rfl rfl (fun _ => (CellIs.cells 0 rfl rfl))) ?_
    refine SL.pure rfl rfl rfl (PureOp.move rfl) ?_
    refine SL.callo (fun za zc => .tuple #[.slice za ((rpricesF n l f).1.length) zc, .bool ((rpricesF n l f).2)]) rfl rfl rfl rfl rfl rfl callable21 (fun w hw => rprices_ok n l ea m ec hm f fa q fc hq w (sE.below hw.below) (sF.below hw.below)) (fun za zc => ?_)
    refine SL.norm [_, _, _] rfl ?_
    refine SL.pure rfl rfl rfl (PureOp.move rfl) ?_
    refine SL.pure rfl rfl rfl (PureOp.extract rfl rfl) ?_
    refine SL.pure rfl rfl rfl (PureOp.extract rfl rfl) ?_
    refine SL.pure rfl rfl rfl (PureOp.assign rfl) ?_
    refine SL.pure rfl rfl rfl (PureOp.assign rfl) ?_
    refine SL.nil_then ?_
    refine WC.seq ?_
    refine WC.drawH 29 [false, false, false, false, false, false, false, false, false, false, false, false, false, false, false, false, false, false, false, false, false, false, false, false, false, false, false, false, false] rfl rfl rfl ?_
    refine SD.take 0 [true, false, false, false, false, false, false, false, false, false, false, false, false, false, false, false, false, false, false, false, false, false, false, false, false, false, false, false, false] rfl (by kernel_rfl) rfl (fun _ h => h) rfl rfl rfl (PureOp.move rfl) ?_
    refine SD.take 1 [true, true, false, false, false, false, false, false, false, false, false, false, false, false, false, false, false, false, false, false, false, false, false, false, false, false, false, false, false] rfl (by kernel_rfl) rfl (fun _ h => h) rfl rfl rfl (PureOp.move rfl) ?_
    refine SD.one 2 [true, true, true, false, false, false, false, false, false, false, false, false, false, false, false, false, false, false, false, false, false, false, false, false, false, false, false, false, false] (by kernel_rfl) rfl rfl ?_
    refine SL.calle rfl rfl rfl rfl rfl rfl callable22 (fun w hw => (by have h := ints_ok (pricesF n l f).1 (rpricesF n l f).1 _ _ _ _ _ _ rfl rfl w (SliceIn.rows (hw.mem (i := 1) rfl) encI_len (Nat.le_refl _)) (SliceIn.rows (hw.mem (i := 2) rfl) encI_len (Nat.le_refl _)) hpl; rw [show decide ((pricesF n l f).1 = (rpricesF n l f).1) = true from by rw [hpe]; simp] at h; exact h)) ?_
    refine SL.norm [_, _, _] rfl ?_
    refine SD.back (fun _ h => h) ?_
    refine SD.take 3 [true, true, true, true, false, false, false, false, false, false, false, false, false, false, false, false, false, false, false, false, false, false, false, false, false, false, false, false, false] rfl (by kernel_rfl) rfl (fun _ h => h) rfl rfl rfl (PureOp.move rfl) ?_
    refine SD.takeon 4 [true, true, true, true, true, false, false, false, false, false, false, false, false, false, false, false, false, false, false, false, false, false, false, false, false, false, false, false, false] rfl (by kernel_rfl) rfl (fun _ h => h) rfl rfl rfl rfl rfl rfl rfl (PureOp.move rfl) ?_
    refine SD.takeon 5 [true, true, true, true, true, true, false, false, false, false, false, false, false, false, false, false, false, false, false, false, false, false, false, false, false, false, false, false, false] rfl (by kernel_rfl) rfl (fun _ h => h) rfl rfl rfl rfl rfl rfl rfl (PureOp.move rfl) ?_
    refine SD.takeon 6 [true, true, true, true, true, true, true, false, false, false, false, false, false, false, false, false, false, false, false, false, false, false, false, false, false, false, false, false, false] rfl (by kernel_rfl) rfl (fun _ h => h) rfl rfl rfl rfl rfl rfl rfl (PureOp.eqlb rfl rfl Try.underlying4) ?_
    refine SD.lit 58 true rfl (by rw [hpe]; simp) ?_
    refine SD.take 7 [true, true, true, true, true, true, true, true, false, false, false, false, false, false, false, false, false, false, false, false, false, false, false, false, false, false, false, false, false] rfl (by kernel_rfl) rfl (fun _ h => h) rfl rfl rfl (PureOp.pickT rfl rfl) ?_
    refine SD.take 8 [true, true, true, true, true, true, true, true, true, false, false, false, false, false, false, false, false, false, false, false, false, false, false, false, false, false, false, false, false] rfl (by kernel_rfl) rfl (fun _ h => h) rfl rfl rfl (PureOp.move rfl) ?_
    refine SD.takeon 9 [true, true, true, true, true, true, true, true, true, true, false, false, false, false, false, false, false, false, false, false, false, false, false, false, false, false, false, false, false] rfl (by kernel_rfl) rfl (fun _ h => h) rfl rfl rfl rfl rfl rfl rfl (PureOp.fieldAddrT 0 Try.underlying24 rfl sz3 rfl rfl) ?_
    refine SD.takeon 10 [true, true, true, true, true, true, true, true, true, true, true, false, false, false, false, false, false, false, false, false, false, false, false, false, false, false, false, false, false] rfl (by kernel_rfl) rfl (fun _ h => h) rfl rfl rfl rfl rfl rfl rfl (PureOp.load (v := .int .i64 n) Try.underlying3 rfl rfl (fun _ => (CellIs.cells 0 rfl rfl))) ?_
    refine SD.takeon 11 [true, true, true, true, true, true, true, true, true, true, true, true, false, false, false, false, false, false, false, false, false, false, false, false, false, false, false, false, false] rfl (by kernel_rfl) rfl (fun _ h => h) rfl rfl rfl rfl rfl rfl rfl (PureOp.fieldAddrT 1 Try.underlying24 rfl sz22 rfl rfl) ?_
    refine SD.takeon 12 [true, true, true, true, true, true, true, true, true, true, true, true, true, false, false, false, false, false, false, false, false, false, false, false, false, false, false, false, false] rfl (by kernel_rfl) rfl (fun _ h => h) rfl rfl rfl rfl rfl rfl rfl (PureOp.load (v := .slice ea m ec) Try.underlying22 rfl rfl (fun _ => (CellIs.cells 0 rfl rfl))) ?_
    refine SD.takeon 13 [true, true, true, true, true, true, true, true, true, true, true, true, true, true, false, false, false, false, false, false, false, false, false, false, false, false, false, false, false] rfl (by kernel_rfl) rfl (fun _ h => h) rfl rfl rfl rfl rfl rfl rfl (PureOp.move rfl) ?_
    refine SD.takeon 14 [true, true, true, true, true, true, true, true, true, true, true, true, true, true, true, false, false, false, false, false, false, false, false, false, false, false, false, false, false] rfl (by kernel_rfl) rfl (fun _ h => h) rfl rfl rfl rfl rfl rfl rfl (PureOp.move rfl) ?_
    refine SD.takeon 16 [true, true, true, true, true, true, true, true, true, true, true, true, true, true, true, false, true, false, false, false, false, false, false, false, false, false, false, false, false] rfl (by kernel_rfl) rfl (fun _ h => h) rfl rfl rfl rfl rfl rfl rfl (PureOp.fieldAddrT 0 Try.underlying24 rfl sz3 rfl rfl) ?_
    refine SD.takeon 17 [true, true, true, true, true, true, true, true, true, true, true, true, true, true, true, false, true, true, false, false, false, false, false, false, false, false, false, false, false] rfl (by kernel_rfl) rfl (fun _ h => h) rfl rfl rfl rfl rfl rfl rfl (PureOp.load (v := .int .i64 n) Try.underlying3 rfl rfl (fun _ => (CellIs.cells 0 rfl rfl))) ?_
    refine SD.takeon 18 [true, true, true, true, true, true, true, true, true, true, true, true, true, true, true, false, true, true, true, false, false, false, false, false, false, false, false, false, false] rfl (by kernel_rfl) rfl (fun _ h => h) rfl rfl rfl rfl rfl rfl rfl (PureOp.fieldAddrT 1 Try.underlying24 rfl sz22 rfl rfl) ?_
    refine SD.takeon 19 [true, true, true, true, true, true, true, true, true, true, true, true, true, true, true, false, true, true, true, true, false, false, false, false, false, false, false, false, false] rfl (by kernel_rfl) rfl (fun _ h => h) rfl rfl rfl rfl rfl rfl rfl (PureOp.load (v := .slice ea m ec) Try.underlying22 rfl rfl (fun _ => (CellIs.cells 0 rfl rfl))) ?_
    refine SD.takeon 20 [true, true, true, true, true, true, true, true, true, true, true, true, true, true, true, false, true, true, true, true, true, false, false, false, false, false, false, false, false] rfl (by kernel_rfl) rfl (fun _ h => h) rfl rfl rfl rfl rfl rfl rfl (PureOp.move rfl) ?_
    refine SD.takeon 21 [true, true, true, true, true, true, true, true, true, true, true, true, true, true, true, false, true, true, true, true, true, true, false, false, false, false, false, false, false] rfl (by kernel_rfl) rfl (fun _ h => h) rfl rfl rfl rfl rfl rfl rfl (PureOp.move rfl) ?_
    refine SD.one 15 [true, true, true, true, true, true, true, true, true, true, true, true, true, true, true, true, true, true, true, true, true, true, false, false, false, false, false, false, false] (by kernel_rfl) rfl rfl ?_
    refine SL.ung rfl rfl rfl rfl ?_
    refine SL.calle rfl rfl rfl rfl rfl rfl callable23 (fun w hw => pproves_ok n l ea m ec hm f fa q fc hq p pa u pc hu w (sE.below hw.below) (sF.below hw.below) (sP.below hw.below)) ?_
    refine SL.norm [_, _, _] rfl ?_
    refine SD.back (fun _ h => h) ?_
    refine SD.one 22 [true, true, true, true, true, true, true, true, true, true, true, true, true, true, true, true, true, true, true, true, true, true, true, false, false, false, false, false, false] (by kernel_rfl) rfl rfl ?_
    refine SL.ung rfl rfl rfl rfl ?_
    refine SL.calle rfl rfl rfl rfl rfl rfl callable24 (fun w hw => rproves_ok n l ea m ec hm f fa q fc hq p pa u pc hu w (sE.below hw.below) (sF.below hw.below) (sP.below hw.below)) ?_
    refine SL.norm [_, _, _] rfl ?_
    refine SD.back (fun _ h => h) ?_
    refine SD.takeon 23 [true, true, true, true, true, true, true, true, true, true, true, true, true, true, true, true, true, true, true, true, true, true, true, true, false, false, false, false, false] rfl (by kernel_rfl) rfl (fun _ h => h) rfl rfl rfl rfl rfl rfl rfl (PureOp.eqlb rfl rfl Try.underlying4) ?_
    refine SD.lit 75 true rfl (by simp) ?_
    refine SD.take 24 [true, true, true, true, true, true, true, true, true, true, true, true, true, true, true, true, true, true, true, true, true, true, true, true, true, false, false, false, false] rfl (by kernel_rfl) rfl (fun _ h => h) rfl rfl rfl (PureOp.pickT rfl rfl) ?_
    refine SD.take 25 [true, true, true, true, true, true, true, true, true, true, true, true, true, true, true, true, true, true, true, true, true, true, true, true, true, true, false, false, false] rfl (by kernel_rfl) rfl (fun _ h => h) rfl rfl rfl (PureOp.move rfl) ?_
    refine SD.one 26 [true, true, true, true, true, true, true, true, true, true, true, true, true, true, true, true, true, true, true, true, true, true, true, true, true, true, true, false, false] (by kernel_rfl) rfl rfl ?_
    refine SL.ung rfl rfl rfl rfl ?_
    refine SL.calle rfl rfl rfl rfl rfl rfl callable14 (fun w hw => awake_ok w) ?_
    refine SL.norm [_, _, _] rfl ?_
    refine SD.back (fun _ h => h) ?_
    refine SD.take 27 [true, true, true, true, true, true, true, true, true, true, true, true, true, true, true, true, true, true, true, true, true, true, true, true, true, true, true, true, false] rfl (by kernel_rfl) rfl (fun _ h => h) rfl rfl rfl (PureOp.pickT rfl rfl) ?_
    refine SD.take 28 [true, true, true, true, true, true, true, true, true, true, true, true, true, true, true, true, true, true, true, true, true, true, true, true, true, true, true, true, true] rfl (by kernel_rfl) rfl (fun _ h => h) rfl rfl rfl (PureOp.assign rfl) ?_
    refine SD.done (by kernel_rfl) ?_
    refine QX.ofK ?_
    refine QX.then_ ?_
    refine WC.ret ?_
    refine QX.ret1 rfl rfl ?_
    intro w hw
    rfl

end Go.Proofs.Ytngkbnaehkailaa
