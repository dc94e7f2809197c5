import Derived.Test.YtngkbnaehkailaaFlN
import Derived.Test.YtngkbnaehkailaaLink
namespace Go.Proofs.Ytngkbnaehkailaa
open Go Go.RowKit Eng
set_option linter.unusedVariables false
set_option linter.unusedSimpArgs false

set_option maxHeartbeats 4000000 in
set_option maxRecDepth 100000 in
theorem best_big (n : Int) (l : List Ed) (ea : Option Addr) (m ec : Nat) (hm : m = l.length) (s t most : Int) (f : List Int) (fa : Option Addr) (q fc : Nat) (hq : q = f.length) (hbig : ¬ (n ≤ 16 ∧ (m : Int) ≤ 40)) (w0 : World) (sE : SliceIn w0 4 ea m ec (rowsF encEd l)) (sF : SliceIn w0 1 fa q fc (rowsF encI f)) : FnC Try.prog 6 [.agg #[.int .i64 n, .slice ea m ec, .int .i64 s, .int .i64 t], .int .i64 most, .slice fa q fc] w0 fun v w' => v = .bool true := by
  refine fnc (N := 85) Try.func6 rfl rfl rfl ?_
  refine WC.seq ?_
  refine WC.region ?_
  refine SL.box rfl rfl rfl (fun b1 hb1 => ?_)
  refine SL.norm [_] rfl ?_
  refine SL.pure rfl rfl rfl (PureOp.assign rfl) ?_
  refine SL.nil_then ?_
  refine WC.seq ?_
  refine WC.seq ?_
  refine WC.region ?_
  refine SL.pure rfl rfl rfl (PureOp.loads (vs := [.int .i64 n, .slice ea m ec, .int .i64 s, .int .i64 t]) Try.underlying24 rfl rfl (fun _ => (RowIs.cells 0 0 4 rfl rfl)) sz24) ?_
  refine SL.calle rfl rfl rfl rfl rfl rfl callable17 (fun w hw => small_ok n l ea m ec hm s t w) ?_
  refine SL.norm [_] rfl ?_
  refine SL.pure rfl rfl rfl (PureOp.not rfl) ?_
  refine SL.pure rfl rfl rfl (PureOp.move rfl) ?_
  refine SL.newg 17 false rfl ?_
  refine SL.gpure (c := 1) rfl rfl rfl rfl rfl rfl rfl (PureOp.move rfl) ?_
  refine SL.gpure (c := 1) rfl rfl rfl rfl rfl rfl rfl (PureOp.len rfl Try.underlying29) ?_
  refine SL.gpure (c := 1) rfl rfl rfl rfl rfl rfl rfl (PureOp.gtr rfl rfl) ?_
  refine SL.pure rfl rfl rfl (PureOp.or_ rfl rfl rfl rfl) ?_
  refine SL.nil_then ?_
  refine WC.cond rfl (fun h1 => ?_) (fun h1 => ?_)
  · try simp only [Bool.and_eq_true, Bool.or_eq_true, Bool.not_eq_true', Bool.not_eq_false', Bool.and_eq_false_iff, Bool.or_eq_false_iff, decide_eq_true_eq, decide_eq_false_iff_not, Int.not_lt, Int.not_le, ne_eq, Decidable.not_not] at h1
    refine WC.seq ?_
    refine WC.region ?_
    refine SL.calle rfl rfl rfl rfl rfl rfl callable14 (fun w hw => awake_ok w) ?_
    refine SL.norm [_] rfl ?_
    refine SL.pure rfl rfl rfl (PureOp.assign rfl) ?_
    refine SL.nil_then ?_
    refine WC.ret ?_
    refine QX.ret_then ?_
    refine QX.ret1 rfl rfl ?_
    intro w hw
    rfl
  · try simp only [Bool.and_eq_true, Bool.or_eq_true, Bool.not_eq_true', Bool.not_eq_false', Bool.and_eq_false_iff, Bool.or_eq_false_iff, decide_eq_true_eq, decide_eq_false_iff_not, Int.not_lt, Int.not_le, ne_eq, Decidable.not_not] at h1
    exact (by exfalso; have h2 := h1.1; exact hbig ⟨by omega, by omega⟩)

set_option maxHeartbeats 4000000 in
set_option maxRecDepth 100000 in
theorem best_bad (n : Int) (l : List Ed) (ea : Option Addr) (m ec : Nat) (hm : m = l.length) (s t most : Int) (f : List Int) (fa : Option Addr) (q fc : Nat) (hq : q = f.length) (hbad : checkE n l s t ≠ 0 ∨ most < 0) (w0 : World) (sE : SliceIn w0 4 ea m ec (rowsF encEd l)) (sF : SliceIn w0 1 fa q fc (rowsF encI f)) : FnC Try.prog 6 [.agg #[.int .i64 n, .slice ea m ec, .int .i64 s, .int .i64 t], .int .i64 most, .slice fa q fc] w0 fun v w' => v = .bool true := by
  have hE0 : (if checkE n l s t ≠ 0 then checkE n l s t else 2) ≠ 0 := by
    split
    · assumption
    · decide
  refine fnc (N := 85) Try.func6 rfl rfl rfl ?_
  refine WC.seq ?_
  refine WC.region ?_
  refine SL.box rfl rfl rfl (fun b1 hb1 => ?_)
  refine SL.norm [_] rfl ?_
  refine SL.pure rfl rfl rfl (PureOp.assign rfl) ?_
  refine SL.nil_then ?_
  refine WC.seq ?_
  refine WC.seq ?_
  refine WC.region ?_
  refine SL.pure rfl rfl rfl (PureOp.loads (vs := [.int .i64 n, .slice ea m ec, .int .i64 s, .int .i64 t]) Try.underlying24 rfl rfl (fun _ => (RowIs.cells 0 0 4 rfl rfl)) sz24) ?_
  refine SL.calle rfl rfl rfl rfl rfl rfl callable17 (fun w hw => small_ok n l ea m ec hm s t w) ?_
  refine SL.norm [_] rfl ?_
  refine SL.pure rfl rfl rfl (PureOp.not rfl) ?_
  refine SL.pure rfl rfl rfl (PureOp.move rfl) ?_
  refine SL.newg 17 false rfl ?_
  refine SL.gpure (c := 1) rfl rfl rfl rfl rfl rfl rfl (PureOp.move rfl) ?_
  refine SL.gpure (c := 1) rfl rfl rfl rfl rfl rfl rfl (PureOp.len rfl Try.underlying29) ?_
  refine SL.gpure (c := 1) rfl rfl rfl rfl rfl rfl rfl (PureOp.gtr rfl rfl) ?_
  refine SL.pure rfl rfl rfl (PureOp.or_ rfl rfl rfl rfl) ?_
  refine SL.nil_then ?_
  refine WC.cond rfl (fun h1 => ?_) (fun h1 => ?_)
  · try simp only [Bool.and_eq_true, Bool.or_eq_true, Bool.not_eq_true', Bool.not_eq_false', Bool.and_eq_false_iff, Bool.or_eq_false_iff, decide_eq_true_eq, decide_eq_false_iff_not, Int.not_lt, Int.not_le, ne_eq, Decidable.not_not] at h1
    refine WC.seq ?_
    refine WC.region ?_
    refine SL.calle rfl rfl rfl rfl rfl rfl callable14 (fun w hw => awake_ok w) ?_
    refine SL.norm [_] rfl ?_
    refine SL.pure rfl rfl rfl (PureOp.assign rfl) ?_
    refine SL.nil_then ?_
    refine WC.ret ?_
    refine QX.ret_then ?_
    refine QX.ret1 rfl rfl ?_
    intro w hw
    rfl
  · try simp only [Bool.and_eq_true, Bool.or_eq_true, Bool.not_eq_true', Bool.not_eq_false', Bool.and_eq_false_iff, Bool.or_eq_false_iff, decide_eq_true_eq, decide_eq_false_iff_not, Int.not_lt, Int.not_le, ne_eq, Decidable.not_not] at h1
    refine WC.skip ?_
    refine QX.then_ ?_
    refine WC.seq ?_
    refine WC.region ?_
    refine SL.pure rfl rfl rfl (PureOp.fieldAddrT 0 Try.underlying24 rfl sz3 rfl rfl) ?_
    refine SL.pure rfl rfl rfl (PureOp.load (v := .int .i64 n) Try.underlying3 rfl rfl (fun _ => (CellIs.cells 0 rfl rfl))) ?_
    refine SL.pure rfl rfl rfl (PureOp.fieldAddrT 1 Try.underlying24 rfl sz22 rfl rfl) ?_
    refine SL.pure rfl rfl rfl (PureOp.load (v := .slice ea m ec) Try.underlying22 rfl rfl (fun _ => (CellIs.cells 0 rfl rfl))) ?_
    refine SL.pure rfl rfl rfl (PureOp.fieldAddrT 2 Try.underlying24 rfl sz3 rfl rfl) ?_
    refine SL.pure rfl rfl rfl (PureOp.load (v := .int .i64 s) Try.underlying3 rfl rfl (fun _ => (CellIs.cells 0 rfl rfl))) ?_
    refine SL.pure rfl rfl rfl (PureOp.fieldAddrT 3 Try.underlying24 rfl sz3 rfl rfl) ?_
    refine SL.pure rfl rfl rfl (PureOp.load (v := .int .i64 t) Try.underlying3 rfl rfl (fun _ => (CellIs.cells 0 rfl rfl))) ?_
    refine SL.pure rfl rfl rfl (PureOp.move rfl) ?_
    refine SL.calle rfl rfl rfl rfl rfl rfl callable18 (fun w hw => solve_bad n l ea m ec hm s t most hbad w (sE.below hw.below)) ?_
    refine SL.norm [_] rfl ?_
    refine SL.pure rfl rfl rfl (PureOp.move rfl) ?_
    refine SL.pure rfl rfl rfl (PureOp.extract rfl rfl) ?_
    refine SL.pure rfl rfl rfl (PureOp.extract rfl rfl) ?_
    refine SL.pure rfl rfl rfl (PureOp.extract rfl rfl) ?_
    refine SL.pure rfl rfl rfl (PureOp.extract rfl rfl) ?_
    refine SL.pure rfl rfl rfl (PureOp.assign rfl) ?_
    refine SL.pure rfl rfl rfl (PureOp.assign rfl) ?_
    refine SL.pure rfl rfl rfl (PureOp.assign rfl) ?_
    refine SL.pure rfl rfl rfl (PureOp.assign rfl) ?_
    refine SL.nil_then ?_
    refine WC.seq ?_
    refine WC.region ?_
    refine SL.pure rfl rfl rfl (PureOp.fieldAddrT 0 Try.underlying24 rfl sz3 rfl rfl) ?_
    refine SL.pure rfl rfl rfl (PureOp.load (v := .int .i64 n) Try.underlying3 rfl rfl (fun _ => (CellIs.cells 0 rfl rfl))) ?_
    refine SL.pure rfl rfl rfl (PureOp.fieldAddrT 1 Try.underlying24 rfl sz22 rfl rfl) ?_
    refine SL.pure rfl rfl rfl (PureOp.load (v := .slice ea m ec) Try.underlying22 rfl rfl (fun _ => (CellIs.cells 0 rfl rfl))) ?_
    refine SL.pure rfl rfl rfl (PureOp.fieldAddrT 2 Try.underlying24 rfl sz3 rfl rfl) ?_
    refine SL.pure rfl rfl rfl (PureOp.load (v := .int .i64 s) Try.underlying3 rfl rfl (fun _ => (CellIs.cells 0 rfl rfl))) ?_
    refine SL.pure rfl rfl rfl (PureOp.fieldAddrT 3 Try.underlying24 rfl sz3 rfl rfl) ?_
    refine SL.pure rfl rfl rfl (PureOp.load (v := .int .i64 t) Try.underlying3 rfl rfl (fun _ => (CellIs.cells 0 rfl rfl))) ?_
    refine SL.pure rfl rfl rfl (PureOp.move rfl) ?_
    refine SL.calle rfl rfl rfl rfl rfl rfl callable15 (fun w hw => pvalid_ok n l ea m ec hm s t f fa q fc hq w (sE.below hw.below) (sF.below hw.below)) ?_
    refine SL.norm [_] rfl ?_
    refine SL.pure rfl rfl rfl (PureOp.move rfl) ?_
    refine SL.pure rfl rfl rfl (PureOp.extract rfl rfl) ?_
    refine SL.pure rfl rfl rfl (PureOp.extract rfl rfl) ?_
    refine SL.pure rfl rfl rfl (PureOp.extract rfl rfl) ?_
    refine SL.pure rfl rfl rfl (PureOp.assign rfl) ?_
    refine SL.pure rfl rfl rfl (PureOp.assign rfl) ?_
    refine SL.pure rfl rfl rfl (PureOp.assign rfl) ?_
    refine SL.nil_then ?_
    refine WC.seq ?_
    refine WC.seq ?_
    refine WC.region ?_
    refine SL.pure rfl rfl rfl (PureOp.move rfl) ?_
    refine SL.pure rfl rfl rfl (PureOp.neq rfl rfl) ?_
    refine SL.lit 53 true rfl (decide_eq_true hE0) ?_
    refine SL.pure rfl rfl rfl (PureOp.move rfl) ?_
    refine SL.off rfl rfl rfl rfl rfl rfl ?_
    refine SL.off rfl rfl rfl rfl rfl rfl ?_
    refine SL.pure rfl rfl rfl (PureOp.pickT rfl rfl) ?_
    refine SL.pure rfl rfl rfl (PureOp.move rfl) ?_
    refine SL.off rfl rfl rfl rfl rfl rfl ?_
    refine SL.off rfl rfl rfl rfl rfl rfl ?_
    refine SL.off rfl rfl rfl rfl rfl rfl ?_
    refine SL.pure rfl rfl rfl (PureOp.pickT rfl rfl) ?_
    refine SL.nil_then ?_
    refine WC.condT rfl ?_
    refine WC.seq ?_
    refine WC.region ?_
    refine SL.calle rfl rfl rfl rfl rfl rfl callable14 (fun w hw => awake_ok w) ?_
    refine SL.norm [_] rfl ?_
    refine SL.pure rfl rfl rfl (PureOp.assign rfl) ?_
    refine SL.nil_then ?_
    refine WC.ret ?_
    refine QX.ret_then ?_
    refine QX.ret1 rfl rfl ?_
    intro w hw
    rfl

set_option maxHeartbeats 4000000 in
set_option maxRecDepth 100000 in
theorem best_ok (n : Int) (l : List Ed) (ea : Option Addr) (m ec : Nat) (hm : m = l.length) (s t most : Int) (f : List Int) (fa : Option Addr) (q fc : Nat) (hq : q = f.length) (hck : checkE n l s t = 0) (hsm : n ≤ 16 ∧ (m : Int) ≤ 40) (hmo : 0 ≤ most ∧ most ≤ 9223372036854775807) (K0 : Nat) (R : List Int × Int × Int) (hR : slv l n.toNat s t most K0 (List.replicate l.length 0) 0 0 = some R) (hBest : Best l n.toNat s.toNat t.toNat most R) (w0 : World) (sE : SliceIn w0 4 ea m ec (rowsF encEd l)) (sF : SliceIn w0 1 fa q fc (rowsF encI f)) : FnC Try.prog 6 [.agg #[.int .i64 n, .slice ea m ec, .int .i64 s, .int .i64 t], .int .i64 most, .slice fa q fc] w0 fun v w' => v = .bool true := by
  refine fnc (N := 85) Try.func6 rfl rfl rfl ?_
  refine WC.seq ?_
  refine WC.region ?_
  refine SL.box rfl rfl rfl (fun b1 hb1 => ?_)
  refine SL.norm [_] rfl ?_
  refine SL.pure rfl rfl rfl (PureOp.assign rfl) ?_
  refine SL.nil_then ?_
  refine WC.seq ?_
  refine WC.seq ?_
  refine WC.region ?_
  refine SL.pure rfl rfl rfl (PureOp.loads (vs := [.int .i64 n, .slice ea m ec, .int .i64 s, .int .i64 t]) Try.underlying24 rfl rfl (fun _ => (RowIs.cells 0 0 4 rfl rfl)) sz24) ?_
  refine SL.calle rfl rfl rfl rfl rfl rfl callable17 (fun w hw => small_ok n l ea m ec hm s t w) ?_
  refine SL.norm [_] rfl ?_
  refine SL.pure rfl rfl rfl (PureOp.not rfl) ?_
  refine SL.pure rfl rfl rfl (PureOp.move rfl) ?_
  refine SL.newg 17 false rfl ?_
  refine SL.gpure (c := 1) rfl rfl rfl rfl rfl rfl rfl (PureOp.move rfl) ?_
  refine SL.gpure (c := 1) rfl rfl rfl rfl rfl rfl rfl (PureOp.len rfl Try.underlying29) ?_
  refine SL.gpure (c := 1) rfl rfl rfl rfl rfl rfl rfl (PureOp.gtr rfl rfl) ?_
  refine SL.pure rfl rfl rfl (PureOp.or_ rfl rfl rfl rfl) ?_
  refine SL.nil_then ?_
  refine WC.cond rfl (fun h1 => ?_) (fun h1 => ?_)
  · try simp only [Bool.and_eq_true, Bool.or_eq_true, Bool.not_eq_true', Bool.not_eq_false', Bool.and_eq_false_iff, Bool.or_eq_false_iff, decide_eq_true_eq, decide_eq_false_iff_not, Int.not_lt, Int.not_le, ne_eq, Decidable.not_not] at h1
    refine WC.seq ?_
    refine WC.region ?_
    refine SL.calle rfl rfl rfl rfl rfl rfl callable14 (fun w hw => awake_ok w) ?_
    refine SL.norm [_] rfl ?_
    refine SL.pure rfl rfl rfl (PureOp.assign rfl) ?_
    refine SL.nil_then ?_
    refine WC.ret ?_
    refine QX.ret_then ?_
    refine QX.ret1 rfl rfl ?_
    intro w hw
    rfl
  · try simp only [Bool.and_eq_true, Bool.or_eq_true, Bool.not_eq_true', Bool.not_eq_false', Bool.and_eq_false_iff, Bool.or_eq_false_iff, decide_eq_true_eq, decide_eq_false_iff_not, Int.not_lt, Int.not_le, ne_eq, Decidable.not_not] at h1
    refine WC.skip ?_
    refine QX.then_ ?_
    refine WC.seq ?_
    refine WC.region ?_
    refine SL.pure rfl rfl rfl (PureOp.fieldAddrT 0 Try.underlying24 rfl sz3 rfl rfl) ?_
    refine SL.pure rfl rfl rfl (PureOp.load (v := .int .i64 n) Try.underlying3 rfl rfl (fun _ => (CellIs.cells 0 rfl rfl))) ?_
    refine SL.pure rfl rfl rfl (PureOp.fieldAddrT 1 Try.underlying24 rfl sz22 rfl rfl) ?_
    refine SL.pure rfl rfl rfl (PureOp.load (v := .slice ea m ec) Try.underlying22 rfl rfl (fun _ => (CellIs.cells 0 rfl rfl))) ?_
    refine SL.pure rfl rfl rfl (PureOp.fieldAddrT 2 Try.underlying24 rfl sz3 rfl rfl) ?_
    refine SL.pure rfl rfl rfl (PureOp.load (v := .int .i64 s) Try.underlying3 rfl rfl (fun _ => (CellIs.cells 0 rfl rfl))) ?_
    refine SL.pure rfl rfl rfl (PureOp.fieldAddrT 3 Try.underlying24 rfl sz3 rfl rfl) ?_
    refine SL.pure rfl rfl rfl (PureOp.load (v := .int .i64 t) Try.underlying3 rfl rfl (fun _ => (CellIs.cells 0 rfl rfl))) ?_
    refine SL.pure rfl rfl rfl (PureOp.move rfl) ?_
    refine SL.callo (fun ra rc => .tuple #[.slice ra m rc, .int .i64 R.2.1, .int .i64 R.2.2, .int .i64 0]) rfl rfl rfl rfl rfl rfl callable18 (fun w hw => solve_ok n l ea m ec hm s t most hck hmo K0 R hR w (sE.below hw.below)) (fun ra rc => ?_)
    refine SL.norm [_, _] rfl ?_
    refine SL.pure rfl rfl rfl (PureOp.move rfl) ?_
    refine SL.pure rfl rfl rfl (PureOp.extract rfl rfl) ?_
    refine SL.pure rfl rfl rfl (PureOp.extract rfl rfl) ?_
    refine SL.pure rfl rfl rfl (PureOp.extract rfl rfl) ?_
    refine SL.pure rfl rfl rfl (PureOp.extract rfl rfl) ?_
    refine SL.pure rfl rfl rfl (PureOp.assign rfl) ?_
    refine SL.pure rfl rfl rfl (PureOp.assign rfl) ?_
    refine SL.pure rfl rfl rfl (PureOp.assign rfl) ?_
    refine SL.pure rfl rfl rfl (PureOp.assign rfl) ?_
    refine SL.nil_then ?_
    refine WC.seq ?_
    refine WC.region ?_
    refine SL.pure rfl rfl rfl (PureOp.fieldAddrT 0 Try.underlying24 rfl sz3 rfl rfl) ?_
    refine SL.pure rfl rfl rfl (PureOp.load (v := .int .i64 n) Try.underlying3 rfl rfl (fun _ => (CellIs.cells 0 rfl rfl))) ?_
    refine SL.pure rfl rfl rfl (PureOp.fieldAddrT 1 Try.underlying24 rfl sz22 rfl rfl) ?_
    refine SL.pure rfl rfl rfl (PureOp.load (v := .slice ea m ec) Try.underlying22 rfl rfl (fun _ => (CellIs.cells 0 rfl rfl))) ?_
    refine SL.pure rfl rfl rfl (PureOp.fieldAddrT 2 Try.underlying24 rfl sz3 rfl rfl) ?_
    refine SL.pure rfl rfl rfl (PureOp.load (v := .int .i64 s) Try.underlying3 rfl rfl (fun _ => (CellIs.cells 0 rfl rfl))) ?_
    refine SL.pure rfl rfl rfl (PureOp.fieldAddrT 3 Try.underlying24 rfl sz3 rfl rfl) ?_
    refine SL.pure rfl rfl rfl (PureOp.load (v := .int .i64 t) Try.underlying3 rfl rfl (fun _ => (CellIs.cells 0 rfl rfl))) ?_
    refine SL.pure rfl rfl rfl (PureOp.move rfl) ?_
    refine SL.calle rfl rfl rfl rfl rfl rfl callable15 (fun w hw => pvalid_ok n l ea m ec hm s t f fa q fc hq w (sE.below hw.below) (sF.below hw.below)) ?_
    refine SL.norm [_, _] rfl ?_
    refine SL.pure rfl rfl rfl (PureOp.move rfl) ?_
    refine SL.pure rfl rfl rfl (PureOp.extract rfl rfl) ?_
    refine SL.pure rfl rfl rfl (PureOp.extract rfl rfl) ?_
    refine SL.pure rfl rfl rfl (PureOp.extract rfl rfl) ?_
    refine SL.pure rfl rfl rfl (PureOp.assign rfl) ?_
    refine SL.pure rfl rfl rfl (PureOp.assign rfl) ?_
    refine SL.pure rfl rfl rfl (PureOp.assign rfl) ?_
    refine SL.nil_then ?_
    refine WC.seq ?_
    refine WC.seq ?_
    refine WC.region ?_
    refine SL.pure rfl rfl rfl (PureOp.move rfl) ?_
    refine SL.pure rfl rfl rfl (PureOp.neq rfl rfl) ?_
    refine SL.lit 53 false rfl (by decide) ?_
    refine SL.pure rfl rfl rfl (PureOp.move rfl) ?_
    refine SL.ung rfl rfl rfl rfl ?_
    refine SL.pure rfl rfl rfl (PureOp.move rfl) ?_
    refine SL.ung rfl rfl rfl rfl ?_
    refine SL.pure rfl rfl rfl (PureOp.neq rfl rfl) ?_
    refine SL.pure rfl rfl rfl (PureOp.pickF rfl rfl) ?_
    refine SL.pure rfl rfl rfl (PureOp.move rfl) ?_
    refine SL.newg 58 false rfl ?_
    refine SL.gpure (c := 2) rfl rfl rfl rfl rfl rfl rfl (PureOp.move rfl) ?_
    refine SL.gpure (c := 2) rfl rfl rfl rfl rfl rfl rfl (PureOp.move rfl) ?_
    refine SL.gpure (c := 2) rfl rfl rfl rfl rfl rfl rfl (PureOp.gtr rfl rfl) ?_
    refine SL.pure rfl rfl rfl (PureOp.or_ rfl rfl rfl rfl) ?_
    refine SL.nil_then ?_
    refine WC.cond rfl (fun h2 => ?_) (fun h2 => ?_)
    · try simp only [Bool.and_eq_true, Bool.or_eq_true, Bool.not_eq_true', Bool.not_eq_false', Bool.and_eq_false_iff, Bool.or_eq_false_iff, decide_eq_true_eq, decide_eq_false_iff_not, Int.not_lt, Int.not_le, ne_eq, Decidable.not_not] at h2
      refine WC.seq ?_
      refine WC.region ?_
      refine SL.calle rfl rfl rfl rfl rfl rfl callable14 (fun w hw => awake_ok w) ?_
      refine SL.norm [_, _] rfl ?_
      refine SL.pure rfl rfl rfl (PureOp.assign rfl) ?_
      refine SL.nil_then ?_
      refine WC.ret ?_
      refine QX.ret_then ?_
      refine QX.ret1 rfl rfl ?_
      intro w hw
      rfl
    · try simp only [Bool.and_eq_true, Bool.or_eq_true, Bool.not_eq_true', Bool.not_eq_false', Bool.and_eq_false_iff, Bool.or_eq_false_iff, decide_eq_true_eq, decide_eq_false_iff_not, Int.not_lt, Int.not_le, ne_eq, Decidable.not_not] at h2
      have hbp := best_plain (b := (validR n l s t f).1) (d := (validR n l s t f).2.1) hck hBest (Prod.ext rfl (Prod.ext rfl h2.1)) h2.2
      refine WC.skip ?_
      refine QX.then_ ?_
      refine WC.seq ?_
      refine WC.region ?_
      refine SL.pure rfl rfl rfl (PureOp.move rfl) ?_
      refine SL.pure rfl rfl rfl (PureOp.move rfl) ?_
      refine SL.pure rfl rfl rfl (PureOp.leq rfl rfl) ?_
      refine SL.pure rfl rfl rfl (PureOp.move rfl) ?_
      refine SL.newg 67 true rfl ?_
      refine SL.gpure (c := 3) rfl rfl rfl rfl rfl rfl rfl (PureOp.move rfl) ?_
      refine SL.gpure (c := 3) rfl rfl rfl rfl rfl rfl rfl (PureOp.move rfl) ?_
      refine SL.gpure (c := 3) rfl rfl rfl rfl rfl rfl rfl (PureOp.gtr rfl rfl) ?_
      refine SL.gpure (c := 3) rfl rfl rfl rfl rfl rfl rfl (PureOp.move rfl) ?_
      refine SL.newg 71 false rfl ?_
      refine SL.gpure (c := 4) rfl rfl rfl rfl rfl rfl rfl (PureOp.move rfl) ?_
      refine SL.gpure (c := 4) rfl rfl rfl rfl rfl rfl rfl (PureOp.move rfl) ?_
      refine SL.gpure (c := 4) rfl rfl rfl rfl rfl rfl rfl (PureOp.eql rfl rfl) ?_
      refine SL.gpure (c := 4) rfl rfl rfl rfl rfl rfl rfl (PureOp.move rfl) ?_
      refine SL.newg 75 true rfl ?_
      refine SL.gpure (c := 5) rfl rfl rfl rfl rfl rfl rfl (PureOp.move rfl) ?_
      refine SL.gpure (c := 5) rfl rfl rfl rfl rfl rfl rfl (PureOp.move rfl) ?_
      refine SL.gpure (c := 5) rfl rfl rfl rfl rfl rfl rfl (PureOp.leq rfl rfl) ?_
      refine SL.gpure (c := 4) rfl rfl rfl rfl rfl rfl rfl (PureOp.and_ rfl rfl rfl rfl) ?_
      refine SL.gpure (c := 3) rfl rfl rfl rfl rfl rfl rfl (PureOp.or_ rfl rfl rfl rfl) ?_
      refine SL.pure rfl rfl rfl (PureOp.and_ rfl rfl rfl rfl) ?_
      refine SL.lit 81 true rfl (by rw [Bool.and_eq_true, Bool.or_eq_true, Bool.and_eq_true, decide_eq_true_iff, decide_eq_true_iff, decide_eq_true_iff, decide_eq_true_iff]; exact hbp) ?_
      refine SL.pure rfl rfl rfl (PureOp.move rfl) ?_
      refine SL.ung rfl rfl rfl rfl ?_
      refine SL.calle rfl rfl rfl rfl rfl rfl callable14 (fun w hw => awake_ok w) ?_
      refine SL.norm [_, _] rfl ?_
      refine SL.pure rfl rfl rfl (PureOp.pickT rfl rfl) ?_
      refine SL.pure rfl rfl rfl (PureOp.assign rfl) ?_
      refine SL.nil_then ?_
      refine WC.ret ?_
      refine QX.ret1 rfl rfl ?_
      intro w hw
      rfl

set_option maxHeartbeats 4000000 in
set_option maxRecDepth 100000 in
theorem proofs_big (n : Int) (l : List Ed) (ea : Option Addr) (m ec : Nat) (hm : m = l.length) (s t most : Int) (f : List Int) (fa : Option Addr) (q fc : Nat) (hq : q = f.length) (g : List Int) (ga : Option Addr) (gq gc : Nat) (hgq : gq = g.length) (p : List Int) (pa : Option Addr) (u pc : Nat) (hu : u = p.length) (hbig : ¬ (n ≤ 16 ∧ (m : Int) ≤ 40)) (w0 : World) (sE : SliceIn w0 4 ea m ec (rowsF encEd l)) (sF : SliceIn w0 1 fa q fc (rowsF encI f)) (sG : SliceIn w0 1 ga gq gc (rowsF encI g)) (sP : SliceIn w0 1 pa u pc (rowsF encI p)) : FnC Try.prog 8 [.agg #[.int .i64 n, .slice ea m ec, .int .i64 s, .int .i64 t], .int .i64 most, .slice fa q fc, .slice ga gq gc, .slice pa u pc] w0 fun v w' => v = .bool true := by
  refine fnc (N := 150) Try.func8 rfl rfl rfl ?_
  refine WC.seq ?_
  refine WC.region ?_
  refine SL.box rfl rfl rfl (fun b1 hb1 => ?_)
  refine SL.norm [_] rfl ?_
  refine SL.pure rfl rfl rfl (PureOp.assign rfl) ?_
  refine SL.nil_then ?_
  refine WC.seq ?_
  refine WC.seq ?_
  refine WC.region ?_
  refine SL.pure rfl rfl rfl (PureOp.loads (vs := [.int .i64 n, .slice ea m ec, .int .i64 s, .int .i64 t]) Try.underlying24 rfl rfl (fun _ => (RowIs.cells 0 0 4 rfl rfl)) sz24) ?_
  refine SL.calle rfl rfl rfl rfl rfl rfl callable17 (fun w hw => small_ok n l ea m ec hm s t w) ?_
  refine SL.norm [_] rfl ?_
  refine SL.pure rfl rfl rfl (PureOp.not rfl) ?_
  refine SL.pure rfl rfl rfl (PureOp.move rfl) ?_
  refine SL.newg 28 false rfl ?_
  refine SL.gpure (c := 1) rfl rfl rfl rfl rfl rfl rfl (PureOp.move rfl) ?_
  refine SL.gpure (c := 1) rfl rfl rfl rfl rfl rfl rfl (PureOp.len rfl Try.underlying29) ?_
  refine SL.gpure (c := 1) rfl rfl rfl rfl rfl rfl rfl (PureOp.gtr rfl rfl) ?_
  refine SL.pure rfl rfl rfl (PureOp.or_ rfl rfl rfl rfl) ?_
  refine SL.pure rfl rfl rfl (PureOp.move rfl) ?_
  refine SL.newg 33 false rfl ?_
  refine SL.gpure (c := 2) rfl rfl rfl rfl rfl rfl rfl (PureOp.move rfl) ?_
  refine SL.gpure (c := 2) rfl rfl rfl rfl rfl rfl rfl (PureOp.len rfl Try.underlying29) ?_
  refine SL.gpure (c := 2) rfl rfl rfl rfl rfl rfl rfl (PureOp.gtr rfl rfl) ?_
  refine SL.pure rfl rfl rfl (PureOp.or_ rfl rfl rfl rfl) ?_
  refine SL.pure rfl rfl rfl (PureOp.move rfl) ?_
  refine SL.newg 38 false rfl ?_
  refine SL.gpure (c := 3) rfl rfl rfl rfl rfl rfl rfl (PureOp.move rfl) ?_
  refine SL.gpure (c := 3) rfl rfl rfl rfl rfl rfl rfl (PureOp.len rfl Try.underlying29) ?_
  refine SL.gpure (c := 3) rfl rfl rfl rfl rfl rfl rfl (PureOp.gtr rfl rfl) ?_
  refine SL.pure rfl rfl rfl (PureOp.or_ rfl rfl rfl rfl) ?_
  refine SL.nil_then ?_
  refine WC.cond rfl (fun h1 => ?_) (fun h1 => ?_)
  · try simp only [Bool.and_eq_true, Bool.or_eq_true, Bool.not_eq_true', Bool.not_eq_false', Bool.and_eq_false_iff, Bool.or_eq_false_iff, decide_eq_true_eq, decide_eq_false_iff_not, Int.not_lt, Int.not_le, ne_eq, Decidable.not_not] at h1
    refine WC.seq ?_
    refine WC.region ?_
    refine SL.calle rfl rfl rfl rfl rfl rfl callable14 (fun w hw => awake_ok w) ?_
    refine SL.norm [_] rfl ?_
    refine SL.pure rfl rfl rfl (PureOp.assign rfl) ?_
    refine SL.nil_then ?_
    refine WC.ret ?_
    refine QX.ret_then ?_
    refine QX.ret1 rfl rfl ?_
    intro w hw
    rfl
  · try simp only [Bool.and_eq_true, Bool.or_eq_true, Bool.not_eq_true', Bool.not_eq_false', Bool.and_eq_false_iff, Bool.or_eq_false_iff, decide_eq_true_eq, decide_eq_false_iff_not, Int.not_lt, Int.not_le, ne_eq, Decidable.not_not] at h1
    exact (by exfalso; have h2 := h1.1; exact hbig ⟨by omega, by omega⟩)

set_option maxHeartbeats 4000000 in
set_option maxRecDepth 100000 in
theorem proofs_bad (n : Int) (l : List Ed) (ea : Option Addr) (m ec : Nat) (hm : m = l.length) (s t most : Int) (f : List Int) (fa : Option Addr) (q fc : Nat) (hq : q = f.length) (g : List Int) (ga : Option Addr) (gq gc : Nat) (hgq : gq = g.length) (p : List Int) (pa : Option Addr) (u pc : Nat) (hu : u = p.length) (hbad : checkE n l s t ≠ 0 ∨ most < 0) (w0 : World) (sE : SliceIn w0 4 ea m ec (rowsF encEd l)) (sF : SliceIn w0 1 fa q fc (rowsF encI f)) (sG : SliceIn w0 1 ga gq gc (rowsF encI g)) (sP : SliceIn w0 1 pa u pc (rowsF encI p)) : FnC Try.prog 8 [.agg #[.int .i64 n, .slice ea m ec, .int .i64 s, .int .i64 t], .int .i64 most, .slice fa q fc, .slice ga gq gc, .slice pa u pc] w0 fun v w' => v = .bool true := by
  have hE0 : (if checkE n l s t ≠ 0 then checkE n l s t else 2) ≠ 0 := by
    split
    · assumption
    · decide
  refine fnc (N := 150) Try.func8 rfl rfl rfl ?_
  refine WC.seq ?_
  refine WC.region ?_
  refine SL.box rfl rfl rfl (fun b1 hb1 => ?_)
  refine SL.norm [_] rfl ?_
  refine SL.pure rfl rfl rfl (PureOp.assign rfl) ?_
  refine SL.nil_then ?_
  refine WC.seq ?_
  refine WC.seq ?_
  refine WC.region ?_
  refine SL.pure rfl rfl rfl (PureOp.loads (vs := [.int .i64 n, .slice ea m ec, .int .i64 s, .int .i64 t]) Try.underlying24 rfl rfl (fun _ => (RowIs.cells 0 0 4 rfl rfl)) sz24) ?_
  refine SL.calle rfl rfl rfl rfl rfl rfl callable17 (fun w hw => small_ok n l ea m ec hm s t w) ?_
  refine SL.norm [_] rfl ?_
  refine SL.pure rfl rfl rfl (PureOp.not rfl) ?_
  refine SL.pure rfl rfl rfl (PureOp.move rfl) ?_
  refine SL.newg 28 false rfl ?_
  refine SL.gpure (c := 1) rfl rfl rfl rfl rfl rfl rfl (PureOp.move rfl) ?_
  refine SL.gpure (c := 1) rfl rfl rfl rfl rfl rfl rfl (PureOp.len rfl Try.underlying29) ?_
  refine SL.gpure (c := 1) rfl rfl rfl rfl rfl rfl rfl (PureOp.gtr rfl rfl) ?_
  refine SL.pure rfl rfl rfl (PureOp.or_ rfl rfl rfl rfl) ?_
  refine SL.pure rfl rfl rfl (PureOp.move rfl) ?_
  refine SL.newg 33 false rfl ?_
  refine SL.gpure (c := 2) rfl rfl rfl rfl rfl rfl rfl (PureOp.move rfl) ?_
  refine SL.gpure (c := 2) rfl rfl rfl rfl rfl rfl rfl (PureOp.len rfl Try.underlying29) ?_
  refine SL.gpure (c := 2) rfl rfl rfl rfl rfl rfl rfl (PureOp.gtr rfl rfl) ?_
  refine SL.pure rfl rfl rfl (PureOp.or_ rfl rfl rfl rfl) ?_
  refine SL.pure rfl rfl rfl (PureOp.move rfl) ?_
  refine SL.newg 38 false rfl ?_
  refine SL.gpure (c := 3) rfl rfl rfl rfl rfl rfl rfl (PureOp.move rfl) ?_
  refine SL.gpure (c := 3) rfl rfl rfl rfl rfl rfl rfl (PureOp.len rfl Try.underlying29) ?_
  refine SL.gpure (c := 3) rfl rfl rfl rfl rfl rfl rfl (PureOp.gtr rfl rfl) ?_
  refine SL.pure rfl rfl rfl (PureOp.or_ rfl rfl rfl rfl) ?_
  refine SL.nil_then ?_
  refine WC.cond rfl (fun h1 => ?_) (fun h1 => ?_)
  · try simp only [Bool.and_eq_true, Bool.or_eq_true, Bool.not_eq_true', Bool.not_eq_false', Bool.and_eq_false_iff, Bool.or_eq_false_iff, decide_eq_true_eq, decide_eq_false_iff_not, Int.not_lt, Int.not_le, ne_eq, Decidable.not_not] at h1
    refine WC.seq ?_
    refine WC.region ?_
    refine SL.calle rfl rfl rfl rfl rfl rfl callable14 (fun w hw => awake_ok w) ?_
    refine SL.norm [_] rfl ?_
    refine SL.pure rfl rfl rfl (PureOp.assign rfl) ?_
    refine SL.nil_then ?_
    refine WC.ret ?_
    refine QX.ret_then ?_
    refine QX.ret1 rfl rfl ?_
    intro w hw
    rfl
  · try simp only [Bool.and_eq_true, Bool.or_eq_true, Bool.not_eq_true', Bool.not_eq_false', Bool.and_eq_false_iff, Bool.or_eq_false_iff, decide_eq_true_eq, decide_eq_false_iff_not, Int.not_lt, Int.not_le, ne_eq, Decidable.not_not] at h1
    refine WC.skip ?_
    refine QX.then_ ?_
    refine WC.seq ?_
    refine WC.region ?_
    refine SL.pure rfl rfl rfl (PureOp.fieldAddrT 0 Try.underlying24 rfl sz3 rfl rfl) ?_
    refine SL.pure rfl rfl rfl (PureOp.load (v := .int .i64 n) Try.underlying3 rfl rfl (fun _ => (CellIs.cells 0 rfl rfl))) ?_
    refine SL.pure rfl rfl rfl (PureOp.fieldAddrT 1 Try.underlying24 rfl sz22 rfl rfl) ?_
    refine SL.pure rfl rfl rfl (PureOp.load (v := .slice ea m ec) Try.underlying22 rfl rfl (fun _ => (CellIs.cells 0 rfl rfl))) ?_
    refine SL.pure rfl rfl rfl (PureOp.fieldAddrT 2 Try.underlying24 rfl sz3 rfl rfl) ?_
    refine SL.pure rfl rfl rfl (PureOp.load (v := .int .i64 s) Try.underlying3 rfl rfl (fun _ => (CellIs.cells 0 rfl rfl))) ?_
    refine SL.pure rfl rfl rfl (PureOp.fieldAddrT 3 Try.underlying24 rfl sz3 rfl rfl) ?_
    refine SL.pure rfl rfl rfl (PureOp.load (v := .int .i64 t) Try.underlying3 rfl rfl (fun _ => (CellIs.cells 0 rfl rfl))) ?_
    refine SL.pure rfl rfl rfl (PureOp.move rfl) ?_
    refine SL.calle rfl rfl rfl rfl rfl rfl callable18 (fun w hw => solve_bad n l ea m ec hm s t most hbad w (sE.below hw.below)) ?_
    refine SL.norm [_] rfl ?_
    refine SL.pure rfl rfl rfl (PureOp.move rfl) ?_
    refine SL.pure rfl rfl rfl (PureOp.extract rfl rfl) ?_
    refine SL.pure rfl rfl rfl (PureOp.extract rfl rfl) ?_
    refine SL.pure rfl rfl rfl (PureOp.extract rfl rfl) ?_
    refine SL.pure rfl rfl rfl (PureOp.extract rfl rfl) ?_
    refine SL.pure rfl rfl rfl (PureOp.assign rfl) ?_
    refine SL.pure rfl rfl rfl (PureOp.assign rfl) ?_
    refine SL.pure rfl rfl rfl (PureOp.assign rfl) ?_
    refine SL.pure rfl rfl rfl (PureOp.assign rfl) ?_
    refine SL.nil_then ?_
    refine WC.seq ?_
    refine WC.seq ?_
    refine WC.region ?_
    refine SL.pure rfl rfl rfl (PureOp.move rfl) ?_
    refine SL.pure rfl rfl rfl (PureOp.eql rfl rfl) ?_
    refine SL.lit 60 false rfl (decide_eq_false hE0) ?_
    refine SL.nil_then ?_
    refine WC.condF rfl ?_
    refine WC.skip ?_
    refine QX.then_ ?_
    refine WC.seq ?_
    refine WC.region ?_
    refine SL.pure rfl rfl rfl (PureOp.fieldAddrT 0 Try.underlying24 rfl sz3 rfl rfl) ?_
    refine SL.pure rfl rfl rfl (PureOp.load (v := .int .i64 n) Try.underlying3 rfl rfl (fun _ => (CellIs.cells 0 rfl rfl))) ?_
    refine SL.pure rfl rfl rfl (PureOp.fieldAddrT 1 Try.underlying24 rfl sz22 rfl rfl) ?_
    refine SL.pure rfl rfl rfl (PureOp.load (v := .slice ea m ec) Try.underlying22 rfl rfl (fun _ => (CellIs.cells 0 rfl rfl))) ?_
    refine SL.pure rfl rfl rfl (PureOp.fieldAddrT 2 Try.underlying24 rfl sz3 rfl rfl) ?_
    refine SL.pure rfl rfl rfl (PureOp.load (v := .int .i64 s) Try.underlying3 rfl rfl (fun _ => (CellIs.cells 0 rfl rfl))) ?_
    refine SL.pure rfl rfl rfl (PureOp.fieldAddrT 3 Try.underlying24 rfl sz3 rfl rfl) ?_
    refine SL.pure rfl rfl rfl (PureOp.load (v := .int .i64 t) Try.underlying3 rfl rfl (fun _ => (CellIs.cells 0 rfl rfl))) ?_
    refine SL.pure rfl rfl rfl (PureOp.move rfl) ?_
    refine SL.calle rfl rfl rfl rfl rfl rfl callable15 (fun w hw => pvalid_ok n l ea m ec hm s t f fa q fc hq w (sE.below hw.below) (sF.below hw.below)) ?_
    refine SL.norm [_] rfl ?_
    refine SL.pure rfl rfl rfl (PureOp.move rfl) ?_
    refine SL.pure rfl rfl rfl (PureOp.extract rfl rfl) ?_
    refine SL.pure rfl rfl rfl (PureOp.extract rfl rfl) ?_
    refine SL.pure rfl rfl rfl (PureOp.extract rfl rfl) ?_
    refine SL.pure rfl rfl rfl (PureOp.assign rfl) ?_
    refine SL.pure rfl rfl rfl (PureOp.assign rfl) ?_
    refine SL.pure rfl rfl rfl (PureOp.assign rfl) ?_
    refine SL.nil_then ?_
    refine WC.seq ?_
    refine WC.region ?_
    refine SL.pure rfl rfl rfl (PureOp.fieldAddrT 0 Try.underlying24 rfl sz3 rfl rfl) ?_
    refine SL.pure rfl rfl rfl (PureOp.load (v := .int .i64 n) Try.underlying3 rfl rfl (fun _ => (CellIs.cells 0 rfl rfl))) ?_
    refine SL.pure rfl rfl rfl (PureOp.fieldAddrT 1 Try.underlying24 rfl sz22 rfl rfl) ?_
    refine SL.pure rfl rfl rfl (PureOp.load (v := .slice ea m ec) Try.underlying22 rfl rfl (fun _ => (CellIs.cells 0 rfl rfl))) ?_
    refine SL.pure rfl rfl rfl (PureOp.fieldAddrT 2 Try.underlying24 rfl sz3 rfl rfl) ?_
    refine SL.pure rfl rfl rfl (PureOp.load (v := .int .i64 s) Try.underlying3 rfl rfl (fun _ => (CellIs.cells 0 rfl rfl))) ?_
    refine SL.pure rfl rfl rfl (PureOp.fieldAddrT 3 Try.underlying24 rfl sz3 rfl rfl) ?_
    refine SL.pure rfl rfl rfl (PureOp.load (v := .int .i64 t) Try.underlying3 rfl rfl (fun _ => (CellIs.cells 0 rfl rfl))) ?_
    refine SL.pure rfl rfl rfl (PureOp.move rfl) ?_
    refine SL.calle rfl rfl rfl rfl rfl rfl callable15 (fun w hw => pvalid_ok n l ea m ec hm s t g ga gq gc hgq w (sE.below hw.below) (sG.below hw.below)) ?_
    refine SL.norm [_] rfl ?_
    refine SL.pure rfl rfl rfl (PureOp.move rfl) ?_
    refine SL.pure rfl rfl rfl (PureOp.extract rfl rfl) ?_
    refine SL.pure rfl rfl rfl (PureOp.extract rfl rfl) ?_
    refine SL.pure rfl rfl rfl (PureOp.extract rfl rfl) ?_
    refine SL.pure rfl rfl rfl (PureOp.assign rfl) ?_
    refine SL.pure rfl rfl rfl (PureOp.assign rfl) ?_
    refine SL.pure rfl rfl rfl (PureOp.assign rfl) ?_
    refine SL.nil_then ?_
    refine WC.seq ?_
    refine WC.region ?_
    refine SL.pure rfl rfl rfl (PureOp.fieldAddrT 0 Try.underlying24 rfl sz3 rfl rfl) ?_
    refine SL.pure rfl rfl rfl (PureOp.load (v := .int .i64 n) Try.underlying3 rfl rfl (fun _ => (CellIs.cells 0 rfl rfl))) ?_
    refine SL.pure rfl rfl rfl (PureOp.fieldAddrT 1 Try.underlying24 rfl sz22 rfl rfl) ?_
    refine SL.pure rfl rfl rfl (PureOp.load (v := .slice ea m ec) Try.underlying22 rfl rfl (fun _ => (CellIs.cells 0 rfl rfl))) ?_
    refine SL.pure rfl rfl rfl (PureOp.move rfl) ?_
    refine SL.callo (fun ha hc_ => .tuple #[.slice ha ((pricesF n l f).1.length) hc_, .bool ((pricesF n l f).2)]) rfl rfl rfl rfl rfl rfl callable20 (fun w hw => prices_ok n l ea m ec hm f fa q fc hq w (sE.below hw.below) (sF.below hw.below)) (fun ha hc_ => ?_)
    refine SL.norm [_, _] rfl ?_
    refine SL.pure rfl rfl rfl (PureOp.move rfl) ?_
    refine SL.pure rfl rfl rfl (PureOp.extract rfl rfl) ?_
    refine SL.pure rfl rfl rfl (PureOp.extract rfl rfl) ?_
    refine SL.pure rfl rfl rfl (PureOp.assign rfl) ?_
    refine SL.pure rfl rfl rfl (PureOp.assign rfl) ?_
    refine SL.nil_then ?_
    refine WC.seq ?_
    refine WC.seq ?_
    refine WC.region ?_
    refine SL.pure rfl rfl rfl (PureOp.move rfl) ?_
    refine SL.pure rfl rfl rfl (PureOp.neq rfl rfl) ?_
    refine SL.pure rfl rfl rfl (PureOp.move rfl) ?_
    refine SL.newg 121 false rfl ?_
    refine SL.gpure (c := 4) rfl rfl rfl rfl rfl rfl rfl (PureOp.fieldAddrT 0 Try.underlying24 rfl sz3 rfl rfl) ?_
    refine SL.gpure (c := 4) rfl rfl rfl rfl rfl rfl rfl (PureOp.load (v := .int .i64 n) Try.underlying3 rfl rfl (fun _ => (CellIs.cells 0 rfl rfl))) ?_
    refine SL.gpure (c := 4) rfl rfl rfl rfl rfl rfl rfl (PureOp.fieldAddrT 1 Try.underlying24 rfl sz22 rfl rfl) ?_
    refine SL.gpure (c := 4) rfl rfl rfl rfl rfl rfl rfl (PureOp.load (v := .slice ea m ec) Try.underlying22 rfl rfl (fun _ => (CellIs.cells 0 rfl rfl))) ?_
    refine SL.gpure (c := 4) rfl rfl rfl rfl rfl rfl rfl (PureOp.move rfl) ?_
    refine SL.gpure (c := 4) rfl rfl rfl rfl rfl rfl rfl (PureOp.move rfl) ?_
    refine SL.gcalle (c := 4) rfl rfl rfl rfl rfl rfl rfl rfl rfl rfl callable23 (by intro hg; simp [gval] at hg; exact (fun w hw => pproves_ok n l ea m ec hm f fa q fc hq p pa u pc hu w (sE.below hw.below) (sF.below hw.below) (sP.below hw.below))) ?_
    refine SL.norm [_, _] rfl ?_
    refine SL.gpure (c := 4) rfl rfl rfl rfl rfl rfl rfl (PureOp.not rfl) ?_
    refine SL.pure rfl rfl rfl (PureOp.or_ rfl rfl rfl rfl) ?_
    refine SL.nil_then ?_
    refine WC.cond rfl (fun h2 => ?_) (fun h2 => ?_)
    · try simp only [Bool.and_eq_true, Bool.or_eq_true, Bool.not_eq_true', Bool.not_eq_false', Bool.and_eq_false_iff, Bool.or_eq_false_iff, decide_eq_true_eq, decide_eq_false_iff_not, Int.not_lt, Int.not_le, ne_eq, Decidable.not_not] at h2
      refine WC.seq ?_
      refine WC.region ?_
      refine SL.calle rfl rfl rfl rfl rfl rfl callable14 (fun w hw => awake_ok w) ?_
      refine SL.norm [_, _] rfl ?_
      refine SL.pure rfl rfl rfl (PureOp.assign rfl) ?_
      refine SL.nil_then ?_
      refine WC.ret ?_
      refine QX.ret_then ?_
      refine QX.ret1 rfl rfl ?_
      intro w hw
      rfl
    · try simp only [Bool.and_eq_true, Bool.or_eq_true, Bool.not_eq_true', Bool.not_eq_false', Bool.and_eq_false_iff, Bool.or_eq_false_iff, decide_eq_true_eq, decide_eq_false_iff_not, Int.not_lt, Int.not_le, ne_eq, Decidable.not_not] at h2
      have hpt := pot_of_proves h2.2
      have hex := prices_exist hpt.2 hpt.1
      have hle : (validR n l s t g).2.2 = 0 → (validR n l s t f).1 = (validR n l s t g).1 → (validR n l s t f).2.1 ≤ (validR n l s t g).2.1 := fun q1 q2 => proofs_plain h2.1 h2.2 q1 q2
      refine WC.skip ?_
      refine QX.then_ ?_
      refine WC.seq ?_
      refine WC.region ?_
      refine SL.pure rfl rfl rfl (PureOp.move rfl) ?_
      refine SL.pure rfl rfl rfl (PureOp.move rfl) ?_
      refine SL.newg 133 true rfl ?_
      refine SL.gpure (c := 5) rfl rfl rfl rfl rfl rfl rfl (PureOp.move rfl) ?_
      refine SL.gpure (c := 5) rfl rfl rfl rfl rfl rfl rfl (PureOp.neq rfl rfl) ?_
      refine SL.gpure (c := 5) rfl rfl rfl rfl rfl rfl rfl (PureOp.move rfl) ?_
      refine SL.newg 136 false rfl ?_
      refine SL.gpure (c := 6) rfl rfl rfl rfl rfl rfl rfl (PureOp.move rfl) ?_
      refine SL.gpure (c := 6) rfl rfl rfl rfl rfl rfl rfl (PureOp.move rfl) ?_
      refine SL.gpure (c := 6) rfl rfl rfl rfl rfl rfl rfl (PureOp.neq rfl rfl) ?_
      refine SL.gpure (c := 5) rfl rfl rfl rfl rfl rfl rfl (PureOp.or_ rfl rfl rfl rfl) ?_
      refine SL.gpure (c := 5) rfl rfl rfl rfl rfl rfl rfl (PureOp.move rfl) ?_
      refine SL.newg 141 false rfl ?_
      refine SL.gpure (c := 7) rfl rfl rfl rfl rfl rfl rfl (PureOp.move rfl) ?_
      refine SL.gpure (c := 7) rfl rfl rfl rfl rfl rfl rfl (PureOp.move rfl) ?_
      refine SL.gpure (c := 7) rfl rfl rfl rfl rfl rfl rfl (PureOp.leq rfl rfl) ?_
      refine SL.gpure (c := 5) rfl rfl rfl rfl rfl rfl rfl (PureOp.or_ rfl rfl rfl rfl) ?_
      refine SL.pure rfl rfl rfl (PureOp.and_ rfl rfl rfl rfl) ?_
      refine SL.lit 146 true rfl (proofs_bool hex hle) ?_
      refine SL.pure rfl rfl rfl (PureOp.move rfl) ?_
      refine SL.ung rfl rfl rfl rfl ?_
      refine SL.calle rfl rfl rfl rfl rfl rfl callable14 (fun w hw => awake_ok w) ?_
      refine SL.norm [_, _] rfl ?_
      refine SL.pure rfl rfl rfl (PureOp.pickT rfl rfl) ?_
      refine SL.pure rfl rfl rfl (PureOp.assign rfl) ?_
      refine SL.nil_then ?_
      refine WC.ret ?_
      refine QX.ret1 rfl rfl ?_
      intro w hw
      rfl

set_option maxHeartbeats 4000000 in
set_option maxRecDepth 100000 in
theorem proofs_ok (n : Int) (l : List Ed) (ea : Option Addr) (m ec : Nat) (hm : m = l.length) (s t most : Int) (f : List Int) (fa : Option Addr) (q fc : Nat) (hq : q = f.length) (g : List Int) (ga : Option Addr) (gq gc : Nat) (hgq : gq = g.length) (p : List Int) (pa : Option Addr) (u pc : Nat) (hu : u = p.length) (hck : checkE n l s t = 0) (hsm : n ≤ 16 ∧ (m : Int) ≤ 40) (hmo : 0 ≤ most ∧ most ≤ 9223372036854775807) (K0 : Nat) (R : List Int × Int × Int) (hR : slv l n.toNat s t most K0 (List.replicate l.length 0) 0 0 = some R) (hBest : Best l n.toNat s.toNat t.toNat most R) (w0 : World) (sE : SliceIn w0 4 ea m ec (rowsF encEd l)) (sF : SliceIn w0 1 fa q fc (rowsF encI f)) (sG : SliceIn w0 1 ga gq gc (rowsF encI g)) (sP : SliceIn w0 1 pa u pc (rowsF encI p)) : FnC Try.prog 8 [.agg #[.int .i64 n, .slice ea m ec, .int .i64 s, .int .i64 t], .int .i64 most, .slice fa q fc, .slice ga gq gc, .slice pa u pc] w0 fun v w' => v = .bool true := by
  have hRv := best_valid hck hBest
  have hRl : R.1.length = m := by rw [(valid_parts hck hRv).1, hm]
  obtain ⟨π, hP⟩ := hBest.pot
  have hpe := prices_exist (right_of_valid hck hRv) hP
  have hpp := prices_prove hsm.1 (by omega) hpe
  refine fnc (N := 150) Try.func8 rfl rfl rfl ?_
  refine WC.seq ?_
  refine WC.region ?_
  refine SL.box rfl rfl rfl (fun b1 hb1 => ?_)
  refine SL.norm [_] rfl ?_
  refine SL.pure rfl rfl rfl (PureOp.assign rfl) ?_
  refine SL.nil_then ?_
  refine WC.seq ?_
  refine WC.seq ?_
  refine WC.region ?_
  refine SL.pure rfl rfl rfl (PureOp.loads (vs := [.int .i64 n, .slice ea m ec, .int .i64 s, .int .i64 t]) Try.underlying24 rfl rfl (fun _ => (RowIs.cells 0 0 4 rfl rfl)) sz24) ?_
  refine SL.calle rfl rfl rfl rfl rfl rfl callable17 (fun w hw => small_ok n l ea m ec hm s t w) ?_
  refine SL.norm [_] rfl ?_
  refine SL.pure rfl rfl rfl (PureOp.not rfl) ?_
  refine SL.pure rfl rfl rfl (PureOp.move rfl) ?_
  refine SL.newg 28 false rfl ?_
  refine SL.gpure (c := 1) rfl rfl rfl rfl rfl rfl rfl (PureOp.move rfl) ?_
  refine SL.gpure (c := 1) rfl rfl rfl rfl rfl rfl rfl (PureOp.len rfl Try.underlying29) ?_
  refine SL.gpure (c := 1) rfl rfl rfl rfl rfl rfl rfl (PureOp.gtr rfl rfl) ?_
  refine SL.pure rfl rfl rfl (PureOp.or_ rfl rfl rfl rfl) ?_
  refine SL.pure rfl rfl rfl (PureOp.move rfl) ?_
  refine SL.newg 33 false rfl ?_
  refine SL.gpure (c := 2) rfl rfl rfl rfl rfl rfl rfl (PureOp.move rfl) ?_
  refine SL.gpure (c := 2) rfl rfl rfl rfl rfl rfl rfl (PureOp.len rfl Try.underlying29) ?_
  refine SL.gpure (c := 2) rfl rfl rfl rfl rfl rfl rfl (PureOp.gtr rfl rfl) ?_
  refine SL.pure rfl rfl rfl (PureOp.or_ rfl rfl rfl rfl) ?_
  refine SL.pure rfl rfl rfl (PureOp.move rfl) ?_
  refine SL.newg 38 false rfl ?_
  refine SL.gpure (c := 3) rfl rfl rfl rfl rfl rfl rfl (PureOp.move rfl) ?_
  refine SL.gpure (c := 3) rfl rfl rfl rfl rfl rfl rfl (PureOp.len rfl Try.underlying29) ?_
  refine SL.gpure (c := 3) rfl rfl rfl rfl rfl rfl rfl (PureOp.gtr rfl rfl) ?_
  refine SL.pure rfl rfl rfl (PureOp.or_ rfl rfl rfl rfl) ?_
  refine SL.nil_then ?_
  refine WC.cond rfl (fun h1 => ?_) (fun h1 => ?_)
  · try simp only [Bool.and_eq_true, Bool.or_eq_true, Bool.not_eq_true', Bool.not_eq_false', Bool.and_eq_false_iff, Bool.or_eq_false_iff, decide_eq_true_eq, decide_eq_false_iff_not, Int.not_lt, Int.not_le, ne_eq, Decidable.not_not] at h1
    refine WC.seq ?_
    refine WC.region ?_
    refine SL.calle rfl rfl rfl rfl rfl rfl callable14 (fun w hw => awake_ok w) ?_
    refine SL.norm [_] rfl ?_
    refine SL.pure rfl rfl rfl (PureOp.assign rfl) ?_
    refine SL.nil_then ?_
    refine WC.ret ?_
    refine QX.ret_then ?_
    refine QX.ret1 rfl rfl ?_
    intro w hw
    rfl
  · try simp only [Bool.and_eq_true, Bool.or_eq_true, Bool.not_eq_true', Bool.not_eq_false', Bool.and_eq_false_iff, Bool.or_eq_false_iff, decide_eq_true_eq, decide_eq_false_iff_not, Int.not_lt, Int.not_le, ne_eq, Decidable.not_not] at h1
    refine WC.skip ?_
    refine QX.then_ ?_
    refine WC.seq ?_
    refine WC.region ?_
    refine SL.pure rfl rfl rfl (PureOp.fieldAddrT 0 Try.underlying24 rfl sz3 rfl rfl) ?_
    refine SL.pure rfl rfl rfl (PureOp.load (v := .int .i64 n) Try.underlying3 rfl rfl (fun _ => (CellIs.cells 0 rfl rfl))) ?_
    refine SL.pure rfl rfl rfl (PureOp.fieldAddrT 1 Try.underlying24 rfl sz22 rfl rfl) ?_
    refine SL.pure rfl rfl rfl (PureOp.load (v := .slice ea m ec) Try.underlying22 rfl rfl (fun _ => (CellIs.cells 0 rfl rfl))) ?_
    refine SL.pure rfl rfl rfl (PureOp.fieldAddrT 2 Try.underlying24 rfl sz3 rfl rfl) ?_
    refine SL.pure rfl rfl rfl (PureOp.load (v := .int .i64 s) Try.underlying3 rfl rfl (fun _ => (CellIs.cells 0 rfl rfl))) ?_
    refine SL.pure rfl rfl rfl (PureOp.fieldAddrT 3 Try.underlying24 rfl sz3 rfl rfl) ?_
    refine SL.pure rfl rfl rfl (PureOp.load (v := .int .i64 t) Try.underlying3 rfl rfl (fun _ => (CellIs.cells 0 rfl rfl))) ?_
    refine SL.pure rfl rfl rfl (PureOp.move rfl) ?_
    refine SL.callo (fun ra rc => .tuple #[.slice ra m rc, .int .i64 R.2.1, .int .i64 R.2.2, .int .i64 0]) rfl rfl rfl rfl rfl rfl callable18 (fun w hw => solve_ok n l ea m ec hm s t most hck hmo K0 R hR w (sE.below hw.below)) (fun ra rc => ?_)
    refine SL.norm [_, _] rfl ?_
    refine SL.pure rfl rfl rfl (PureOp.move rfl) ?_
    refine SL.pure rfl rfl rfl (PureOp.extract rfl rfl) ?_
    refine SL.pure rfl rfl rfl (PureOp.extract rfl rfl) ?_
    refine SL.pure rfl rfl rfl (PureOp.extract rfl rfl) ?_
    refine SL.pure rfl rfl rfl (PureOp.extract rfl rfl) ?_
    refine SL.pure rfl rfl rfl (PureOp.assign rfl) ?_
    refine SL.pure rfl rfl rfl (PureOp.assign rfl) ?_
    refine SL.pure rfl rfl rfl (PureOp.assign rfl) ?_
    refine SL.pure rfl rfl rfl (PureOp.assign rfl) ?_
    refine SL.nil_then ?_
    refine WC.seq ?_
    refine WC.seq ?_
    refine WC.region ?_
    refine SL.pure rfl rfl rfl (PureOp.move rfl) ?_
    refine SL.pure rfl rfl rfl (PureOp.eql rfl rfl) ?_
    refine SL.lit 60 true rfl (by decide) ?_
    refine SL.nil_then ?_
    refine WC.condT rfl ?_
    refine WC.seq ?_
    refine WC.region ?_
    refine SL.pure rfl rfl rfl (PureOp.fieldAddrT 0 Try.underlying24 rfl sz3 rfl rfl) ?_
    refine SL.pure rfl rfl rfl (PureOp.load (v := .int .i64 n) Try.underlying3 rfl rfl (fun _ => (CellIs.cells 0 rfl rfl))) ?_
    refine SL.pure rfl rfl rfl (PureOp.fieldAddrT 1 Try.underlying24 rfl sz22 rfl rfl) ?_
    refine SL.pure rfl rfl rfl (PureOp.load (v := .slice ea m ec) Try.underlying22 rfl rfl (fun _ => (CellIs.cells 0 rfl rfl))) ?_
    refine SL.pure rfl rfl rfl (PureOp.move rfl) ?_
    refine SL.callo (fun ya yc => .tuple #[.slice ya ((pricesF n l R.1).1.length) yc, .bool ((pricesF n l R.1).2)]) rfl rfl rfl rfl rfl rfl callable20 (fun w hw => prices_ok n l ea m ec hm R.1 ra m rc hRl.symm w (sE.below hw.below) (SliceIn.rows (l := R.1) (hw.mem (i := 1) rfl) encI_len (by omega))) (fun ya yc => ?_)
    refine SL.norm [_, _, _] rfl ?_
    refine SL.pure rfl rfl rfl (PureOp.move rfl) ?_
    refine SL.pure rfl rfl rfl (PureOp.extract rfl rfl) ?_
    refine SL.pure rfl rfl rfl (PureOp.extract rfl rfl) ?_
    refine SL.pure rfl rfl rfl (PureOp.assign rfl) ?_
    refine SL.pure rfl rfl rfl (PureOp.assign rfl) ?_
    refine SL.nil_then ?_
    refine WC.seq ?_
    refine WC.region ?_
    refine SL.pure rfl rfl rfl (PureOp.move rfl) ?_
    refine SL.pure rfl rfl rfl (PureOp.not rfl) ?_
    refine SL.lit 71 false rfl (by rw [hpe]; rfl) ?_
    refine SL.pure rfl rfl rfl (PureOp.move rfl) ?_
    refine SL.ung rfl rfl rfl rfl ?_
    refine SL.pure rfl rfl rfl (PureOp.fieldAddrT 0 Try.underlying24 rfl sz3 rfl rfl) ?_
    refine SL.ung rfl rfl rfl rfl ?_
    refine SL.pure rfl rfl rfl (PureOp.load (v := .int .i64 n) Try.underlying3 rfl rfl (fun _ => (CellIs.cells 0 rfl rfl))) ?_
    refine SL.ung rfl rfl rfl rfl ?_
    refine SL.pure rfl rfl rfl (PureOp.fieldAddrT 1 Try.underlying24 rfl sz22 rfl rfl) ?_
    refine SL.ung rfl rfl rfl rfl ?_
    refine SL.pure rfl rfl rfl (PureOp.load (v := .slice ea m ec) Try.underlying22 rfl rfl (fun _ => (CellIs.cells 0 rfl rfl))) ?_
    refine SL.ung rfl rfl rfl rfl ?_
    refine SL.pure rfl rfl rfl (PureOp.move rfl) ?_
    refine SL.ung rfl rfl rfl rfl ?_
    refine SL.pure rfl rfl rfl (PureOp.move rfl) ?_
    refine SL.ung rfl rfl rfl rfl ?_
    refine SL.calle rfl rfl rfl rfl rfl rfl callable23 (fun w hw => pproves_ok n l ea m ec hm R.1 ra m rc hRl.symm (pricesF n l R.1).1 ya _ yc rfl w (sE.below hw.below) (SliceIn.rows (l := R.1) (hw.mem (i := 1) rfl) encI_len (by omega)) (SliceIn.rows (l := (pricesF n l R.1).1) (hw.mem (i := 2) rfl) encI_len (Nat.le_refl _))) ?_
    refine SL.norm [_, _, _] rfl ?_
    refine SL.ung rfl rfl rfl rfl ?_
    refine SL.pure rfl rfl rfl (PureOp.not rfl) ?_
    refine SL.lit 80 false rfl (by rw [hpp]; rfl) ?_
    refine SL.pure rfl rfl rfl (PureOp.pickF rfl rfl) ?_
    refine SL.nil_then ?_
    refine WC.condF rfl ?_
    refine WC.skip ?_
    refine QX.then_ ?_
    refine WC.seq ?_
    refine WC.region ?_
    refine SL.pure rfl rfl rfl (PureOp.fieldAddrT 0 Try.underlying24 rfl sz3 rfl rfl) ?_
    refine SL.pure rfl rfl rfl (PureOp.load (v := .int .i64 n) Try.underlying3 rfl rfl (fun _ => (CellIs.cells 0 rfl rfl))) ?_
    refine SL.pure rfl rfl rfl (PureOp.fieldAddrT 1 Try.underlying24 rfl sz22 rfl rfl) ?_
    refine SL.pure rfl rfl rfl (PureOp.load (v := .slice ea m ec) Try.underlying22 rfl rfl (fun _ => (CellIs.cells 0 rfl rfl))) ?_
    refine SL.pure rfl rfl rfl (PureOp.fieldAddrT 2 Try.underlying24 rfl sz3 rfl rfl) ?_
    refine SL.pure rfl rfl rfl (PureOp.load (v := .int .i64 s) Try.underlying3 rfl rfl (fun _ => (CellIs.cells 0 rfl rfl))) ?_
    refine SL.pure rfl rfl rfl (PureOp.fieldAddrT 3 Try.underlying24 rfl sz3 rfl rfl) ?_
    refine SL.pure rfl rfl rfl (PureOp.load (v := .int .i64 t) Try.underlying3 rfl rfl (fun _ => (CellIs.cells 0 rfl rfl))) ?_
    refine SL.pure rfl rfl rfl (PureOp.move rfl) ?_
    refine SL.calle rfl rfl rfl rfl rfl rfl callable15 (fun w hw => pvalid_ok n l ea m ec hm s t f fa q fc hq w (sE.below hw.below) (sF.below hw.below)) ?_
    refine SL.norm [_, _, _] rfl ?_
    refine SL.pure rfl rfl rfl (PureOp.move rfl) ?_
    refine SL.pure rfl rfl rfl (PureOp.extract rfl rfl) ?_
    refine SL.pure rfl rfl rfl (PureOp.extract rfl rfl) ?_
    refine SL.pure rfl rfl rfl (PureOp.extract rfl rfl) ?_
    refine SL.pure rfl rfl rfl (PureOp.assign rfl) ?_
    refine SL.pure rfl rfl rfl (PureOp.assign rfl) ?_
    refine SL.pure rfl rfl rfl (PureOp.assign rfl) ?_
    refine SL.nil_then ?_
    refine WC.seq ?_
    refine WC.region ?_
    refine SL.pure rfl rfl rfl (PureOp.fieldAddrT 0 Try.underlying24 rfl sz3 rfl rfl) ?_
    refine SL.pure rfl rfl rfl (PureOp.load (v := .int .i64 n) Try.underlying3 rfl rfl (fun _ => (CellIs.cells 0 rfl rfl))) ?_
    refine SL.pure rfl rfl rfl (PureOp.fieldAddrT 1 Try.underlying24 rfl sz22 rfl rfl) ?_
    refine SL.pure rfl rfl rfl (PureOp.load (v := .slice ea m ec) Try.underlying22 rfl rfl (fun _ => (CellIs.cells 0 rfl rfl))) ?_
    refine SL.pure rfl rfl rfl (PureOp.fieldAddrT 2 Try.underlying24 rfl sz3 rfl rfl) ?_
    refine SL.pure rfl rfl rfl (PureOp.load (v := .int .i64 s) Try.underlying3 rfl rfl (fun _ => (CellIs.cells 0 rfl rfl))) ?_
    refine SL.pure rfl rfl rfl (PureOp.fieldAddrT 3 Try.underlying24 rfl sz3 rfl rfl) ?_
    refine SL.pure rfl rfl rfl (PureOp.load (v := .int .i64 t) Try.underlying3 rfl rfl (fun _ => (CellIs.cells 0 rfl rfl))) ?_
    refine SL.pure rfl rfl rfl (PureOp.move rfl) ?_
    refine SL.calle rfl rfl rfl rfl rfl rfl callable15 (fun w hw => pvalid_ok n l ea m ec hm s t g ga gq gc hgq w (sE.below hw.below) (sG.below hw.below)) ?_
    refine SL.norm [_, _, _] rfl ?_
    refine SL.pure rfl rfl rfl (PureOp.move rfl) ?_
    refine SL.pure rfl rfl rfl (PureOp.extract rfl rfl) ?_
    refine SL.pure rfl rfl rfl (PureOp.extract rfl rfl) ?_
    refine SL.pure rfl rfl rfl (PureOp.extract rfl rfl) ?_
    refine SL.pure rfl rfl rfl (PureOp.assign rfl) ?_
    refine SL.pure rfl rfl rfl (PureOp.assign rfl) ?_
    refine SL.pure rfl rfl rfl (PureOp.assign rfl) ?_
    refine SL.nil_then ?_
    refine WC.seq ?_
    refine WC.region ?_
    refine SL.pure rfl rfl rfl (PureOp.fieldAddrT 0 Try.underlying24 rfl sz3 rfl rfl) ?_
    refine SL.pure rfl rfl rfl (PureOp.load (v := .int .i64 n) Try.underlying3 rfl rfl (fun _ => (CellIs.cells 0 rfl rfl))) ?_
    refine SL.pure rfl rfl rfl (PureOp.fieldAddrT 1 Try.underlying24 rfl sz22 rfl rfl) ?_
    refine SL.pure rfl rfl rfl (PureOp.load (v := .slice ea m ec) Try.underlying22 rfl rfl (fun _ => (CellIs.cells 0 rfl rfl))) ?_
    refine SL.pure rfl rfl rfl (PureOp.move rfl) ?_
    refine SL.callo (fun ha hc_ => .tuple #[.slice ha ((pricesF n l f).1.length) hc_, .bool ((pricesF n l f).2)]) rfl rfl rfl rfl rfl rfl callable20 (fun w hw => prices_ok n l ea m ec hm f fa q fc hq w (sE.below hw.below) (sF.below hw.below)) (fun ha hc_ => ?_)
    refine SL.norm [_, _, _, _] rfl ?_
    refine SL.pure rfl rfl rfl (PureOp.move rfl) ?_
    refine SL.pure rfl rfl rfl (PureOp.extract rfl rfl) ?_
    refine SL.pure rfl rfl rfl (PureOp.extract rfl rfl) ?_
    refine SL.pure rfl rfl rfl (PureOp.assign rfl) ?_
    refine SL.pure rfl rfl rfl (PureOp.assign rfl) ?_
    refine SL.nil_then ?_
    refine WC.seq ?_
    refine WC.seq ?_
    refine WC.region ?_
    refine SL.pure rfl rfl rfl (PureOp.move rfl) ?_
    refine SL.pure rfl rfl rfl (PureOp.neq rfl rfl) ?_
    refine SL.pure rfl rfl rfl (PureOp.move rfl) ?_
    refine SL.newg 121 false rfl ?_
    refine SL.gpure (c := 4) rfl rfl rfl rfl rfl rfl rfl (PureOp.fieldAddrT 0 Try.underlying24 rfl sz3 rfl rfl) ?_
    refine SL.gpure (c := 4) rfl rfl rfl rfl rfl rfl rfl (PureOp.load (v := .int .i64 n) Try.underlying3 rfl rfl (fun _ => (CellIs.cells 0 rfl rfl))) ?_
    refine SL.gpure (c := 4) rfl rfl rfl rfl rfl rfl rfl (PureOp.fieldAddrT 1 Try.underlying24 rfl sz22 rfl rfl) ?_
    refine SL.gpure (c := 4) rfl rfl rfl rfl rfl rfl rfl (PureOp.load (v := .slice ea m ec) Try.underlying22 rfl rfl (fun _ => (CellIs.cells 0 rfl rfl))) ?_
    refine SL.gpure (c := 4) rfl rfl rfl rfl rfl rfl rfl (PureOp.move rfl) ?_
    refine SL.gpure (c := 4) rfl rfl rfl rfl rfl rfl rfl (PureOp.move rfl) ?_
    refine SL.gcalle (c := 4) rfl rfl rfl rfl rfl rfl rfl rfl rfl rfl callable23 (by intro hg; simp [gval] at hg; exact (fun w hw => pproves_ok n l ea m ec hm f fa q fc hq p pa u pc hu w (sE.below hw.below) (sF.below hw.below) (sP.below hw.below))) ?_
    refine SL.norm [_, _, _, _] rfl ?_
    refine SL.gpure (c := 4) rfl rfl rfl rfl rfl rfl rfl (PureOp.not rfl) ?_
    refine SL.pure rfl rfl rfl (PureOp.or_ rfl rfl rfl rfl) ?_
    refine SL.nil_then ?_
    refine WC.cond rfl (fun h2 => ?_) (fun h2 => ?_)
    · try simp only [Bool.and_eq_true, Bool.or_eq_true, Bool.not_eq_true', Bool.not_eq_false', Bool.and_eq_false_iff, Bool.or_eq_false_iff, decide_eq_true_eq, decide_eq_false_iff_not, Int.not_lt, Int.not_le, ne_eq, Decidable.not_not] at h2
      refine WC.seq ?_
      refine WC.region ?_
      refine SL.calle rfl rfl rfl rfl rfl rfl callable14 (fun w hw => awake_ok w) ?_
      refine SL.norm [_, _, _, _] rfl ?_
      refine SL.pure rfl rfl rfl (PureOp.assign rfl) ?_
      refine SL.nil_then ?_
      refine WC.ret ?_
      refine QX.ret_then ?_
      refine QX.ret1 rfl rfl ?_
      intro w hw
      rfl
    · try simp only [Bool.and_eq_true, Bool.or_eq_true, Bool.not_eq_true', Bool.not_eq_false', Bool.and_eq_false_iff, Bool.or_eq_false_iff, decide_eq_true_eq, decide_eq_false_iff_not, Int.not_lt, Int.not_le, ne_eq, Decidable.not_not] at h2
      have hpt := pot_of_proves h2.2
      have hex := prices_exist hpt.2 hpt.1
      have hle : (validR n l s t g).2.2 = 0 → (validR n l s t f).1 = (validR n l s t g).1 → (validR n l s t f).2.1 ≤ (validR n l s t g).2.1 := fun q1 q2 => proofs_plain h2.1 h2.2 q1 q2
      refine WC.skip ?_
      refine QX.then_ ?_
      refine WC.seq ?_
      refine WC.region ?_
      refine SL.pure rfl rfl rfl (PureOp.move rfl) ?_
      refine SL.pure rfl rfl rfl (PureOp.move rfl) ?_
      refine SL.newg 133 true rfl ?_
      refine SL.gpure (c := 5) rfl rfl rfl rfl rfl rfl rfl (PureOp.move rfl) ?_
      refine SL.gpure (c := 5) rfl rfl rfl rfl rfl rfl rfl (PureOp.neq rfl rfl) ?_
      refine SL.gpure (c := 5) rfl rfl rfl rfl rfl rfl rfl (PureOp.move rfl) ?_
      refine SL.newg 136 false rfl ?_
      refine SL.gpure (c := 6) rfl rfl rfl rfl rfl rfl rfl (PureOp.move rfl) ?_
      refine SL.gpure (c := 6) rfl rfl rfl rfl rfl rfl rfl (PureOp.move rfl) ?_
      refine SL.gpure (c := 6) rfl rfl rfl rfl rfl rfl rfl (PureOp.neq rfl rfl) ?_
      refine SL.gpure (c := 5) rfl rfl rfl rfl rfl rfl rfl (PureOp.or_ rfl rfl rfl rfl) ?_
      refine SL.gpure (c := 5) rfl rfl rfl rfl rfl rfl rfl (PureOp.move rfl) ?_
      refine SL.newg 141 false rfl ?_
      refine SL.gpure (c := 7) rfl rfl rfl rfl rfl rfl rfl (PureOp.move rfl) ?_
      refine SL.gpure (c := 7) rfl rfl rfl rfl rfl rfl rfl (PureOp.move rfl) ?_
      refine SL.gpure (c := 7) rfl rfl rfl rfl rfl rfl rfl (PureOp.leq rfl rfl) ?_
      refine SL.gpure (c := 5) rfl rfl rfl rfl rfl rfl rfl (PureOp.or_ rfl rfl rfl rfl) ?_
      refine SL.pure rfl rfl rfl (PureOp.and_ rfl rfl rfl rfl) ?_
      refine SL.lit 146 true rfl (proofs_bool hex hle) ?_
      refine SL.pure rfl rfl rfl (PureOp.move rfl) ?_
      refine SL.ung rfl rfl rfl rfl ?_
      refine SL.calle rfl rfl rfl rfl rfl rfl callable14 (fun w hw => awake_ok w) ?_
      refine SL.norm [_, _, _, _] rfl ?_
      refine SL.pure rfl rfl rfl (PureOp.pickT rfl rfl) ?_
      refine SL.pure rfl rfl rfl (PureOp.assign rfl) ?_
      refine SL.nil_then ?_
      refine WC.ret ?_
      refine QX.ret1 rfl rfl ?_
      intro w hw
      rfl

end Go.Proofs.Ytngkbnaehkailaa
