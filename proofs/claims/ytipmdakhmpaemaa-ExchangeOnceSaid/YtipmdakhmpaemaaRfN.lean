import Derived.Test.YtipmdakhmpaemaaRfM
namespace Go.Proofs.Ytipmdakhmpaemaa
open Go Go.RowKit Eng
set_option linter.unusedVariables false
set_option linter.unusedSimpArgs false

set_option maxHeartbeats 4000000 in
set_option maxRecDepth 100000 in
theorem right_ok (t : TK) (l : List Cp) (ao : Option Addr) (n cap : Nat) (hn : n = l.length) (w0 : World) (hz : SliceIn w0 11 ao n cap (rowsF enc65 l)) (hx : SliceIn w0 2 t.taxes.ao t.taxes.l.length t.taxes.cap (rowsF enc67 t.taxes.l)) : FnC Try.prog 24 [.agg #[.int .i64 t.num, .string t.loc, .string t.p1, .string t.p2, .string t.p3, .slice ao n cap, .int .i64 t.fare, .slice t.taxes.ao t.taxes.l.length t.taxes.cap, .int .i64 t.total, .int .i64 t.issued]] w0 fun v w' => ∃ b, v = .bool b ∧ (b = true → t.taxes.l.length ≤ 60 ∧ FitsT t.fare t.total l t.taxes.l) := by
  refine fnc (N := 11) Try.func24 rfl rfl rfl ?_
  refine WC.seq ?_
  refine WC.region ?_
  refine SL.box rfl rfl rfl (fun b1 hb1 => ?_)
  refine SL.norm [_] rfl ?_
  refine SL.pure rfl rfl rfl (PureOp.assign rfl) ?_
  refine SL.nil_then ?_
  refine WC.seq ?_
  refine WC.region ?_
  refine SL.pure rfl rfl rfl (PureOp.fieldAddrT 7 Try.underlying27 rfl sz25 rfl rfl) ?_
  refine SL.pure rfl rfl rfl (PureOp.load (v := .slice t.taxes.ao t.taxes.l.length t.taxes.cap) Try.underlying25 rfl rfl (fun _ => (CellIs.cells 0 rfl rfl))) ?_
  refine SL.pure rfl rfl rfl (PureOp.len rfl Try.underlying25) ?_
  refine SL.pure rfl rfl rfl (PureOp.leq rfl rfl) ?_
  refine SL.pure rfl rfl rfl (PureOp.move rfl) ?_
  refine SL.split 7 rfl (fun hs7 => ?_) (fun hs7 => ?_)
  · try simp only [Bool.and_eq_true, Bool.or_eq_true, Bool.not_eq_true', Bool.not_eq_false', Bool.and_eq_false_iff, Bool.or_eq_false_iff, decide_eq_true_eq, decide_eq_false_iff_not, Int.not_lt, Int.not_le, ne_eq, Decidable.not_not] at hs7
    refine SL.ung rfl rfl rfl rfl ?_
    refine SL.pure rfl rfl rfl (PureOp.loads (vs := [.int .i64 t.num, .string t.loc, .string t.p1, .string t.p2, .string t.p3, .slice ao n cap, .int .i64 t.fare, .slice t.taxes.ao t.taxes.l.length t.taxes.cap, .int .i64 t.total, .int .i64 t.issued]) Try.underlying27 rfl rfl (fun _ => (RowIs.cells 0 0 10 rfl rfl)) sz27) ?_
    refine SL.ung rfl rfl rfl rfl ?_
    refine SL.callv rfl rfl rfl rfl rfl rfl callable48 (fun w hw => fits42_ok t l ao n cap hn w (hz.below hw.below) (hx.below hw.below)) ?_
    rintro v ⟨fb, rfl, hfit⟩
    refine SL.norm [_] rfl ?_
    refine SL.pure rfl rfl rfl (PureOp.pickT rfl rfl) ?_
    refine SL.pure rfl rfl rfl (PureOp.assign rfl) ?_
    refine SL.nil_then ?_
    refine WC.ret ?_
    refine QX.ret1 rfl rfl ?_
    intro w hw
    exact ⟨_, rfl, fun q => ⟨by omega, hfit q⟩⟩
  · try simp only [Bool.and_eq_true, Bool.or_eq_true, Bool.not_eq_true', Bool.not_eq_false', Bool.and_eq_false_iff, Bool.or_eq_false_iff, decide_eq_true_eq, decide_eq_false_iff_not, Int.not_lt, Int.not_le, ne_eq, Decidable.not_not] at hs7
    refine SL.off rfl rfl rfl rfl rfl rfl ?_
    refine SL.off rfl rfl rfl rfl rfl rfl ?_
    refine SL.pure rfl rfl rfl (PureOp.pickF rfl rfl) ?_
    refine SL.pure rfl rfl rfl (PureOp.assign rfl) ?_
    refine SL.nil_then ?_
    refine WC.ret ?_
    refine QX.ret1 rfl rfl ?_
    intro w hw
    exact ⟨_, rfl, fun q => by cases q⟩

set_option maxHeartbeats 4000000 in
set_option maxRecDepth 100000 in
theorem samep_ok (p : Pd) (w0 : World) : FnC Try.prog 18 [.agg #[.int .i64 p.1, .int .i64 p.2.1, .int .i64 p.2.2.1, .int .i64 p.2.2.2], .agg #[.int .i64 p.1, .int .i64 p.2.1, .int .i64 p.2.2.1, .int .i64 p.2.2.2]] w0 fun v w' => v = .bool true := by
  refine fnc (N := 31) Try.func18 rfl rfl rfl ?_
  refine WC.seq ?_
  refine WC.region ?_
  refine SL.box rfl rfl rfl (fun b1 hb1 => ?_)
  refine SL.norm [_] rfl ?_
  refine SL.box rfl rfl rfl (fun b2 hb2 => ?_)
  refine SL.norm [_, _] rfl ?_
  refine SL.pure rfl rfl rfl (PureOp.assign rfl) ?_
  refine SL.nil_then ?_
  refine WC.seq ?_
  refine WC.region ?_
  refine SL.pure rfl rfl rfl (PureOp.fieldAddrT 0 Try.underlying34 rfl sz3 rfl rfl) ?_
  refine SL.pure rfl rfl rfl (PureOp.load (v := .int .i64 p.1) Try.underlying3 rfl rfl (fun _ => (CellIs.cells 0 rfl rfl))) ?_
  refine SL.pure rfl rfl rfl (PureOp.fieldAddrT 0 Try.underlying37 rfl sz3 rfl rfl) ?_
  refine SL.pure rfl rfl rfl (PureOp.load (v := .int .i64 p.1) Try.underlying3 rfl rfl (fun _ => (CellIs.cells 1 rfl rfl))) ?_
  refine SL.pure rfl rfl rfl (PureOp.eql rfl rfl) ?_
  refine SL.pure rfl rfl rfl (PureOp.move rfl) ?_
  refine SL.newg 10 true rfl ?_
  refine SL.gpure (c := 1) rfl rfl rfl rfl rfl rfl rfl (PureOp.fieldAddrT 1 Try.underlying34 rfl sz3 rfl rfl) ?_
  refine SL.gpure (c := 1) rfl rfl rfl rfl rfl rfl rfl (PureOp.load (v := .int .i64 p.2.1) Try.underlying3 rfl rfl (fun _ => (CellIs.cells 0 rfl rfl))) ?_
  refine SL.gpure (c := 1) rfl rfl rfl rfl rfl rfl rfl (PureOp.fieldAddrT 1 Try.underlying37 rfl sz3 rfl rfl) ?_
  refine SL.gpure (c := 1) rfl rfl rfl rfl rfl rfl rfl (PureOp.load (v := .int .i64 p.2.1) Try.underlying3 rfl rfl (fun _ => (CellIs.cells 1 rfl rfl))) ?_
  refine SL.gpure (c := 1) rfl rfl rfl rfl rfl rfl rfl (PureOp.eql rfl rfl) ?_
  refine SL.pure rfl rfl rfl (PureOp.and_ rfl rfl rfl rfl) ?_
  refine SL.pure rfl rfl rfl (PureOp.move rfl) ?_
  refine SL.newg 17 true rfl ?_
  refine SL.gpure (c := 2) rfl rfl rfl rfl rfl rfl rfl (PureOp.fieldAddrT 2 Try.underlying34 rfl sz3 rfl rfl) ?_
  refine SL.gpure (c := 2) rfl rfl rfl rfl rfl rfl rfl (PureOp.load (v := .int .i64 p.2.2.1) Try.underlying3 rfl rfl (fun _ => (CellIs.cells 0 rfl rfl))) ?_
  refine SL.gpure (c := 2) rfl rfl rfl rfl rfl rfl rfl (PureOp.fieldAddrT 2 Try.underlying37 rfl sz3 rfl rfl) ?_
  refine SL.gpure (c := 2) rfl rfl rfl rfl rfl rfl rfl (PureOp.load (v := .int .i64 p.2.2.1) Try.underlying3 rfl rfl (fun _ => (CellIs.cells 1 rfl rfl))) ?_
  refine SL.gpure (c := 2) rfl rfl rfl rfl rfl rfl rfl (PureOp.eql rfl rfl) ?_
  refine SL.pure rfl rfl rfl (PureOp.and_ rfl rfl rfl rfl) ?_
  refine SL.pure rfl rfl rfl (PureOp.move rfl) ?_
  refine SL.newg 24 true rfl ?_
  refine SL.gpure (c := 3) rfl rfl rfl rfl rfl rfl rfl (PureOp.fieldAddrT 3 Try.underlying34 rfl sz3 rfl rfl) ?_
  refine SL.gpure (c := 3) rfl rfl rfl rfl rfl rfl rfl (PureOp.load (v := .int .i64 p.2.2.2) Try.underlying3 rfl rfl (fun _ => (CellIs.cells 0 rfl rfl))) ?_
  refine SL.gpure (c := 3) rfl rfl rfl rfl rfl rfl rfl (PureOp.fieldAddrT 3 Try.underlying37 rfl sz3 rfl rfl) ?_
  refine SL.gpure (c := 3) rfl rfl rfl rfl rfl rfl rfl (PureOp.load (v := .int .i64 p.2.2.2) Try.underlying3 rfl rfl (fun _ => (CellIs.cells 1 rfl rfl))) ?_
  refine SL.gpure (c := 3) rfl rfl rfl rfl rfl rfl rfl (PureOp.eql rfl rfl) ?_
  refine SL.pure rfl rfl rfl (PureOp.and_ rfl rfl rfl rfl) ?_
  refine SL.pure rfl rfl rfl (PureOp.assign rfl) ?_
  refine SL.nil_then ?_
  refine WC.ret ?_
  refine QX.ret1 rfl rfl ?_
  intro w hw
  simp

set_option maxHeartbeats 4000000 in
set_option maxRecDepth 100000 in
theorem same41_ok (t : TK) (l : List Cp) (a1 a2 : Option Addr) (n1 n2 c1 c2 : Nat) (hn1 : n1 = l.length) (hn2 : n2 = l.length) (w0 : World) (hz1 : SliceIn w0 11 a1 n1 c1 (rowsF enc65 l)) (hz2 : SliceIn w0 11 a2 n2 c2 (rowsF enc65 l)) (hnb : n1 ≤ 1000) (hx : SliceIn w0 2 t.taxes.ao t.taxes.l.length t.taxes.cap (rowsF enc67 t.taxes.l)) (hxb : t.taxes.l.length ≤ 1000) : FnC Try.prog 21 [.agg #[.int .i64 t.num, .string t.loc, .string t.p1, .string t.p2, .string t.p3, .slice a1 n1 c1, .int .i64 t.fare, .slice t.taxes.ao t.taxes.l.length t.taxes.cap, .int .i64 t.total, .int .i64 t.issued], .agg #[.int .i64 t.num, .string t.loc, .string t.p1, .string t.p2, .string t.p3, .slice a2 n2 c2, .int .i64 t.fare, .slice t.taxes.ao t.taxes.l.length t.taxes.cap, .int .i64 t.total, .int .i64 t.issued]] w0 fun v w' => v = .bool true := by
  refine fnc (N := 101) Try.func21 rfl rfl rfl ?_
  refine WC.seq ?_
  refine WC.region ?_
  refine SL.box rfl rfl rfl (fun b1 hb1 => ?_)
  refine SL.norm [_] rfl ?_
  refine SL.box rfl rfl rfl (fun b2 hb2 => ?_)
  refine SL.norm [_, _] rfl ?_
  refine SL.pure rfl rfl rfl (PureOp.assign rfl) ?_
  refine SL.nil_then ?_
  refine WC.seq ?_
  refine WC.seq ?_
  refine WC.region ?_
  refine SL.pure rfl rfl rfl (PureOp.fieldAddrT 0 Try.underlying27 rfl sz3 rfl rfl) ?_
  refine SL.pure rfl rfl rfl (PureOp.load (v := .int .i64 t.num) Try.underlying3 rfl rfl (fun _ => (CellIs.cells 0 rfl rfl))) ?_
  refine SL.pure rfl rfl rfl (PureOp.fieldAddrT 0 Try.underlying27 rfl sz3 rfl rfl) ?_
  refine SL.pure rfl rfl rfl (PureOp.load (v := .int .i64 t.num) Try.underlying3 rfl rfl (fun _ => (CellIs.cells 1 rfl rfl))) ?_
  refine SL.pure rfl rfl rfl (PureOp.neq rfl rfl) ?_
  refine SL.pure rfl rfl rfl (PureOp.move rfl) ?_
  refine SL.newg 12 false rfl ?_
  refine SL.gpure (c := 1) rfl rfl rfl rfl rfl rfl rfl (PureOp.fieldAddrT 1 Try.underlying27 rfl sz9 rfl rfl) ?_
  refine SL.gpure (c := 1) rfl rfl rfl rfl rfl rfl rfl (PureOp.load (v := .string t.loc) Try.underlying9 rfl rfl (fun _ => (CellIs.cells 0 rfl rfl))) ?_
  refine SL.gpure (c := 1) rfl rfl rfl rfl rfl rfl rfl (PureOp.fieldAddrT 1 Try.underlying27 rfl sz9 rfl rfl) ?_
  refine SL.gpure (c := 1) rfl rfl rfl rfl rfl rfl rfl (PureOp.load (v := .string t.loc) Try.underlying9 rfl rfl (fun _ => (CellIs.cells 1 rfl rfl))) ?_
  refine SL.gpure (c := 1) rfl rfl rfl rfl rfl rfl rfl (PureOp.neqs rfl rfl) ?_
  refine SL.pure rfl rfl rfl (PureOp.or_ rfl rfl rfl rfl) ?_
  refine SL.pure rfl rfl rfl (PureOp.move rfl) ?_
  refine SL.newg 19 false rfl ?_
  refine SL.gpure (c := 2) rfl rfl rfl rfl rfl rfl rfl (PureOp.fieldAddrT 2 Try.underlying27 rfl sz23 rfl rfl) ?_
  refine SL.gpure (c := 2) rfl rfl rfl rfl rfl rfl rfl (PureOp.loads (vs := [.string t.p1, .string t.p2, .string t.p3]) Try.underlying23 rfl rfl (fun _ => (RowIs.cells 0 2 3 rfl rfl)) sz23) ?_
  refine SL.gpure (c := 2) rfl rfl rfl rfl rfl rfl rfl (PureOp.fieldAddrT 2 Try.underlying27 rfl sz23 rfl rfl) ?_
  refine SL.gpure (c := 2) rfl rfl rfl rfl rfl rfl rfl (PureOp.loads (vs := [.string t.p1, .string t.p2, .string t.p3]) Try.underlying23 rfl rfl (fun _ => (RowIs.cells 1 2 3 rfl rfl)) sz23) ?_
  refine SL.gpure (c := 2) rfl rfl rfl rfl rfl rfl rfl (PureOp.neqa rfl rfl flat23 rfl) ?_
  refine SL.pure rfl rfl rfl (PureOp.or_ rfl rfl rfl rfl) ?_
  refine SL.pure rfl rfl rfl (PureOp.move rfl) ?_
  refine SL.newg 26 false rfl ?_
  refine SL.gpure (c := 3) rfl rfl rfl rfl rfl rfl rfl (PureOp.fieldAddrT 6 Try.underlying27 rfl sz3 rfl rfl) ?_
  refine SL.gpure (c := 3) rfl rfl rfl rfl rfl rfl rfl (PureOp.load (v := .int .i64 t.fare) Try.underlying3 rfl rfl (fun _ => (CellIs.cells 0 rfl rfl))) ?_
  refine SL.gpure (c := 3) rfl rfl rfl rfl rfl rfl rfl (PureOp.fieldAddrT 6 Try.underlying27 rfl sz3 rfl rfl) ?_
  refine SL.gpure (c := 3) rfl rfl rfl rfl rfl rfl rfl (PureOp.load (v := .int .i64 t.fare) Try.underlying3 rfl rfl (fun _ => (CellIs.cells 1 rfl rfl))) ?_
  refine SL.gpure (c := 3) rfl rfl rfl rfl rfl rfl rfl (PureOp.neq rfl rfl) ?_
  refine SL.pure rfl rfl rfl (PureOp.or_ rfl rfl rfl rfl) ?_
  refine SL.pure rfl rfl rfl (PureOp.move rfl) ?_
  refine SL.newg 33 false rfl ?_
  refine SL.gpure (c := 4) rfl rfl rfl rfl rfl rfl rfl (PureOp.fieldAddrT 8 Try.underlying27 rfl sz3 rfl rfl) ?_
  refine SL.gpure (c := 4) rfl rfl rfl rfl rfl rfl rfl (PureOp.load (v := .int .i64 t.total) Try.underlying3 rfl rfl (fun _ => (CellIs.cells 0 rfl rfl))) ?_
  refine SL.gpure (c := 4) rfl rfl rfl rfl rfl rfl rfl (PureOp.fieldAddrT 8 Try.underlying27 rfl sz3 rfl rfl) ?_
  refine SL.gpure (c := 4) rfl rfl rfl rfl rfl rfl rfl (PureOp.load (v := .int .i64 t.total) Try.underlying3 rfl rfl (fun _ => (CellIs.cells 1 rfl rfl))) ?_
  refine SL.gpure (c := 4) rfl rfl rfl rfl rfl rfl rfl (PureOp.neq rfl rfl) ?_
  refine SL.pure rfl rfl rfl (PureOp.or_ rfl rfl rfl rfl) ?_
  refine SL.pure rfl rfl rfl (PureOp.move rfl) ?_
  refine SL.newg 40 false rfl ?_
  refine SL.gpure (c := 5) rfl rfl rfl rfl rfl rfl rfl (PureOp.fieldAddrT 9 Try.underlying27 rfl sz3 rfl rfl) ?_
  refine SL.gpure (c := 5) rfl rfl rfl rfl rfl rfl rfl (PureOp.load (v := .int .i64 t.issued) Try.underlying3 rfl rfl (fun _ => (CellIs.cells 0 rfl rfl))) ?_
  refine SL.gpure (c := 5) rfl rfl rfl rfl rfl rfl rfl (PureOp.fieldAddrT 9 Try.underlying27 rfl sz3 rfl rfl) ?_
  refine SL.gpure (c := 5) rfl rfl rfl rfl rfl rfl rfl (PureOp.load (v := .int .i64 t.issued) Try.underlying3 rfl rfl (fun _ => (CellIs.cells 1 rfl rfl))) ?_
  refine SL.gpure (c := 5) rfl rfl rfl rfl rfl rfl rfl (PureOp.neq rfl rfl) ?_
  refine SL.pure rfl rfl rfl (PureOp.or_ rfl rfl rfl rfl) ?_
  refine SL.pure rfl rfl rfl (PureOp.move rfl) ?_
  refine SL.newg 47 false rfl ?_
  refine SL.gpure (c := 6) rfl rfl rfl rfl rfl rfl rfl (PureOp.fieldAddrT 5 Try.underlying27 rfl sz24 rfl rfl) ?_
  refine SL.gpure (c := 6) rfl rfl rfl rfl rfl rfl rfl (PureOp.load (v := .slice a1 n1 c1) Try.underlying24 rfl rfl (fun _ => (CellIs.cells 0 rfl rfl))) ?_
  refine SL.gpure (c := 6) rfl rfl rfl rfl rfl rfl rfl (PureOp.len rfl Try.underlying24) ?_
  refine SL.gpure (c := 6) rfl rfl rfl rfl rfl rfl rfl (PureOp.fieldAddrT 5 Try.underlying27 rfl sz24 rfl rfl) ?_
  refine SL.gpure (c := 6) rfl rfl rfl rfl rfl rfl rfl (PureOp.load (v := .slice a2 n2 c2) Try.underlying24 rfl rfl (fun _ => (CellIs.cells 1 rfl rfl))) ?_
  refine SL.gpure (c := 6) rfl rfl rfl rfl rfl rfl rfl (PureOp.len rfl Try.underlying24) ?_
  refine SL.gpure (c := 6) rfl rfl rfl rfl rfl rfl rfl (PureOp.neq rfl rfl) ?_
  refine SL.pure rfl rfl rfl (PureOp.or_ rfl rfl rfl rfl) ?_
  refine SL.pure rfl rfl rfl (PureOp.move rfl) ?_
  refine SL.newg 56 false rfl ?_
  refine SL.gpure (c := 7) rfl rfl rfl rfl rfl rfl rfl (PureOp.fieldAddrT 7 Try.underlying27 rfl sz25 rfl rfl) ?_
  refine SL.gpure (c := 7) rfl rfl rfl rfl rfl rfl rfl (PureOp.load (v := .slice t.taxes.ao t.taxes.l.length t.taxes.cap) Try.underlying25 rfl rfl (fun _ => (CellIs.cells 0 rfl rfl))) ?_
  refine SL.gpure (c := 7) rfl rfl rfl rfl rfl rfl rfl (PureOp.len rfl Try.underlying25) ?_
  refine SL.gpure (c := 7) rfl rfl rfl rfl rfl rfl rfl (PureOp.fieldAddrT 7 Try.underlying27 rfl sz25 rfl rfl) ?_
  refine SL.gpure (c := 7) rfl rfl rfl rfl rfl rfl rfl (PureOp.load (v := .slice t.taxes.ao t.taxes.l.length t.taxes.cap) Try.underlying25 rfl rfl (fun _ => (CellIs.cells 1 rfl rfl))) ?_
  refine SL.gpure (c := 7) rfl rfl rfl rfl rfl rfl rfl (PureOp.len rfl Try.underlying25) ?_
  refine SL.gpure (c := 7) rfl rfl rfl rfl rfl rfl rfl (PureOp.neq rfl rfl) ?_
  refine SL.pure rfl rfl rfl (PureOp.or_ rfl rfl rfl rfl) ?_
  refine SL.nil_then ?_
  refine WC.cond rfl (fun h1 => ?_) (fun h1 => ?_)
  · try simp only [Bool.and_eq_true, Bool.or_eq_true, Bool.not_eq_true', Bool.not_eq_false', Bool.and_eq_false_iff, Bool.or_eq_false_iff, decide_eq_true_eq, decide_eq_false_iff_not, Int.not_lt, Int.not_le, ne_eq, Decidable.not_not] at h1
    exact (by exfalso; revert h1; subst hn1; subst hn2; simp [eqB, eqV])
  · try simp only [Bool.and_eq_true, Bool.or_eq_true, Bool.not_eq_true', Bool.not_eq_false', Bool.and_eq_false_iff, Bool.or_eq_false_iff, decide_eq_true_eq, decide_eq_false_iff_not, Int.not_lt, Int.not_le, ne_eq, Decidable.not_not] at h1
    refine WC.skip ?_
    refine QX.then_ ?_
    refine WC.seq ?_
    refine WC.seq ?_
    refine WC.region ?_
    refine SL.pure rfl rfl rfl (PureOp.assign rfl) ?_
    refine SL.nil_then ?_
    refine WC.block ?_
    refine WC.loop (σ := Nat) (fun q_ => [(0, 0, .agg #[.int .i64 t.num, .string t.loc, .string t.p1, .string t.p2, .string t.p3, .slice a1 n1 c1, .int .i64 t.fare, .slice t.taxes.ao t.taxes.l.length t.taxes.cap, .int .i64 t.total, .int .i64 t.issued]), (1, 0, .agg #[.int .i64 t.num, .string t.loc, .string t.p1, .string t.p2, .string t.p3, .slice a2 n2 c2, .int .i64 t.fare, .slice t.taxes.ao t.taxes.l.length t.taxes.cap, .int .i64 t.total, .int .i64 t.issued]), (2, 0, .pointer (some ⟨b1, 0, none⟩)), (3, 0, .pointer (some ⟨b2, 0, none⟩)), (7, 0, .pointer (some ⟨b1, 0, none⟩)), (8, 0, .int .i64 t.num), (9, 0, .pointer (some ⟨b2, 0, none⟩)), (10, 0, .int .i64 t.num), (11, 0, .bool (decide (t.num ≠ t.num))), (12, 0, .bool (decide (t.num ≠ t.num))), (18, 0, .bool ((decide (t.num ≠ t.num)) || (!(t.loc.toList == t.loc.toList)))), (19, 0, .bool ((decide (t.num ≠ t.num)) || (!(t.loc.toList == t.loc.toList)))), (25, 0, .bool (((decide (t.num ≠ t.num)) || (!(t.loc.toList == t.loc.toList))) || (!(eqB [.string t.p1, .string t.p2, .string t.p3] [.string t.p1, .string t.p2, .string t.p3])))), (26, 0, .bool (((decide (t.num ≠ t.num)) || (!(t.loc.toList == t.loc.toList))) || (!(eqB [.string t.p1, .string t.p2, .string t.p3] [.string t.p1, .string t.p2, .string t.p3])))), (32, 0, .bool ((((decide (t.num ≠ t.num)) || (!(t.loc.toList == t.loc.toList))) || (!(eqB [.string t.p1, .string t.p2, .string t.p3] [.string t.p1, .string t.p2, .string t.p3]))) || (decide (t.fare ≠ t.fare)))), (33, 0, .bool ((((decide (t.num ≠ t.num)) || (!(t.loc.toList == t.loc.toList))) || (!(eqB [.string t.p1, .string t.p2, .string t.p3] [.string t.p1, .string t.p2, .string t.p3]))) || (decide (t.fare ≠ t.fare)))), (39, 0, .bool (((((decide (t.num ≠ t.num)) || (!(t.loc.toList == t.loc.toList))) || (!(eqB [.string t.p1, .string t.p2, .string t.p3] [.string t.p1, .string t.p2, .string t.p3]))) || (decide (t.fare ≠ t.fare))) || (decide (t.total ≠ t.total)))), (40, 0, .bool (((((decide (t.num ≠ t.num)) || (!(t.loc.toList == t.loc.toList))) || (!(eqB [.string t.p1, .string t.p2, .string t.p3] [.string t.p1, .string t.p2, .string t.p3]))) || (decide (t.fare ≠ t.fare))) || (decide (t.total ≠ t.total)))), (46, 0, .bool ((((((decide (t.num ≠ t.num)) || (!(t.loc.toList == t.loc.toList))) || (!(eqB [.string t.p1, .string t.p2, .string t.p3] [.string t.p1, .string t.p2, .string t.p3]))) || (decide (t.fare ≠ t.fare))) || (decide (t.total ≠ t.total))) || (decide (t.issued ≠ t.issued)))), (47, 0, .bool ((((((decide (t.num ≠ t.num)) || (!(t.loc.toList == t.loc.toList))) || (!(eqB [.string t.p1, .string t.p2, .string t.p3] [.string t.p1, .string t.p2, .string t.p3]))) || (decide (t.fare ≠ t.fare))) || (decide (t.total ≠ t.total))) || (decide (t.issued ≠ t.issued)))), (55, 0, .bool (((((((decide (t.num ≠ t.num)) || (!(t.loc.toList == t.loc.toList))) || (!(eqB [.string t.p1, .string t.p2, .string t.p3] [.string t.p1, .string t.p2, .string t.p3]))) || (decide (t.fare ≠ t.fare))) || (decide (t.total ≠ t.total))) || (decide (t.issued ≠ t.issued))) || (decide (((n1 : Nat) : Int) ≠ ((n2 : Nat) : Int))))), (56, 0, .bool (((((((decide (t.num ≠ t.num)) || (!(t.loc.toList == t.loc.toList))) || (!(eqB [.string t.p1, .string t.p2, .string t.p3] [.string t.p1, .string t.p2, .string t.p3]))) || (decide (t.fare ≠ t.fare))) || (decide (t.total ≠ t.total))) || (decide (t.issued ≠ t.issued))) || (decide (((n1 : Nat) : Int) ≠ ((n2 : Nat) : Int))))), (64, 0, .bool ((((((((decide (t.num ≠ t.num)) || (!(t.loc.toList == t.loc.toList))) || (!(eqB [.string t.p1, .string t.p2, .string t.p3] [.string t.p1, .string t.p2, .string t.p3]))) || (decide (t.fare ≠ t.fare))) || (decide (t.total ≠ t.total))) || (decide (t.issued ≠ t.issued))) || (decide (((n1 : Nat) : Int) ≠ ((n2 : Nat) : Int)))) || (decide (((t.taxes.l.length : Nat) : Int) ≠ ((t.taxes.l.length : Nat) : Int))))), (5, 0, .int .i64 ((q_ : Nat) : Int))]) (fun q_ => [Item.cells b1 [.int .i64 t.num, .string t.loc, .string t.p1, .string t.p2, .string t.p3, .slice a1 n1 c1, .int .i64 t.fare, .slice t.taxes.ao t.taxes.l.length t.taxes.cap, .int .i64 t.total, .int .i64 t.issued] 27, Item.cells b2 [.int .i64 t.num, .string t.loc, .string t.p1, .string t.p2, .string t.p3, .slice a2 n2 c2, .int .i64 t.fare, .slice t.taxes.ao t.taxes.l.length t.taxes.cap, .int .i64 t.total, .int .i64 t.issued] 27]) (fun q_ => q_ ≤ n1) (fun q_ => n1 - q_) 2 (0) (Nat.zero_le _) ⟨rfl, rfl, rfl, rfl, rfl, rfl, rfl, rfl, rfl, rfl, rfl, rfl, rfl, rfl, rfl, rfl, rfl, rfl, rfl, rfl, rfl, rfl, rfl, rfl, rfl, rfl, rfl, rfl, rfl, rfl, rfl, rfl, rfl, rfl, rfl, rfl, rfl, rfl, rfl, rfl, rfl, rfl, rfl, rfl, rfl, rfl, rfl, rfl, trivial⟩ rfl ?_
    rintro k hk
    refine WC.seq ?_
    refine WC.seq ?_
    refine WC.region ?_
    refine SL.pure rfl rfl rfl (PureOp.move rfl) ?_
    refine SL.pure rfl rfl rfl (PureOp.fieldAddrT 5 Try.underlying27 rfl sz24 rfl rfl) ?_
    refine SL.pure rfl rfl rfl (PureOp.load (v := .slice a1 n1 c1) Try.underlying24 rfl rfl (fun _ => (CellIs.cells 0 rfl rfl))) ?_
    refine SL.pure rfl rfl rfl (PureOp.len rfl Try.underlying24) ?_
    refine SL.pure rfl rfl rfl (PureOp.lss rfl rfl) ?_
    refine SL.nil_then ?_
    refine WC.cond rfl (fun h2 => ?_) (fun h2 => ?_)
    · try simp only [Bool.and_eq_true, Bool.or_eq_true, Bool.not_eq_true', Bool.not_eq_false', Bool.and_eq_false_iff, Bool.or_eq_false_iff, decide_eq_true_eq, decide_eq_false_iff_not, Int.not_lt, Int.not_le, ne_eq, Decidable.not_not] at h2
      refine WC.skip ?_
      refine QX.then_ ?_
      refine WC.seq ?_
      refine WC.block ?_
      refine WC.seq ?_
      refine WC.quiet rfl (by kernel_rfl) ?_
      refine SQ.pure rfl rfl rfl (PureOp.fieldAddrT 5 Try.underlying27 rfl sz24 rfl rfl) ?_
      refine SQ.pure rfl rfl rfl (PureOp.load (v := .slice a1 n1 c1) Try.underlying24 rfl rfl (fun _ => (CellIs.cells 0 rfl rfl))) ?_
      refine SQ.pure rfl rfl rfl (PureOp.move rfl) ?_
      refine SQ.pure rfl rfl rfl (PureOp.indexAddrN Try.underlying24 sz65 rfl rfl (AoOk.in_ hz1) (fun _ => by omega)) ?_
      refine SQ.pure rfl rfl rfl (PureOp.loads (vs := [.string ((nth l k).1.1.1), .int .i64 ((nth l k).1.1.2.1), .int .i64 ((nth l k).1.1.2.2.1), .string ((nth l k).1.1.2.2.2.1), .string ((nth l k).1.1.2.2.2.2.1), .int .i64 ((nth l k).1.1.2.2.2.2.2.1), .int .i64 ((nth l k).1.1.2.2.2.2.2.2), .string ((nth l k).1.2), .string ((nth l k).2.1), .int .i64 ((nth l k).2.2.1), .int .i64 ((nth l k).2.2.2)]) Try.underlying65 rfl rfl (fun _ => (RowIs.in_ hz1 k 0 11 (by omega) (by omega))) sz65) ?_
      refine SQ.pure rfl rfl rfl (PureOp.fieldAddrT 5 Try.underlying27 rfl sz24 rfl rfl) ?_
      refine SQ.pure rfl rfl rfl (PureOp.load (v := .slice a2 n2 c2) Try.underlying24 rfl rfl (fun _ => (CellIs.cells 1 rfl rfl))) ?_
      refine SQ.pure rfl rfl rfl (PureOp.move rfl) ?_
      refine SQ.pure rfl rfl rfl (PureOp.indexAddrN Try.underlying24 sz65 rfl rfl (AoOk.in_ hz2) (fun _ => by omega)) ?_
      refine SQ.pure rfl rfl rfl (PureOp.loads (vs := [.string ((nth l k).1.1.1), .int .i64 ((nth l k).1.1.2.1), .int .i64 ((nth l k).1.1.2.2.1), .string ((nth l k).1.1.2.2.2.1), .string ((nth l k).1.1.2.2.2.2.1), .int .i64 ((nth l k).1.1.2.2.2.2.2.1), .int .i64 ((nth l k).1.1.2.2.2.2.2.2), .string ((nth l k).1.2), .string ((nth l k).2.1), .int .i64 ((nth l k).2.2.1), .int .i64 ((nth l k).2.2.2)]) Try.underlying65 rfl rfl (fun _ => (RowIs.in_ hz2 k 0 11 (by omega) (by omega))) sz65) ?_
      refine SQ.pure rfl rfl rfl (PureOp.neqd rfl rfl deep65 rfl) ?_
      refine SQ.nil_then ?_
      refine WC.cond rfl (fun h3 => ?_) (fun h3 => ?_)
      · try simp only [Bool.and_eq_true, Bool.or_eq_true, Bool.not_eq_true', Bool.not_eq_false', Bool.and_eq_false_iff, Bool.or_eq_false_iff, decide_eq_true_eq, decide_eq_false_iff_not, Int.not_lt, Int.not_le, ne_eq, Decidable.not_not] at h3
        exact absurd h3 (by rw [eqB_refl (ks := [1, 0, 0, 1, 1, 0, 0, 1, 1, 0, 0]) rfl]; simp)
      · try simp only [Bool.and_eq_true, Bool.or_eq_true, Bool.not_eq_true', Bool.not_eq_false', Bool.and_eq_false_iff, Bool.or_eq_false_iff, decide_eq_true_eq, decide_eq_false_iff_not, Int.not_lt, Int.not_le, ne_eq, Decidable.not_not] at h3
        refine WC.skip ?_
        refine QX.normal_in ?_
        refine QX.then_ ?_
        refine WC.region ?_
        refine SL.pure rfl rfl rfl (PureOp.move rfl) ?_
        refine SL.pure rfl rfl rfl (PureOp.addN (k := 1) rfl rfl (fun _ => by omega)) ?_
        refine SL.pure rfl rfl rfl (PureOp.assign rfl) ?_
        refine SL.nil ?_
        refine QX.round 2 (k + 1) ⟨(by first | omega | (dsimp only; omega)), by first | omega | (dsimp only; omega)⟩ ⟨rfl, rfl, rfl, rfl, rfl, rfl, rfl, rfl, rfl, rfl, rfl, rfl, rfl, rfl, rfl, rfl, rfl, rfl, rfl, rfl, rfl, rfl, rfl, rfl, rfl, rfl, rfl, rfl, rfl, rfl, rfl, rfl, rfl, rfl, rfl, rfl, rfl, rfl, rfl, rfl, rfl, rfl, rfl, rfl, rfl, rfl, rfl, rfl, trivial⟩ rfl
    · try simp only [Bool.and_eq_true, Bool.or_eq_true, Bool.not_eq_true', Bool.not_eq_false', Bool.and_eq_false_iff, Bool.or_eq_false_iff, decide_eq_true_eq, decide_eq_false_iff_not, Int.not_lt, Int.not_le, ne_eq, Decidable.not_not] at h2
      refine WC.exit ?_
      refine QX.exit_then ?_
      refine QX.exit_then ?_
      refine QX.exit_hit ?_
      refine QX.then_ ?_
      refine WC.seq ?_
      refine WC.seq ?_
      refine WC.region ?_
      refine SL.pure rfl rfl rfl (PureOp.assign rfl) ?_
      refine SL.nil_then ?_
      refine WC.block ?_
      refine WC.loop (σ := Nat) (fun q_ => [(0, 0, .agg #[.int .i64 t.num, .string t.loc, .string t.p1, .string t.p2, .string t.p3, .slice a1 n1 c1, .int .i64 t.fare, .slice t.taxes.ao t.taxes.l.length t.taxes.cap, .int .i64 t.total, .int .i64 t.issued]), (1, 0, .agg #[.int .i64 t.num, .string t.loc, .string t.p1, .string t.p2, .string t.p3, .slice a2 n2 c2, .int .i64 t.fare, .slice t.taxes.ao t.taxes.l.length t.taxes.cap, .int .i64 t.total, .int .i64 t.issued]), (2, 0, .pointer (some ⟨b1, 0, none⟩)), (3, 0, .pointer (some ⟨b2, 0, none⟩)), (5, 0, .int .i64 ((k : Nat) : Int)), (7, 0, .pointer (some ⟨b1, 0, none⟩)), (8, 0, .int .i64 t.num), (9, 0, .pointer (some ⟨b2, 0, none⟩)), (10, 0, .int .i64 t.num), (11, 0, .bool (decide (t.num ≠ t.num))), (12, 0, .bool (decide (t.num ≠ t.num))), (18, 0, .bool ((decide (t.num ≠ t.num)) || (!(t.loc.toList == t.loc.toList)))), (19, 0, .bool ((decide (t.num ≠ t.num)) || (!(t.loc.toList == t.loc.toList)))), (25, 0, .bool (((decide (t.num ≠ t.num)) || (!(t.loc.toList == t.loc.toList))) || (!(eqB [.string t.p1, .string t.p2, .string t.p3] [.string t.p1, .string t.p2, .string t.p3])))), (26, 0, .bool (((decide (t.num ≠ t.num)) || (!(t.loc.toList == t.loc.toList))) || (!(eqB [.string t.p1, .string t.p2, .string t.p3] [.string t.p1, .string t.p2, .string t.p3])))), (32, 0, .bool ((((decide (t.num ≠ t.num)) || (!(t.loc.toList == t.loc.toList))) || (!(eqB [.string t.p1, .string t.p2, .string t.p3] [.string t.p1, .string t.p2, .string t.p3]))) || (decide (t.fare ≠ t.fare)))), (33, 0, .bool ((((decide (t.num ≠ t.num)) || (!(t.loc.toList == t.loc.toList))) || (!(eqB [.string t.p1, .string t.p2, .string t.p3] [.string t.p1, .string t.p2, .string t.p3]))) || (decide (t.fare ≠ t.fare)))), (39, 0, .bool (((((decide (t.num ≠ t.num)) || (!(t.loc.toList == t.loc.toList))) || (!(eqB [.string t.p1, .string t.p2, .string t.p3] [.string t.p1, .string t.p2, .string t.p3]))) || (decide (t.fare ≠ t.fare))) || (decide (t.total ≠ t.total)))), (40, 0, .bool (((((decide (t.num ≠ t.num)) || (!(t.loc.toList == t.loc.toList))) || (!(eqB [.string t.p1, .string t.p2, .string t.p3] [.string t.p1, .string t.p2, .string t.p3]))) || (decide (t.fare ≠ t.fare))) || (decide (t.total ≠ t.total)))), (46, 0, .bool ((((((decide (t.num ≠ t.num)) || (!(t.loc.toList == t.loc.toList))) || (!(eqB [.string t.p1, .string t.p2, .string t.p3] [.string t.p1, .string t.p2, .string t.p3]))) || (decide (t.fare ≠ t.fare))) || (decide (t.total ≠ t.total))) || (decide (t.issued ≠ t.issued)))), (47, 0, .bool ((((((decide (t.num ≠ t.num)) || (!(t.loc.toList == t.loc.toList))) || (!(eqB [.string t.p1, .string t.p2, .string t.p3] [.string t.p1, .string t.p2, .string t.p3]))) || (decide (t.fare ≠ t.fare))) || (decide (t.total ≠ t.total))) || (decide (t.issued ≠ t.issued)))), (55, 0, .bool (((((((decide (t.num ≠ t.num)) || (!(t.loc.toList == t.loc.toList))) || (!(eqB [.string t.p1, .string t.p2, .string t.p3] [.string t.p1, .string t.p2, .string t.p3]))) || (decide (t.fare ≠ t.fare))) || (decide (t.total ≠ t.total))) || (decide (t.issued ≠ t.issued))) || (decide (((n1 : Nat) : Int) ≠ ((n2 : Nat) : Int))))), (56, 0, .bool (((((((decide (t.num ≠ t.num)) || (!(t.loc.toList == t.loc.toList))) || (!(eqB [.string t.p1, .string t.p2, .string t.p3] [.string t.p1, .string t.p2, .string t.p3]))) || (decide (t.fare ≠ t.fare))) || (decide (t.total ≠ t.total))) || (decide (t.issued ≠ t.issued))) || (decide (((n1 : Nat) : Int) ≠ ((n2 : Nat) : Int))))), (64, 0, .bool ((((((((decide (t.num ≠ t.num)) || (!(t.loc.toList == t.loc.toList))) || (!(eqB [.string t.p1, .string t.p2, .string t.p3] [.string t.p1, .string t.p2, .string t.p3]))) || (decide (t.fare ≠ t.fare))) || (decide (t.total ≠ t.total))) || (decide (t.issued ≠ t.issued))) || (decide (((n1 : Nat) : Int) ≠ ((n2 : Nat) : Int)))) || (decide (((t.taxes.l.length : Nat) : Int) ≠ ((t.taxes.l.length : Nat) : Int))))), (65, 0, .int .i64 ((k : Nat) : Int)), (66, 0, .pointer (some ⟨b1, 5, none⟩)), (67, 0, .slice a1 n1 c1), (68, 0, .int .i64 ((n1 : Nat) : Int)), (69, 0, .bool (decide (((k : Nat) : Int) < ((n1 : Nat) : Int)))), (6, 0, .int .i64 ((q_ : Nat) : Int))]) (fun q_ => [Item.cells b1 [.int .i64 t.num, .string t.loc, .string t.p1, .string t.p2, .string t.p3, .slice a1 n1 c1, .int .i64 t.fare, .slice t.taxes.ao t.taxes.l.length t.taxes.cap, .int .i64 t.total, .int .i64 t.issued] 27, Item.cells b2 [.int .i64 t.num, .string t.loc, .string t.p1, .string t.p2, .string t.p3, .slice a2 n2 c2, .int .i64 t.fare, .slice t.taxes.ao t.taxes.l.length t.taxes.cap, .int .i64 t.total, .int .i64 t.issued] 27]) (fun q_ => q_ ≤ t.taxes.l.length) (fun q_ => t.taxes.l.length - q_) 2 (0) (Nat.zero_le _) ⟨rfl, rfl, rfl, rfl, rfl, rfl, rfl, rfl, rfl, rfl, rfl, rfl, rfl, rfl, rfl, rfl, rfl, rfl, rfl, rfl, rfl, rfl, rfl, rfl, rfl, rfl, rfl, rfl, rfl, rfl, rfl, rfl, rfl, rfl, rfl, rfl, rfl, rfl, rfl, rfl, rfl, rfl, rfl, rfl, rfl, rfl, rfl, rfl, rfl, rfl, rfl, rfl, rfl, rfl, rfl, rfl, rfl, rfl, rfl, rfl, trivial⟩ rfl ?_
      rintro j hj
      refine WC.seq ?_
      refine WC.seq ?_
      refine WC.region ?_
      refine SL.pure rfl rfl rfl (PureOp.move rfl) ?_
      refine SL.pure rfl rfl rfl (PureOp.fieldAddrT 7 Try.underlying27 rfl sz25 rfl rfl) ?_
      refine SL.pure rfl rfl rfl (PureOp.load (v := .slice t.taxes.ao t.taxes.l.length t.taxes.cap) Try.underlying25 rfl rfl (fun _ => (CellIs.cells 0 rfl rfl))) ?_
      refine SL.pure rfl rfl rfl (PureOp.len rfl Try.underlying25) ?_
      refine SL.pure rfl rfl rfl (PureOp.lss rfl rfl) ?_
      refine SL.nil_then ?_
      refine WC.cond rfl (fun h4 => ?_) (fun h4 => ?_)
      · try simp only [Bool.and_eq_true, Bool.or_eq_true, Bool.not_eq_true', Bool.not_eq_false', Bool.and_eq_false_iff, Bool.or_eq_false_iff, decide_eq_true_eq, decide_eq_false_iff_not, Int.not_lt, Int.not_le, ne_eq, Decidable.not_not] at h4
        refine WC.skip ?_
        refine QX.then_ ?_
        refine WC.seq ?_
        refine WC.block ?_
        refine WC.seq ?_
        refine WC.quiet rfl (by kernel_rfl) ?_
        refine SQ.pure rfl rfl rfl (PureOp.fieldAddrT 7 Try.underlying27 rfl sz25 rfl rfl) ?_
        refine SQ.pure rfl rfl rfl (PureOp.load (v := .slice t.taxes.ao t.taxes.l.length t.taxes.cap) Try.underlying25 rfl rfl (fun _ => (CellIs.cells 0 rfl rfl))) ?_
        refine SQ.pure rfl rfl rfl (PureOp.move rfl) ?_
        refine SQ.pure rfl rfl rfl (PureOp.indexAddrN Try.underlying25 sz67 rfl rfl (AoOk.in_ hx) (fun _ => by omega)) ?_
        refine SQ.pure rfl rfl rfl (PureOp.loads (vs := [.string ((nth t.taxes.l j).1), .int .i64 ((nth t.taxes.l j).2)]) Try.underlying67 rfl rfl (fun _ => (RowIs.in_ hx j 0 2 (by omega) (by omega))) sz67) ?_
        refine SQ.pure rfl rfl rfl (PureOp.fieldAddrT 7 Try.underlying27 rfl sz25 rfl rfl) ?_
        refine SQ.pure rfl rfl rfl (PureOp.load (v := .slice t.taxes.ao t.taxes.l.length t.taxes.cap) Try.underlying25 rfl rfl (fun _ => (CellIs.cells 1 rfl rfl))) ?_
        refine SQ.pure rfl rfl rfl (PureOp.move rfl) ?_
        refine SQ.pure rfl rfl rfl (PureOp.indexAddrN Try.underlying25 sz67 rfl rfl (AoOk.in_ hx) (fun _ => by omega)) ?_
        refine SQ.pure rfl rfl rfl (PureOp.loads (vs := [.string ((nth t.taxes.l j).1), .int .i64 ((nth t.taxes.l j).2)]) Try.underlying67 rfl rfl (fun _ => (RowIs.in_ hx j 0 2 (by omega) (by omega))) sz67) ?_
        refine SQ.pure rfl rfl rfl (PureOp.neqa rfl rfl flat67 rfl) ?_
        refine SQ.nil_then ?_
        refine WC.cond rfl (fun h5 => ?_) (fun h5 => ?_)
        · try simp only [Bool.and_eq_true, Bool.or_eq_true, Bool.not_eq_true', Bool.not_eq_false', Bool.and_eq_false_iff, Bool.or_eq_false_iff, decide_eq_true_eq, decide_eq_false_iff_not, Int.not_lt, Int.not_le, ne_eq, Decidable.not_not] at h5
          exact absurd h5 (by rw [eqB_refl (ks := [1, 0]) rfl]; simp)
        · try simp only [Bool.and_eq_true, Bool.or_eq_true, Bool.not_eq_true', Bool.not_eq_false', Bool.and_eq_false_iff, Bool.or_eq_false_iff, decide_eq_true_eq, decide_eq_false_iff_not, Int.not_lt, Int.not_le, ne_eq, Decidable.not_not] at h5
          refine WC.skip ?_
          refine QX.normal_in ?_
          refine QX.then_ ?_
          refine WC.region ?_
          refine SL.pure rfl rfl rfl (PureOp.move rfl) ?_
          refine SL.pure rfl rfl rfl (PureOp.addN (k := 1) rfl rfl (fun _ => by omega)) ?_
          refine SL.pure rfl rfl rfl (PureOp.assign rfl) ?_
          refine SL.nil ?_
          refine QX.round 2 (j + 1) ⟨(by first | omega | (dsimp only; omega)), by first | omega | (dsimp only; omega)⟩ ⟨rfl, rfl, rfl, rfl, rfl, rfl, rfl, rfl, rfl, rfl, rfl, rfl, rfl, rfl, rfl, rfl, rfl, rfl, rfl, rfl, rfl, rfl, rfl, rfl, rfl, rfl, rfl, rfl, rfl, rfl, rfl, rfl, rfl, rfl, rfl, rfl, rfl, rfl, rfl, rfl, rfl, rfl, rfl, rfl, rfl, rfl, rfl, rfl, rfl, rfl, rfl, rfl, rfl, rfl, rfl, rfl, rfl, rfl, rfl, rfl, trivial⟩ rfl
      · try simp only [Bool.and_eq_true, Bool.or_eq_true, Bool.not_eq_true', Bool.not_eq_false', Bool.and_eq_false_iff, Bool.or_eq_false_iff, decide_eq_true_eq, decide_eq_false_iff_not, Int.not_lt, Int.not_le, ne_eq, Decidable.not_not] at h4
        refine WC.exit ?_
        refine QX.exit_then ?_
        refine QX.exit_then ?_
        refine QX.exit_hit ?_
        refine QX.then_ ?_
        refine WC.seq ?_
        refine WC.region ?_
        refine SL.pure rfl rfl rfl (PureOp.assign rfl) ?_
        refine SL.nil_then ?_
        refine WC.ret ?_
        refine QX.ret1 rfl rfl ?_
        intro w hw
        rfl

set_option maxHeartbeats 4000000 in
set_option maxRecDepth 100000 in
theorem samec_ok (l : List Cp) (a1 a2 : Option Addr) (n1 n2 c1 c2 : Nat) (hn1 : n1 = l.length) (hn2 : n2 = l.length) (w0 : World) (hz1 : SliceIn w0 11 a1 n1 c1 (rowsF enc65 l)) (hz2 : SliceIn w0 11 a2 n2 c2 (rowsF enc65 l)) (hnb : n1 ≤ 1000) : FnC Try.prog 31 [.slice a1 n1 c1, .slice a2 n2 c2] w0 fun v w' => v = .bool true := by
  refine fnc (N := 26) Try.func31 rfl rfl rfl ?_
  refine WC.seq ?_
  refine WC.region ?_
  refine SL.pure rfl rfl rfl (PureOp.assign rfl) ?_
  refine SL.nil_then ?_
  refine WC.seq ?_
  refine WC.seq ?_
  refine WC.region ?_
  refine SL.pure rfl rfl rfl (PureOp.move rfl) ?_
  refine SL.pure rfl rfl rfl (PureOp.len rfl Try.underlying24) ?_
  refine SL.pure rfl rfl rfl (PureOp.move rfl) ?_
  refine SL.pure rfl rfl rfl (PureOp.len rfl Try.underlying24) ?_
  refine SL.pure rfl rfl rfl (PureOp.neq rfl rfl) ?_
  refine SL.nil_then ?_
  refine WC.cond rfl (fun h1 => ?_) (fun h1 => ?_)
  · try simp only [Bool.and_eq_true, Bool.or_eq_true, Bool.not_eq_true', Bool.not_eq_false', Bool.and_eq_false_iff, Bool.or_eq_false_iff, decide_eq_true_eq, decide_eq_false_iff_not, Int.not_lt, Int.not_le, ne_eq, Decidable.not_not] at h1
    exact (by exfalso; revert h1; subst hn1; subst hn2; simp [eqB, eqV])
  · try simp only [Bool.and_eq_true, Bool.or_eq_true, Bool.not_eq_true', Bool.not_eq_false', Bool.and_eq_false_iff, Bool.or_eq_false_iff, decide_eq_true_eq, decide_eq_false_iff_not, Int.not_lt, Int.not_le, ne_eq, Decidable.not_not] at h1
    refine WC.skip ?_
    refine QX.then_ ?_
    refine WC.seq ?_
    refine WC.seq ?_
    refine WC.region ?_
    refine SL.pure rfl rfl rfl (PureOp.assign rfl) ?_
    refine SL.nil_then ?_
    refine WC.block ?_
    refine WC.loop (σ := Nat) (fun q_ => [(0, 0, .slice a1 n1 c1), (1, 0, .slice a2 n2 c2), (6, 0, .slice a1 n1 c1), (7, 0, .int .i64 ((n1 : Nat) : Int)), (8, 0, .slice a2 n2 c2), (9, 0, .int .i64 ((n2 : Nat) : Int)), (10, 0, .bool (decide (((n1 : Nat) : Int) ≠ ((n2 : Nat) : Int)))), (5, 0, .int .i64 ((q_ : Nat) : Int))]) (fun q_ => []) (fun q_ => q_ ≤ n1) (fun q_ => n1 - q_) 0 (0) (Nat.zero_le _) ⟨rfl, rfl, rfl, rfl, rfl, rfl, rfl, rfl, rfl, rfl, rfl, rfl, rfl, rfl, rfl, rfl, trivial⟩ rfl ?_
    rintro k hk
    refine WC.seq ?_
    refine WC.seq ?_
    refine WC.region ?_
    refine SL.pure rfl rfl rfl (PureOp.move rfl) ?_
    refine SL.pure rfl rfl rfl (PureOp.move rfl) ?_
    refine SL.pure rfl rfl rfl (PureOp.len rfl Try.underlying24) ?_
    refine SL.pure rfl rfl rfl (PureOp.lss rfl rfl) ?_
    refine SL.nil_then ?_
    refine WC.cond rfl (fun h2 => ?_) (fun h2 => ?_)
    · try simp only [Bool.and_eq_true, Bool.or_eq_true, Bool.not_eq_true', Bool.not_eq_false', Bool.and_eq_false_iff, Bool.or_eq_false_iff, decide_eq_true_eq, decide_eq_false_iff_not, Int.not_lt, Int.not_le, ne_eq, Decidable.not_not] at h2
      refine WC.skip ?_
      refine QX.then_ ?_
      refine WC.seq ?_
      refine WC.block ?_
      refine WC.seq ?_
      refine WC.quiet rfl (by kernel_rfl) ?_
      refine SQ.pure rfl rfl rfl (PureOp.move rfl) ?_
      refine SQ.pure rfl rfl rfl (PureOp.move rfl) ?_
      refine SQ.pure rfl rfl rfl (PureOp.indexAddrN Try.underlying24 sz65 rfl rfl (AoOk.in_ hz1) (fun _ => by omega)) ?_
      refine SQ.pure rfl rfl rfl (PureOp.loads (vs := [.string ((nth l k).1.1.1), .int .i64 ((nth l k).1.1.2.1), .int .i64 ((nth l k).1.1.2.2.1), .string ((nth l k).1.1.2.2.2.1), .string ((nth l k).1.1.2.2.2.2.1), .int .i64 ((nth l k).1.1.2.2.2.2.2.1), .int .i64 ((nth l k).1.1.2.2.2.2.2.2), .string ((nth l k).1.2), .string ((nth l k).2.1), .int .i64 ((nth l k).2.2.1), .int .i64 ((nth l k).2.2.2)]) Try.underlying65 rfl rfl (fun _ => (RowIs.in_ hz1 k 0 11 (by omega) (by omega))) sz65) ?_
      refine SQ.pure rfl rfl rfl (PureOp.move rfl) ?_
      refine SQ.pure rfl rfl rfl (PureOp.move rfl) ?_
      refine SQ.pure rfl rfl rfl (PureOp.indexAddrN Try.underlying24 sz65 rfl rfl (AoOk.in_ hz2) (fun _ => by omega)) ?_
      refine SQ.pure rfl rfl rfl (PureOp.loads (vs := [.string ((nth l k).1.1.1), .int .i64 ((nth l k).1.1.2.1), .int .i64 ((nth l k).1.1.2.2.1), .string ((nth l k).1.1.2.2.2.1), .string ((nth l k).1.1.2.2.2.2.1), .int .i64 ((nth l k).1.1.2.2.2.2.2.1), .int .i64 ((nth l k).1.1.2.2.2.2.2.2), .string ((nth l k).1.2), .string ((nth l k).2.1), .int .i64 ((nth l k).2.2.1), .int .i64 ((nth l k).2.2.2)]) Try.underlying65 rfl rfl (fun _ => (RowIs.in_ hz2 k 0 11 (by omega) (by omega))) sz65) ?_
      refine SQ.pure rfl rfl rfl (PureOp.neqd rfl rfl deep65 rfl) ?_
      refine SQ.nil_then ?_
      refine WC.cond rfl (fun h3 => ?_) (fun h3 => ?_)
      · try simp only [Bool.and_eq_true, Bool.or_eq_true, Bool.not_eq_true', Bool.not_eq_false', Bool.and_eq_false_iff, Bool.or_eq_false_iff, decide_eq_true_eq, decide_eq_false_iff_not, Int.not_lt, Int.not_le, ne_eq, Decidable.not_not] at h3
        exact absurd h3 (by rw [eqB_refl (ks := [1, 0, 0, 1, 1, 0, 0, 1, 1, 0, 0]) rfl]; simp)
      · try simp only [Bool.and_eq_true, Bool.or_eq_true, Bool.not_eq_true', Bool.not_eq_false', Bool.and_eq_false_iff, Bool.or_eq_false_iff, decide_eq_true_eq, decide_eq_false_iff_not, Int.not_lt, Int.not_le, ne_eq, Decidable.not_not] at h3
        refine WC.skip ?_
        refine QX.normal_in ?_
        refine QX.then_ ?_
        refine WC.region ?_
        refine SL.pure rfl rfl rfl (PureOp.move rfl) ?_
        refine SL.pure rfl rfl rfl (PureOp.addN (k := 1) rfl rfl (fun _ => by omega)) ?_
        refine SL.pure rfl rfl rfl (PureOp.assign rfl) ?_
        refine SL.nil ?_
        refine QX.round 0 (k + 1) ⟨(by first | omega | (dsimp only; omega)), by first | omega | (dsimp only; omega)⟩ ⟨rfl, rfl, rfl, rfl, rfl, rfl, rfl, rfl, rfl, rfl, rfl, rfl, rfl, rfl, rfl, rfl, trivial⟩ rfl
    · try simp only [Bool.and_eq_true, Bool.or_eq_true, Bool.not_eq_true', Bool.not_eq_false', Bool.and_eq_false_iff, Bool.or_eq_false_iff, decide_eq_true_eq, decide_eq_false_iff_not, Int.not_lt, Int.not_le, ne_eq, Decidable.not_not] at h2
      refine WC.exit ?_
      refine QX.exit_then ?_
      refine QX.exit_then ?_
      refine QX.exit_hit ?_
      refine QX.then_ ?_
      refine WC.seq ?_
      refine WC.region ?_
      refine SL.pure rfl rfl rfl (PureOp.assign rfl) ?_
      refine SL.nil_then ?_
      refine WC.ret ?_
      refine QX.ret1 rfl rfl ?_
      intro w hw
      rfl

set_option maxHeartbeats 4000000 in
set_option maxRecDepth 100000 in
theorem samet_ok (t : TK) (l : List Cp) (a1 a2 : Option Addr) (n1 n2 c1 c2 : Nat) (hn1 : n1 = l.length) (hn2 : n2 = l.length) (w0 : World) (hz1 : SliceIn w0 11 a1 n1 c1 (rowsF enc65 l)) (hz2 : SliceIn w0 11 a2 n2 c2 (rowsF enc65 l)) (hnb : n1 ≤ 1000) (hx : SliceIn w0 2 t.taxes.ao t.taxes.l.length t.taxes.cap (rowsF enc67 t.taxes.l)) (hxb : t.taxes.l.length ≤ 1000) : FnC Try.prog 30 [.agg #[.int .i64 t.num, .string t.loc, .string t.p1, .string t.p2, .string t.p3, .slice a1 n1 c1, .int .i64 t.fare, .slice t.taxes.ao t.taxes.l.length t.taxes.cap, .int .i64 t.total, .int .i64 t.issued], .agg #[.int .i64 t.num, .string t.loc, .string t.p1, .string t.p2, .string t.p3, .slice a2 n2 c2, .int .i64 t.fare, .slice t.taxes.ao t.taxes.l.length t.taxes.cap, .int .i64 t.total, .int .i64 t.issued]] w0 fun v w' => v = .bool true := by
  refine fnc (N := 78) Try.func30 rfl rfl rfl ?_
  refine WC.seq ?_
  refine WC.region ?_
  refine SL.box rfl rfl rfl (fun b1 hb1 => ?_)
  refine SL.norm [_] rfl ?_
  refine SL.box rfl rfl rfl (fun b2 hb2 => ?_)
  refine SL.norm [_, _] rfl ?_
  refine SL.pure rfl rfl rfl (PureOp.assign rfl) ?_
  refine SL.nil_then ?_
  refine WC.seq ?_
  refine WC.seq ?_
  refine WC.region ?_
  refine SL.pure rfl rfl rfl (PureOp.fieldAddrT 0 Try.underlying27 rfl sz3 rfl rfl) ?_
  refine SL.pure rfl rfl rfl (PureOp.load (v := .int .i64 t.num) Try.underlying3 rfl rfl (fun _ => (CellIs.cells 0 rfl rfl))) ?_
  refine SL.pure rfl rfl rfl (PureOp.fieldAddrT 0 Try.underlying27 rfl sz3 rfl rfl) ?_
  refine SL.pure rfl rfl rfl (PureOp.load (v := .int .i64 t.num) Try.underlying3 rfl rfl (fun _ => (CellIs.cells 1 rfl rfl))) ?_
  refine SL.pure rfl rfl rfl (PureOp.neq rfl rfl) ?_
  refine SL.pure rfl rfl rfl (PureOp.move rfl) ?_
  refine SL.newg 11 false rfl ?_
  refine SL.gpure (c := 1) rfl rfl rfl rfl rfl rfl rfl (PureOp.fieldAddrT 1 Try.underlying27 rfl sz9 rfl rfl) ?_
  refine SL.gpure (c := 1) rfl rfl rfl rfl rfl rfl rfl (PureOp.load (v := .string t.loc) Try.underlying9 rfl rfl (fun _ => (CellIs.cells 0 rfl rfl))) ?_
  refine SL.gpure (c := 1) rfl rfl rfl rfl rfl rfl rfl (PureOp.fieldAddrT 1 Try.underlying27 rfl sz9 rfl rfl) ?_
  refine SL.gpure (c := 1) rfl rfl rfl rfl rfl rfl rfl (PureOp.load (v := .string t.loc) Try.underlying9 rfl rfl (fun _ => (CellIs.cells 1 rfl rfl))) ?_
  refine SL.gpure (c := 1) rfl rfl rfl rfl rfl rfl rfl (PureOp.neqs rfl rfl) ?_
  refine SL.pure rfl rfl rfl (PureOp.or_ rfl rfl rfl rfl) ?_
  refine SL.pure rfl rfl rfl (PureOp.move rfl) ?_
  refine SL.newg 18 false rfl ?_
  refine SL.gpure (c := 2) rfl rfl rfl rfl rfl rfl rfl (PureOp.fieldAddrT 2 Try.underlying27 rfl sz23 rfl rfl) ?_
  refine SL.gpure (c := 2) rfl rfl rfl rfl rfl rfl rfl (PureOp.loads (vs := [.string t.p1, .string t.p2, .string t.p3]) Try.underlying23 rfl rfl (fun _ => (RowIs.cells 0 2 3 rfl rfl)) sz23) ?_
  refine SL.gpure (c := 2) rfl rfl rfl rfl rfl rfl rfl (PureOp.fieldAddrT 2 Try.underlying27 rfl sz23 rfl rfl) ?_
  refine SL.gpure (c := 2) rfl rfl rfl rfl rfl rfl rfl (PureOp.loads (vs := [.string t.p1, .string t.p2, .string t.p3]) Try.underlying23 rfl rfl (fun _ => (RowIs.cells 1 2 3 rfl rfl)) sz23) ?_
  refine SL.gpure (c := 2) rfl rfl rfl rfl rfl rfl rfl (PureOp.neqa rfl rfl flat23 rfl) ?_
  refine SL.pure rfl rfl rfl (PureOp.or_ rfl rfl rfl rfl) ?_
  refine SL.pure rfl rfl rfl (PureOp.move rfl) ?_
  refine SL.newg 25 false rfl ?_
  refine SL.gpure (c := 3) rfl rfl rfl rfl rfl rfl rfl (PureOp.fieldAddrT 6 Try.underlying27 rfl sz3 rfl rfl) ?_
  refine SL.gpure (c := 3) rfl rfl rfl rfl rfl rfl rfl (PureOp.load (v := .int .i64 t.fare) Try.underlying3 rfl rfl (fun _ => (CellIs.cells 0 rfl rfl))) ?_
  refine SL.gpure (c := 3) rfl rfl rfl rfl rfl rfl rfl (PureOp.fieldAddrT 6 Try.underlying27 rfl sz3 rfl rfl) ?_
  refine SL.gpure (c := 3) rfl rfl rfl rfl rfl rfl rfl (PureOp.load (v := .int .i64 t.fare) Try.underlying3 rfl rfl (fun _ => (CellIs.cells 1 rfl rfl))) ?_
  refine SL.gpure (c := 3) rfl rfl rfl rfl rfl rfl rfl (PureOp.neq rfl rfl) ?_
  refine SL.pure rfl rfl rfl (PureOp.or_ rfl rfl rfl rfl) ?_
  refine SL.pure rfl rfl rfl (PureOp.move rfl) ?_
  refine SL.newg 32 false rfl ?_
  refine SL.gpure (c := 4) rfl rfl rfl rfl rfl rfl rfl (PureOp.fieldAddrT 8 Try.underlying27 rfl sz3 rfl rfl) ?_
  refine SL.gpure (c := 4) rfl rfl rfl rfl rfl rfl rfl (PureOp.load (v := .int .i64 t.total) Try.underlying3 rfl rfl (fun _ => (CellIs.cells 0 rfl rfl))) ?_
  refine SL.gpure (c := 4) rfl rfl rfl rfl rfl rfl rfl (PureOp.fieldAddrT 8 Try.underlying27 rfl sz3 rfl rfl) ?_
  refine SL.gpure (c := 4) rfl rfl rfl rfl rfl rfl rfl (PureOp.load (v := .int .i64 t.total) Try.underlying3 rfl rfl (fun _ => (CellIs.cells 1 rfl rfl))) ?_
  refine SL.gpure (c := 4) rfl rfl rfl rfl rfl rfl rfl (PureOp.neq rfl rfl) ?_
  refine SL.pure rfl rfl rfl (PureOp.or_ rfl rfl rfl rfl) ?_
  refine SL.pure rfl rfl rfl (PureOp.move rfl) ?_
  refine SL.newg 39 false rfl ?_
  refine SL.gpure (c := 5) rfl rfl rfl rfl rfl rfl rfl (PureOp.fieldAddrT 9 Try.underlying27 rfl sz3 rfl rfl) ?_
  refine SL.gpure (c := 5) rfl rfl rfl rfl rfl rfl rfl (PureOp.load (v := .int .i64 t.issued) Try.underlying3 rfl rfl (fun _ => (CellIs.cells 0 rfl rfl))) ?_
  refine SL.gpure (c := 5) rfl rfl rfl rfl rfl rfl rfl (PureOp.fieldAddrT 9 Try.underlying27 rfl sz3 rfl rfl) ?_
  refine SL.gpure (c := 5) rfl rfl rfl rfl rfl rfl rfl (PureOp.load (v := .int .i64 t.issued) Try.underlying3 rfl rfl (fun _ => (CellIs.cells 1 rfl rfl))) ?_
  refine SL.gpure (c := 5) rfl rfl rfl rfl rfl rfl rfl (PureOp.neq rfl rfl) ?_
  refine SL.pure rfl rfl rfl (PureOp.or_ rfl rfl rfl rfl) ?_
  refine SL.pure rfl rfl rfl (PureOp.move rfl) ?_
  refine SL.newg 46 false rfl ?_
  refine SL.gpure (c := 6) rfl rfl rfl rfl rfl rfl rfl (PureOp.fieldAddrT 7 Try.underlying27 rfl sz25 rfl rfl) ?_
  refine SL.gpure (c := 6) rfl rfl rfl rfl rfl rfl rfl (PureOp.load (v := .slice t.taxes.ao t.taxes.l.length t.taxes.cap) Try.underlying25 rfl rfl (fun _ => (CellIs.cells 0 rfl rfl))) ?_
  refine SL.gpure (c := 6) rfl rfl rfl rfl rfl rfl rfl (PureOp.len rfl Try.underlying25) ?_
  refine SL.gpure (c := 6) rfl rfl rfl rfl rfl rfl rfl (PureOp.fieldAddrT 7 Try.underlying27 rfl sz25 rfl rfl) ?_
  refine SL.gpure (c := 6) rfl rfl rfl rfl rfl rfl rfl (PureOp.load (v := .slice t.taxes.ao t.taxes.l.length t.taxes.cap) Try.underlying25 rfl rfl (fun _ => (CellIs.cells 1 rfl rfl))) ?_
  refine SL.gpure (c := 6) rfl rfl rfl rfl rfl rfl rfl (PureOp.len rfl Try.underlying25) ?_
  refine SL.gpure (c := 6) rfl rfl rfl rfl rfl rfl rfl (PureOp.neq rfl rfl) ?_
  refine SL.pure rfl rfl rfl (PureOp.or_ rfl rfl rfl rfl) ?_
  refine SL.nil_then ?_
  refine WC.cond rfl (fun h1 => ?_) (fun h1 => ?_)
  · try simp only [Bool.and_eq_true, Bool.or_eq_true, Bool.not_eq_true', Bool.not_eq_false', Bool.and_eq_false_iff, Bool.or_eq_false_iff, decide_eq_true_eq, decide_eq_false_iff_not, Int.not_lt, Int.not_le, ne_eq, Decidable.not_not] at h1
    exact (by exfalso; revert h1; simp [eqB, eqV])
  · try simp only [Bool.and_eq_true, Bool.or_eq_true, Bool.not_eq_true', Bool.not_eq_false', Bool.and_eq_false_iff, Bool.or_eq_false_iff, decide_eq_true_eq, decide_eq_false_iff_not, Int.not_lt, Int.not_le, ne_eq, Decidable.not_not] at h1
    refine WC.skip ?_
    refine QX.then_ ?_
    refine WC.seq ?_
    refine WC.seq ?_
    refine WC.region ?_
    refine SL.pure rfl rfl rfl (PureOp.assign rfl) ?_
    refine SL.nil_then ?_
    refine WC.block ?_
    refine WC.loop (σ := Nat) (fun q_ => [(0, 0, .agg #[.int .i64 t.num, .string t.loc, .string t.p1, .string t.p2, .string t.p3, .slice a1 n1 c1, .int .i64 t.fare, .slice t.taxes.ao t.taxes.l.length t.taxes.cap, .int .i64 t.total, .int .i64 t.issued]), (1, 0, .agg #[.int .i64 t.num, .string t.loc, .string t.p1, .string t.p2, .string t.p3, .slice a2 n2 c2, .int .i64 t.fare, .slice t.taxes.ao t.taxes.l.length t.taxes.cap, .int .i64 t.total, .int .i64 t.issued]), (2, 0, .pointer (some ⟨b1, 0, none⟩)), (3, 0, .pointer (some ⟨b2, 0, none⟩)), (6, 0, .pointer (some ⟨b1, 0, none⟩)), (7, 0, .int .i64 t.num), (8, 0, .pointer (some ⟨b2, 0, none⟩)), (9, 0, .int .i64 t.num), (10, 0, .bool (decide (t.num ≠ t.num))), (11, 0, .bool (decide (t.num ≠ t.num))), (17, 0, .bool ((decide (t.num ≠ t.num)) || (!(t.loc.toList == t.loc.toList)))), (18, 0, .bool ((decide (t.num ≠ t.num)) || (!(t.loc.toList == t.loc.toList)))), (24, 0, .bool (((decide (t.num ≠ t.num)) || (!(t.loc.toList == t.loc.toList))) || (!(eqB [.string t.p1, .string t.p2, .string t.p3] [.string t.p1, .string t.p2, .string t.p3])))), (25, 0, .bool (((decide (t.num ≠ t.num)) || (!(t.loc.toList == t.loc.toList))) || (!(eqB [.string t.p1, .string t.p2, .string t.p3] [.string t.p1, .string t.p2, .string t.p3])))), (31, 0, .bool ((((decide (t.num ≠ t.num)) || (!(t.loc.toList == t.loc.toList))) || (!(eqB [.string t.p1, .string t.p2, .string t.p3] [.string t.p1, .string t.p2, .string t.p3]))) || (decide (t.fare ≠ t.fare)))), (32, 0, .bool ((((decide (t.num ≠ t.num)) || (!(t.loc.toList == t.loc.toList))) || (!(eqB [.string t.p1, .string t.p2, .string t.p3] [.string t.p1, .string t.p2, .string t.p3]))) || (decide (t.fare ≠ t.fare)))), (38, 0, .bool (((((decide (t.num ≠ t.num)) || (!(t.loc.toList == t.loc.toList))) || (!(eqB [.string t.p1, .string t.p2, .string t.p3] [.string t.p1, .string t.p2, .string t.p3]))) || (decide (t.fare ≠ t.fare))) || (decide (t.total ≠ t.total)))), (39, 0, .bool (((((decide (t.num ≠ t.num)) || (!(t.loc.toList == t.loc.toList))) || (!(eqB [.string t.p1, .string t.p2, .string t.p3] [.string t.p1, .string t.p2, .string t.p3]))) || (decide (t.fare ≠ t.fare))) || (decide (t.total ≠ t.total)))), (45, 0, .bool ((((((decide (t.num ≠ t.num)) || (!(t.loc.toList == t.loc.toList))) || (!(eqB [.string t.p1, .string t.p2, .string t.p3] [.string t.p1, .string t.p2, .string t.p3]))) || (decide (t.fare ≠ t.fare))) || (decide (t.total ≠ t.total))) || (decide (t.issued ≠ t.issued)))), (46, 0, .bool ((((((decide (t.num ≠ t.num)) || (!(t.loc.toList == t.loc.toList))) || (!(eqB [.string t.p1, .string t.p2, .string t.p3] [.string t.p1, .string t.p2, .string t.p3]))) || (decide (t.fare ≠ t.fare))) || (decide (t.total ≠ t.total))) || (decide (t.issued ≠ t.issued)))), (54, 0, .bool (((((((decide (t.num ≠ t.num)) || (!(t.loc.toList == t.loc.toList))) || (!(eqB [.string t.p1, .string t.p2, .string t.p3] [.string t.p1, .string t.p2, .string t.p3]))) || (decide (t.fare ≠ t.fare))) || (decide (t.total ≠ t.total))) || (decide (t.issued ≠ t.issued))) || (decide (((t.taxes.l.length : Nat) : Int) ≠ ((t.taxes.l.length : Nat) : Int))))), (5, 0, .int .i64 ((q_ : Nat) : Int))]) (fun q_ => [Item.cells b1 [.int .i64 t.num, .string t.loc, .string t.p1, .string t.p2, .string t.p3, .slice a1 n1 c1, .int .i64 t.fare, .slice t.taxes.ao t.taxes.l.length t.taxes.cap, .int .i64 t.total, .int .i64 t.issued] 27, Item.cells b2 [.int .i64 t.num, .string t.loc, .string t.p1, .string t.p2, .string t.p3, .slice a2 n2 c2, .int .i64 t.fare, .slice t.taxes.ao t.taxes.l.length t.taxes.cap, .int .i64 t.total, .int .i64 t.issued] 27]) (fun q_ => q_ ≤ t.taxes.l.length) (fun q_ => t.taxes.l.length - q_) 2 (0) (Nat.zero_le _) ⟨rfl, rfl, rfl, rfl, rfl, rfl, rfl, rfl, rfl, rfl, rfl, rfl, rfl, rfl, rfl, rfl, rfl, rfl, rfl, rfl, rfl, rfl, rfl, rfl, rfl, rfl, rfl, rfl, rfl, rfl, rfl, rfl, rfl, rfl, rfl, rfl, rfl, rfl, rfl, rfl, rfl, rfl, rfl, rfl, trivial⟩ rfl ?_
    rintro j hj
    refine WC.seq ?_
    refine WC.seq ?_
    refine WC.region ?_
    refine SL.pure rfl rfl rfl (PureOp.move rfl) ?_
    refine SL.pure rfl rfl rfl (PureOp.fieldAddrT 7 Try.underlying27 rfl sz25 rfl rfl) ?_
    refine SL.pure rfl rfl rfl (PureOp.load (v := .slice t.taxes.ao t.taxes.l.length t.taxes.cap) Try.underlying25 rfl rfl (fun _ => (CellIs.cells 0 rfl rfl))) ?_
    refine SL.pure rfl rfl rfl (PureOp.len rfl Try.underlying25) ?_
    refine SL.pure rfl rfl rfl (PureOp.lss rfl rfl) ?_
    refine SL.nil_then ?_
    refine WC.cond rfl (fun h2 => ?_) (fun h2 => ?_)
    · try simp only [Bool.and_eq_true, Bool.or_eq_true, Bool.not_eq_true', Bool.not_eq_false', Bool.and_eq_false_iff, Bool.or_eq_false_iff, decide_eq_true_eq, decide_eq_false_iff_not, Int.not_lt, Int.not_le, ne_eq, Decidable.not_not] at h2
      refine WC.skip ?_
      refine QX.then_ ?_
      refine WC.seq ?_
      refine WC.block ?_
      refine WC.seq ?_
      refine WC.quiet rfl (by kernel_rfl) ?_
      refine SQ.pure rfl rfl rfl (PureOp.fieldAddrT 7 Try.underlying27 rfl sz25 rfl rfl) ?_
      refine SQ.pure rfl rfl rfl (PureOp.load (v := .slice t.taxes.ao t.taxes.l.length t.taxes.cap) Try.underlying25 rfl rfl (fun _ => (CellIs.cells 0 rfl rfl))) ?_
      refine SQ.pure rfl rfl rfl (PureOp.move rfl) ?_
      refine SQ.pure rfl rfl rfl (PureOp.indexAddrN Try.underlying25 sz67 rfl rfl (AoOk.in_ hx) (fun _ => by omega)) ?_
      refine SQ.pure rfl rfl rfl (PureOp.loads (vs := [.string ((nth t.taxes.l j).1), .int .i64 ((nth t.taxes.l j).2)]) Try.underlying67 rfl rfl (fun _ => (RowIs.in_ hx j 0 2 (by omega) (by omega))) sz67) ?_
      refine SQ.pure rfl rfl rfl (PureOp.fieldAddrT 7 Try.underlying27 rfl sz25 rfl rfl) ?_
      refine SQ.pure rfl rfl rfl (PureOp.load (v := .slice t.taxes.ao t.taxes.l.length t.taxes.cap) Try.underlying25 rfl rfl (fun _ => (CellIs.cells 1 rfl rfl))) ?_
      refine SQ.pure rfl rfl rfl (PureOp.move rfl) ?_
      refine SQ.pure rfl rfl rfl (PureOp.indexAddrN Try.underlying25 sz67 rfl rfl (AoOk.in_ hx) (fun _ => by omega)) ?_
      refine SQ.pure rfl rfl rfl (PureOp.loads (vs := [.string ((nth t.taxes.l j).1), .int .i64 ((nth t.taxes.l j).2)]) Try.underlying67 rfl rfl (fun _ => (RowIs.in_ hx j 0 2 (by omega) (by omega))) sz67) ?_
      refine SQ.pure rfl rfl rfl (PureOp.neqa rfl rfl flat67 rfl) ?_
      refine SQ.nil_then ?_
      refine WC.cond rfl (fun h3 => ?_) (fun h3 => ?_)
      · try simp only [Bool.and_eq_true, Bool.or_eq_true, Bool.not_eq_true', Bool.not_eq_false', Bool.and_eq_false_iff, Bool.or_eq_false_iff, decide_eq_true_eq, decide_eq_false_iff_not, Int.not_lt, Int.not_le, ne_eq, Decidable.not_not] at h3
        exact absurd h3 (by rw [eqB_refl (ks := [1, 0]) rfl]; simp)
      · try simp only [Bool.and_eq_true, Bool.or_eq_true, Bool.not_eq_true', Bool.not_eq_false', Bool.and_eq_false_iff, Bool.or_eq_false_iff, decide_eq_true_eq, decide_eq_false_iff_not, Int.not_lt, Int.not_le, ne_eq, Decidable.not_not] at h3
        refine WC.skip ?_
        refine QX.normal_in ?_
        refine QX.then_ ?_
        refine WC.region ?_
        refine SL.pure rfl rfl rfl (PureOp.move rfl) ?_
        refine SL.pure rfl rfl rfl (PureOp.addN (k := 1) rfl rfl (fun _ => by omega)) ?_
        refine SL.pure rfl rfl rfl (PureOp.assign rfl) ?_
        refine SL.nil ?_
        refine QX.round 2 (j + 1) ⟨(by first | omega | (dsimp only; omega)), by first | omega | (dsimp only; omega)⟩ ⟨rfl, rfl, rfl, rfl, rfl, rfl, rfl, rfl, rfl, rfl, rfl, rfl, rfl, rfl, rfl, rfl, rfl, rfl, rfl, rfl, rfl, rfl, rfl, rfl, rfl, rfl, rfl, rfl, rfl, rfl, rfl, rfl, rfl, rfl, rfl, rfl, rfl, rfl, rfl, rfl, rfl, rfl, rfl, rfl, trivial⟩ rfl
    · try simp only [Bool.and_eq_true, Bool.or_eq_true, Bool.not_eq_true', Bool.not_eq_false', Bool.and_eq_false_iff, Bool.or_eq_false_iff, decide_eq_true_eq, decide_eq_false_iff_not, Int.not_lt, Int.not_le, ne_eq, Decidable.not_not] at h2
      refine WC.exit ?_
      refine QX.exit_then ?_
      refine QX.exit_then ?_
      refine QX.exit_hit ?_
      refine QX.then_ ?_
      refine WC.seq ?_
      refine WC.region ?_
      refine SL.pure rfl rfl rfl (PureOp.fieldAddrT 5 Try.underlying27 rfl sz24 rfl rfl) ?_
      refine SL.pure rfl rfl rfl (PureOp.load (v := .slice a1 n1 c1) Try.underlying24 rfl rfl (fun _ => (CellIs.cells 0 rfl rfl))) ?_
      refine SL.pure rfl rfl rfl (PureOp.fieldAddrT 5 Try.underlying27 rfl sz24 rfl rfl) ?_
      refine SL.pure rfl rfl rfl (PureOp.load (v := .slice a2 n2 c2) Try.underlying24 rfl rfl (fun _ => (CellIs.cells 1 rfl rfl))) ?_
      refine SL.calle rfl rfl rfl rfl rfl rfl callable31 (fun w hw => samec_ok l a1 a2 n1 n2 c1 c2 hn1 hn2 w (hz1.below hw.below) (hz2.below hw.below) hnb) ?_
      refine SL.norm [_, _] rfl ?_
      refine SL.pure rfl rfl rfl (PureOp.assign rfl) ?_
      refine SL.nil_then ?_
      refine WC.ret ?_
      refine QX.ret1 rfl rfl ?_
      intro w hw
      rfl

def cpk (v : Int) : Cp := (((⟨#[]⟩, 0, 0, ⟨#[]⟩, ⟨#[]⟩, 0, 0), ⟨#[]⟩), ⟨#[]⟩, 1, v)
def tkk (num fare tax total : Int) (b : Nat) : TK := ⟨num, ⟨#[]⟩, ⟨#[]⟩, ⟨#[]⟩, ⟨#[]⟩, fare, ⟨some ⟨b, 0, none⟩, 1, [(⟨#[71, 66]⟩, tax)]⟩, total, 0⟩

set_option maxHeartbeats 4000000 in
set_option maxRecDepth 100000 in
theorem ticket_ok (w0 : World) : MC Try.prog 34 [] w0 [] (fun q : Nat × Nat => .agg (tkv (tkk 12512345678906 20000 3000 23000 q.2) (.slice (some ⟨q.1, 0, none⟩) 2 2)).toArray) (fun _ => []) (fun _ => True) (fun q => [.own w0.heap.size (some ⟨q.1, 0, none⟩) 2 2 65 11 (cellsOf enc65 [cpk 10000, cpk 10000]), .own w0.heap.size (some ⟨q.2, 0, none⟩) 1 1 67 2 (cellsOf enc67 [(⟨#[71, 66]⟩, 3000)])]) := by
  refine mcalls (N := 7) Try.func34 rfl rfl rfl ?_
  intro X
  show WC _ _ _ _ _ _ _ [X]
  refine WC.seq ?_
  refine WC.region ?_
  refine SL.alloc rfl rfl zero27 (fun b1 hb1 => ?_)
  refine SL.norm [_, _] rfl ?_
  refine SL.nil_then ?_
  refine WC.seq ?_
  refine WC.region ?_
  refine SL.pure rfl rfl rfl (PureOp.build bld65 rfl rfl) ?_
  refine SL.pure rfl rfl rfl (PureOp.build bld65 rfl rfl) ?_
  refine SL.buildSlice rfl rfl Try.underlying24 elem65 rfl rfl rfl rfl (fun b2 hb2 => ?_)
  refine SL.norm [_, _, _] rfl ?_
  refine SL.pure rfl rfl rfl (PureOp.build bld67 rfl rfl) ?_
  refine SL.buildSlice rfl rfl Try.underlying25 elem67 rfl rfl rfl rfl (fun b3 hb3 => ?_)
  refine SL.norm [_, _, _, _] rfl ?_
  refine SL.pure rfl rfl rfl (PureOp.build bld27 rfl rfl) ?_
  refine SL.store 1 rfl rfl rfl rfl sz27 rfl rfl ?_
  refine SL.norm [_, _, _, _] rfl ?_
  refine SL.nil_then ?_
  refine WC.ret ?_
  refine QX.bodyv rfl (RVs.cons (RV.cell rfl Try.underlying27 rfl (RowIs.cells 1 0 10 rfl rfl) sz27) RVs.nil) ?_
  intro w hw
  refine ⟨(b2, b3), rfl, trivial, ?_⟩
  exact HeapOk.pick [0, 2, 3] (by decide) hw

set_option maxHeartbeats 4000000 in
set_option maxRecDepth 100000 in
theorem sample_ok (w0 : World) : MC Try.prog 49 [] w0 [] (fun q : Nat × Nat => .agg (tkv (tkk 7 30000 2000 32000 q.2) (.slice (some ⟨q.1, 0, none⟩) 2 2)).toArray) (fun _ => []) (fun _ => True) (fun q => [.own w0.heap.size (some ⟨q.1, 0, none⟩) 2 2 65 11 (cellsOf enc65 [cpk 20000, cpk 10000]), .own w0.heap.size (some ⟨q.2, 0, none⟩) 1 1 67 2 (cellsOf enc67 [(⟨#[71, 66]⟩, 2000)])]) := by
  refine mcalls (N := 7) Try.func49 rfl rfl rfl ?_
  intro X
  show WC _ _ _ _ _ _ _ [X]
  refine WC.seq ?_
  refine WC.region ?_
  refine SL.alloc rfl rfl zero27 (fun b1 hb1 => ?_)
  refine SL.norm [_, _] rfl ?_
  refine SL.nil_then ?_
  refine WC.seq ?_
  refine WC.region ?_
  refine SL.pure rfl rfl rfl (PureOp.build bld65 rfl rfl) ?_
  refine SL.pure rfl rfl rfl (PureOp.build bld65 rfl rfl) ?_
  refine SL.buildSlice rfl rfl Try.underlying24 elem65 rfl rfl rfl rfl (fun b2 hb2 => ?_)
  refine SL.norm [_, _, _] rfl ?_
  refine SL.pure rfl rfl rfl (PureOp.build bld67 rfl rfl) ?_
  refine SL.buildSlice rfl rfl Try.underlying25 elem67 rfl rfl rfl rfl (fun b3 hb3 => ?_)
  refine SL.norm [_, _, _, _] rfl ?_
  refine SL.pure rfl rfl rfl (PureOp.build bld27 rfl rfl) ?_
  refine SL.store 1 rfl rfl rfl rfl sz27 rfl rfl ?_
  refine SL.norm [_, _, _, _] rfl ?_
  refine SL.nil_then ?_
  refine WC.ret ?_
  refine QX.bodyv rfl (RVs.cons (RV.cell rfl Try.underlying27 rfl (RowIs.cells 1 0 10 rfl rfl) sz27) RVs.nil) ?_
  intro w hw
  refine ⟨(b2, b3), rfl, trivial, ?_⟩
  exact HeapOk.pick [0, 2, 3] (by decide) hw

end Go.Proofs.Ytipmdakhmpaemaa
