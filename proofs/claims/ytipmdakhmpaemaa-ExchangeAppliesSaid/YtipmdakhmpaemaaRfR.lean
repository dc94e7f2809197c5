import Derived.Test.YtipmdakhmpaemaaRfQ
namespace Go.Proofs.Ytipmdakhmpaemaa
open Go Go.RowKit Eng
set_option linter.unusedVariables false
set_option linter.unusedSimpArgs false

set_option maxHeartbeats 4000000 in
set_option maxRecDepth 100000 in
theorem deals_law (t : TK) (l : List Cp) (ao : Option Addr) (n cap : Nat) (hn : n = l.length) (w0 : World) (hz : SliceIn w0 11 ao n cap (rowsF enc65 l)) (hx : SliceIn w0 2 t.taxes.ao t.taxes.l.length t.taxes.cap (rowsF enc67 t.taxes.l)) (total fee : Int) : FnC Try.prog 7 [.agg #[.int .i64 t.num, .string t.loc, .string t.p1, .string t.p2, .string t.p3, .slice ao n cap, .int .i64 t.fare, .slice t.taxes.ao t.taxes.l.length t.taxes.cap, .int .i64 t.total, .int .i64 t.issued], .int .i64 total, .int .i64 fee] w0 fun v w' => v = .bool true := by
  refine fnc (N := 65) Try.func7 rfl rfl rfl ?_
  refine WC.seq ?_
  refine WC.region ?_
  refine SL.box rfl rfl rfl (fun b1 hb1 => ?_)
  refine SL.norm [_] rfl ?_
  refine SL.pure rfl rfl rfl (PureOp.assign rfl) ?_
  refine SL.nil_then ?_
  refine WC.seq ?_
  refine WC.seq ?_
  refine WC.region ?_
  refine SL.pure rfl rfl rfl (PureOp.loads (vs := [.int .i64 t.num, .string t.loc, .string t.p1, .string t.p2, .string t.p3, .slice ao n cap, .int .i64 t.fare, .slice t.taxes.ao t.taxes.l.length t.taxes.cap, .int .i64 t.total, .int .i64 t.issued]) Try.underlying27 rfl rfl (fun _ => (RowIs.cells 0 0 10 rfl rfl)) sz27) ?_
  refine SL.callv rfl rfl rfl rfl rfl rfl callable24 (fun w hw => right_ok t l ao n cap hn w (hz.below hw.below) (hx.below hw.below)) ?_
  rintro v ⟨rb, rfl, hright⟩
  refine SL.norm [_] rfl ?_
  refine SL.pure rfl rfl rfl (PureOp.not rfl) ?_
  refine SL.nil_then ?_
  refine WC.cond rfl (fun h1 => ?_) (fun h1 => ?_)
  · try simp only [Bool.and_eq_true, Bool.or_eq_true, Bool.not_eq_true', Bool.not_eq_false', Bool.and_eq_false_iff, Bool.or_eq_false_iff, decide_eq_true_eq, decide_eq_false_iff_not, Int.not_lt, Int.not_le, ne_eq, Decidable.not_not] at h1
    refine WC.seq ?_
    refine WC.region ?_
    refine SL.calle rfl rfl rfl rfl rfl rfl callable25 (fun w hw => awake_ok w) ?_
    refine SL.norm [_] rfl ?_
    refine SL.pure rfl rfl rfl (PureOp.assign rfl) ?_
    refine SL.nil_then ?_
    refine WC.ret ?_
    refine QX.ret_then ?_
    refine QX.ret1 rfl rfl ?_
    intro w hw
    rfl
  · try simp only [Bool.and_eq_true, Bool.or_eq_true, Bool.not_eq_true', Bool.not_eq_false', Bool.and_eq_false_iff, Bool.or_eq_false_iff, decide_eq_true_eq, decide_eq_false_iff_not, Int.not_lt, Int.not_le, ne_eq, Decidable.not_not] at h1
    have hr2 := (hright h1).2
    have hxb : t.taxes.l.length ≤ 1000 := by have q := (hright h1).1; omega
    have hnb : n ≤ 1000 := by have q := hr2.1; omega
    have h64 : ∀ x ∈ opens l, In64 x := fun x hq => by obtain ⟨c, hc, rfl⟩ := opens_mem hq; have q := (hr2.2.2.2.1 c hc).1; unfold In64; omega
    have h64x : ∀ x ∈ amts t.taxes.l, In64 x := fun x hq => by obtain ⟨c, hc, rfl⟩ := amts_mem hq; have q := hr2.2.2.2.2.1 c hc; unfold In64; omega
    refine WC.skip ?_
    refine QX.then_ ?_
    refine WC.seq ?_
    refine WC.region ?_
    refine SL.pure rfl rfl rfl (PureOp.loads (vs := [.int .i64 t.num, .string t.loc, .string t.p1, .string t.p2, .string t.p3, .slice ao n cap, .int .i64 t.fare, .slice t.taxes.ao t.taxes.l.length t.taxes.cap, .int .i64 t.total, .int .i64 t.issued]) Try.underlying27 rfl rfl (fun _ => (RowIs.cells 0 0 10 rfl rfl)) sz27) ?_
    refine SL.pure rfl rfl rfl (PureOp.move rfl) ?_
    refine SL.pure rfl rfl rfl (PureOp.build bld56 rfl rfl) ?_
    refine SL.pure rfl rfl rfl (PureOp.move rfl) ?_
    refine SL.calle rfl rfl rfl rfl rfl rfl callable26 (fun w hw => xof_ok t l ao n cap hn w (hz.below hw.below) hnb (hx.below hw.below) hxb total fee) ?_
    refine SL.norm [_] rfl ?_
    refine SL.pure rfl rfl rfl (PureOp.move rfl) ?_
    refine SL.pure rfl rfl rfl (PureOp.extract rfl rfl) ?_
    refine SL.pure rfl rfl rfl (PureOp.extract rfl rfl) ?_
    refine SL.alloc rfl rfl zero70 (fun b2 hb2 => ?_)
    refine SL.norm [_, _] rfl ?_
    refine SL.store 1 rfl rfl rfl rfl sz70 rfl rfl ?_
    refine SL.norm [_, _] rfl ?_
    refine SL.pure rfl rfl rfl (PureOp.assign rfl) ?_
    refine SL.nil_then ?_
    refine WC.seq ?_
    refine WC.region ?_
    refine SL.pure rfl rfl rfl (PureOp.loads (vs := [.int .i64 t.num, .string t.loc, .string t.p1, .string t.p2, .string t.p3, .slice ao n cap, .int .i64 t.fare, .slice t.taxes.ao t.taxes.l.length t.taxes.cap, .int .i64 t.total, .int .i64 t.issued]) Try.underlying27 rfl rfl (fun _ => (RowIs.cells 0 0 10 rfl rfl)) sz27) ?_
    refine SL.pure rfl rfl rfl (PureOp.move rfl) ?_
    refine SL.pure rfl rfl rfl (PureOp.build bld56 rfl rfl) ?_
    refine SL.pure rfl rfl rfl (PureOp.move rfl) ?_
    refine SL.calle rfl rfl rfl rfl rfl rfl callable27 (fun w hw => rxof_ok t l ao n cap hn w (hz.below hw.below) hnb (hx.below hw.below) hxb total fee h64 h64x) ?_
    refine SL.norm [_, _] rfl ?_
    refine SL.pure rfl rfl rfl (PureOp.move rfl) ?_
    refine SL.pure rfl rfl rfl (PureOp.extract rfl rfl) ?_
    refine SL.pure rfl rfl rfl (PureOp.extract rfl rfl) ?_
    refine SL.alloc rfl rfl zero73 (fun b3 hb3 => ?_)
    refine SL.norm [_, _, _] rfl ?_
    refine SL.store 2 rfl rfl rfl rfl sz73 rfl rfl ?_
    refine SL.norm [_, _, _] rfl ?_
    refine SL.pure rfl rfl rfl (PureOp.assign rfl) ?_
    refine SL.nil_then ?_
    refine WC.seq ?_
    refine WC.region ?_
    refine SL.pure rfl rfl rfl (PureOp.fieldAddrT 0 Try.underlying70 rfl sz3 rfl rfl) ?_
    refine SL.pure rfl rfl rfl (PureOp.load (v := .int .i64 ((exE l t.taxes.l total fee).1.1)) Try.underlying3 rfl rfl (fun _ => (CellIs.cells 1 rfl rfl))) ?_
    refine SL.pure rfl rfl rfl (PureOp.fieldAddrT 0 Try.underlying73 rfl sz3 rfl rfl) ?_
    refine SL.pure rfl rfl rfl (PureOp.load (v := .int .i64 ((exE l t.taxes.l total fee).1.1)) Try.underlying3 rfl rfl (fun _ => (CellIs.cells 2 rfl rfl))) ?_
    refine SL.pure rfl rfl rfl (PureOp.eql rfl rfl) ?_
    refine SL.pure rfl rfl rfl (PureOp.move rfl) ?_
    refine SL.newg 36 true rfl ?_
    refine SL.gpure (c := 1) rfl rfl rfl rfl rfl rfl rfl (PureOp.fieldAddrT 1 Try.underlying70 rfl sz3 rfl rfl) ?_
    refine SL.gpure (c := 1) rfl rfl rfl rfl rfl rfl rfl (PureOp.load (v := .int .i64 ((exE l t.taxes.l total fee).1.2.1)) Try.underlying3 rfl rfl (fun _ => (CellIs.cells 1 rfl rfl))) ?_
    refine SL.gpure (c := 1) rfl rfl rfl rfl rfl rfl rfl (PureOp.fieldAddrT 1 Try.underlying73 rfl sz3 rfl rfl) ?_
    refine SL.gpure (c := 1) rfl rfl rfl rfl rfl rfl rfl (PureOp.load (v := .int .i64 ((exE l t.taxes.l total fee).1.2.1)) Try.underlying3 rfl rfl (fun _ => (CellIs.cells 2 rfl rfl))) ?_
    refine SL.gpure (c := 1) rfl rfl rfl rfl rfl rfl rfl (PureOp.eql rfl rfl) ?_
    refine SL.pure rfl rfl rfl (PureOp.and_ rfl rfl rfl rfl) ?_
    refine SL.pure rfl rfl rfl (PureOp.move rfl) ?_
    refine SL.newg 43 true rfl ?_
    refine SL.gpure (c := 2) rfl rfl rfl rfl rfl rfl rfl (PureOp.fieldAddrT 2 Try.underlying70 rfl sz3 rfl rfl) ?_
    refine SL.gpure (c := 2) rfl rfl rfl rfl rfl rfl rfl (PureOp.load (v := .int .i64 ((exE l t.taxes.l total fee).1.2.2.1)) Try.underlying3 rfl rfl (fun _ => (CellIs.cells 1 rfl rfl))) ?_
    refine SL.gpure (c := 2) rfl rfl rfl rfl rfl rfl rfl (PureOp.fieldAddrT 2 Try.underlying73 rfl sz3 rfl rfl) ?_
    refine SL.gpure (c := 2) rfl rfl rfl rfl rfl rfl rfl (PureOp.load (v := .int .i64 ((exE l t.taxes.l total fee).1.2.2.1)) Try.underlying3 rfl rfl (fun _ => (CellIs.cells 2 rfl rfl))) ?_
    refine SL.gpure (c := 2) rfl rfl rfl rfl rfl rfl rfl (PureOp.eql rfl rfl) ?_
    refine SL.pure rfl rfl rfl (PureOp.and_ rfl rfl rfl rfl) ?_
    refine SL.pure rfl rfl rfl (PureOp.move rfl) ?_
    refine SL.newg 50 true rfl ?_
    refine SL.gpure (c := 3) rfl rfl rfl rfl rfl rfl rfl (PureOp.fieldAddrT 3 Try.underlying70 rfl sz3 rfl rfl) ?_
    refine SL.gpure (c := 3) rfl rfl rfl rfl rfl rfl rfl (PureOp.load (v := .int .i64 ((exE l t.taxes.l total fee).1.2.2.2)) Try.underlying3 rfl rfl (fun _ => (CellIs.cells 1 rfl rfl))) ?_
    refine SL.gpure (c := 3) rfl rfl rfl rfl rfl rfl rfl (PureOp.fieldAddrT 3 Try.underlying73 rfl sz3 rfl rfl) ?_
    refine SL.gpure (c := 3) rfl rfl rfl rfl rfl rfl rfl (PureOp.load (v := .int .i64 ((exE l t.taxes.l total fee).1.2.2.2)) Try.underlying3 rfl rfl (fun _ => (CellIs.cells 2 rfl rfl))) ?_
    refine SL.gpure (c := 3) rfl rfl rfl rfl rfl rfl rfl (PureOp.eql rfl rfl) ?_
    refine SL.pure rfl rfl rfl (PureOp.and_ rfl rfl rfl rfl) ?_
    refine SL.pure rfl rfl rfl (PureOp.move rfl) ?_
    refine SL.newg 57 true rfl ?_
    refine SL.gpure (c := 4) rfl rfl rfl rfl rfl rfl rfl (PureOp.move rfl) ?_
    refine SL.gpure (c := 4) rfl rfl rfl rfl rfl rfl rfl (PureOp.move rfl) ?_
    refine SL.gpure (c := 4) rfl rfl rfl rfl rfl rfl rfl (PureOp.eql rfl rfl) ?_
    refine SL.pure rfl rfl rfl (PureOp.and_ rfl rfl rfl rfl) ?_
    refine SL.pure rfl rfl rfl (PureOp.move rfl) ?_
    refine SL.newg 62 true rfl ?_
    refine SL.gcalle (c := 5) rfl rfl rfl rfl rfl rfl rfl rfl rfl rfl callable25 (by intro hg; simp [gval] at hg; exact (fun w hw => awake_ok w)) ?_
    refine SL.norm [_, _, _] rfl ?_
    refine SL.pure rfl rfl rfl (PureOp.and_ rfl rfl rfl rfl) ?_
    refine SL.pure rfl rfl rfl (PureOp.assign rfl) ?_
    refine SL.nil_then ?_
    refine WC.ret ?_
    refine QX.ret1 rfl rfl ?_
    intro w hw
    simp

set_option maxHeartbeats 4000000 in
set_option maxRecDepth 100000 in
theorem balances_law (t : TK) (l : List Cp) (ao : Option Addr) (n cap : Nat) (hn : n = l.length) (w0 : World) (hz : SliceIn w0 11 ao n cap (rowsF enc65 l)) (hx : SliceIn w0 2 t.taxes.ao t.taxes.l.length t.taxes.cap (rowsF enc67 t.taxes.l)) (total fee : Int) : FnC Try.prog 8 [.agg #[.int .i64 t.num, .string t.loc, .string t.p1, .string t.p2, .string t.p3, .slice ao n cap, .int .i64 t.fare, .slice t.taxes.ao t.taxes.l.length t.taxes.cap, .int .i64 t.total, .int .i64 t.issued], .int .i64 total, .int .i64 fee] w0 fun v w' => v = .bool true := by
  refine fnc (N := 82) Try.func8 rfl rfl rfl ?_
  refine WC.seq ?_
  refine WC.region ?_
  refine SL.box rfl rfl rfl (fun b1 hb1 => ?_)
  refine SL.norm [_] rfl ?_
  refine SL.pure rfl rfl rfl (PureOp.assign rfl) ?_
  refine SL.nil_then ?_
  refine WC.seq ?_
  refine WC.seq ?_
  refine WC.region ?_
  refine SL.pure rfl rfl rfl (PureOp.loads (vs := [.int .i64 t.num, .string t.loc, .string t.p1, .string t.p2, .string t.p3, .slice ao n cap, .int .i64 t.fare, .slice t.taxes.ao t.taxes.l.length t.taxes.cap, .int .i64 t.total, .int .i64 t.issued]) Try.underlying27 rfl rfl (fun _ => (RowIs.cells 0 0 10 rfl rfl)) sz27) ?_
  refine SL.callv rfl rfl rfl rfl rfl rfl callable24 (fun w hw => right_ok t l ao n cap hn w (hz.below hw.below) (hx.below hw.below)) ?_
  rintro v ⟨rb, rfl, hright⟩
  refine SL.norm [_] rfl ?_
  refine SL.pure rfl rfl rfl (PureOp.not rfl) ?_
  refine SL.nil_then ?_
  refine WC.cond rfl (fun h1 => ?_) (fun h1 => ?_)
  · try simp only [Bool.and_eq_true, Bool.or_eq_true, Bool.not_eq_true', Bool.not_eq_false', Bool.and_eq_false_iff, Bool.or_eq_false_iff, decide_eq_true_eq, decide_eq_false_iff_not, Int.not_lt, Int.not_le, ne_eq, Decidable.not_not] at h1
    refine WC.seq ?_
    refine WC.region ?_
    refine SL.calle rfl rfl rfl rfl rfl rfl callable25 (fun w hw => awake_ok w) ?_
    refine SL.norm [_] rfl ?_
    refine SL.pure rfl rfl rfl (PureOp.assign rfl) ?_
    refine SL.nil_then ?_
    refine WC.ret ?_
    refine QX.ret_then ?_
    refine QX.ret1 rfl rfl ?_
    intro w hw
    rfl
  · try simp only [Bool.and_eq_true, Bool.or_eq_true, Bool.not_eq_true', Bool.not_eq_false', Bool.and_eq_false_iff, Bool.or_eq_false_iff, decide_eq_true_eq, decide_eq_false_iff_not, Int.not_lt, Int.not_le, ne_eq, Decidable.not_not] at h1
    have hr2 := (hright h1).2
    have hxb : t.taxes.l.length ≤ 1000 := by have q := (hright h1).1; omega
    have hnb : n ≤ 1000 := by have q := hr2.1; omega
    have h64 : ∀ x ∈ opens l, In64 x := fun x hq => by obtain ⟨c, hc, rfl⟩ := opens_mem hq; have q := (hr2.2.2.2.1 c hc).1; unfold In64; omega
    have h64x : ∀ x ∈ amts t.taxes.l, In64 x := fun x hq => by obtain ⟨c, hc, rfl⟩ := amts_mem hq; have q := hr2.2.2.2.2.1 c hc; unfold In64; omega
    refine WC.skip ?_
    refine QX.then_ ?_
    refine WC.seq ?_
    refine WC.region ?_
    refine SL.pure rfl rfl rfl (PureOp.loads (vs := [.int .i64 t.num, .string t.loc, .string t.p1, .string t.p2, .string t.p3, .slice ao n cap, .int .i64 t.fare, .slice t.taxes.ao t.taxes.l.length t.taxes.cap, .int .i64 t.total, .int .i64 t.issued]) Try.underlying27 rfl rfl (fun _ => (RowIs.cells 0 0 10 rfl rfl)) sz27) ?_
    refine SL.pure rfl rfl rfl (PureOp.move rfl) ?_
    refine SL.pure rfl rfl rfl (PureOp.build bld56 rfl rfl) ?_
    refine SL.pure rfl rfl rfl (PureOp.move rfl) ?_
    refine SL.calle rfl rfl rfl rfl rfl rfl callable26 (fun w hw => xof_ok t l ao n cap hn w (hz.below hw.below) hnb (hx.below hw.below) hxb total fee) ?_
    refine SL.norm [_] rfl ?_
    refine SL.pure rfl rfl rfl (PureOp.move rfl) ?_
    refine SL.pure rfl rfl rfl (PureOp.extract rfl rfl) ?_
    refine SL.pure rfl rfl rfl (PureOp.extract rfl rfl) ?_
    refine SL.alloc rfl rfl zero70 (fun b2 hb2 => ?_)
    refine SL.norm [_, _] rfl ?_
    refine SL.store 1 rfl rfl rfl rfl sz70 rfl rfl ?_
    refine SL.norm [_, _] rfl ?_
    refine SL.pure rfl rfl rfl (PureOp.assign rfl) ?_
    refine SL.nil_then ?_
    refine WC.seq ?_
    refine WC.seq ?_
    refine WC.region ?_
    refine SL.pure rfl rfl rfl (PureOp.move rfl) ?_
    refine SL.pure rfl rfl rfl (PureOp.neq rfl rfl) ?_
    refine SL.nil_then ?_
    refine WC.cond rfl (fun h2 => ?_) (fun h2 => ?_)
    · try simp only [Bool.and_eq_true, Bool.or_eq_true, Bool.not_eq_true', Bool.not_eq_false', Bool.and_eq_false_iff, Bool.or_eq_false_iff, decide_eq_true_eq, decide_eq_false_iff_not, Int.not_lt, Int.not_le, ne_eq, Decidable.not_not] at h2
      refine WC.seq ?_
      refine WC.region ?_
      refine SL.pure rfl rfl rfl (PureOp.loads (vs := [.int .i64 ((exE l t.taxes.l total fee).1.1), .int .i64 ((exE l t.taxes.l total fee).1.2.1), .int .i64 ((exE l t.taxes.l total fee).1.2.2.1), .int .i64 ((exE l t.taxes.l total fee).1.2.2.2)]) Try.underlying70 rfl rfl (fun _ => (RowIs.cells 1 0 4 rfl rfl)) sz70) ?_
      refine SL.pure rfl rfl rfl (PureOp.build bld70 rfl rfl) ?_
      refine SL.pure rfl rfl rfl (PureOp.eqla rfl rfl flat70 rfl) ?_
      refine SL.pure rfl rfl rfl (PureOp.move rfl) ?_
      refine SL.newg 26 true rfl ?_
      refine SL.gcalle (c := 1) rfl rfl rfl rfl rfl rfl rfl rfl rfl rfl callable25 (by intro hg; simp [gval] at hg; exact (fun w hw => awake_ok w)) ?_
      refine SL.norm [_, _] rfl ?_
      refine SL.pure rfl rfl rfl (PureOp.and_ rfl rfl rfl rfl) ?_
      refine SL.pure rfl rfl rfl (PureOp.assign rfl) ?_
      refine SL.nil_then ?_
      refine WC.ret ?_
      refine QX.ret_then ?_
      refine QX.ret1 rfl rfl ?_
      intro w hw
      rw [exE_err h2]; rfl
    · try simp only [Bool.and_eq_true, Bool.or_eq_true, Bool.not_eq_true', Bool.not_eq_false', Bool.and_eq_false_iff, Bool.or_eq_false_iff, decide_eq_true_eq, decide_eq_false_iff_not, Int.not_lt, Int.not_le, ne_eq, Decidable.not_not] at h2
      obtain ⟨Re, Co, Cr, hP, hRe, hCo, hCr, hz0, hbal, htot, hfee⟩ := exE_parts h2 hr2
      have p1 : (exE l t.taxes.l total fee).1.1 = Re := by rw [hP]
      have p2 : (exE l t.taxes.l total fee).1.2.1 = fee := by rw [hP]
      have p3 : (exE l t.taxes.l total fee).1.2.2.1 = Co := by rw [hP]
      have p4 : (exE l t.taxes.l total fee).1.2.2.2 = Cr := by rw [hP]
      have htt := hr2.2.2.1
      refine WC.skip ?_
      refine QX.then_ ?_
      refine WC.seq ?_
      refine WC.region ?_
      refine SL.pure rfl rfl rfl (PureOp.fieldAddrT 0 Try.underlying70 rfl sz3 rfl rfl) ?_
      refine SL.pure rfl rfl rfl (PureOp.load (v := .int .i64 ((exE l t.taxes.l total fee).1.1)) Try.underlying3 rfl rfl (fun _ => (CellIs.cells 1 rfl rfl))) ?_
      refine SL.pure rfl rfl rfl (PureOp.geq rfl rfl) ?_
      refine SL.pure rfl rfl rfl (PureOp.move rfl) ?_
      refine SL.newg 32 true rfl ?_
      refine SL.gpure (c := 1) rfl rfl rfl rfl rfl rfl rfl (PureOp.fieldAddrT 2 Try.underlying70 rfl sz3 rfl rfl) ?_
      refine SL.gpure (c := 1) rfl rfl rfl rfl rfl rfl rfl (PureOp.load (v := .int .i64 ((exE l t.taxes.l total fee).1.2.2.1)) Try.underlying3 rfl rfl (fun _ => (CellIs.cells 1 rfl rfl))) ?_
      refine SL.gpure (c := 1) rfl rfl rfl rfl rfl rfl rfl (PureOp.geq rfl rfl) ?_
      refine SL.pure rfl rfl rfl (PureOp.and_ rfl rfl rfl rfl) ?_
      refine SL.pure rfl rfl rfl (PureOp.move rfl) ?_
      refine SL.newg 37 true rfl ?_
      refine SL.gpure (c := 2) rfl rfl rfl rfl rfl rfl rfl (PureOp.fieldAddrT 3 Try.underlying70 rfl sz3 rfl rfl) ?_
      refine SL.gpure (c := 2) rfl rfl rfl rfl rfl rfl rfl (PureOp.load (v := .int .i64 ((exE l t.taxes.l total fee).1.2.2.2)) Try.underlying3 rfl rfl (fun _ => (CellIs.cells 1 rfl rfl))) ?_
      refine SL.gpure (c := 2) rfl rfl rfl rfl rfl rfl rfl (PureOp.geq rfl rfl) ?_
      refine SL.pure rfl rfl rfl (PureOp.and_ rfl rfl rfl rfl) ?_
      refine SL.pure rfl rfl rfl (PureOp.move rfl) ?_
      refine SL.newg 42 true rfl ?_
      refine SL.gpure (c := 3) rfl rfl rfl rfl rfl rfl rfl (PureOp.fieldAddrT 2 Try.underlying70 rfl sz3 rfl rfl) ?_
      refine SL.gpure (c := 3) rfl rfl rfl rfl rfl rfl rfl (PureOp.load (v := .int .i64 ((exE l t.taxes.l total fee).1.2.2.1)) Try.underlying3 rfl rfl (fun _ => (CellIs.cells 1 rfl rfl))) ?_
      refine SL.gpure (c := 3) rfl rfl rfl rfl rfl rfl rfl (PureOp.eql rfl rfl) ?_
      refine SL.gpure (c := 3) rfl rfl rfl rfl rfl rfl rfl (PureOp.move rfl) ?_
      refine SL.newg 46 false rfl ?_
      refine SL.gpure (c := 4) rfl rfl rfl rfl rfl rfl rfl (PureOp.fieldAddrT 3 Try.underlying70 rfl sz3 rfl rfl) ?_
      refine SL.gpure (c := 4) rfl rfl rfl rfl rfl rfl rfl (PureOp.load (v := .int .i64 ((exE l t.taxes.l total fee).1.2.2.2)) Try.underlying3 rfl rfl (fun _ => (CellIs.cells 1 rfl rfl))) ?_
      refine SL.gpure (c := 4) rfl rfl rfl rfl rfl rfl rfl (PureOp.eql rfl rfl) ?_
      refine SL.gpure (c := 3) rfl rfl rfl rfl rfl rfl rfl (PureOp.or_ rfl rfl rfl rfl) ?_
      refine SL.pure rfl rfl rfl (PureOp.and_ rfl rfl rfl rfl) ?_
      refine SL.pure rfl rfl rfl (PureOp.move rfl) ?_
      refine SL.newg 52 true rfl ?_
      refine SL.gpure (c := 5) rfl rfl rfl rfl rfl rfl rfl (PureOp.fieldAddrT 1 Try.underlying70 rfl sz3 rfl rfl) ?_
      refine SL.gpure (c := 5) rfl rfl rfl rfl rfl rfl rfl (PureOp.load (v := .int .i64 ((exE l t.taxes.l total fee).1.2.1)) Try.underlying3 rfl rfl (fun _ => (CellIs.cells 1 rfl rfl))) ?_
      refine SL.gpure (c := 5) rfl rfl rfl rfl rfl rfl rfl (PureOp.move rfl) ?_
      refine SL.gpure (c := 5) rfl rfl rfl rfl rfl rfl rfl (PureOp.eql rfl rfl) ?_
      refine SL.pure rfl rfl rfl (PureOp.and_ rfl rfl rfl rfl) ?_
      refine SL.pure rfl rfl rfl (PureOp.move rfl) ?_
      refine SL.newg 58 true rfl ?_
      refine SL.gpure (c := 6) rfl rfl rfl rfl rfl rfl rfl (PureOp.fieldAddrT 0 Try.underlying70 rfl sz3 rfl rfl) ?_
      refine SL.gpure (c := 6) rfl rfl rfl rfl rfl rfl rfl (PureOp.load (v := .int .i64 ((exE l t.taxes.l total fee).1.1)) Try.underlying3 rfl rfl (fun _ => (CellIs.cells 1 rfl rfl))) ?_
      refine SL.gpure (c := 6) rfl rfl rfl rfl rfl rfl rfl (PureOp.fieldAddrT 8 Try.underlying27 rfl sz3 rfl rfl) ?_
      refine SL.gpure (c := 6) rfl rfl rfl rfl rfl rfl rfl (PureOp.load (v := .int .i64 t.total) Try.underlying3 rfl rfl (fun _ => (CellIs.cells 0 rfl rfl))) ?_
      refine SL.gpure (c := 6) rfl rfl rfl rfl rfl rfl rfl (PureOp.leq rfl rfl) ?_
      refine SL.pure rfl rfl rfl (PureOp.and_ rfl rfl rfl rfl) ?_
      refine SL.pure rfl rfl rfl (PureOp.move rfl) ?_
      refine SL.newg 65 true rfl ?_
      refine SL.gpure (c := 7) rfl rfl rfl rfl rfl rfl rfl (PureOp.fieldAddrT 0 Try.underlying70 rfl sz3 rfl rfl) ?_
      refine SL.gpure (c := 7) rfl rfl rfl rfl rfl rfl rfl (PureOp.load (v := .int .i64 ((exE l t.taxes.l total fee).1.1)) Try.underlying3 rfl rfl (fun _ => (CellIs.cells 1 rfl rfl))) ?_
      refine SL.gpure (c := 7) rfl rfl rfl rfl rfl rfl rfl (PureOp.fieldAddrT 2 Try.underlying70 rfl sz3 rfl rfl) ?_
      refine SL.gpure (c := 7) rfl rfl rfl rfl rfl rfl rfl (PureOp.load (v := .int .i64 ((exE l t.taxes.l total fee).1.2.2.1)) Try.underlying3 rfl rfl (fun _ => (CellIs.cells 1 rfl rfl))) ?_
      refine SL.gpure (c := 7) rfl rfl rfl rfl rfl rfl rfl (PureOp.add rfl rfl (by intro hg; simp [gval] at hg; first | omega | (rw [p1, p3]; omega) | (rw [p4]; omega))) ?_
      refine SL.gpure (c := 7) rfl rfl rfl rfl rfl rfl rfl (PureOp.move rfl) ?_
      refine SL.gpure (c := 7) rfl rfl rfl rfl rfl rfl rfl (PureOp.move rfl) ?_
      refine SL.gpure (c := 7) rfl rfl rfl rfl rfl rfl rfl (PureOp.add rfl rfl (by intro hg; simp [gval] at hg; first | omega | (rw [p1, p3]; omega) | (rw [p4]; omega))) ?_
      refine SL.gpure (c := 7) rfl rfl rfl rfl rfl rfl rfl (PureOp.fieldAddrT 3 Try.underlying70 rfl sz3 rfl rfl) ?_
      refine SL.gpure (c := 7) rfl rfl rfl rfl rfl rfl rfl (PureOp.load (v := .int .i64 ((exE l t.taxes.l total fee).1.2.2.2)) Try.underlying3 rfl rfl (fun _ => (CellIs.cells 1 rfl rfl))) ?_
      refine SL.gpure (c := 7) rfl rfl rfl rfl rfl rfl rfl (PureOp.add rfl rfl (by intro hg; simp [gval] at hg; first | omega | (rw [p1, p3]; omega) | (rw [p4]; omega))) ?_
      refine SL.gpure (c := 7) rfl rfl rfl rfl rfl rfl rfl (PureOp.eql rfl rfl) ?_
      refine SL.pure rfl rfl rfl (PureOp.and_ rfl rfl rfl rfl) ?_
      refine SL.pure rfl rfl rfl (PureOp.move rfl) ?_
      refine SL.newg 79 true rfl ?_
      refine SL.gcalle (c := 8) rfl rfl rfl rfl rfl rfl rfl rfl rfl rfl callable25 (by intro hg; simp [gval] at hg; exact (fun w hw => awake_ok w)) ?_
      refine SL.norm [_, _] rfl ?_
      refine SL.pure rfl rfl rfl (PureOp.and_ rfl rfl rfl rfl) ?_
      refine SL.pure rfl rfl rfl (PureOp.assign rfl) ?_
      refine SL.nil_then ?_
      refine WC.ret ?_
      refine QX.ret1 rfl rfl ?_
      intro w hw
      refine congrArg Value.bool ?_
      rw [p1, p2, p3, p4]
      simp only [Bool.and_eq_true, Bool.or_eq_true, decide_eq_true_eq, and_true]
      omega

set_option maxHeartbeats 4000000 in
set_option maxRecDepth 100000 in
theorem xapplies_law (t : TK) (l : List Cp) (ao : Option Addr) (n cap : Nat) (hn : n = l.length) (w0 : World) (hz : SliceIn w0 11 ao n cap (rowsF enc65 l)) (hx : SliceIn w0 2 t.taxes.ao t.taxes.l.length t.taxes.cap (rowsF enc67 t.taxes.l)) (total fee : Int) : FnC Try.prog 9 [.agg #[.int .i64 t.num, .string t.loc, .string t.p1, .string t.p2, .string t.p3, .slice ao n cap, .int .i64 t.fare, .slice t.taxes.ao t.taxes.l.length t.taxes.cap, .int .i64 t.total, .int .i64 t.issued], .int .i64 total, .int .i64 fee] w0 fun v w' => v = .bool true := by
  refine fnc (N := 77) Try.func9 rfl rfl rfl ?_
  refine WC.seq ?_
  refine WC.region ?_
  refine SL.box rfl rfl rfl (fun b1 hb1 => ?_)
  refine SL.norm [_] rfl ?_
  refine SL.pure rfl rfl rfl (PureOp.assign rfl) ?_
  refine SL.nil_then ?_
  refine WC.seq ?_
  refine WC.seq ?_
  refine WC.region ?_
  refine SL.pure rfl rfl rfl (PureOp.loads (vs := [.int .i64 t.num, .string t.loc, .string t.p1, .string t.p2, .string t.p3, .slice ao n cap, .int .i64 t.fare, .slice t.taxes.ao t.taxes.l.length t.taxes.cap, .int .i64 t.total, .int .i64 t.issued]) Try.underlying27 rfl rfl (fun _ => (RowIs.cells 0 0 10 rfl rfl)) sz27) ?_
  refine SL.callv rfl rfl rfl rfl rfl rfl callable24 (fun w hw => right_ok t l ao n cap hn w (hz.below hw.below) (hx.below hw.below)) ?_
  rintro v ⟨rb, rfl, hright⟩
  refine SL.norm [_] rfl ?_
  refine SL.pure rfl rfl rfl (PureOp.not rfl) ?_
  refine SL.nil_then ?_
  refine WC.cond rfl (fun h1 => ?_) (fun h1 => ?_)
  · try simp only [Bool.and_eq_true, Bool.or_eq_true, Bool.not_eq_true', Bool.not_eq_false', Bool.and_eq_false_iff, Bool.or_eq_false_iff, decide_eq_true_eq, decide_eq_false_iff_not, Int.not_lt, Int.not_le, ne_eq, Decidable.not_not] at h1
    refine WC.seq ?_
    refine WC.region ?_
    refine SL.calle rfl rfl rfl rfl rfl rfl callable25 (fun w hw => awake_ok w) ?_
    refine SL.norm [_] rfl ?_
    refine SL.pure rfl rfl rfl (PureOp.assign rfl) ?_
    refine SL.nil_then ?_
    refine WC.ret ?_
    refine QX.ret_then ?_
    refine QX.ret1 rfl rfl ?_
    intro w hw
    rfl
  · try simp only [Bool.and_eq_true, Bool.or_eq_true, Bool.not_eq_true', Bool.not_eq_false', Bool.and_eq_false_iff, Bool.or_eq_false_iff, decide_eq_true_eq, decide_eq_false_iff_not, Int.not_lt, Int.not_le, ne_eq, Decidable.not_not] at h1
    have hr2 := (hright h1).2
    have hxb : t.taxes.l.length ≤ 1000 := by have q := (hright h1).1; omega
    have hnb : n ≤ 1000 := by have q := hr2.1; omega
    have h64 : ∀ x ∈ opens l, In64 x := fun x hq => by obtain ⟨c, hc, rfl⟩ := opens_mem hq; have q := (hr2.2.2.2.1 c hc).1; unfold In64; omega
    have h64x : ∀ x ∈ amts t.taxes.l, In64 x := fun x hq => by obtain ⟨c, hc, rfl⟩ := amts_mem hq; have q := hr2.2.2.2.2.1 c hc; unfold In64; omega
    refine WC.skip ?_
    refine QX.then_ ?_
    refine WC.seq ?_
    refine WC.region ?_
    refine SL.buildSlice0 rfl rfl Try.underlying24 elem65 (fun b2 hb2 => ?_)
    refine SL.norm [_, _] rfl ?_
    refine SL.pure rfl rfl rfl (PureOp.fieldAddrT 5 Try.underlying27 rfl sz24 rfl rfl) ?_
    refine SL.pure rfl rfl rfl (PureOp.load (v := .slice ao n cap) Try.underlying24 rfl rfl (fun _ => (CellIs.cells 0 rfl rfl))) ?_
    refine SL.append 1 rfl rfl Try.underlying24 elem65 rfl rfl rfl rfl (SrcIs.in_ hz enc65_len hn) (by exact all_one_cells (fun x => rfl) l) (by omega) (by omega) (fun ao1_ cap1_ => ?_)
    refine SL.norm [_, _] rfl ?_
    refine SL.pure rfl rfl rfl (PureOp.assign rfl) ?_
    refine SL.nil_then ?_
    refine WC.seq ?_
    refine WC.region ?_
    refine SL.pure rfl rfl rfl (PureOp.loads (vs := [.int .i64 t.num, .string t.loc, .string t.p1, .string t.p2, .string t.p3, .slice ao n cap, .int .i64 t.fare, .slice t.taxes.ao t.taxes.l.length t.taxes.cap, .int .i64 t.total, .int .i64 t.issued]) Try.underlying27 rfl rfl (fun _ => (RowIs.cells 0 0 10 rfl rfl)) sz27) ?_
    refine SL.pure rfl rfl rfl (PureOp.move rfl) ?_
    refine SL.pure rfl rfl rfl (PureOp.build bld56 rfl rfl) ?_
    refine SL.pure rfl rfl rfl (PureOp.move rfl) ?_
    refine SL.callo (fun ya yc => .tuple #[.agg #[.int .i64 ((tkA t (exE l t.taxes.l total fee).2).num), .string ((tkA t (exE l t.taxes.l total fee).2).loc), .string ((tkA t (exE l t.taxes.l total fee).2).p1), .string ((tkA t (exE l t.taxes.l total fee).2).p2), .string ((tkA t (exE l t.taxes.l total fee).2).p3), .slice ya ((lA l 8 (exE l t.taxes.l total fee).2).length) yc, .int .i64 ((tkA t (exE l t.taxes.l total fee).2).fare), .slice ((tkA t (exE l t.taxes.l total fee).2).taxes.ao) ((tkA t (exE l t.taxes.l total fee).2).taxes.l.length) ((tkA t (exE l t.taxes.l total fee).2).taxes.cap), .int .i64 ((tkA t (exE l t.taxes.l total fee).2).total), .int .i64 ((tkA t (exE l t.taxes.l total fee).2).issued)], .agg #[.int .i64 ((exE l t.taxes.l total fee).1.1), .int .i64 ((exE l t.taxes.l total fee).1.2.1), .int .i64 ((exE l t.taxes.l total fee).1.2.2.1), .int .i64 ((exE l t.taxes.l total fee).1.2.2.2)], .int .i64 ((exE l t.taxes.l total fee).2)]) rfl rfl rfl rfl rfl rfl callable28 (fun w hw => xapply_ok t l ao n cap hn w (hz.below hw.below) hnb (hx.below hw.below) hxb total fee) (fun ya yc => ?_)
    refine SL.norm [_, _, _] rfl ?_
    refine SL.pure rfl rfl rfl (PureOp.move rfl) ?_
    refine SL.pure rfl rfl rfl (PureOp.extract rfl rfl) ?_
    refine SL.pure rfl rfl rfl (PureOp.extract rfl rfl) ?_
    refine SL.pure rfl rfl rfl (PureOp.extract rfl rfl) ?_
    refine SL.alloc rfl rfl zero27 (fun b3 hb3 => ?_)
    refine SL.norm [_, _, _, _] rfl ?_
    refine SL.alloc rfl rfl zero70 (fun b4 hb4 => ?_)
    refine SL.norm [_, _, _, _, _] rfl ?_
    refine SL.store 3 rfl rfl rfl rfl sz27 rfl rfl ?_
    refine SL.norm [_, _, _, _, _] rfl ?_
    refine SL.store 4 rfl rfl rfl rfl sz70 rfl rfl ?_
    refine SL.norm [_, _, _, _, _] rfl ?_
    refine SL.pure rfl rfl rfl (PureOp.assign rfl) ?_
    refine SL.nil_then ?_
    refine WC.seq ?_
    refine WC.region ?_
    refine SL.pure rfl rfl rfl (PureOp.loads (vs := [.int .i64 t.num, .string t.loc, .string t.p1, .string t.p2, .string t.p3, .slice ao n cap, .int .i64 t.fare, .slice t.taxes.ao t.taxes.l.length t.taxes.cap, .int .i64 t.total, .int .i64 t.issued]) Try.underlying27 rfl rfl (fun _ => (RowIs.cells 0 0 10 rfl rfl)) sz27) ?_
    refine SL.pure rfl rfl rfl (PureOp.move rfl) ?_
    refine SL.pure rfl rfl rfl (PureOp.build bld56 rfl rfl) ?_
    refine SL.pure rfl rfl rfl (PureOp.move rfl) ?_
    refine SL.callo (fun za zc => .tuple #[.agg #[.int .i64 ((tkA t (exE l t.taxes.l total fee).2).num), .string ((tkA t (exE l t.taxes.l total fee).2).loc), .string ((tkA t (exE l t.taxes.l total fee).2).p1), .string ((tkA t (exE l t.taxes.l total fee).2).p2), .string ((tkA t (exE l t.taxes.l total fee).2).p3), .slice za ((lA l 8 (exE l t.taxes.l total fee).2).length) zc, .int .i64 ((tkA t (exE l t.taxes.l total fee).2).fare), .slice ((tkA t (exE l t.taxes.l total fee).2).taxes.ao) ((tkA t (exE l t.taxes.l total fee).2).taxes.l.length) ((tkA t (exE l t.taxes.l total fee).2).taxes.cap), .int .i64 ((tkA t (exE l t.taxes.l total fee).2).total), .int .i64 ((tkA t (exE l t.taxes.l total fee).2).issued)], .agg #[.int .i64 ((exE l t.taxes.l total fee).1.1), .int .i64 ((exE l t.taxes.l total fee).1.2.1), .int .i64 ((exE l t.taxes.l total fee).1.2.2.1), .int .i64 ((exE l t.taxes.l total fee).1.2.2.2)], .int .i64 ((exE l t.taxes.l total fee).2)]) rfl rfl rfl rfl rfl rfl callable29 (fun w hw => rxapply_ok t l ao n cap hn w (hz.below hw.below) hnb (hx.below hw.below) hxb total fee h64 h64x) (fun za zc => ?_)
    refine SL.norm [_, _, _, _, _, _] rfl ?_
    refine SL.pure rfl rfl rfl (PureOp.move rfl) ?_
    refine SL.pure rfl rfl rfl (PureOp.extract rfl rfl) ?_
    refine SL.pure rfl rfl rfl (PureOp.extract rfl rfl) ?_
    refine SL.pure rfl rfl rfl (PureOp.extract rfl rfl) ?_
    refine SL.alloc rfl rfl zero27 (fun b5 hb5 => ?_)
    refine SL.norm [_, _, _, _, _, _, _] rfl ?_
    refine SL.alloc rfl rfl zero73 (fun b6 hb6 => ?_)
    refine SL.norm [_, _, _, _, _, _, _, _] rfl ?_
    refine SL.store 6 rfl rfl rfl rfl sz27 rfl rfl ?_
    refine SL.norm [_, _, _, _, _, _, _, _] rfl ?_
    refine SL.store 7 rfl rfl rfl rfl sz73 rfl rfl ?_
    refine SL.norm [_, _, _, _, _, _, _, _] rfl ?_
    refine SL.pure rfl rfl rfl (PureOp.assign rfl) ?_
    refine SL.nil_then ?_
    refine WC.seq ?_
    refine WC.region ?_
    refine SL.pure rfl rfl rfl (PureOp.loads (vs := [.int .i64 t.num, .string t.loc, .string t.p1, .string t.p2, .string t.p3, .slice ao n cap, .int .i64 t.fare, .slice t.taxes.ao t.taxes.l.length t.taxes.cap, .int .i64 t.total, .int .i64 t.issued]) Try.underlying27 rfl rfl (fun _ => (RowIs.cells 0 0 10 rfl rfl)) sz27) ?_
    refine SL.pure rfl rfl rfl (PureOp.move rfl) ?_
    refine SL.pure rfl rfl rfl (PureOp.build bld56 rfl rfl) ?_
    refine SL.pure rfl rfl rfl (PureOp.move rfl) ?_
    refine SL.calle rfl rfl rfl rfl rfl rfl callable26 (fun w hw => xof_ok t l ao n cap hn w (hz.below hw.below) hnb (hx.below hw.below) hxb total fee) ?_
    refine SL.norm [_, _, _, _, _, _, _, _] rfl ?_
    refine SL.pure rfl rfl rfl (PureOp.move rfl) ?_
    refine SL.pure rfl rfl rfl (PureOp.extract rfl rfl) ?_
    refine SL.pure rfl rfl rfl (PureOp.extract rfl rfl) ?_
    refine SL.alloc rfl rfl zero70 (fun b7 hb7 => ?_)
    refine SL.norm [_, _, _, _, _, _, _, _, _] rfl ?_
    refine SL.store 8 rfl rfl rfl rfl sz70 rfl rfl ?_
    refine SL.norm [_, _, _, _, _, _, _, _, _] rfl ?_
    refine SL.pure rfl rfl rfl (PureOp.assign rfl) ?_
    refine SL.nil_then ?_
    refine WC.seq ?_
    refine WC.region ?_
    refine SL.pure rfl rfl rfl (PureOp.loads (vs := [.int .i64 ((tkA t (exE l t.taxes.l total fee).2).num), .string ((tkA t (exE l t.taxes.l total fee).2).loc), .string ((tkA t (exE l t.taxes.l total fee).2).p1), .string ((tkA t (exE l t.taxes.l total fee).2).p2), .string ((tkA t (exE l t.taxes.l total fee).2).p3), .slice ya ((lA l 8 (exE l t.taxes.l total fee).2).length) yc, .int .i64 ((tkA t (exE l t.taxes.l total fee).2).fare), .slice ((tkA t (exE l t.taxes.l total fee).2).taxes.ao) ((tkA t (exE l t.taxes.l total fee).2).taxes.l.length) ((tkA t (exE l t.taxes.l total fee).2).taxes.cap), .int .i64 ((tkA t (exE l t.taxes.l total fee).2).total), .int .i64 ((tkA t (exE l t.taxes.l total fee).2).issued)]) Try.underlying27 rfl rfl (fun _ => (RowIs.cells 3 0 10 rfl rfl)) sz27) ?_
    refine SL.pure rfl rfl rfl (PureOp.loads (vs := [.int .i64 ((tkA t (exE l t.taxes.l total fee).2).num), .string ((tkA t (exE l t.taxes.l total fee).2).loc), .string ((tkA t (exE l t.taxes.l total fee).2).p1), .string ((tkA t (exE l t.taxes.l total fee).2).p2), .string ((tkA t (exE l t.taxes.l total fee).2).p3), .slice za ((lA l 8 (exE l t.taxes.l total fee).2).length) zc, .int .i64 ((tkA t (exE l t.taxes.l total fee).2).fare), .slice ((tkA t (exE l t.taxes.l total fee).2).taxes.ao) ((tkA t (exE l t.taxes.l total fee).2).taxes.l.length) ((tkA t (exE l t.taxes.l total fee).2).taxes.cap), .int .i64 ((tkA t (exE l t.taxes.l total fee).2).total), .int .i64 ((tkA t (exE l t.taxes.l total fee).2).issued)]) Try.underlying27 rfl rfl (fun _ => (RowIs.cells 6 0 10 rfl rfl)) sz27) ?_
    refine SL.calle rfl rfl rfl rfl rfl rfl callable30 (fun w hw => samet_ok (tkA t (exE l t.taxes.l total fee).2) (lA l 8 (exE l t.taxes.l total fee).2) _ _ _ _ _ _ rfl rfl w (SliceIn.rows (hw.mem (i := 2) rfl) enc65_len (Nat.le_refl _)) (SliceIn.rows (hw.mem (i := 5) rfl) enc65_len (Nat.le_refl _)) (lA_le (by omega)) (tkA_tax (hx.below hw.below)) (tkA_len hxb)) ?_
    refine SL.norm [_, _, _, _, _, _, _, _, _] rfl ?_
    refine SL.pure rfl rfl rfl (PureOp.move rfl) ?_
    refine SL.ung rfl rfl rfl rfl ?_
    refine SL.pure rfl rfl rfl (PureOp.move rfl) ?_
    refine SL.ung rfl rfl rfl rfl ?_
    refine SL.pure rfl rfl rfl (PureOp.move rfl) ?_
    refine SL.ung rfl rfl rfl rfl ?_
    refine SL.pure rfl rfl rfl (PureOp.eql rfl rfl) ?_
    refine SL.pure rfl rfl rfl (PureOp.pickT rfl rfl) ?_
    refine SL.pure rfl rfl rfl (PureOp.move rfl) ?_
    refine SL.newg 58 true rfl ?_
    refine SL.gpure (c := 1) rfl rfl rfl rfl rfl rfl rfl (PureOp.loads (vs := [.int .i64 ((exE l t.taxes.l total fee).1.1), .int .i64 ((exE l t.taxes.l total fee).1.2.1), .int .i64 ((exE l t.taxes.l total fee).1.2.2.1), .int .i64 ((exE l t.taxes.l total fee).1.2.2.2)]) Try.underlying70 rfl rfl (fun _ => (RowIs.cells 4 0 4 rfl rfl)) sz70) ?_
    refine SL.gpure (c := 1) rfl rfl rfl rfl rfl rfl rfl (PureOp.loads (vs := [.int .i64 ((exE l t.taxes.l total fee).1.1), .int .i64 ((exE l t.taxes.l total fee).1.2.1), .int .i64 ((exE l t.taxes.l total fee).1.2.2.1), .int .i64 ((exE l t.taxes.l total fee).1.2.2.2)]) Try.underlying70 rfl rfl (fun _ => (RowIs.cells 8 0 4 rfl rfl)) sz70) ?_
    refine SL.gpure (c := 1) rfl rfl rfl rfl rfl rfl rfl (PureOp.eqla rfl rfl flat70 rfl) ?_
    refine SL.pure rfl rfl rfl (PureOp.and_ rfl rfl rfl rfl) ?_
    refine SL.pure rfl rfl rfl (PureOp.move rfl) ?_
    refine SL.newg 63 true rfl ?_
    refine SL.gpure (c := 2) rfl rfl rfl rfl rfl rfl rfl (PureOp.move rfl) ?_
    refine SL.gpure (c := 2) rfl rfl rfl rfl rfl rfl rfl (PureOp.move rfl) ?_
    refine SL.gpure (c := 2) rfl rfl rfl rfl rfl rfl rfl (PureOp.eql rfl rfl) ?_
    refine SL.pure rfl rfl rfl (PureOp.and_ rfl rfl rfl rfl) ?_
    refine SL.pure rfl rfl rfl (PureOp.move rfl) ?_
    refine SL.newg 68 true rfl ?_
    refine SL.gpure (c := 3) rfl rfl rfl rfl rfl rfl rfl (PureOp.fieldAddrT 5 Try.underlying27 rfl sz24 rfl rfl) ?_
    refine SL.gpure (c := 3) rfl rfl rfl rfl rfl rfl rfl (PureOp.load (v := .slice ao n cap) Try.underlying24 rfl rfl (fun _ => (CellIs.cells 0 rfl rfl))) ?_
    refine SL.gpure (c := 3) rfl rfl rfl rfl rfl rfl rfl (PureOp.move rfl) ?_
    refine SL.gcalle (c := 3) rfl rfl rfl rfl rfl rfl rfl rfl rfl rfl callable31 (by intro hg; simp [gval] at hg; exact (fun w hw => samec_ok l ao _ n _ cap _ hn (by omega) w (hz.below hw.below) (SliceIn.rows (hw.mem (i := 1) rfl) enc65_len (by omega)) hnb)) ?_
    refine SL.norm [_, _, _, _, _, _, _, _, _] rfl ?_
    refine SL.pure rfl rfl rfl (PureOp.and_ rfl rfl rfl rfl) ?_
    refine SL.pure rfl rfl rfl (PureOp.move rfl) ?_
    refine SL.newg 74 true rfl ?_
    refine SL.gcalle (c := 4) rfl rfl rfl rfl rfl rfl rfl rfl rfl rfl callable25 (by intro hg; simp [gval] at hg; exact (fun w hw => awake_ok w)) ?_
    refine SL.norm [_, _, _, _, _, _, _, _, _] rfl ?_
    refine SL.pure rfl rfl rfl (PureOp.and_ rfl rfl rfl rfl) ?_
    refine SL.pure rfl rfl rfl (PureOp.assign rfl) ?_
    refine SL.nil_then ?_
    refine WC.ret ?_
    refine QX.ret1 rfl rfl ?_
    intro w hw
    simp [eqB, eqV]

set_option maxHeartbeats 4000000 in
set_option maxRecDepth 100000 in
theorem once_law (t : TK) (l : List Cp) (ao : Option Addr) (n cap : Nat) (hn : n = l.length) (w0 : World) (hz : SliceIn w0 11 ao n cap (rowsF enc65 l)) (hx : SliceIn w0 2 t.taxes.ao t.taxes.l.length t.taxes.cap (rowsF enc67 t.taxes.l)) (total fee : Int) : FnC Try.prog 10 [.agg #[.int .i64 t.num, .string t.loc, .string t.p1, .string t.p2, .string t.p3, .slice ao n cap, .int .i64 t.fare, .slice t.taxes.ao t.taxes.l.length t.taxes.cap, .int .i64 t.total, .int .i64 t.issued], .int .i64 total, .int .i64 fee] w0 fun v w' => v = .bool true := by
  refine fnc (N := 58) Try.func10 rfl rfl rfl ?_
  refine WC.seq ?_
  refine WC.region ?_
  refine SL.box rfl rfl rfl (fun b1 hb1 => ?_)
  refine SL.norm [_] rfl ?_
  refine SL.pure rfl rfl rfl (PureOp.assign rfl) ?_
  refine SL.nil_then ?_
  refine WC.seq ?_
  refine WC.seq ?_
  refine WC.region ?_
  refine SL.pure rfl rfl rfl (PureOp.loads (vs := [.int .i64 t.num, .string t.loc, .string t.p1, .string t.p2, .string t.p3, .slice ao n cap, .int .i64 t.fare, .slice t.taxes.ao t.taxes.l.length t.taxes.cap, .int .i64 t.total, .int .i64 t.issued]) Try.underlying27 rfl rfl (fun _ => (RowIs.cells 0 0 10 rfl rfl)) sz27) ?_
  refine SL.callv rfl rfl rfl rfl rfl rfl callable24 (fun w hw => right_ok t l ao n cap hn w (hz.below hw.below) (hx.below hw.below)) ?_
  rintro v ⟨rb, rfl, hright⟩
  refine SL.norm [_] rfl ?_
  refine SL.pure rfl rfl rfl (PureOp.not rfl) ?_
  refine SL.nil_then ?_
  refine WC.cond rfl (fun h1 => ?_) (fun h1 => ?_)
  · try simp only [Bool.and_eq_true, Bool.or_eq_true, Bool.not_eq_true', Bool.not_eq_false', Bool.and_eq_false_iff, Bool.or_eq_false_iff, decide_eq_true_eq, decide_eq_false_iff_not, Int.not_lt, Int.not_le, ne_eq, Decidable.not_not] at h1
    refine WC.seq ?_
    refine WC.region ?_
    refine SL.calle rfl rfl rfl rfl rfl rfl callable25 (fun w hw => awake_ok w) ?_
    refine SL.norm [_] rfl ?_
    refine SL.pure rfl rfl rfl (PureOp.assign rfl) ?_
    refine SL.nil_then ?_
    refine WC.ret ?_
    refine QX.ret_then ?_
    refine QX.ret1 rfl rfl ?_
    intro w hw
    rfl
  · try simp only [Bool.and_eq_true, Bool.or_eq_true, Bool.not_eq_true', Bool.not_eq_false', Bool.and_eq_false_iff, Bool.or_eq_false_iff, decide_eq_true_eq, decide_eq_false_iff_not, Int.not_lt, Int.not_le, ne_eq, Decidable.not_not] at h1
    have hr2 := (hright h1).2
    have hxb : t.taxes.l.length ≤ 1000 := by have q := (hright h1).1; omega
    have hnb : n ≤ 1000 := by have q := hr2.1; omega
    have h64 : ∀ x ∈ opens l, In64 x := fun x hq => by obtain ⟨c, hc, rfl⟩ := opens_mem hq; have q := (hr2.2.2.2.1 c hc).1; unfold In64; omega
    have h64x : ∀ x ∈ amts t.taxes.l, In64 x := fun x hq => by obtain ⟨c, hc, rfl⟩ := amts_mem hq; have q := hr2.2.2.2.2.1 c hc; unfold In64; omega
    refine WC.skip ?_
    refine QX.then_ ?_
    refine WC.seq ?_
    refine WC.region ?_
    refine SL.pure rfl rfl rfl (PureOp.loads (vs := [.int .i64 t.num, .string t.loc, .string t.p1, .string t.p2, .string t.p3, .slice ao n cap, .int .i64 t.fare, .slice t.taxes.ao t.taxes.l.length t.taxes.cap, .int .i64 t.total, .int .i64 t.issued]) Try.underlying27 rfl rfl (fun _ => (RowIs.cells 0 0 10 rfl rfl)) sz27) ?_
    refine SL.pure rfl rfl rfl (PureOp.move rfl) ?_
    refine SL.pure rfl rfl rfl (PureOp.build bld56 rfl rfl) ?_
    refine SL.pure rfl rfl rfl (PureOp.move rfl) ?_
    refine SL.callo (fun ya yc => .tuple #[.agg #[.int .i64 ((tkA t (exE l t.taxes.l total fee).2).num), .string ((tkA t (exE l t.taxes.l total fee).2).loc), .string ((tkA t (exE l t.taxes.l total fee).2).p1), .string ((tkA t (exE l t.taxes.l total fee).2).p2), .string ((tkA t (exE l t.taxes.l total fee).2).p3), .slice ya ((lA l 8 (exE l t.taxes.l total fee).2).length) yc, .int .i64 ((tkA t (exE l t.taxes.l total fee).2).fare), .slice ((tkA t (exE l t.taxes.l total fee).2).taxes.ao) ((tkA t (exE l t.taxes.l total fee).2).taxes.l.length) ((tkA t (exE l t.taxes.l total fee).2).taxes.cap), .int .i64 ((tkA t (exE l t.taxes.l total fee).2).total), .int .i64 ((tkA t (exE l t.taxes.l total fee).2).issued)], .agg #[.int .i64 ((exE l t.taxes.l total fee).1.1), .int .i64 ((exE l t.taxes.l total fee).1.2.1), .int .i64 ((exE l t.taxes.l total fee).1.2.2.1), .int .i64 ((exE l t.taxes.l total fee).1.2.2.2)], .int .i64 ((exE l t.taxes.l total fee).2)]) rfl rfl rfl rfl rfl rfl callable28 (fun w hw => xapply_ok t l ao n cap hn w (hz.below hw.below) hnb (hx.below hw.below) hxb total fee) (fun ya yc => ?_)
    refine SL.norm [_, _] rfl ?_
    refine SL.pure rfl rfl rfl (PureOp.move rfl) ?_
    refine SL.pure rfl rfl rfl (PureOp.extract rfl rfl) ?_
    refine SL.pure rfl rfl rfl (PureOp.extract rfl rfl) ?_
    refine SL.pure rfl rfl rfl (PureOp.extract rfl rfl) ?_
    refine SL.alloc rfl rfl zero27 (fun b2 hb2 => ?_)
    refine SL.norm [_, _, _] rfl ?_
    refine SL.alloc rfl rfl zero70 (fun b3 hb3 => ?_)
    refine SL.norm [_, _, _, _] rfl ?_
    refine SL.store 2 rfl rfl rfl rfl sz27 rfl rfl ?_
    refine SL.norm [_, _, _, _] rfl ?_
    refine SL.store 3 rfl rfl rfl rfl sz70 rfl rfl ?_
    refine SL.norm [_, _, _, _] rfl ?_
    refine SL.pure rfl rfl rfl (PureOp.assign rfl) ?_
    refine SL.nil_then ?_
    refine WC.seq ?_
    refine WC.seq ?_
    refine WC.region ?_
    refine SL.pure rfl rfl rfl (PureOp.move rfl) ?_
    refine SL.pure rfl rfl rfl (PureOp.neq rfl rfl) ?_
    refine SL.nil_then ?_
    refine WC.cond rfl (fun h2 => ?_) (fun h2 => ?_)
    · try simp only [Bool.and_eq_true, Bool.or_eq_true, Bool.not_eq_true', Bool.not_eq_false', Bool.and_eq_false_iff, Bool.or_eq_false_iff, decide_eq_true_eq, decide_eq_false_iff_not, Int.not_lt, Int.not_le, ne_eq, Decidable.not_not] at h2
      refine WC.seq ?_
      refine WC.region ?_
      refine SL.calle rfl rfl rfl rfl rfl rfl callable25 (fun w hw => awake_ok w) ?_
      refine SL.norm [_, _, _, _] rfl ?_
      refine SL.pure rfl rfl rfl (PureOp.assign rfl) ?_
      refine SL.nil_then ?_
      refine WC.ret ?_
      refine QX.ret_then ?_
      refine QX.ret1 rfl rfl ?_
      intro w hw
      rfl
    · try simp only [Bool.and_eq_true, Bool.or_eq_true, Bool.not_eq_true', Bool.not_eq_false', Bool.and_eq_false_iff, Bool.or_eq_false_iff, decide_eq_true_eq, decide_eq_false_iff_not, Int.not_lt, Int.not_le, ne_eq, Decidable.not_not] at h2
      refine WC.skip ?_
      refine QX.then_ ?_
      refine WC.seq ?_
      refine WC.region ?_
      refine SL.pure rfl rfl rfl (PureOp.loads (vs := [.int .i64 ((tkA t (exE l t.taxes.l total fee).2).num), .string ((tkA t (exE l t.taxes.l total fee).2).loc), .string ((tkA t (exE l t.taxes.l total fee).2).p1), .string ((tkA t (exE l t.taxes.l total fee).2).p2), .string ((tkA t (exE l t.taxes.l total fee).2).p3), .slice ya ((lA l 8 (exE l t.taxes.l total fee).2).length) yc, .int .i64 ((tkA t (exE l t.taxes.l total fee).2).fare), .slice ((tkA t (exE l t.taxes.l total fee).2).taxes.ao) ((tkA t (exE l t.taxes.l total fee).2).taxes.l.length) ((tkA t (exE l t.taxes.l total fee).2).taxes.cap), .int .i64 ((tkA t (exE l t.taxes.l total fee).2).total), .int .i64 ((tkA t (exE l t.taxes.l total fee).2).issued)]) Try.underlying27 rfl rfl (fun _ => (RowIs.cells 2 0 10 rfl rfl)) sz27) ?_
      refine SL.pure rfl rfl rfl (PureOp.move rfl) ?_
      refine SL.pure rfl rfl rfl (PureOp.build bld56 rfl rfl) ?_
      refine SL.pure rfl rfl rfl (PureOp.move rfl) ?_
      refine SL.callo (fun za zc => .tuple #[.agg #[.int .i64 ((tkA (tkA t (exE l t.taxes.l total fee).2) (exE (lA l 8 (exE l t.taxes.l total fee).2) (tkA t (exE l t.taxes.l total fee).2).taxes.l total fee).2).num), .string ((tkA (tkA t (exE l t.taxes.l total fee).2) (exE (lA l 8 (exE l t.taxes.l total fee).2) (tkA t (exE l t.taxes.l total fee).2).taxes.l total fee).2).loc), .string ((tkA (tkA t (exE l t.taxes.l total fee).2) (exE (lA l 8 (exE l t.taxes.l total fee).2) (tkA t (exE l t.taxes.l total fee).2).taxes.l total fee).2).p1), .string ((tkA (tkA t (exE l t.taxes.l total fee).2) (exE (lA l 8 (exE l t.taxes.l total fee).2) (tkA t (exE l t.taxes.l total fee).2).taxes.l total fee).2).p2), .string ((tkA (tkA t (exE l t.taxes.l total fee).2) (exE (lA l 8 (exE l t.taxes.l total fee).2) (tkA t (exE l t.taxes.l total fee).2).taxes.l total fee).2).p3), .slice za ((lA (lA l 8 (exE l t.taxes.l total fee).2) 8 (exE (lA l 8 (exE l t.taxes.l total fee).2) (tkA t (exE l t.taxes.l total fee).2).taxes.l total fee).2).length) zc, .int .i64 ((tkA (tkA t (exE l t.taxes.l total fee).2) (exE (lA l 8 (exE l t.taxes.l total fee).2) (tkA t (exE l t.taxes.l total fee).2).taxes.l total fee).2).fare), .slice ((tkA (tkA t (exE l t.taxes.l total fee).2) (exE (lA l 8 (exE l t.taxes.l total fee).2) (tkA t (exE l t.taxes.l total fee).2).taxes.l total fee).2).taxes.ao) ((tkA (tkA t (exE l t.taxes.l total fee).2) (exE (lA l 8 (exE l t.taxes.l total fee).2) (tkA t (exE l t.taxes.l total fee).2).taxes.l total fee).2).taxes.l.length) ((tkA (tkA t (exE l t.taxes.l total fee).2) (exE (lA l 8 (exE l t.taxes.l total fee).2) (tkA t (exE l t.taxes.l total fee).2).taxes.l total fee).2).taxes.cap), .int .i64 ((tkA (tkA t (exE l t.taxes.l total fee).2) (exE (lA l 8 (exE l t.taxes.l total fee).2) (tkA t (exE l t.taxes.l total fee).2).taxes.l total fee).2).total), .int .i64 ((tkA (tkA t (exE l t.taxes.l total fee).2) (exE (lA l 8 (exE l t.taxes.l total fee).2) (tkA t (exE l t.taxes.l total fee).2).taxes.l total fee).2).issued)], .agg #[.int .i64 ((exE (lA l 8 (exE l t.taxes.l total fee).2) (tkA t (exE l t.taxes.l total fee).2).taxes.l total fee).1.1), .int .i64 ((exE (lA l 8 (exE l t.taxes.l total fee).2) (tkA t (exE l t.taxes.l total fee).2).taxes.l total fee).1.2.1), .int .i64 ((exE (lA l 8 (exE l t.taxes.l total fee).2) (tkA t (exE l t.taxes.l total fee).2).taxes.l total fee).1.2.2.1), .int .i64 ((exE (lA l 8 (exE l t.taxes.l total fee).2) (tkA t (exE l t.taxes.l total fee).2).taxes.l total fee).1.2.2.2)], .int .i64 ((exE (lA l 8 (exE l t.taxes.l total fee).2) (tkA t (exE l t.taxes.l total fee).2).taxes.l total fee).2)]) rfl rfl rfl rfl rfl rfl callable28 (fun w hw => xapply_ok (tkA t (exE l t.taxes.l total fee).2) (lA l 8 (exE l t.taxes.l total fee).2) _ _ _ rfl w (SliceIn.rows (hw.mem (i := 1) rfl) enc65_len (Nat.le_refl _)) (lA_le (by omega)) (tkA_tax (hx.below hw.below)) (tkA_len hxb) total fee) (fun za zc => ?_)
      refine SL.norm [_, _, _, _, _] rfl ?_
      refine SL.pure rfl rfl rfl (PureOp.move rfl) ?_
      refine SL.pure rfl rfl rfl (PureOp.extract rfl rfl) ?_
      refine SL.pure rfl rfl rfl (PureOp.extract rfl rfl) ?_
      refine SL.pure rfl rfl rfl (PureOp.extract rfl rfl) ?_
      refine SL.alloc rfl rfl zero27 (fun b4 hb4 => ?_)
      refine SL.norm [_, _, _, _, _, _] rfl ?_
      refine SL.alloc rfl rfl zero70 (fun b5 hb5 => ?_)
      refine SL.norm [_, _, _, _, _, _, _] rfl ?_
      refine SL.store 5 rfl rfl rfl rfl sz27 rfl rfl ?_
      refine SL.norm [_, _, _, _, _, _, _] rfl ?_
      refine SL.store 6 rfl rfl rfl rfl sz70 rfl rfl ?_
      refine SL.norm [_, _, _, _, _, _, _] rfl ?_
      refine SL.pure rfl rfl rfl (PureOp.assign rfl) ?_
      refine SL.nil_then ?_
      refine WC.seq ?_
      refine WC.seq ?_
      refine WC.region ?_
      refine SL.pure rfl rfl rfl (PureOp.assign rfl) ?_
      refine SL.nil_then ?_
      refine WC.block ?_
      refine WC.loop (σ := Nat) (fun q_ => [(0, 0, .agg #[.int .i64 t.num, .string t.loc, .string t.p1, .string t.p2, .string t.p3, .slice ao n cap, .int .i64 t.fare, .slice t.taxes.ao t.taxes.l.length t.taxes.cap, .int .i64 t.total, .int .i64 t.issued]), (1, 0, .int .i64 total), (2, 0, .int .i64 fee), (3, 0, .pointer (some ⟨b1, 0, none⟩)), (7, 0, .pointer (some ⟨b2, 0, none⟩)), (8, 0, .pointer (some ⟨b3, 0, none⟩)), (9, 0, .int .i64 ((exE l t.taxes.l total fee).2)), (10, 0, .pointer (some ⟨b4, 0, none⟩)), (11, 0, .pointer (some ⟨b5, 0, none⟩)), (12, 0, .int .i64 ((exE (lA l 8 (exE l t.taxes.l total fee).2) (tkA t (exE l t.taxes.l total fee).2).taxes.l total fee).2)), (14, 0, .agg #[.int .i64 t.num, .string t.loc, .string t.p1, .string t.p2, .string t.p3, .slice ao n cap, .int .i64 t.fare, .slice t.taxes.ao t.taxes.l.length t.taxes.cap, .int .i64 t.total, .int .i64 t.issued]), (15, 0, .bool rb), (16, 0, .bool (!rb)), (18, 0, .tuple #[.agg #[.int .i64 ((tkA t (exE l t.taxes.l total fee).2).num), .string ((tkA t (exE l t.taxes.l total fee).2).loc), .string ((tkA t (exE l t.taxes.l total fee).2).p1), .string ((tkA t (exE l t.taxes.l total fee).2).p2), .string ((tkA t (exE l t.taxes.l total fee).2).p3), .slice ya ((lA l 8 (exE l t.taxes.l total fee).2).length) yc, .int .i64 ((tkA t (exE l t.taxes.l total fee).2).fare), .slice ((tkA t (exE l t.taxes.l total fee).2).taxes.ao) ((tkA t (exE l t.taxes.l total fee).2).taxes.l.length) ((tkA t (exE l t.taxes.l total fee).2).taxes.cap), .int .i64 ((tkA t (exE l t.taxes.l total fee).2).total), .int .i64 ((tkA t (exE l t.taxes.l total fee).2).issued)], .agg #[.int .i64 ((exE l t.taxes.l total fee).1.1), .int .i64 ((exE l t.taxes.l total fee).1.2.1), .int .i64 ((exE l t.taxes.l total fee).1.2.2.1), .int .i64 ((exE l t.taxes.l total fee).1.2.2.2)], .int .i64 ((exE l t.taxes.l total fee).2)]), (19, 0, .agg #[.int .i64 t.num, .string t.loc, .string t.p1, .string t.p2, .string t.p3, .slice ao n cap, .int .i64 t.fare, .slice t.taxes.ao t.taxes.l.length t.taxes.cap, .int .i64 t.total, .int .i64 t.issued]), (20, 0, .int .i64 total), (21, 0, .agg #[.slice none 0 0, .slice none 0 0, .slice none 0 0, .int .i64 0, .int .i64 total]), (22, 0, .int .i64 fee), (23, 0, .tuple #[.agg #[.int .i64 ((tkA t (exE l t.taxes.l total fee).2).num), .string ((tkA t (exE l t.taxes.l total fee).2).loc), .string ((tkA t (exE l t.taxes.l total fee).2).p1), .string ((tkA t (exE l t.taxes.l total fee).2).p2), .string ((tkA t (exE l t.taxes.l total fee).2).p3), .slice ya ((lA l 8 (exE l t.taxes.l total fee).2).length) yc, .int .i64 ((tkA t (exE l t.taxes.l total fee).2).fare), .slice ((tkA t (exE l t.taxes.l total fee).2).taxes.ao) ((tkA t (exE l t.taxes.l total fee).2).taxes.l.length) ((tkA t (exE l t.taxes.l total fee).2).taxes.cap), .int .i64 ((tkA t (exE l t.taxes.l total fee).2).total), .int .i64 ((tkA t (exE l t.taxes.l total fee).2).issued)], .agg #[.int .i64 ((exE l t.taxes.l total fee).1.1), .int .i64 ((exE l t.taxes.l total fee).1.2.1), .int .i64 ((exE l t.taxes.l total fee).1.2.2.1), .int .i64 ((exE l t.taxes.l total fee).1.2.2.2)], .int .i64 ((exE l t.taxes.l total fee).2)]), (24, 0, .agg #[.int .i64 ((tkA t (exE l t.taxes.l total fee).2).num), .string ((tkA t (exE l t.taxes.l total fee).2).loc), .string ((tkA t (exE l t.taxes.l total fee).2).p1), .string ((tkA t (exE l t.taxes.l total fee).2).p2), .string ((tkA t (exE l t.taxes.l total fee).2).p3), .slice ya ((lA l 8 (exE l t.taxes.l total fee).2).length) yc, .int .i64 ((tkA t (exE l t.taxes.l total fee).2).fare), .slice ((tkA t (exE l t.taxes.l total fee).2).taxes.ao) ((tkA t (exE l t.taxes.l total fee).2).taxes.l.length) ((tkA t (exE l t.taxes.l total fee).2).taxes.cap), .int .i64 ((tkA t (exE l t.taxes.l total fee).2).total), .int .i64 ((tkA t (exE l t.taxes.l total fee).2).issued)]), (25, 0, .agg #[.int .i64 ((exE l t.taxes.l total fee).1.1), .int .i64 ((exE l t.taxes.l total fee).1.2.1), .int .i64 ((exE l t.taxes.l total fee).1.2.2.1), .int .i64 ((exE l t.taxes.l total fee).1.2.2.2)]), (26, 0, .int .i64 ((exE l t.taxes.l total fee).2)), (27, 0, .int .i64 ((exE l t.taxes.l total fee).2)), (28, 0, .bool (decide ((exE l t.taxes.l total fee).2 ≠ 0))), (30, 0, .tuple #[.agg #[.int .i64 ((tkA (tkA t (exE l t.taxes.l total fee).2) (exE (lA l 8 (exE l t.taxes.l total fee).2) (tkA t (exE l t.taxes.l total fee).2).taxes.l total fee).2).num), .string ((tkA (tkA t (exE l t.taxes.l total fee).2) (exE (lA l 8 (exE l t.taxes.l total fee).2) (tkA t (exE l t.taxes.l total fee).2).taxes.l total fee).2).loc), .string ((tkA (tkA t (exE l t.taxes.l total fee).2) (exE (lA l 8 (exE l t.taxes.l total fee).2) (tkA t (exE l t.taxes.l total fee).2).taxes.l total fee).2).p1), .string ((tkA (tkA t (exE l t.taxes.l total fee).2) (exE (lA l 8 (exE l t.taxes.l total fee).2) (tkA t (exE l t.taxes.l total fee).2).taxes.l total fee).2).p2), .string ((tkA (tkA t (exE l t.taxes.l total fee).2) (exE (lA l 8 (exE l t.taxes.l total fee).2) (tkA t (exE l t.taxes.l total fee).2).taxes.l total fee).2).p3), .slice za ((lA (lA l 8 (exE l t.taxes.l total fee).2) 8 (exE (lA l 8 (exE l t.taxes.l total fee).2) (tkA t (exE l t.taxes.l total fee).2).taxes.l total fee).2).length) zc, .int .i64 ((tkA (tkA t (exE l t.taxes.l total fee).2) (exE (lA l 8 (exE l t.taxes.l total fee).2) (tkA t (exE l t.taxes.l total fee).2).taxes.l total fee).2).fare), .slice ((tkA (tkA t (exE l t.taxes.l total fee).2) (exE (lA l 8 (exE l t.taxes.l total fee).2) (tkA t (exE l t.taxes.l total fee).2).taxes.l total fee).2).taxes.ao) ((tkA (tkA t (exE l t.taxes.l total fee).2) (exE (lA l 8 (exE l t.taxes.l total fee).2) (tkA t (exE l t.taxes.l total fee).2).taxes.l total fee).2).taxes.l.length) ((tkA (tkA t (exE l t.taxes.l total fee).2) (exE (lA l 8 (exE l t.taxes.l total fee).2) (tkA t (exE l t.taxes.l total fee).2).taxes.l total fee).2).taxes.cap), .int .i64 ((tkA (tkA t (exE l t.taxes.l total fee).2) (exE (lA l 8 (exE l t.taxes.l total fee).2) (tkA t (exE l t.taxes.l total fee).2).taxes.l total fee).2).total), .int .i64 ((tkA (tkA t (exE l t.taxes.l total fee).2) (exE (lA l 8 (exE l t.taxes.l total fee).2) (tkA t (exE l t.taxes.l total fee).2).taxes.l total fee).2).issued)], .agg #[.int .i64 ((exE (lA l 8 (exE l t.taxes.l total fee).2) (tkA t (exE l t.taxes.l total fee).2).taxes.l total fee).1.1), .int .i64 ((exE (lA l 8 (exE l t.taxes.l total fee).2) (tkA t (exE l t.taxes.l total fee).2).taxes.l total fee).1.2.1), .int .i64 ((exE (lA l 8 (exE l t.taxes.l total fee).2) (tkA t (exE l t.taxes.l total fee).2).taxes.l total fee).1.2.2.1), .int .i64 ((exE (lA l 8 (exE l t.taxes.l total fee).2) (tkA t (exE l t.taxes.l total fee).2).taxes.l total fee).1.2.2.2)], .int .i64 ((exE (lA l 8 (exE l t.taxes.l total fee).2) (tkA t (exE l t.taxes.l total fee).2).taxes.l total fee).2)]), (31, 0, .agg #[.int .i64 ((tkA t (exE l t.taxes.l total fee).2).num), .string ((tkA t (exE l t.taxes.l total fee).2).loc), .string ((tkA t (exE l t.taxes.l total fee).2).p1), .string ((tkA t (exE l t.taxes.l total fee).2).p2), .string ((tkA t (exE l t.taxes.l total fee).2).p3), .slice ya ((lA l 8 (exE l t.taxes.l total fee).2).length) yc, .int .i64 ((tkA t (exE l t.taxes.l total fee).2).fare), .slice ((tkA t (exE l t.taxes.l total fee).2).taxes.ao) ((tkA t (exE l t.taxes.l total fee).2).taxes.l.length) ((tkA t (exE l t.taxes.l total fee).2).taxes.cap), .int .i64 ((tkA t (exE l t.taxes.l total fee).2).total), .int .i64 ((tkA t (exE l t.taxes.l total fee).2).issued)]), (32, 0, .int .i64 total), (33, 0, .agg #[.slice none 0 0, .slice none 0 0, .slice none 0 0, .int .i64 0, .int .i64 total]), (34, 0, .int .i64 fee), (35, 0, .tuple #[.agg #[.int .i64 ((tkA (tkA t (exE l t.taxes.l total fee).2) (exE (lA l 8 (exE l t.taxes.l total fee).2) (tkA t (exE l t.taxes.l total fee).2).taxes.l total fee).2).num), .string ((tkA (tkA t (exE l t.taxes.l total fee).2) (exE (lA l 8 (exE l t.taxes.l total fee).2) (tkA t (exE l t.taxes.l total fee).2).taxes.l total fee).2).loc), .string ((tkA (tkA t (exE l t.taxes.l total fee).2) (exE (lA l 8 (exE l t.taxes.l total fee).2) (tkA t (exE l t.taxes.l total fee).2).taxes.l total fee).2).p1), .string ((tkA (tkA t (exE l t.taxes.l total fee).2) (exE (lA l 8 (exE l t.taxes.l total fee).2) (tkA t (exE l t.taxes.l total fee).2).taxes.l total fee).2).p2), .string ((tkA (tkA t (exE l t.taxes.l total fee).2) (exE (lA l 8 (exE l t.taxes.l total fee).2) (tkA t (exE l t.taxes.l total fee).2).taxes.l total fee).2).p3), .slice za ((lA (lA l 8 (exE l t.taxes.l total fee).2) 8 (exE (lA l 8 (exE l t.taxes.l total fee).2) (tkA t (exE l t.taxes.l total fee).2).taxes.l total fee).2).length) zc, .int .i64 ((tkA (tkA t (exE l t.taxes.l total fee).2) (exE (lA l 8 (exE l t.taxes.l total fee).2) (tkA t (exE l t.taxes.l total fee).2).taxes.l total fee).2).fare), .slice ((tkA (tkA t (exE l t.taxes.l total fee).2) (exE (lA l 8 (exE l t.taxes.l total fee).2) (tkA t (exE l t.taxes.l total fee).2).taxes.l total fee).2).taxes.ao) ((tkA (tkA t (exE l t.taxes.l total fee).2) (exE (lA l 8 (exE l t.taxes.l total fee).2) (tkA t (exE l t.taxes.l total fee).2).taxes.l total fee).2).taxes.l.length) ((tkA (tkA t (exE l t.taxes.l total fee).2) (exE (lA l 8 (exE l t.taxes.l total fee).2) (tkA t (exE l t.taxes.l total fee).2).taxes.l total fee).2).taxes.cap), .int .i64 ((tkA (tkA t (exE l t.taxes.l total fee).2) (exE (lA l 8 (exE l t.taxes.l total fee).2) (tkA t (exE l t.taxes.l total fee).2).taxes.l total fee).2).total), .int .i64 ((tkA (tkA t (exE l t.taxes.l total fee).2) (exE (lA l 8 (exE l t.taxes.l total fee).2) (tkA t (exE l t.taxes.l total fee).2).taxes.l total fee).2).issued)], .agg #[.int .i64 ((exE (lA l 8 (exE l t.taxes.l total fee).2) (tkA t (exE l t.taxes.l total fee).2).taxes.l total fee).1.1), .int .i64 ((exE (lA l 8 (exE l t.taxes.l total fee).2) (tkA t (exE l t.taxes.l total fee).2).taxes.l total fee).1.2.1), .int .i64 ((exE (lA l 8 (exE l t.taxes.l total fee).2) (tkA t (exE l t.taxes.l total fee).2).taxes.l total fee).1.2.2.1), .int .i64 ((exE (lA l 8 (exE l t.taxes.l total fee).2) (tkA t (exE l t.taxes.l total fee).2).taxes.l total fee).1.2.2.2)], .int .i64 ((exE (lA l 8 (exE l t.taxes.l total fee).2) (tkA t (exE l t.taxes.l total fee).2).taxes.l total fee).2)]), (36, 0, .agg #[.int .i64 ((tkA (tkA t (exE l t.taxes.l total fee).2) (exE (lA l 8 (exE l t.taxes.l total fee).2) (tkA t (exE l t.taxes.l total fee).2).taxes.l total fee).2).num), .string ((tkA (tkA t (exE l t.taxes.l total fee).2) (exE (lA l 8 (exE l t.taxes.l total fee).2) (tkA t (exE l t.taxes.l total fee).2).taxes.l total fee).2).loc), .string ((tkA (tkA t (exE l t.taxes.l total fee).2) (exE (lA l 8 (exE l t.taxes.l total fee).2) (tkA t (exE l t.taxes.l total fee).2).taxes.l total fee).2).p1), .string ((tkA (tkA t (exE l t.taxes.l total fee).2) (exE (lA l 8 (exE l t.taxes.l total fee).2) (tkA t (exE l t.taxes.l total fee).2).taxes.l total fee).2).p2), .string ((tkA (tkA t (exE l t.taxes.l total fee).2) (exE (lA l 8 (exE l t.taxes.l total fee).2) (tkA t (exE l t.taxes.l total fee).2).taxes.l total fee).2).p3), .slice za ((lA (lA l 8 (exE l t.taxes.l total fee).2) 8 (exE (lA l 8 (exE l t.taxes.l total fee).2) (tkA t (exE l t.taxes.l total fee).2).taxes.l total fee).2).length) zc, .int .i64 ((tkA (tkA t (exE l t.taxes.l total fee).2) (exE (lA l 8 (exE l t.taxes.l total fee).2) (tkA t (exE l t.taxes.l total fee).2).taxes.l total fee).2).fare), .slice ((tkA (tkA t (exE l t.taxes.l total fee).2) (exE (lA l 8 (exE l t.taxes.l total fee).2) (tkA t (exE l t.taxes.l total fee).2).taxes.l total fee).2).taxes.ao) ((tkA (tkA t (exE l t.taxes.l total fee).2) (exE (lA l 8 (exE l t.taxes.l total fee).2) (tkA t (exE l t.taxes.l total fee).2).taxes.l total fee).2).taxes.l.length) ((tkA (tkA t (exE l t.taxes.l total fee).2) (exE (lA l 8 (exE l t.taxes.l total fee).2) (tkA t (exE l t.taxes.l total fee).2).taxes.l total fee).2).taxes.cap), .int .i64 ((tkA (tkA t (exE l t.taxes.l total fee).2) (exE (lA l 8 (exE l t.taxes.l total fee).2) (tkA t (exE l t.taxes.l total fee).2).taxes.l total fee).2).total), .int .i64 ((tkA (tkA t (exE l t.taxes.l total fee).2) (exE (lA l 8 (exE l t.taxes.l total fee).2) (tkA t (exE l t.taxes.l total fee).2).taxes.l total fee).2).issued)]), (37, 0, .agg #[.int .i64 ((exE (lA l 8 (exE l t.taxes.l total fee).2) (tkA t (exE l t.taxes.l total fee).2).taxes.l total fee).1.1), .int .i64 ((exE (lA l 8 (exE l t.taxes.l total fee).2) (tkA t (exE l t.taxes.l total fee).2).taxes.l total fee).1.2.1), .int .i64 ((exE (lA l 8 (exE l t.taxes.l total fee).2) (tkA t (exE l t.taxes.l total fee).2).taxes.l total fee).1.2.2.1), .int .i64 ((exE (lA l 8 (exE l t.taxes.l total fee).2) (tkA t (exE l t.taxes.l total fee).2).taxes.l total fee).1.2.2.2)]), (38, 0, .int .i64 ((exE (lA l 8 (exE l t.taxes.l total fee).2) (tkA t (exE l t.taxes.l total fee).2).taxes.l total fee).2)), (13, 0, .int .i64 ((q_ : Nat) : Int))]) (fun q_ => [Item.cells b1 [.int .i64 t.num, .string t.loc, .string t.p1, .string t.p2, .string t.p3, .slice ao n cap, .int .i64 t.fare, .slice t.taxes.ao t.taxes.l.length t.taxes.cap, .int .i64 t.total, .int .i64 t.issued] 27, Item.own w0.heap.size ya ((lA l 8 (exE l t.taxes.l total fee).2).length) yc 65 11 (cellsOf enc65 (lA l 8 (exE l t.taxes.l total fee).2)), Item.cells b2 [.int .i64 ((tkA t (exE l t.taxes.l total fee).2).num), .string ((tkA t (exE l t.taxes.l total fee).2).loc), .string ((tkA t (exE l t.taxes.l total fee).2).p1), .string ((tkA t (exE l t.taxes.l total fee).2).p2), .string ((tkA t (exE l t.taxes.l total fee).2).p3), .slice ya ((lA l 8 (exE l t.taxes.l total fee).2).length) yc, .int .i64 ((tkA t (exE l t.taxes.l total fee).2).fare), .slice ((tkA t (exE l t.taxes.l total fee).2).taxes.ao) ((tkA t (exE l t.taxes.l total fee).2).taxes.l.length) ((tkA t (exE l t.taxes.l total fee).2).taxes.cap), .int .i64 ((tkA t (exE l t.taxes.l total fee).2).total), .int .i64 ((tkA t (exE l t.taxes.l total fee).2).issued)] 27, Item.cells b3 [.int .i64 ((exE l t.taxes.l total fee).1.1), .int .i64 ((exE l t.taxes.l total fee).1.2.1), .int .i64 ((exE l t.taxes.l total fee).1.2.2.1), .int .i64 ((exE l t.taxes.l total fee).1.2.2.2)] 70, Item.own w0.heap.size za ((lA (lA l 8 (exE l t.taxes.l total fee).2) 8 (exE (lA l 8 (exE l t.taxes.l total fee).2) (tkA t (exE l t.taxes.l total fee).2).taxes.l total fee).2).length) zc 65 11 (cellsOf enc65 (lA (lA l 8 (exE l t.taxes.l total fee).2) 8 (exE (lA l 8 (exE l t.taxes.l total fee).2) (tkA t (exE l t.taxes.l total fee).2).taxes.l total fee).2)), Item.cells b4 [.int .i64 ((tkA (tkA t (exE l t.taxes.l total fee).2) (exE (lA l 8 (exE l t.taxes.l total fee).2) (tkA t (exE l t.taxes.l total fee).2).taxes.l total fee).2).num), .string ((tkA (tkA t (exE l t.taxes.l total fee).2) (exE (lA l 8 (exE l t.taxes.l total fee).2) (tkA t (exE l t.taxes.l total fee).2).taxes.l total fee).2).loc), .string ((tkA (tkA t (exE l t.taxes.l total fee).2) (exE (lA l 8 (exE l t.taxes.l total fee).2) (tkA t (exE l t.taxes.l total fee).2).taxes.l total fee).2).p1), .string ((tkA (tkA t (exE l t.taxes.l total fee).2) (exE (lA l 8 (exE l t.taxes.l total fee).2) (tkA t (exE l t.taxes.l total fee).2).taxes.l total fee).2).p2), .string ((tkA (tkA t (exE l t.taxes.l total fee).2) (exE (lA l 8 (exE l t.taxes.l total fee).2) (tkA t (exE l t.taxes.l total fee).2).taxes.l total fee).2).p3), .slice za ((lA (lA l 8 (exE l t.taxes.l total fee).2) 8 (exE (lA l 8 (exE l t.taxes.l total fee).2) (tkA t (exE l t.taxes.l total fee).2).taxes.l total fee).2).length) zc, .int .i64 ((tkA (tkA t (exE l t.taxes.l total fee).2) (exE (lA l 8 (exE l t.taxes.l total fee).2) (tkA t (exE l t.taxes.l total fee).2).taxes.l total fee).2).fare), .slice ((tkA (tkA t (exE l t.taxes.l total fee).2) (exE (lA l 8 (exE l t.taxes.l total fee).2) (tkA t (exE l t.taxes.l total fee).2).taxes.l total fee).2).taxes.ao) ((tkA (tkA t (exE l t.taxes.l total fee).2) (exE (lA l 8 (exE l t.taxes.l total fee).2) (tkA t (exE l t.taxes.l total fee).2).taxes.l total fee).2).taxes.l.length) ((tkA (tkA t (exE l t.taxes.l total fee).2) (exE (lA l 8 (exE l t.taxes.l total fee).2) (tkA t (exE l t.taxes.l total fee).2).taxes.l total fee).2).taxes.cap), .int .i64 ((tkA (tkA t (exE l t.taxes.l total fee).2) (exE (lA l 8 (exE l t.taxes.l total fee).2) (tkA t (exE l t.taxes.l total fee).2).taxes.l total fee).2).total), .int .i64 ((tkA (tkA t (exE l t.taxes.l total fee).2) (exE (lA l 8 (exE l t.taxes.l total fee).2) (tkA t (exE l t.taxes.l total fee).2).taxes.l total fee).2).issued)] 27, Item.cells b5 [.int .i64 ((exE (lA l 8 (exE l t.taxes.l total fee).2) (tkA t (exE l t.taxes.l total fee).2).taxes.l total fee).1.1), .int .i64 ((exE (lA l 8 (exE l t.taxes.l total fee).2) (tkA t (exE l t.taxes.l total fee).2).taxes.l total fee).1.2.1), .int .i64 ((exE (lA l 8 (exE l t.taxes.l total fee).2) (tkA t (exE l t.taxes.l total fee).2).taxes.l total fee).1.2.2.1), .int .i64 ((exE (lA l 8 (exE l t.taxes.l total fee).2) (tkA t (exE l t.taxes.l total fee).2).taxes.l total fee).1.2.2.2)] 70]) (fun q_ => q_ ≤ (lA l 8 (exE l t.taxes.l total fee).2).length) (fun q_ => (lA l 8 (exE l t.taxes.l total fee).2).length - q_) 7 (0) (Nat.zero_le _) ⟨rfl, rfl, rfl, rfl, rfl, rfl, rfl, rfl, rfl, rfl, rfl, rfl, rfl, rfl, rfl, rfl, rfl, rfl, rfl, rfl, rfl, rfl, rfl, rfl, rfl, rfl, rfl, rfl, rfl, rfl, rfl, rfl, rfl, rfl, rfl, rfl, rfl, rfl, rfl, rfl, rfl, rfl, rfl, rfl, rfl, rfl, rfl, rfl, rfl, rfl, rfl, rfl, rfl, rfl, rfl, rfl, rfl, rfl, rfl, rfl, rfl, rfl, rfl, rfl, rfl, rfl, rfl, rfl, trivial⟩ rfl ?_
      rintro k hk
      refine WC.seq ?_
      refine WC.seq ?_
      refine WC.region ?_
      refine SL.pure rfl rfl rfl (PureOp.move rfl) ?_
      refine SL.pure rfl rfl rfl (PureOp.fieldAddrT 5 Try.underlying27 rfl sz24 rfl rfl) ?_
      refine SL.pure rfl rfl rfl (PureOp.load (v := .slice ya ((lA l 8 (exE l t.taxes.l total fee).2).length) yc) Try.underlying24 rfl rfl (fun _ => (CellIs.cells 2 rfl rfl))) ?_
      refine SL.pure rfl rfl rfl (PureOp.len rfl Try.underlying24) ?_
      refine SL.pure rfl rfl rfl (PureOp.lss rfl rfl) ?_
      refine SL.nil_then ?_
      refine WC.cond rfl (fun h3 => ?_) (fun h3 => ?_)
      · try simp only [Bool.and_eq_true, Bool.or_eq_true, Bool.not_eq_true', Bool.not_eq_false', Bool.and_eq_false_iff, Bool.or_eq_false_iff, decide_eq_true_eq, decide_eq_false_iff_not, Int.not_lt, Int.not_le, ne_eq, Decidable.not_not] at h3
        refine WC.skip ?_
        refine QX.then_ ?_
        refine WC.seq ?_
        refine WC.block ?_
        refine WC.seq ?_
        refine WC.region ?_
        refine SL.pure rfl rfl rfl (PureOp.fieldAddrT 5 Try.underlying27 rfl sz24 rfl rfl) ?_
        refine SL.pure rfl rfl rfl (PureOp.load (v := .slice ya ((lA l 8 (exE l t.taxes.l total fee).2).length) yc) Try.underlying24 rfl rfl (fun _ => (CellIs.cells 2 rfl rfl))) ?_
        refine SL.pure rfl rfl rfl (PureOp.move rfl) ?_
        refine SL.pure rfl rfl rfl (PureOp.indexAddrN Try.underlying24 sz65 rfl rfl (AoOk.own 1 rfl) (fun _ => by first | omega | (have q1 := lA_le (l := l) (ev := 8) (e := (exE l t.taxes.l total fee).2) (by omega); omega))) ?_
        refine SL.pure rfl rfl rfl (PureOp.fieldAddr 9 Try.underlying65 rfl rfl sz3 rfl) ?_
        refine SL.pure rfl rfl rfl (PureOp.load (v := .int .i64 ((nth (lA l 8 (exE l t.taxes.l total fee).2) k).2.2.1)) Try.underlying3 rfl rfl (fun _ => (CellIs.ownc 1 rfl k 9 (by exact cellsOf_get enc65_len _ _ 9 (by omega) (by decide))))) ?_
        refine SL.pure rfl rfl rfl (PureOp.eql rfl rfl) ?_
        refine SL.nil_then ?_
        refine WC.cond rfl (fun h4 => ?_) (fun h4 => ?_)
        · try simp only [Bool.and_eq_true, Bool.or_eq_true, Bool.not_eq_true', Bool.not_eq_false', Bool.and_eq_false_iff, Bool.or_eq_false_iff, decide_eq_true_eq, decide_eq_false_iff_not, Int.not_lt, Int.not_le, ne_eq, Decidable.not_not] at h4
          exact absurd h4 (lA_shut (.inl rfl) (by omega))
        · try simp only [Bool.and_eq_true, Bool.or_eq_true, Bool.not_eq_true', Bool.not_eq_false', Bool.and_eq_false_iff, Bool.or_eq_false_iff, decide_eq_true_eq, decide_eq_false_iff_not, Int.not_lt, Int.not_le, ne_eq, Decidable.not_not] at h4
          refine WC.skip ?_
          refine QX.normal_in ?_
          refine QX.then_ ?_
          refine WC.region ?_
          refine SL.pure rfl rfl rfl (PureOp.move rfl) ?_
          refine SL.pure rfl rfl rfl (PureOp.addN (k := 1) rfl rfl (fun _ => by first | omega | (have q1 := lA_le (l := l) (ev := 8) (e := (exE l t.taxes.l total fee).2) (by omega); omega))) ?_
          refine SL.pure rfl rfl rfl (PureOp.assign rfl) ?_
          refine SL.nil ?_
          refine QX.round 7 (k + 1) ⟨(by first | omega | (dsimp only; omega)), by first | omega | (dsimp only; omega)⟩ ⟨rfl, rfl, rfl, rfl, rfl, rfl, rfl, rfl, rfl, rfl, rfl, rfl, rfl, rfl, rfl, rfl, rfl, rfl, rfl, rfl, rfl, rfl, rfl, rfl, rfl, rfl, rfl, rfl, rfl, rfl, rfl, rfl, rfl, rfl, rfl, rfl, rfl, rfl, rfl, rfl, rfl, rfl, rfl, rfl, rfl, rfl, rfl, rfl, rfl, rfl, rfl, rfl, rfl, rfl, rfl, rfl, rfl, rfl, rfl, rfl, rfl, rfl, rfl, rfl, rfl, rfl, rfl, rfl, trivial⟩ rfl
      · try simp only [Bool.and_eq_true, Bool.or_eq_true, Bool.not_eq_true', Bool.not_eq_false', Bool.and_eq_false_iff, Bool.or_eq_false_iff, decide_eq_true_eq, decide_eq_false_iff_not, Int.not_lt, Int.not_le, ne_eq, Decidable.not_not] at h3
        refine WC.exit ?_
        refine QX.exit_then ?_
        refine QX.exit_then ?_
        refine QX.exit_hit ?_
        refine QX.then_ ?_
        refine WC.seq ?_
        refine WC.region ?_
        refine SL.pure rfl rfl rfl (PureOp.move rfl) ?_
        refine SL.pure rfl rfl rfl (PureOp.neq rfl rfl) ?_
        refine SL.pure rfl rfl rfl (PureOp.move rfl) ?_
        refine SL.newg 55 true rfl ?_
        refine SL.gcalle (c := 1) rfl rfl rfl rfl rfl rfl rfl rfl rfl rfl callable25 (by intro hg; simp [gval] at hg; exact (fun w hw => awake_ok w)) ?_
        refine SL.norm [_, _, _, _, _, _, _] rfl ?_
        refine SL.pure rfl rfl rfl (PureOp.and_ rfl rfl rfl rfl) ?_
        refine SL.pure rfl rfl rfl (PureOp.assign rfl) ?_
        refine SL.nil_then ?_
        refine WC.ret ?_
        refine QX.ret1 rfl rfl ?_
        intro w hw
        have q := once_err (x := (tkA t (exE l t.taxes.l total fee).2).taxes.l) (total := total) (fee := fee) (lA_none (l := l) (ev := 8) (e := (exE l t.taxes.l total fee).2) (.inl rfl))
        simp [q]

end Go.Proofs.Ytipmdakhmpaemaa
