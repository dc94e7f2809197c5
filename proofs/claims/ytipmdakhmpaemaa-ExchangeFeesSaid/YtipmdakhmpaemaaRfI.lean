import Derived.Test.YtipmdakhmpaemaaRfE
namespace Go.Proofs.Ytipmdakhmpaemaa
open Go Go.RowKit Eng
set_option linter.unusedVariables false
set_option linter.unusedSimpArgs false

set_option maxHeartbeats 4000000 in
set_option maxRecDepth 100000 in
theorem out_ok (n : Int) (w0 : World) : FnC Try.prog 50 [.int .i64 n] w0 fun v w' => v = .bool (outB n) := by
  refine fnc (N := 9) Try.func50 rfl rfl rfl ?_
  refine WC.seq ?_
  refine WC.region ?_
  refine SL.pure rfl rfl rfl (PureOp.assign rfl) ?_
  refine SL.nil_then ?_
  refine WC.seq ?_
  refine WC.region ?_
  refine SL.pure rfl rfl rfl (PureOp.move rfl) ?_
  refine SL.pure rfl rfl rfl (PureOp.lss rfl rfl) ?_
  refine SL.pure rfl rfl rfl (PureOp.move rfl) ?_
  refine SL.newg 5 false rfl ?_
  refine SL.gpure (c := 1) rfl rfl rfl rfl rfl rfl rfl (PureOp.move rfl) ?_
  refine SL.gpure (c := 1) rfl rfl rfl rfl rfl rfl rfl (PureOp.gtr rfl rfl) ?_
  refine SL.pure rfl rfl rfl (PureOp.or_ rfl rfl rfl rfl) ?_
  refine SL.pure rfl rfl rfl (PureOp.assign rfl) ?_
  refine SL.nil_then ?_
  refine WC.ret ?_
  refine QX.ret1 rfl rfl ?_
  intro w hw
  rfl

set_option maxHeartbeats 4000000 in
set_option maxRecDepth 100000 in
theorem within_ok (n : Int) (w0 : World) : FnC Try.prog 52 [.int .i64 n] w0 fun v w' => v = .bool (!outB n) := by
  refine fnc (N := 9) Try.func52 rfl rfl rfl ?_
  refine WC.seq ?_
  refine WC.region ?_
  refine SL.pure rfl rfl rfl (PureOp.assign rfl) ?_
  refine SL.nil_then ?_
  refine WC.seq ?_
  refine WC.region ?_
  refine SL.pure rfl rfl rfl (PureOp.move rfl) ?_
  refine SL.pure rfl rfl rfl (PureOp.geq rfl rfl) ?_
  refine SL.pure rfl rfl rfl (PureOp.move rfl) ?_
  refine SL.newg 5 true rfl ?_
  refine SL.gpure (c := 1) rfl rfl rfl rfl rfl rfl rfl (PureOp.move rfl) ?_
  refine SL.gpure (c := 1) rfl rfl rfl rfl rfl rfl rfl (PureOp.leq rfl rfl) ?_
  refine SL.pure rfl rfl rfl (PureOp.and_ rfl rfl rfl rfl) ?_
  refine SL.pure rfl rfl rfl (PureOp.assign rfl) ?_
  refine SL.nil_then ?_
  refine WC.ret ?_
  refine QX.ret1 rfl rfl ?_
  intro w hw
  rw [show (!outB n) = (decide (0 ≤ n) && decide (n ≤ 1099511627776)) from by cases q : outB n; (have q1 := outB_not.1 q; simp; omega); (have q1 := outB_iff.1 q; simp; omega)]

set_option maxHeartbeats 4000000 in
set_option maxRecDepth 100000 in
theorem xhas_ok (t : TK) (l : List Cp) (ao : Option Addr) (n cap : Nat) (hn : n = l.length) (w0 : World) (hz : SliceIn w0 11 ao n cap (rowsF enc65 l)) (hnb : n ≤ 1000) (hx : SliceIn w0 2 t.taxes.ao t.taxes.l.length t.taxes.cap (rowsF enc67 t.taxes.l)) (hxb : t.taxes.l.length ≤ 1000) : FnC Try.prog 53 [.agg #[.int .i64 t.num, .string t.loc, .string t.p1, .string t.p2, .string t.p3, .slice ao n cap, .int .i64 t.fare, .slice t.taxes.ao t.taxes.l.length t.taxes.cap, .int .i64 t.total, .int .i64 t.issued]] w0 fun v w' => v = .bool (anyB l) := by
  refine fnc (N := 18) Try.func53 rfl rfl rfl ?_
  refine WC.seq ?_
  refine WC.region ?_
  refine SL.box rfl rfl rfl (fun b1 hb1 => ?_)
  refine SL.norm [_] rfl ?_
  refine SL.pure rfl rfl rfl (PureOp.assign rfl) ?_
  refine SL.nil_then ?_
  refine WC.seq ?_
  refine WC.seq ?_
  refine WC.region ?_
  refine SL.pure rfl rfl rfl (PureOp.assign rfl) ?_
  refine SL.nil_then ?_
  refine WC.block ?_
  refine WC.loop (σ := Nat) (fun q_ => [(0, 0, .agg #[.int .i64 t.num, .string t.loc, .string t.p1, .string t.p2, .string t.p3, .slice ao n cap, .int .i64 t.fare, .slice t.taxes.ao t.taxes.l.length t.taxes.cap, .int .i64 t.total, .int .i64 t.issued]), (1, 0, .pointer (some ⟨b1, 0, none⟩)), (3, 0, .int .i64 ((q_ : Nat) : Int))]) (fun q_ => [Item.cells b1 [.int .i64 t.num, .string t.loc, .string t.p1, .string t.p2, .string t.p3, .slice ao n cap, .int .i64 t.fare, .slice t.taxes.ao t.taxes.l.length t.taxes.cap, .int .i64 t.total, .int .i64 t.issued] 27]) (fun q_ => q_ ≤ n ∧ anyB (l.take q_) = false) (fun q_ => n - q_) 1 (0) (⟨Nat.zero_le _, rfl⟩) ⟨rfl, rfl, rfl, rfl, rfl, rfl, trivial⟩ rfl ?_
  rintro k ⟨hk, ha⟩
  refine WC.seq ?_
  refine WC.seq ?_
  refine WC.region ?_
  refine SL.pure rfl rfl rfl (PureOp.move rfl) ?_
  refine SL.pure rfl rfl rfl (PureOp.fieldAddrT 5 Try.underlying27 rfl sz24 rfl rfl) ?_
  refine SL.pure rfl rfl rfl (PureOp.load (v := .slice ao n cap) Try.underlying24 rfl rfl (fun _ => (CellIs.cells 0 rfl rfl))) ?_
  refine SL.pure rfl rfl rfl (PureOp.len rfl Try.underlying24) ?_
  refine SL.pure rfl rfl rfl (PureOp.lss rfl rfl) ?_
  refine SL.nil_then ?_
  refine WC.cond rfl (fun h1 => ?_) (fun h1 => ?_)
  · try simp only [Bool.and_eq_true, Bool.or_eq_true, Bool.not_eq_true', Bool.not_eq_false', Bool.and_eq_false_iff, Bool.or_eq_false_iff, decide_eq_true_eq, decide_eq_false_iff_not, Int.not_lt, Int.not_le, ne_eq, Decidable.not_not] at h1
    refine WC.skip ?_
    refine QX.then_ ?_
    refine WC.seq ?_
    refine WC.block ?_
    refine WC.seq ?_
    refine WC.region ?_
    refine SL.pure rfl rfl rfl (PureOp.fieldAddrT 5 Try.underlying27 rfl sz24 rfl rfl) ?_
    refine SL.pure rfl rfl rfl (PureOp.load (v := .slice ao n cap) Try.underlying24 rfl rfl (fun _ => (CellIs.cells 0 rfl rfl))) ?_
    refine SL.pure rfl rfl rfl (PureOp.move rfl) ?_
    refine SL.pure rfl rfl rfl (PureOp.indexAddrN Try.underlying24 sz65 rfl rfl (AoOk.in_ hz) (fun _ => by omega)) ?_
    refine SL.pure rfl rfl rfl (PureOp.fieldAddr 9 Try.underlying65 rfl rfl sz3 rfl) ?_
    refine SL.pure rfl rfl rfl (PureOp.load (v := .int .i64 ((nth l k).2.2.1)) Try.underlying3 rfl rfl (fun _ => (CellIs.in_ hz k 9 (by omega) (by omega)))) ?_
    refine SL.pure rfl rfl rfl (PureOp.eql rfl rfl) ?_
    refine SL.nil_then ?_
    refine WC.cond rfl (fun h2 => ?_) (fun h2 => ?_)
    · try simp only [Bool.and_eq_true, Bool.or_eq_true, Bool.not_eq_true', Bool.not_eq_false', Bool.and_eq_false_iff, Bool.or_eq_false_iff, decide_eq_true_eq, decide_eq_false_iff_not, Int.not_lt, Int.not_le, ne_eq, Decidable.not_not] at h2
      refine WC.seq ?_
      refine WC.region ?_
      refine SL.pure rfl rfl rfl (PureOp.assign rfl) ?_
      refine SL.nil_then ?_
      refine WC.ret ?_
      refine QX.ret_in ?_
      refine QX.ret_then ?_
      refine QX.ret_then ?_
      refine QX.ret_in ?_
      refine QX.ret_then ?_
      refine QX.ret1 rfl rfl ?_
      intro w hw
      rw [any_at (by omega) h2]
    · try simp only [Bool.and_eq_true, Bool.or_eq_true, Bool.not_eq_true', Bool.not_eq_false', Bool.and_eq_false_iff, Bool.or_eq_false_iff, decide_eq_true_eq, decide_eq_false_iff_not, Int.not_lt, Int.not_le, ne_eq, Decidable.not_not] at h2
      refine WC.skip ?_
      refine QX.normal_in ?_
      refine QX.then_ ?_
      refine WC.region ?_
      refine SL.pure rfl rfl rfl (PureOp.move rfl) ?_
      refine SL.pure rfl rfl rfl (PureOp.addN (k := 1) rfl rfl (fun _ => by omega)) ?_
      refine SL.pure rfl rfl rfl (PureOp.assign rfl) ?_
      refine SL.nil ?_
      refine QX.round 1 (k + 1) ⟨⟨(by first | omega | (dsimp only; omega)), any_take (by omega) ha h2⟩, by first | omega | (dsimp only; omega)⟩ ⟨rfl, rfl, rfl, rfl, rfl, rfl, trivial⟩ rfl
  · try simp only [Bool.and_eq_true, Bool.or_eq_true, Bool.not_eq_true', Bool.not_eq_false', Bool.and_eq_false_iff, Bool.or_eq_false_iff, decide_eq_true_eq, decide_eq_false_iff_not, Int.not_lt, Int.not_le, ne_eq, Decidable.not_not] at h1
    refine WC.exit ?_
    refine QX.exit_then ?_
    refine QX.exit_then ?_
    refine QX.exit_hit ?_
    refine QX.then_ ?_
    refine WC.seq ?_
    refine WC.region ?_
    refine SL.pure rfl rfl rfl (PureOp.assign rfl) ?_
    refine SL.nil_then ?_
    refine WC.ret ?_
    refine QX.ret1 rfl rfl ?_
    intro w hw
    rw [any_take_all (by omega) ha]

set_option maxHeartbeats 4000000 in
set_option maxRecDepth 100000 in
theorem xof_ok (t : TK) (l : List Cp) (ao : Option Addr) (n cap : Nat) (hn : n = l.length) (w0 : World) (hz : SliceIn w0 11 ao n cap (rowsF enc65 l)) (hnb : n ≤ 1000) (hx : SliceIn w0 2 t.taxes.ao t.taxes.l.length t.taxes.cap (rowsF enc67 t.taxes.l)) (hxb : t.taxes.l.length ≤ 1000) (total fee : Int) : FnC Try.prog 26 [.agg #[.int .i64 t.num, .string t.loc, .string t.p1, .string t.p2, .string t.p3, .slice ao n cap, .int .i64 t.fare, .slice t.taxes.ao t.taxes.l.length t.taxes.cap, .int .i64 t.total, .int .i64 t.issued], .agg #[.slice none 0 0, .slice none 0 0, .slice none 0 0, .int .i64 0, .int .i64 total], .int .i64 fee] w0 fun v w' => v = .tuple #[.agg (encPd (exE l t.taxes.l total fee).1).toArray, .int .i64 (exE l t.taxes.l total fee).2] := by
  refine fnc (N := 60) Try.func26 rfl rfl rfl ?_
  refine WC.seq ?_
  refine WC.region ?_
  refine SL.box rfl rfl rfl (fun b1 hb1 => ?_)
  refine SL.norm [_] rfl ?_
  refine SL.box rfl rfl rfl (fun b2 hb2 => ?_)
  refine SL.norm [_, _] rfl ?_
  refine SL.alloc rfl rfl zero70 (fun b3 hb3 => ?_)
  refine SL.norm [_, _, _] rfl ?_
  refine SL.pure rfl rfl rfl (PureOp.assign rfl) ?_
  refine SL.nil_then ?_
  refine WC.seq ?_
  refine WC.seq ?_
  refine WC.region ?_
  refine SL.pure rfl rfl rfl (PureOp.move rfl) ?_
  refine SL.calle rfl rfl rfl rfl rfl rfl callable50 (fun w hw => out_ok fee w) ?_
  refine SL.norm [_, _, _] rfl ?_
  refine SL.pure rfl rfl rfl (PureOp.move rfl) ?_
  refine SL.newg 14 false rfl ?_
  refine SL.gpure (c := 1) rfl rfl rfl rfl rfl rfl rfl (PureOp.fieldAddrT 4 Try.underlying56 rfl sz3 rfl rfl) ?_
  refine SL.gpure (c := 1) rfl rfl rfl rfl rfl rfl rfl (PureOp.load (v := .int .i64 total) Try.underlying3 rfl rfl (fun _ => (CellIs.cells 1 rfl rfl))) ?_
  refine SL.gcalle (c := 1) rfl rfl rfl rfl rfl rfl rfl rfl rfl rfl callable50 (by intro hg; simp [gval] at hg; exact (fun w hw => out_ok total w)) ?_
  refine SL.norm [_, _, _] rfl ?_
  refine SL.pure rfl rfl rfl (PureOp.or_ rfl rfl rfl rfl) ?_
  refine SL.nil_then ?_
  refine WC.cond rfl (fun h1 => ?_) (fun h1 => ?_)
  · try simp only [Bool.and_eq_true, Bool.or_eq_true, Bool.not_eq_true', Bool.not_eq_false', Bool.and_eq_false_iff, Bool.or_eq_false_iff, decide_eq_true_eq, decide_eq_false_iff_not, Int.not_lt, Int.not_le, ne_eq, Decidable.not_not] at h1
    refine WC.seq ?_
    refine WC.region ?_
    refine SL.pure rfl rfl rfl (PureOp.build bld70 rfl rfl) ?_
    refine SL.store 2 rfl rfl rfl rfl sz70 rfl rfl ?_
    refine SL.norm [_, _, _] rfl ?_
    refine SL.pure rfl rfl rfl (PureOp.assign rfl) ?_
    refine SL.nil_then ?_
    refine WC.ret ?_
    refine QX.ret_then ?_
    refine QX.retv rfl (RVs.cons (RV.cell rfl Try.underlying70 rfl (RowIs.cells 2 0 4 rfl rfl) sz70) (RVs.cons (RV.tmp rfl) RVs.nil)) ?_
    intro w hw
    rw [ex_1 (by simpa using h1)]; rfl
  · try simp only [Bool.and_eq_true, Bool.or_eq_true, Bool.not_eq_true', Bool.not_eq_false', Bool.and_eq_false_iff, Bool.or_eq_false_iff, decide_eq_true_eq, decide_eq_false_iff_not, Int.not_lt, Int.not_le, ne_eq, Decidable.not_not] at h1
    refine WC.skip ?_
    refine QX.then_ ?_
    refine WC.seq ?_
    refine WC.region ?_
    refine SL.pure rfl rfl rfl (PureOp.loads (vs := [.int .i64 t.num, .string t.loc, .string t.p1, .string t.p2, .string t.p3, .slice ao n cap, .int .i64 t.fare, .slice t.taxes.ao t.taxes.l.length t.taxes.cap, .int .i64 t.total, .int .i64 t.issued]) Try.underlying27 rfl rfl (fun _ => (RowIs.cells 0 0 10 rfl rfl)) sz27) ?_
    refine SL.calle rfl rfl rfl rfl rfl rfl callable16 (fun w hw => of_ok t l ao n cap hn w (hz.below hw.below) hnb (hx.below hw.below) hxb 0) ?_
    refine SL.norm [_, _, _] rfl ?_
    refine SL.pure rfl rfl rfl (PureOp.move rfl) ?_
    refine SL.pure rfl rfl rfl (PureOp.extract rfl rfl) ?_
    refine SL.pure rfl rfl rfl (PureOp.extract rfl rfl) ?_
    refine SL.alloc rfl rfl zero34 (fun b4 hb4 => ?_)
    refine SL.norm [_, _, _, _] rfl ?_
    refine SL.store 3 rfl rfl rfl rfl sz34 rfl rfl ?_
    refine SL.norm [_, _, _, _] rfl ?_
    refine SL.pure rfl rfl rfl (PureOp.assign rfl) ?_
    refine SL.nil_then ?_
    refine WC.seq ?_
    refine WC.seq ?_
    refine WC.region ?_
    refine SL.pure rfl rfl rfl (PureOp.move rfl) ?_
    refine SL.pure rfl rfl rfl (PureOp.neq rfl rfl) ?_
    refine SL.nil_then ?_
    refine WC.cond rfl (fun h2 => ?_) (fun h2 => ?_)
    · try simp only [Bool.and_eq_true, Bool.or_eq_true, Bool.not_eq_true', Bool.not_eq_false', Bool.and_eq_false_iff, Bool.or_eq_false_iff, decide_eq_true_eq, decide_eq_false_iff_not, Int.not_lt, Int.not_le, ne_eq, Decidable.not_not] at h2
      refine WC.seq ?_
      refine WC.region ?_
      refine SL.pure rfl rfl rfl (PureOp.build bld70 rfl rfl) ?_
      refine SL.pure rfl rfl rfl (PureOp.move rfl) ?_
      refine SL.store 2 rfl rfl rfl rfl sz70 rfl rfl ?_
      refine SL.norm [_, _, _, _] rfl ?_
      refine SL.pure rfl rfl rfl (PureOp.assign rfl) ?_
      refine SL.nil_then ?_
      refine WC.ret ?_
      refine QX.ret_then ?_
      refine QX.retv rfl (RVs.cons (RV.cell rfl Try.underlying70 rfl (RowIs.cells 2 0 4 rfl rfl) sz70) (RVs.cons (RV.tmp rfl) RVs.nil)) ?_
      intro w hw
      rw [ex_2 h1.1 h1.2 h2]; rfl
    · try simp only [Bool.and_eq_true, Bool.or_eq_true, Bool.not_eq_true', Bool.not_eq_false', Bool.and_eq_false_iff, Bool.or_eq_false_iff, decide_eq_true_eq, decide_eq_false_iff_not, Int.not_lt, Int.not_le, ne_eq, Decidable.not_not] at h2
      refine WC.skip ?_
      refine QX.then_ ?_
      refine WC.seq ?_
      refine WC.seq ?_
      refine WC.region ?_
      refine SL.pure rfl rfl rfl (PureOp.fieldAddrT 5 Try.underlying27 rfl sz24 rfl rfl) ?_
      refine SL.pure rfl rfl rfl (PureOp.load (v := .slice ao n cap) Try.underlying24 rfl rfl (fun _ => (CellIs.cells 0 rfl rfl))) ?_
      refine SL.calle rfl rfl rfl rfl rfl rfl callable37 (fun w hw => has_xopen l ao n cap hn w (hz.below hw.below) hnb) ?_
      refine SL.norm [_, _, _, _] rfl ?_
      refine SL.pure rfl rfl rfl (PureOp.not rfl) ?_
      refine SL.nil_then ?_
      refine WC.cond rfl (fun h3 => ?_) (fun h3 => ?_)
      · try simp only [Bool.and_eq_true, Bool.or_eq_true, Bool.not_eq_true', Bool.not_eq_false', Bool.and_eq_false_iff, Bool.or_eq_false_iff, decide_eq_true_eq, decide_eq_false_iff_not, Int.not_lt, Int.not_le, ne_eq, Decidable.not_not] at h3
        exact absurd (show anyB l = false from h3) (by rw [ofE_ok (x := t.taxes.l) (fee := 0) (by omega)]; decide)
      · try simp only [Bool.and_eq_true, Bool.or_eq_true, Bool.not_eq_true', Bool.not_eq_false', Bool.and_eq_false_iff, Bool.or_eq_false_iff, decide_eq_true_eq, decide_eq_false_iff_not, Int.not_lt, Int.not_le, ne_eq, Decidable.not_not] at h3
        refine WC.skip ?_
        refine QX.then_ ?_
        refine WC.seq ?_
        refine WC.region ?_
        refine SL.pure rfl rfl rfl (PureOp.fieldAddrT 0 Try.underlying34 rfl sz3 rfl rfl) ?_
        refine SL.pure rfl rfl rfl (PureOp.load (v := .int .i64 ((ofE l t.taxes.l 0).1.1)) Try.underlying3 rfl rfl (fun _ => (CellIs.cells 3 rfl rfl))) ?_
        refine SL.pure rfl rfl rfl (PureOp.fieldAddrT 1 Try.underlying34 rfl sz3 rfl rfl) ?_
        refine SL.pure rfl rfl rfl (PureOp.load (v := .int .i64 ((ofE l t.taxes.l 0).1.2.1)) Try.underlying3 rfl rfl (fun _ => (CellIs.cells 3 rfl rfl))) ?_
        refine SL.pure rfl rfl rfl (PureOp.add rfl rfl (fun _ => by first | omega | (simp only [outB_not] at *; have q3 := ofE_fits l t.taxes.l 0; omega))) ?_
        refine SL.pure rfl rfl rfl (PureOp.move rfl) ?_
        refine SL.pure rfl rfl rfl (PureOp.build bld70 rfl rfl) ?_
        refine SL.alloc rfl rfl zero70 (fun b5 hb5 => ?_)
        refine SL.norm [_, _, _, _, _] rfl ?_
        refine SL.store 4 rfl rfl rfl rfl sz70 rfl rfl ?_
        refine SL.norm [_, _, _, _, _] rfl ?_
        refine SL.nil_then ?_
        refine WC.seq ?_
        refine WC.region ?_
        refine SL.pure rfl rfl rfl (PureOp.fieldAddrT 4 Try.underlying56 rfl sz3 rfl rfl) ?_
        refine SL.pure rfl rfl rfl (PureOp.load (v := .int .i64 total) Try.underlying3 rfl rfl (fun _ => (CellIs.cells 1 rfl rfl))) ?_
        refine SL.pure rfl rfl rfl (PureOp.move rfl) ?_
        refine SL.pure rfl rfl rfl (PureOp.add rfl rfl (fun _ => by first | omega | (simp only [outB_not] at *; have q3 := ofE_fits l t.taxes.l 0; omega))) ?_
        refine SL.pure rfl rfl rfl (PureOp.fieldAddrT 0 Try.underlying70 rfl sz3 rfl rfl) ?_
        refine SL.pure rfl rfl rfl (PureOp.load (v := .int .i64 (((ofE l t.taxes.l 0).1.1) + ((ofE l t.taxes.l 0).1.2.1))) Try.underlying3 rfl rfl (fun _ => (CellIs.cells 4 rfl rfl))) ?_
        refine SL.pure rfl rfl rfl (PureOp.sub rfl rfl (fun _ => by first | omega | (simp only [outB_not] at *; have q3 := ofE_fits l t.taxes.l 0; omega))) ?_
        refine SL.pure rfl rfl rfl (PureOp.assign rfl) ?_
        refine SL.nil_then ?_
        refine WC.seq ?_
        refine WC.region ?_
        refine SL.pure rfl rfl rfl (PureOp.move rfl) ?_
        refine SL.pure rfl rfl rfl (PureOp.max_ rfl rfl) ?_
        refine SL.pure rfl rfl rfl (PureOp.move rfl) ?_
        refine SL.pure rfl rfl rfl (PureOp.neg rfl (fun _ => by first | omega | (simp only [outB_not] at *; have q3 := ofE_fits l t.taxes.l 0; omega))) ?_
        refine SL.pure rfl rfl rfl (PureOp.max_ rfl rfl) ?_
        refine SL.pure rfl rfl rfl (PureOp.fieldAddrT 2 Try.underlying70 rfl sz3 rfl rfl) ?_
        refine SL.store 4 rfl rfl rfl rfl sz3 rfl rfl ?_
        refine SL.norm [_, _, _, _, _] rfl ?_
        refine SL.pure rfl rfl rfl (PureOp.fieldAddrT 3 Try.underlying70 rfl sz3 rfl rfl) ?_
        refine SL.store 4 rfl rfl rfl rfl sz3 rfl rfl ?_
        refine SL.norm [_, _, _, _, _] rfl ?_
        refine SL.nil_then ?_
        refine WC.seq ?_
        refine WC.seq ?_
        refine WC.region ?_
        refine SL.pure rfl rfl rfl (PureOp.fieldAddrT 2 Try.underlying70 rfl sz3 rfl rfl) ?_
        refine SL.pure rfl rfl rfl (PureOp.load (v := .int .i64 (max ((total + fee) - (((ofE l t.taxes.l 0).1.1) + ((ofE l t.taxes.l 0).1.2.1))) 0)) Try.underlying3 rfl rfl (fun _ => (CellIs.cells 4 rfl rfl))) ?_
        refine SL.pure rfl rfl rfl (PureOp.gtr rfl rfl) ?_
        refine SL.nil_then ?_
        refine WC.cond rfl (fun h4 => ?_) (fun h4 => ?_)
        · try simp only [Bool.and_eq_true, Bool.or_eq_true, Bool.not_eq_true', Bool.not_eq_false', Bool.and_eq_false_iff, Bool.or_eq_false_iff, decide_eq_true_eq, decide_eq_false_iff_not, Int.not_lt, Int.not_le, ne_eq, Decidable.not_not] at h4
          refine WC.seq ?_
          refine WC.region ?_
          refine SL.pure rfl rfl rfl (PureOp.build bld70 rfl rfl) ?_
          refine SL.store 2 rfl rfl rfl rfl sz70 rfl rfl ?_
          refine SL.norm [_, _, _, _, _] rfl ?_
          refine SL.pure rfl rfl rfl (PureOp.assign rfl) ?_
          refine SL.nil_then ?_
          refine WC.ret ?_
          refine QX.ret_then ?_
          refine QX.retv rfl (RVs.cons (RV.cell rfl Try.underlying70 rfl (RowIs.cells 2 0 4 rfl rfl) sz70) (RVs.cons (RV.tmp rfl) RVs.nil)) ?_
          intro w hw
          rw [ex_3 h1.1 h1.2 (by omega) (by unfold resid; omega)]; rfl
        · try simp only [Bool.and_eq_true, Bool.or_eq_true, Bool.not_eq_true', Bool.not_eq_false', Bool.and_eq_false_iff, Bool.or_eq_false_iff, decide_eq_true_eq, decide_eq_false_iff_not, Int.not_lt, Int.not_le, ne_eq, Decidable.not_not] at h4
          refine WC.skip ?_
          refine QX.then_ ?_
          refine WC.seq ?_
          refine WC.region ?_
          refine SL.pure rfl rfl rfl (PureOp.loads (vs := [.int .i64 (((ofE l t.taxes.l 0).1.1) + ((ofE l t.taxes.l 0).1.2.1)), .int .i64 fee, .int .i64 (max ((total + fee) - (((ofE l t.taxes.l 0).1.1) + ((ofE l t.taxes.l 0).1.2.1))) 0), .int .i64 (max (-((total + fee) - (((ofE l t.taxes.l 0).1.1) + ((ofE l t.taxes.l 0).1.2.1)))) 0)]) Try.underlying70 rfl rfl (fun _ => (RowIs.cells 4 0 4 rfl rfl)) sz70) ?_
          refine SL.store 2 rfl rfl rfl rfl sz70 rfl rfl ?_
          refine SL.norm [_, _, _, _, _] rfl ?_
          refine SL.pure rfl rfl rfl (PureOp.assign rfl) ?_
          refine SL.nil_then ?_
          refine WC.ret ?_
          refine QX.retv rfl (RVs.cons (RV.cell rfl Try.underlying70 rfl (RowIs.cells 2 0 4 rfl rfl) sz70) (RVs.cons (RV.tmp rfl) RVs.nil)) ?_
          intro w hw
          rw [ex_4 h1.1 h1.2 (by omega) (by unfold resid; omega)]; rfl

set_option maxHeartbeats 4000000 in
set_option maxRecDepth 100000 in
theorem rxof_ok (t : TK) (l : List Cp) (ao : Option Addr) (n cap : Nat) (hn : n = l.length) (w0 : World) (hz : SliceIn w0 11 ao n cap (rowsF enc65 l)) (hnb : n ≤ 1000) (hx : SliceIn w0 2 t.taxes.ao t.taxes.l.length t.taxes.cap (rowsF enc67 t.taxes.l)) (hxb : t.taxes.l.length ≤ 1000) (total fee : Int) (h64 : ∀ x ∈ opens l, In64 x) (h64x : ∀ x ∈ amts t.taxes.l, In64 x) : FnC Try.prog 27 [.agg #[.int .i64 t.num, .string t.loc, .string t.p1, .string t.p2, .string t.p3, .slice ao n cap, .int .i64 t.fare, .slice t.taxes.ao t.taxes.l.length t.taxes.cap, .int .i64 t.total, .int .i64 t.issued], .agg #[.slice none 0 0, .slice none 0 0, .slice none 0 0, .int .i64 0, .int .i64 total], .int .i64 fee] w0 fun v w' => v = .tuple #[.agg (encPd (exE l t.taxes.l total fee).1).toArray, .int .i64 (exE l t.taxes.l total fee).2] := by
  refine fnc (N := 60) Try.func27 rfl rfl rfl ?_
  refine WC.seq ?_
  refine WC.region ?_
  refine SL.box rfl rfl rfl (fun b1 hb1 => ?_)
  refine SL.norm [_] rfl ?_
  refine SL.box rfl rfl rfl (fun b2 hb2 => ?_)
  refine SL.norm [_, _] rfl ?_
  refine SL.alloc rfl rfl zero73 (fun b3 hb3 => ?_)
  refine SL.norm [_, _, _] rfl ?_
  refine SL.pure rfl rfl rfl (PureOp.assign rfl) ?_
  refine SL.nil_then ?_
  refine WC.seq ?_
  refine WC.seq ?_
  refine WC.region ?_
  refine SL.pure rfl rfl rfl (PureOp.move rfl) ?_
  refine SL.calle rfl rfl rfl rfl rfl rfl callable52 (fun w hw => within_ok fee w) ?_
  refine SL.norm [_, _, _] rfl ?_
  refine SL.pure rfl rfl rfl (PureOp.not rfl) ?_
  refine SL.pure rfl rfl rfl (PureOp.move rfl) ?_
  refine SL.newg 15 false rfl ?_
  refine SL.gpure (c := 1) rfl rfl rfl rfl rfl rfl rfl (PureOp.fieldAddrT 4 Try.underlying56 rfl sz3 rfl rfl) ?_
  refine SL.gpure (c := 1) rfl rfl rfl rfl rfl rfl rfl (PureOp.load (v := .int .i64 total) Try.underlying3 rfl rfl (fun _ => (CellIs.cells 1 rfl rfl))) ?_
  refine SL.gcalle (c := 1) rfl rfl rfl rfl rfl rfl rfl rfl rfl rfl callable52 (by intro hg; simp [gval] at hg; exact (fun w hw => within_ok total w)) ?_
  refine SL.norm [_, _, _] rfl ?_
  refine SL.gpure (c := 1) rfl rfl rfl rfl rfl rfl rfl (PureOp.not rfl) ?_
  refine SL.pure rfl rfl rfl (PureOp.or_ rfl rfl rfl rfl) ?_
  refine SL.nil_then ?_
  refine WC.cond rfl (fun h1 => ?_) (fun h1 => ?_)
  · try simp only [Bool.and_eq_true, Bool.or_eq_true, Bool.not_eq_true', Bool.not_eq_false', Bool.and_eq_false_iff, Bool.or_eq_false_iff, decide_eq_true_eq, decide_eq_false_iff_not, Int.not_lt, Int.not_le, ne_eq, Decidable.not_not] at h1
    refine WC.seq ?_
    refine WC.region ?_
    refine SL.pure rfl rfl rfl (PureOp.build bld73 rfl rfl) ?_
    refine SL.store 2 rfl rfl rfl rfl sz73 rfl rfl ?_
    refine SL.norm [_, _, _] rfl ?_
    refine SL.pure rfl rfl rfl (PureOp.assign rfl) ?_
    refine SL.nil_then ?_
    refine WC.ret ?_
    refine QX.ret_then ?_
    refine QX.retv rfl (RVs.cons (RV.cell rfl Try.underlying73 rfl (RowIs.cells 2 0 4 rfl rfl) sz73) (RVs.cons (RV.tmp rfl) RVs.nil)) ?_
    intro w hw
    rw [ex_1 (by simpa using h1)]; rfl
  · try simp only [Bool.and_eq_true, Bool.or_eq_true, Bool.not_eq_true', Bool.not_eq_false', Bool.and_eq_false_iff, Bool.or_eq_false_iff, decide_eq_true_eq, decide_eq_false_iff_not, Int.not_lt, Int.not_le, ne_eq, Decidable.not_not] at h1
    refine WC.skip ?_
    refine QX.then_ ?_
    refine WC.seq ?_
    refine WC.region ?_
    refine SL.pure rfl rfl rfl (PureOp.loads (vs := [.int .i64 t.num, .string t.loc, .string t.p1, .string t.p2, .string t.p3, .slice ao n cap, .int .i64 t.fare, .slice t.taxes.ao t.taxes.l.length t.taxes.cap, .int .i64 t.total, .int .i64 t.issued]) Try.underlying27 rfl rfl (fun _ => (RowIs.cells 0 0 10 rfl rfl)) sz27) ?_
    refine SL.calle rfl rfl rfl rfl rfl rfl callable17 (fun w hw => rof_ok t l ao n cap hn w (hz.below hw.below) hnb (hx.below hw.below) hxb 0 h64 h64x) ?_
    refine SL.norm [_, _, _] rfl ?_
    refine SL.pure rfl rfl rfl (PureOp.move rfl) ?_
    refine SL.pure rfl rfl rfl (PureOp.extract rfl rfl) ?_
    refine SL.pure rfl rfl rfl (PureOp.extract rfl rfl) ?_
    refine SL.alloc rfl rfl zero37 (fun b4 hb4 => ?_)
    refine SL.norm [_, _, _, _] rfl ?_
    refine SL.store 3 rfl rfl rfl rfl sz37 rfl rfl ?_
    refine SL.norm [_, _, _, _] rfl ?_
    refine SL.pure rfl rfl rfl (PureOp.assign rfl) ?_
    refine SL.nil_then ?_
    refine WC.seq ?_
    refine WC.seq ?_
    refine WC.region ?_
    refine SL.pure rfl rfl rfl (PureOp.move rfl) ?_
    refine SL.pure rfl rfl rfl (PureOp.neq rfl rfl) ?_
    refine SL.nil_then ?_
    refine WC.cond rfl (fun h2 => ?_) (fun h2 => ?_)
    · try simp only [Bool.and_eq_true, Bool.or_eq_true, Bool.not_eq_true', Bool.not_eq_false', Bool.and_eq_false_iff, Bool.or_eq_false_iff, decide_eq_true_eq, decide_eq_false_iff_not, Int.not_lt, Int.not_le, ne_eq, Decidable.not_not] at h2
      refine WC.seq ?_
      refine WC.region ?_
      refine SL.pure rfl rfl rfl (PureOp.build bld73 rfl rfl) ?_
      refine SL.pure rfl rfl rfl (PureOp.move rfl) ?_
      refine SL.store 2 rfl rfl rfl rfl sz73 rfl rfl ?_
      refine SL.norm [_, _, _, _] rfl ?_
      refine SL.pure rfl rfl rfl (PureOp.assign rfl) ?_
      refine SL.nil_then ?_
      refine WC.ret ?_
      refine QX.ret_then ?_
      refine QX.retv rfl (RVs.cons (RV.cell rfl Try.underlying73 rfl (RowIs.cells 2 0 4 rfl rfl) sz73) (RVs.cons (RV.tmp rfl) RVs.nil)) ?_
      intro w hw
      rw [ex_2 h1.1 h1.2 h2]; rfl
    · try simp only [Bool.and_eq_true, Bool.or_eq_true, Bool.not_eq_true', Bool.not_eq_false', Bool.and_eq_false_iff, Bool.or_eq_false_iff, decide_eq_true_eq, decide_eq_false_iff_not, Int.not_lt, Int.not_le, ne_eq, Decidable.not_not] at h2
      refine WC.skip ?_
      refine QX.then_ ?_
      refine WC.seq ?_
      refine WC.seq ?_
      refine WC.region ?_
      refine SL.pure rfl rfl rfl (PureOp.loads (vs := [.int .i64 t.num, .string t.loc, .string t.p1, .string t.p2, .string t.p3, .slice ao n cap, .int .i64 t.fare, .slice t.taxes.ao t.taxes.l.length t.taxes.cap, .int .i64 t.total, .int .i64 t.issued]) Try.underlying27 rfl rfl (fun _ => (RowIs.cells 0 0 10 rfl rfl)) sz27) ?_
      refine SL.calle rfl rfl rfl rfl rfl rfl callable53 (fun w hw => xhas_ok t l ao n cap hn w (hz.below hw.below) hnb (hx.below hw.below) hxb) ?_
      refine SL.norm [_, _, _, _] rfl ?_
      refine SL.pure rfl rfl rfl (PureOp.not rfl) ?_
      refine SL.nil_then ?_
      refine WC.cond rfl (fun h3 => ?_) (fun h3 => ?_)
      · try simp only [Bool.and_eq_true, Bool.or_eq_true, Bool.not_eq_true', Bool.not_eq_false', Bool.and_eq_false_iff, Bool.or_eq_false_iff, decide_eq_true_eq, decide_eq_false_iff_not, Int.not_lt, Int.not_le, ne_eq, Decidable.not_not] at h3
        exact absurd (show anyB l = false from h3) (by rw [ofE_ok (x := t.taxes.l) (fee := 0) (by omega)]; decide)
      · try simp only [Bool.and_eq_true, Bool.or_eq_true, Bool.not_eq_true', Bool.not_eq_false', Bool.and_eq_false_iff, Bool.or_eq_false_iff, decide_eq_true_eq, decide_eq_false_iff_not, Int.not_lt, Int.not_le, ne_eq, Decidable.not_not] at h3
        refine WC.skip ?_
        refine QX.then_ ?_
        refine WC.seq ?_
        refine WC.region ?_
        refine SL.pure rfl rfl rfl (PureOp.fieldAddrT 0 Try.underlying37 rfl sz3 rfl rfl) ?_
        refine SL.pure rfl rfl rfl (PureOp.load (v := .int .i64 ((ofE l t.taxes.l 0).1.1)) Try.underlying3 rfl rfl (fun _ => (CellIs.cells 3 rfl rfl))) ?_
        refine SL.pure rfl rfl rfl (PureOp.fieldAddrT 1 Try.underlying37 rfl sz3 rfl rfl) ?_
        refine SL.pure rfl rfl rfl (PureOp.load (v := .int .i64 ((ofE l t.taxes.l 0).1.2.1)) Try.underlying3 rfl rfl (fun _ => (CellIs.cells 3 rfl rfl))) ?_
        refine SL.pure rfl rfl rfl (PureOp.add rfl rfl (fun _ => by first | omega | (simp only [outB_not] at *; have q3 := ofE_fits l t.taxes.l 0; omega))) ?_
        refine SL.pure rfl rfl rfl (PureOp.move rfl) ?_
        refine SL.pure rfl rfl rfl (PureOp.build bld73 rfl rfl) ?_
        refine SL.alloc rfl rfl zero73 (fun b5 hb5 => ?_)
        refine SL.norm [_, _, _, _, _] rfl ?_
        refine SL.store 4 rfl rfl rfl rfl sz73 rfl rfl ?_
        refine SL.norm [_, _, _, _, _] rfl ?_
        refine SL.nil_then ?_
        refine WC.seq ?_
        refine WC.region ?_
        refine SL.pure rfl rfl rfl (PureOp.fieldAddrT 4 Try.underlying56 rfl sz3 rfl rfl) ?_
        refine SL.pure rfl rfl rfl (PureOp.load (v := .int .i64 total) Try.underlying3 rfl rfl (fun _ => (CellIs.cells 1 rfl rfl))) ?_
        refine SL.pure rfl rfl rfl (PureOp.move rfl) ?_
        refine SL.pure rfl rfl rfl (PureOp.add rfl rfl (fun _ => by first | omega | (simp only [outB_not] at *; have q3 := ofE_fits l t.taxes.l 0; omega))) ?_
        refine SL.pure rfl rfl rfl (PureOp.fieldAddrT 0 Try.underlying73 rfl sz3 rfl rfl) ?_
        refine SL.pure rfl rfl rfl (PureOp.load (v := .int .i64 (((ofE l t.taxes.l 0).1.1) + ((ofE l t.taxes.l 0).1.2.1))) Try.underlying3 rfl rfl (fun _ => (CellIs.cells 4 rfl rfl))) ?_
        refine SL.pure rfl rfl rfl (PureOp.sub rfl rfl (fun _ => by first | omega | (simp only [outB_not] at *; have q3 := ofE_fits l t.taxes.l 0; omega))) ?_
        refine SL.pure rfl rfl rfl (PureOp.assign rfl) ?_
        refine SL.nil_then ?_
        refine WC.seq ?_
        refine WC.seq ?_
        refine WC.region ?_
        refine SL.pure rfl rfl rfl (PureOp.move rfl) ?_
        refine SL.pure rfl rfl rfl (PureOp.gtr rfl rfl) ?_
        refine SL.nil_then ?_
        refine WC.cond rfl (fun h4 => ?_) (fun h4 => ?_)
        · try simp only [Bool.and_eq_true, Bool.or_eq_true, Bool.not_eq_true', Bool.not_eq_false', Bool.and_eq_false_iff, Bool.or_eq_false_iff, decide_eq_true_eq, decide_eq_false_iff_not, Int.not_lt, Int.not_le, ne_eq, Decidable.not_not] at h4
          refine WC.seq ?_
          refine WC.region ?_
          refine SL.pure rfl rfl rfl (PureOp.build bld73 rfl rfl) ?_
          refine SL.store 2 rfl rfl rfl rfl sz73 rfl rfl ?_
          refine SL.norm [_, _, _, _, _] rfl ?_
          refine SL.pure rfl rfl rfl (PureOp.assign rfl) ?_
          refine SL.nil_then ?_
          refine WC.ret ?_
          refine QX.ret_then ?_
          refine QX.retv rfl (RVs.cons (RV.cell rfl Try.underlying73 rfl (RowIs.cells 2 0 4 rfl rfl) sz73) (RVs.cons (RV.tmp rfl) RVs.nil)) ?_
          intro w hw
          rw [ex_3 h1.1 h1.2 (by omega) (by unfold resid; omega)]; rfl
        · try simp only [Bool.and_eq_true, Bool.or_eq_true, Bool.not_eq_true', Bool.not_eq_false', Bool.and_eq_false_iff, Bool.or_eq_false_iff, decide_eq_true_eq, decide_eq_false_iff_not, Int.not_lt, Int.not_le, ne_eq, Decidable.not_not] at h4
          refine WC.skip ?_
          refine QX.then_ ?_
          refine WC.seq ?_
          refine WC.seq ?_
          refine WC.region ?_
          refine SL.pure rfl rfl rfl (PureOp.move rfl) ?_
          refine SL.pure rfl rfl rfl (PureOp.gtr rfl rfl) ?_
          refine SL.nil_then ?_
          refine WC.cond rfl (fun h5 => ?_) (fun h5 => ?_)
          · try simp only [Bool.and_eq_true, Bool.or_eq_true, Bool.not_eq_true', Bool.not_eq_false', Bool.and_eq_false_iff, Bool.or_eq_false_iff, decide_eq_true_eq, decide_eq_false_iff_not, Int.not_lt, Int.not_le, ne_eq, Decidable.not_not] at h5
            refine WC.region ?_
            refine SL.pure rfl rfl rfl (PureOp.move rfl) ?_
            refine SL.pure rfl rfl rfl (PureOp.fieldAddrT 2 Try.underlying73 rfl sz3 rfl rfl) ?_
            refine SL.store 4 rfl rfl rfl rfl sz3 rfl rfl ?_
            refine SL.norm [_, _, _, _, _] rfl ?_
            refine SL.nil_then ?_
            refine WC.seq ?_
            refine WC.region ?_
            refine SL.pure rfl rfl rfl (PureOp.loads (vs := [.int .i64 (((ofE l t.taxes.l 0).1.1) + ((ofE l t.taxes.l 0).1.2.1)), .int .i64 fee, .int .i64 ((total + fee) - (((ofE l t.taxes.l 0).1.1) + ((ofE l t.taxes.l 0).1.2.1))), .int .i64 0]) Try.underlying73 rfl rfl (fun _ => (RowIs.cells 4 0 4 rfl rfl)) sz73) ?_
            refine SL.store 2 rfl rfl rfl rfl sz73 rfl rfl ?_
            refine SL.norm [_, _, _, _, _] rfl ?_
            refine SL.pure rfl rfl rfl (PureOp.assign rfl) ?_
            refine SL.nil_then ?_
            refine WC.ret ?_
            refine QX.retv rfl (RVs.cons (RV.cell rfl Try.underlying73 rfl (RowIs.cells 2 0 4 rfl rfl) sz73) (RVs.cons (RV.tmp rfl) RVs.nil)) ?_
            intro w hw
            rw [ex_4 h1.1 h1.2 (by omega) (by unfold resid; omega), show max (total + fee - resid l t.taxes.l) 0 = total + fee - resid l t.taxes.l from by unfold resid; omega, show max (-(total + fee - resid l t.taxes.l)) 0 = 0 from by unfold resid; omega]; rfl
          · try simp only [Bool.and_eq_true, Bool.or_eq_true, Bool.not_eq_true', Bool.not_eq_false', Bool.and_eq_false_iff, Bool.or_eq_false_iff, decide_eq_true_eq, decide_eq_false_iff_not, Int.not_lt, Int.not_le, ne_eq, Decidable.not_not] at h5
            refine WC.region ?_
            refine SL.pure rfl rfl rfl (PureOp.move rfl) ?_
            refine SL.pure rfl rfl rfl (PureOp.neg rfl (fun _ => by first | omega | (simp only [outB_not] at *; have q3 := ofE_fits l t.taxes.l 0; omega))) ?_
            refine SL.pure rfl rfl rfl (PureOp.fieldAddrT 3 Try.underlying73 rfl sz3 rfl rfl) ?_
            refine SL.store 4 rfl rfl rfl rfl sz3 rfl rfl ?_
            refine SL.norm [_, _, _, _, _] rfl ?_
            refine SL.nil_then ?_
            refine WC.seq ?_
            refine WC.region ?_
            refine SL.pure rfl rfl rfl (PureOp.loads (vs := [.int .i64 (((ofE l t.taxes.l 0).1.1) + ((ofE l t.taxes.l 0).1.2.1)), .int .i64 fee, .int .i64 0, .int .i64 (-((total + fee) - (((ofE l t.taxes.l 0).1.1) + ((ofE l t.taxes.l 0).1.2.1))))]) Try.underlying73 rfl rfl (fun _ => (RowIs.cells 4 0 4 rfl rfl)) sz73) ?_
            refine SL.store 2 rfl rfl rfl rfl sz73 rfl rfl ?_
            refine SL.norm [_, _, _, _, _] rfl ?_
            refine SL.pure rfl rfl rfl (PureOp.assign rfl) ?_
            refine SL.nil_then ?_
            refine WC.ret ?_
            refine QX.retv rfl (RVs.cons (RV.cell rfl Try.underlying73 rfl (RowIs.cells 2 0 4 rfl rfl) sz73) (RVs.cons (RV.tmp rfl) RVs.nil)) ?_
            intro w hw
            rw [ex_4 h1.1 h1.2 (by omega) (by unfold resid; omega), show max (total + fee - resid l t.taxes.l) 0 = 0 from by unfold resid; omega, show max (-(total + fee - resid l t.taxes.l)) 0 = -(total + fee - resid l t.taxes.l) from by unfold resid; omega]; rfl

end Go.Proofs.Ytipmdakhmpaemaa
