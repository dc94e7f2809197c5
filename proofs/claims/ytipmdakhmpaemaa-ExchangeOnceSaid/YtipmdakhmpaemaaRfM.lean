import Derived.Test.YtipmdakhmpaemaaPlain
import Derived.Test.YtipmdakhmpaemaaFacts
namespace Go.Proofs.Ytipmdakhmpaemaa
open Go Go.RowKit Eng
set_option linter.unusedVariables false
set_option linter.unusedSimpArgs false

set_option maxHeartbeats 4000000 in
set_option maxRecDepth 100000 in
theorem odd_ok (t : TK) (l : List Cp) (ao : Option Addr) (n cap : Nat) (hn : n = l.length) (w0 : World) (hz : SliceIn w0 11 ao n cap (rowsF enc65 l)) (hx : SliceIn w0 2 t.taxes.ao t.taxes.l.length t.taxes.cap (rowsF enc67 t.taxes.l)) : FnC Try.prog 12 [.agg #[.int .i64 t.num, .string t.loc, .string t.p1, .string t.p2, .string t.p3, .slice ao n cap, .int .i64 t.fare, .slice t.taxes.ao t.taxes.l.length t.taxes.cap, .int .i64 t.total, .int .i64 t.issued]] w0 fun v w' => ∃ b, v = .bool b ∧ (b = false → EvenT l t.taxes.l) := by
  refine fnc (N := 43) Try.func12 rfl rfl rfl ?_
  refine WC.seq ?_
  refine WC.region ?_
  refine SL.box rfl rfl rfl (fun b1 hb1 => ?_)
  refine SL.norm [_] rfl ?_
  refine SL.pure rfl rfl rfl (PureOp.assign rfl) ?_
  refine SL.nil_then ?_
  refine WC.seq ?_
  refine WC.seq ?_
  refine WC.region ?_
  refine SL.pure rfl rfl rfl (PureOp.assign rfl) ?_
  refine SL.nil_then ?_
  refine WC.block ?_
  refine WC.loop (σ := Nat) (fun q_ => [(0, 0, .agg #[.int .i64 t.num, .string t.loc, .string t.p1, .string t.p2, .string t.p3, .slice ao n cap, .int .i64 t.fare, .slice t.taxes.ao t.taxes.l.length t.taxes.cap, .int .i64 t.total, .int .i64 t.issued]), (1, 0, .pointer (some ⟨b1, 0, none⟩)), (3, 0, .int .i64 ((q_ : Nat) : Int))]) (fun q_ => [Item.cells b1 [.int .i64 t.num, .string t.loc, .string t.p1, .string t.p2, .string t.p3, .slice ao n cap, .int .i64 t.fare, .slice t.taxes.ao t.taxes.l.length t.taxes.cap, .int .i64 t.total, .int .i64 t.issued] 27]) (fun q_ => q_ ≤ n ∧ (∀ c ∈ l.take q_, 0 ≤ c.2.2.2)) (fun q_ => n - q_) 1 (0) (⟨Nat.zero_le _, by simp⟩) ⟨rfl, rfl, rfl, rfl, rfl, rfl, trivial⟩ rfl ?_
  rintro k ⟨hk, ha⟩
  refine WC.seq ?_
  refine WC.seq ?_
  refine WC.region ?_
  refine SL.pure rfl rfl rfl (PureOp.move rfl) ?_
  refine SL.pure rfl rfl rfl (PureOp.fieldAddrT 5 Try.underlying27 rfl sz24 rfl rfl) ?_
  refine SL.pure rfl rfl rfl (PureOp.load (v := .slice ao n cap) Try.underlying24 rfl rfl (fun _ => (CellIs.cells 0 rfl rfl))) ?_
  refine SL.pure rfl rfl rfl (PureOp.len rfl Try.underlying24) ?_
  refine SL.pure rfl rfl rfl (PureOp.lss rfl rfl) ?_
  refine SL.nil_then ?_
  refine WC.cond rfl (fun h1 => ?_) (fun h1 => ?_)
  · try simp only [Bool.and_eq_true, Bool.or_eq_true, Bool.not_eq_true', Bool.not_eq_false', Bool.and_eq_false_iff, Bool.or_eq_false_iff, decide_eq_true_eq, decide_eq_false_iff_not, Int.not_lt, Int.not_le, ne_eq, Decidable.not_not] at h1
    refine WC.skip ?_
    refine QX.then_ ?_
    refine WC.seq ?_
    refine WC.block ?_
    refine WC.seq ?_
    refine WC.region ?_
    refine SL.pure rfl rfl rfl (PureOp.fieldAddrT 5 Try.underlying27 rfl sz24 rfl rfl) ?_
    refine SL.pure rfl rfl rfl (PureOp.load (v := .slice ao n cap) Try.underlying24 rfl rfl (fun _ => (CellIs.cells 0 rfl rfl))) ?_
    refine SL.pure rfl rfl rfl (PureOp.move rfl) ?_
    refine SL.pure rfl rfl rfl (PureOp.indexAddrN Try.underlying24 sz65 rfl rfl (AoOk.in_ hz) (fun _ => by first | omega | (have q1 := hz.le; have q2 := hz.max; have q3 := hx.le; have q4 := hx.max; unfold maxLen at q2 q4; omega))) ?_
    refine SL.pure rfl rfl rfl (PureOp.fieldAddr 10 Try.underlying65 rfl rfl sz3 rfl) ?_
    refine SL.pure rfl rfl rfl (PureOp.load (v := .int .i64 ((nth l k).2.2.2)) Try.underlying3 rfl rfl (fun _ => (CellIs.in_ hz k 10 (by first | omega | (have q1 := hz.le; have q2 := hz.max; have q3 := hx.le; have q4 := hx.max; unfold maxLen at q2 q4; omega)) (by omega)))) ?_
    refine SL.pure rfl rfl rfl (PureOp.lss rfl rfl) ?_
    refine SL.nil_then ?_
    refine WC.cond rfl (fun h2 => ?_) (fun h2 => ?_)
    · try simp only [Bool.and_eq_true, Bool.or_eq_true, Bool.not_eq_true', Bool.not_eq_false', Bool.and_eq_false_iff, Bool.or_eq_false_iff, decide_eq_true_eq, decide_eq_false_iff_not, Int.not_lt, Int.not_le, ne_eq, Decidable.not_not] at h2
      refine WC.seq ?_
      refine WC.region ?_
      refine SL.pure rfl rfl rfl (PureOp.assign rfl) ?_
      refine SL.nil_then ?_
      refine WC.ret ?_
      refine QX.ret_in ?_
      refine QX.ret_then ?_
      refine QX.ret_then ?_
      refine QX.ret_in ?_
      refine QX.ret_then ?_
      refine QX.ret1 rfl rfl ?_
      intro w hw
      exact ⟨true, rfl, fun q => by cases q⟩
    · try simp only [Bool.and_eq_true, Bool.or_eq_true, Bool.not_eq_true', Bool.not_eq_false', Bool.and_eq_false_iff, Bool.or_eq_false_iff, decide_eq_true_eq, decide_eq_false_iff_not, Int.not_lt, Int.not_le, ne_eq, Decidable.not_not] at h2
      refine WC.skip ?_
      refine QX.normal_in ?_
      refine QX.then_ ?_
      refine WC.region ?_
      refine SL.pure rfl rfl rfl (PureOp.move rfl) ?_
      refine SL.pure rfl rfl rfl (PureOp.addN (k := 1) rfl rfl (fun _ => by first | omega | (have q1 := hz.le; have q2 := hz.max; have q3 := hx.le; have q4 := hx.max; unfold maxLen at q2 q4; omega))) ?_
      refine SL.pure rfl rfl rfl (PureOp.assign rfl) ?_
      refine SL.nil ?_
      refine QX.round 1 (k + 1) ⟨⟨(by first | omega | (dsimp only; omega)), all_take (by omega) ha (by omega)⟩, by first | omega | (dsimp only; omega)⟩ ⟨rfl, rfl, rfl, rfl, rfl, rfl, trivial⟩ rfl
  · try simp only [Bool.and_eq_true, Bool.or_eq_true, Bool.not_eq_true', Bool.not_eq_false', Bool.and_eq_false_iff, Bool.or_eq_false_iff, decide_eq_true_eq, decide_eq_false_iff_not, Int.not_lt, Int.not_le, ne_eq, Decidable.not_not] at h1
    refine WC.exit ?_
    refine QX.exit_then ?_
    refine QX.exit_then ?_
    refine QX.exit_hit ?_
    refine QX.then_ ?_
    refine WC.seq ?_
    refine WC.seq ?_
    refine WC.region ?_
    refine SL.pure rfl rfl rfl (PureOp.assign rfl) ?_
    refine SL.nil_then ?_
    refine WC.block ?_
    refine WC.loop (σ := Nat) (fun q_ => [(0, 0, .agg #[.int .i64 t.num, .string t.loc, .string t.p1, .string t.p2, .string t.p3, .slice ao n cap, .int .i64 t.fare, .slice t.taxes.ao t.taxes.l.length t.taxes.cap, .int .i64 t.total, .int .i64 t.issued]), (1, 0, .pointer (some ⟨b1, 0, none⟩)), (3, 0, .int .i64 ((k : Nat) : Int)), (5, 0, .int .i64 ((k : Nat) : Int)), (6, 0, .pointer (some ⟨b1, 5, none⟩)), (7, 0, .slice ao n cap), (8, 0, .int .i64 ((n : Nat) : Int)), (9, 0, .bool (decide (((k : Nat) : Int) < ((n : Nat) : Int)))), (4, 0, .int .i64 ((q_ : Nat) : Int))]) (fun q_ => [Item.cells b1 [.int .i64 t.num, .string t.loc, .string t.p1, .string t.p2, .string t.p3, .slice ao n cap, .int .i64 t.fare, .slice t.taxes.ao t.taxes.l.length t.taxes.cap, .int .i64 t.total, .int .i64 t.issued] 27]) (fun q_ => q_ ≤ t.taxes.l.length ∧ (∀ y ∈ t.taxes.l.take q_, 0 ≤ y.2)) (fun q_ => t.taxes.l.length - q_) 1 (0) (⟨Nat.zero_le _, by simp⟩) ⟨rfl, rfl, rfl, rfl, rfl, rfl, rfl, rfl, rfl, rfl, rfl, rfl, rfl, rfl, rfl, rfl, rfl, rfl, trivial⟩ rfl ?_
    rintro j ⟨hj, hb⟩
    refine WC.seq ?_
    refine WC.seq ?_
    refine WC.region ?_
    refine SL.pure rfl rfl rfl (PureOp.move rfl) ?_
    refine SL.pure rfl rfl rfl (PureOp.fieldAddrT 7 Try.underlying27 rfl sz25 rfl rfl) ?_
    refine SL.pure rfl rfl rfl (PureOp.load (v := .slice t.taxes.ao t.taxes.l.length t.taxes.cap) Try.underlying25 rfl rfl (fun _ => (CellIs.cells 0 rfl rfl))) ?_
    refine SL.pure rfl rfl rfl (PureOp.len rfl Try.underlying25) ?_
    refine SL.pure rfl rfl rfl (PureOp.lss rfl rfl) ?_
    refine SL.nil_then ?_
    refine WC.cond rfl (fun h3 => ?_) (fun h3 => ?_)
    · try simp only [Bool.and_eq_true, Bool.or_eq_true, Bool.not_eq_true', Bool.not_eq_false', Bool.and_eq_false_iff, Bool.or_eq_false_iff, decide_eq_true_eq, decide_eq_false_iff_not, Int.not_lt, Int.not_le, ne_eq, Decidable.not_not] at h3
      refine WC.skip ?_
      refine QX.then_ ?_
      refine WC.seq ?_
      refine WC.block ?_
      refine WC.seq ?_
      refine WC.region ?_
      refine SL.pure rfl rfl rfl (PureOp.fieldAddrT 7 Try.underlying27 rfl sz25 rfl rfl) ?_
      refine SL.pure rfl rfl rfl (PureOp.load (v := .slice t.taxes.ao t.taxes.l.length t.taxes.cap) Try.underlying25 rfl rfl (fun _ => (CellIs.cells 0 rfl rfl))) ?_
      refine SL.pure rfl rfl rfl (PureOp.move rfl) ?_
      refine SL.pure rfl rfl rfl (PureOp.indexAddrN Try.underlying25 sz67 rfl rfl (AoOk.in_ hx) (fun _ => by first | omega | (have q1 := hz.le; have q2 := hz.max; have q3 := hx.le; have q4 := hx.max; unfold maxLen at q2 q4; omega))) ?_
      refine SL.pure rfl rfl rfl (PureOp.fieldAddr 1 Try.underlying67 rfl rfl sz3 rfl) ?_
      refine SL.pure rfl rfl rfl (PureOp.load (v := .int .i64 ((nth t.taxes.l j).2)) Try.underlying3 rfl rfl (fun _ => (CellIs.in_ hx j 1 (by first | omega | (have q1 := hz.le; have q2 := hz.max; have q3 := hx.le; have q4 := hx.max; unfold maxLen at q2 q4; omega)) (by omega)))) ?_
      refine SL.pure rfl rfl rfl (PureOp.lss rfl rfl) ?_
      refine SL.nil_then ?_
      refine WC.cond rfl (fun h4 => ?_) (fun h4 => ?_)
      · try simp only [Bool.and_eq_true, Bool.or_eq_true, Bool.not_eq_true', Bool.not_eq_false', Bool.and_eq_false_iff, Bool.or_eq_false_iff, decide_eq_true_eq, decide_eq_false_iff_not, Int.not_lt, Int.not_le, ne_eq, Decidable.not_not] at h4
        refine WC.seq ?_
        refine WC.region ?_
        refine SL.pure rfl rfl rfl (PureOp.assign rfl) ?_
        refine SL.nil_then ?_
        refine WC.ret ?_
        refine QX.ret_in ?_
        refine QX.ret_then ?_
        refine QX.ret_then ?_
        refine QX.ret_in ?_
        refine QX.ret_then ?_
        refine QX.ret1 rfl rfl ?_
        intro w hw
        exact ⟨true, rfl, fun q => by cases q⟩
      · try simp only [Bool.and_eq_true, Bool.or_eq_true, Bool.not_eq_true', Bool.not_eq_false', Bool.and_eq_false_iff, Bool.or_eq_false_iff, decide_eq_true_eq, decide_eq_false_iff_not, Int.not_lt, Int.not_le, ne_eq, Decidable.not_not] at h4
        refine WC.skip ?_
        refine QX.normal_in ?_
        refine QX.then_ ?_
        refine WC.region ?_
        refine SL.pure rfl rfl rfl (PureOp.move rfl) ?_
        refine SL.pure rfl rfl rfl (PureOp.addN (k := 1) rfl rfl (fun _ => by first | omega | (have q1 := hz.le; have q2 := hz.max; have q3 := hx.le; have q4 := hx.max; unfold maxLen at q2 q4; omega))) ?_
        refine SL.pure rfl rfl rfl (PureOp.assign rfl) ?_
        refine SL.nil ?_
        refine QX.round 1 (j + 1) ⟨⟨(by first | omega | (dsimp only; omega)), all_take (by omega) hb (by omega)⟩, by first | omega | (dsimp only; omega)⟩ ⟨rfl, rfl, rfl, rfl, rfl, rfl, rfl, rfl, rfl, rfl, rfl, rfl, rfl, rfl, rfl, rfl, rfl, rfl, trivial⟩ rfl
    · try simp only [Bool.and_eq_true, Bool.or_eq_true, Bool.not_eq_true', Bool.not_eq_false', Bool.and_eq_false_iff, Bool.or_eq_false_iff, decide_eq_true_eq, decide_eq_false_iff_not, Int.not_lt, Int.not_le, ne_eq, Decidable.not_not] at h3
      refine WC.exit ?_
      refine QX.exit_then ?_
      refine QX.exit_then ?_
      refine QX.exit_hit ?_
      refine QX.then_ ?_
      refine WC.seq ?_
      refine WC.region ?_
      refine SL.pure rfl rfl rfl (PureOp.fieldAddrT 5 Try.underlying27 rfl sz24 rfl rfl) ?_
      refine SL.pure rfl rfl rfl (PureOp.load (v := .slice ao n cap) Try.underlying24 rfl rfl (fun _ => (CellIs.cells 0 rfl rfl))) ?_
      refine SL.pure rfl rfl rfl (PureOp.len rfl Try.underlying24) ?_
      refine SL.pure rfl rfl rfl (PureOp.gtr rfl rfl) ?_
      refine SL.pure rfl rfl rfl (PureOp.move rfl) ?_
      refine SL.newg 37 false rfl ?_
      refine SL.gpure (c := 1) rfl rfl rfl rfl rfl rfl rfl (PureOp.fieldAddrT 7 Try.underlying27 rfl sz25 rfl rfl) ?_
      refine SL.gpure (c := 1) rfl rfl rfl rfl rfl rfl rfl (PureOp.load (v := .slice t.taxes.ao t.taxes.l.length t.taxes.cap) Try.underlying25 rfl rfl (fun _ => (CellIs.cells 0 rfl rfl))) ?_
      refine SL.gpure (c := 1) rfl rfl rfl rfl rfl rfl rfl (PureOp.len rfl Try.underlying25) ?_
      refine SL.gpure (c := 1) rfl rfl rfl rfl rfl rfl rfl (PureOp.gtr rfl rfl) ?_
      refine SL.pure rfl rfl rfl (PureOp.or_ rfl rfl rfl rfl) ?_
      refine SL.pure rfl rfl rfl (PureOp.assign rfl) ?_
      refine SL.nil_then ?_
      refine WC.ret ?_
      refine QX.ret1 rfl rfl ?_
      intro w hw
      refine ⟨_, rfl, fun q => ?_⟩
      have q1 : n ≤ 100 ∧ t.taxes.l.length ≤ 100 := by simp at q; omega
      exact ⟨all_whole (by omega) ha, all_whole (by omega) hb, by omega, by omega⟩

set_option maxHeartbeats 4000000 in
set_option maxRecDepth 100000 in
theorem within2_ok (n : Int) (w0 : World) : FnC Try.prog 52 [.int .i64 n] w0 fun v w' => v = .bool (!outB n) := by
  refine fnc (N := 9) Try.func52 rfl rfl rfl ?_
  refine WC.seq ?_
  refine WC.region ?_
  refine SL.pure rfl rfl rfl (PureOp.assign rfl) ?_
  refine SL.nil_then ?_
  refine WC.seq ?_
  refine WC.region ?_
  refine SL.pure rfl rfl rfl (PureOp.move rfl) ?_
  refine SL.pure rfl rfl rfl (PureOp.geq rfl rfl) ?_
  refine SL.pure rfl rfl rfl (PureOp.move rfl) ?_
  refine SL.newg 5 true rfl ?_
  refine SL.gpure (c := 1) rfl rfl rfl rfl rfl rfl rfl (PureOp.move rfl) ?_
  refine SL.gpure (c := 1) rfl rfl rfl rfl rfl rfl rfl (PureOp.leq rfl rfl) ?_
  refine SL.pure rfl rfl rfl (PureOp.and_ rfl rfl rfl rfl) ?_
  refine SL.pure rfl rfl rfl (PureOp.assign rfl) ?_
  refine SL.nil_then ?_
  refine WC.ret ?_
  refine QX.ret1 rfl rfl ?_
  intro w hw
  rw [show (!outB n) = (decide (0 ≤ n) && decide (n ≤ 1099511627776)) from by cases q : outB n; (have q1 := outB_not.1 q; simp; omega); (have q1 := outB_iff.1 q; simp; omega)]

set_option maxHeartbeats 4000000 in
set_option maxRecDepth 100000 in
theorem fits42_ok (t : TK) (l : List Cp) (ao : Option Addr) (n cap : Nat) (hn : n = l.length) (w0 : World) (hz : SliceIn w0 11 ao n cap (rowsF enc65 l)) (hx : SliceIn w0 2 t.taxes.ao t.taxes.l.length t.taxes.cap (rowsF enc67 t.taxes.l)) : FnC Try.prog 48 [.agg #[.int .i64 t.num, .string t.loc, .string t.p1, .string t.p2, .string t.p3, .slice ao n cap, .int .i64 t.fare, .slice t.taxes.ao t.taxes.l.length t.taxes.cap, .int .i64 t.total, .int .i64 t.issued]] w0 fun v w' => ∃ b, v = .bool b ∧ (b = true → FitsT t.fare t.total l t.taxes.l) := by
  refine fnc (N := 99) Try.func48 rfl rfl rfl ?_
  refine WC.seq ?_
  refine WC.region ?_
  refine SL.box rfl rfl rfl (fun b1 hb1 => ?_)
  refine SL.norm [_] rfl ?_
  refine SL.pure rfl rfl rfl (PureOp.assign rfl) ?_
  refine SL.nil_then ?_
  refine WC.seq ?_
  refine WC.seq ?_
  refine WC.region ?_
  refine SL.pure rfl rfl rfl (PureOp.fieldAddrT 5 Try.underlying27 rfl sz24 rfl rfl) ?_
  refine SL.pure rfl rfl rfl (PureOp.load (v := .slice ao n cap) Try.underlying24 rfl rfl (fun _ => (CellIs.cells 0 rfl rfl))) ?_
  refine SL.pure rfl rfl rfl (PureOp.len rfl Try.underlying24) ?_
  refine SL.pure rfl rfl rfl (PureOp.lss rfl rfl) ?_
  refine SL.pure rfl rfl rfl (PureOp.move rfl) ?_
  refine SL.newg 12 false rfl ?_
  refine SL.gpure (c := 1) rfl rfl rfl rfl rfl rfl rfl (PureOp.fieldAddrT 5 Try.underlying27 rfl sz24 rfl rfl) ?_
  refine SL.gpure (c := 1) rfl rfl rfl rfl rfl rfl rfl (PureOp.load (v := .slice ao n cap) Try.underlying24 rfl rfl (fun _ => (CellIs.cells 0 rfl rfl))) ?_
  refine SL.gpure (c := 1) rfl rfl rfl rfl rfl rfl rfl (PureOp.len rfl Try.underlying24) ?_
  refine SL.gpure (c := 1) rfl rfl rfl rfl rfl rfl rfl (PureOp.gtr rfl rfl) ?_
  refine SL.pure rfl rfl rfl (PureOp.or_ rfl rfl rfl rfl) ?_
  refine SL.pure rfl rfl rfl (PureOp.move rfl) ?_
  refine SL.newg 18 false rfl ?_
  refine SL.gpure (c := 2) rfl rfl rfl rfl rfl rfl rfl (PureOp.fieldAddrT 6 Try.underlying27 rfl sz3 rfl rfl) ?_
  refine SL.gpure (c := 2) rfl rfl rfl rfl rfl rfl rfl (PureOp.load (v := .int .i64 t.fare) Try.underlying3 rfl rfl (fun _ => (CellIs.cells 0 rfl rfl))) ?_
  refine SL.gcalle (c := 2) rfl rfl rfl rfl rfl rfl rfl rfl rfl rfl callable52 (by intro hg; simp [gval] at hg; exact (fun w hw => within2_ok t.fare w)) ?_
  refine SL.norm [_] rfl ?_
  refine SL.gpure (c := 2) rfl rfl rfl rfl rfl rfl rfl (PureOp.not rfl) ?_
  refine SL.pure rfl rfl rfl (PureOp.or_ rfl rfl rfl rfl) ?_
  refine SL.pure rfl rfl rfl (PureOp.move rfl) ?_
  refine SL.newg 24 false rfl ?_
  refine SL.gpure (c := 3) rfl rfl rfl rfl rfl rfl rfl (PureOp.fieldAddrT 8 Try.underlying27 rfl sz3 rfl rfl) ?_
  refine SL.gpure (c := 3) rfl rfl rfl rfl rfl rfl rfl (PureOp.load (v := .int .i64 t.total) Try.underlying3 rfl rfl (fun _ => (CellIs.cells 0 rfl rfl))) ?_
  refine SL.gcalle (c := 3) rfl rfl rfl rfl rfl rfl rfl rfl rfl rfl callable52 (by intro hg; simp [gval] at hg; exact (fun w hw => within2_ok t.total w)) ?_
  refine SL.norm [_] rfl ?_
  refine SL.gpure (c := 3) rfl rfl rfl rfl rfl rfl rfl (PureOp.not rfl) ?_
  refine SL.pure rfl rfl rfl (PureOp.or_ rfl rfl rfl rfl) ?_
  refine SL.nil_then ?_
  refine WC.cond rfl (fun h1 => ?_) (fun h1 => ?_)
  · try simp only [Bool.and_eq_true, Bool.or_eq_true, Bool.not_eq_true', Bool.not_eq_false', Bool.and_eq_false_iff, Bool.or_eq_false_iff, decide_eq_true_eq, decide_eq_false_iff_not, Int.not_lt, Int.not_le, ne_eq, Decidable.not_not] at h1
    refine WC.seq ?_
    refine WC.region ?_
    refine SL.pure rfl rfl rfl (PureOp.assign rfl) ?_
    refine SL.nil_then ?_
    refine WC.ret ?_
    refine QX.ret_then ?_
    refine QX.ret1 rfl rfl ?_
    intro w hw
    exact ⟨false, rfl, fun q => by cases q⟩
  · try simp only [Bool.and_eq_true, Bool.or_eq_true, Bool.not_eq_true', Bool.not_eq_false', Bool.and_eq_false_iff, Bool.or_eq_false_iff, decide_eq_true_eq, decide_eq_false_iff_not, Int.not_lt, Int.not_le, ne_eq, Decidable.not_not] at h1
    have hL : 1 ≤ n ∧ n ≤ 6 := by omega
    have hF := outB_not.1 h1.1.2
    have hG := outB_not.1 h1.2
    refine WC.skip ?_
    refine QX.then_ ?_
    refine WC.seq ?_
    refine WC.quiet rfl (by kernel_rfl) ?_
    refine SQ.pure rfl rfl rfl (PureOp.fieldAddrT 6 Try.underlying27 rfl sz3 rfl rfl) ?_
    refine SQ.pure rfl rfl rfl (PureOp.load (v := .int .i64 t.fare) Try.underlying3 rfl rfl (fun _ => (CellIs.cells 0 rfl rfl))) ?_
    refine SQ.pure rfl rfl rfl (PureOp.assign rfl) ?_
    refine SQ.pure rfl rfl rfl (PureOp.assign rfl) ?_
    refine SQ.nil_then ?_
    refine WC.seq ?_
    refine WC.seq ?_
    refine WC.region ?_
    refine SL.pure rfl rfl rfl (PureOp.assign rfl) ?_
    refine SL.nil_then ?_
    refine WC.block ?_
    refine WC.loop (σ := Nat × Int) (fun q_ => [(0, 0, .agg #[.int .i64 t.num, .string t.loc, .string t.p1, .string t.p2, .string t.p3, .slice ao n cap, .int .i64 t.fare, .slice t.taxes.ao t.taxes.l.length t.taxes.cap, .int .i64 t.total, .int .i64 t.issued]), (1, 0, .pointer (some ⟨b1, 0, none⟩)), (4, 0, .int .i64 t.fare), (8, 0, .pointer (some ⟨b1, 5, none⟩)), (9, 0, .slice ao n cap), (10, 0, .int .i64 ((n : Nat) : Int)), (11, 0, .bool (decide (((n : Nat) : Int) < 1))), (12, 0, .bool (decide (((n : Nat) : Int) < 1))), (17, 0, .bool ((decide (((n : Nat) : Int) < 1)) || (decide (6 < ((n : Nat) : Int))))), (18, 0, .bool ((decide (((n : Nat) : Int) < 1)) || (decide (6 < ((n : Nat) : Int))))), (23, 0, .bool (((decide (((n : Nat) : Int) < 1)) || (decide (6 < ((n : Nat) : Int)))) || (!(!outB t.fare)))), (24, 0, .bool (((decide (((n : Nat) : Int) < 1)) || (decide (6 < ((n : Nat) : Int)))) || (!(!outB t.fare)))), (29, 0, .bool ((((decide (((n : Nat) : Int) < 1)) || (decide (6 < ((n : Nat) : Int)))) || (!(!outB t.fare))) || (!(!outB t.total)))), (30, 0, .pointer (some ⟨b1, 6, none⟩)), (31, 0, .int .i64 t.fare), (5, 0, .int .i64 ((q_.1 : Nat) : Int)), (3, 0, .int .i64 q_.2)]) (fun q_ => [Item.cells b1 [.int .i64 t.num, .string t.loc, .string t.p1, .string t.p2, .string t.p3, .slice ao n cap, .int .i64 t.fare, .slice t.taxes.ao t.taxes.l.length t.taxes.cap, .int .i64 t.total, .int .i64 t.issued] 27]) (fun q_ => q_.1 ≤ n ∧ q_.2 = sumV (vals (l.take q_.1)) ∧ (∀ c ∈ l.take q_.1, (0 ≤ c.2.2.2 ∧ c.2.2.2 ≤ 1099511627776) ∧ 1 ≤ c.2.2.1 ∧ c.2.2.1 ≤ 8) ∧ (0 ≤ q_.2 ∧ q_.2 ≤ q_.1 * 1099511627776)) (fun q_ => n - q_.1) 1 ((0, 0)) (⟨Nat.zero_le _, rfl, by simp, by simp⟩) ⟨rfl, rfl, rfl, rfl, rfl, rfl, rfl, rfl, rfl, rfl, rfl, rfl, rfl, rfl, rfl, rfl, rfl, rfl, rfl, rfl, rfl, rfl, rfl, rfl, rfl, rfl, rfl, rfl, rfl, rfl, rfl, rfl, rfl, rfl, trivial⟩ rfl ?_
    rintro ⟨k, f⟩ ⟨hk, hs, ha, hfb⟩
    try dsimp only at *
    refine WC.seq ?_
    refine WC.seq ?_
    refine WC.region ?_
    refine SL.pure rfl rfl rfl (PureOp.move rfl) ?_
    refine SL.pure rfl rfl rfl (PureOp.fieldAddrT 5 Try.underlying27 rfl sz24 rfl rfl) ?_
    refine SL.pure rfl rfl rfl (PureOp.load (v := .slice ao n cap) Try.underlying24 rfl rfl (fun _ => (CellIs.cells 0 rfl rfl))) ?_
    refine SL.pure rfl rfl rfl (PureOp.len rfl Try.underlying24) ?_
    refine SL.pure rfl rfl rfl (PureOp.lss rfl rfl) ?_
    refine SL.nil_then ?_
    refine WC.cond rfl (fun h2 => ?_) (fun h2 => ?_)
    · try simp only [Bool.and_eq_true, Bool.or_eq_true, Bool.not_eq_true', Bool.not_eq_false', Bool.and_eq_false_iff, Bool.or_eq_false_iff, decide_eq_true_eq, decide_eq_false_iff_not, Int.not_lt, Int.not_le, ne_eq, Decidable.not_not] at h2
      refine WC.skip ?_
      refine QX.then_ ?_
      refine WC.seq ?_
      refine WC.block ?_
      refine WC.seq ?_
      refine WC.region ?_
      refine SL.pure rfl rfl rfl (PureOp.fieldAddrT 5 Try.underlying27 rfl sz24 rfl rfl) ?_
      refine SL.pure rfl rfl rfl (PureOp.load (v := .slice ao n cap) Try.underlying24 rfl rfl (fun _ => (CellIs.cells 0 rfl rfl))) ?_
      refine SL.pure rfl rfl rfl (PureOp.move rfl) ?_
      refine SL.pure rfl rfl rfl (PureOp.indexAddrN Try.underlying24 sz65 rfl rfl (AoOk.in_ hz) (fun _ => by first | omega | (simp only [outB_not] at *; omega) | (have q1 := hz.le; have q2 := hz.max; have q3 := hx.le; have q4 := hx.max; unfold maxLen at q2 q4; omega))) ?_
      refine SL.pure rfl rfl rfl (PureOp.loads (vs := [.string ((nth l k).1.1.1), .int .i64 ((nth l k).1.1.2.1), .int .i64 ((nth l k).1.1.2.2.1), .string ((nth l k).1.1.2.2.2.1), .string ((nth l k).1.1.2.2.2.2.1), .int .i64 ((nth l k).1.1.2.2.2.2.2.1), .int .i64 ((nth l k).1.1.2.2.2.2.2.2), .string ((nth l k).1.2), .string ((nth l k).2.1), .int .i64 ((nth l k).2.2.1), .int .i64 ((nth l k).2.2.2)]) Try.underlying65 rfl rfl (fun _ => (RowIs.in_ hz k 0 11 (by first | omega | (simp only [outB_not] at *; omega) | (have q1 := hz.le; have q2 := hz.max; have q3 := hx.le; have q4 := hx.max; unfold maxLen at q2 q4; omega)) (by omega))) sz65) ?_
      refine SL.alloc rfl rfl zero65 (fun b2 hb2 => ?_)
      refine SL.norm [_, _] rfl ?_
      refine SL.store 1 rfl rfl rfl rfl sz65 rfl rfl ?_
      refine SL.norm [_, _] rfl ?_
      refine SL.nil_then ?_
      refine WC.seq ?_
      refine WC.seq ?_
      refine WC.region ?_
      refine SL.pure rfl rfl rfl (PureOp.fieldAddrT 10 Try.underlying65 rfl sz3 rfl rfl) ?_
      refine SL.pure rfl rfl rfl (PureOp.load (v := .int .i64 ((nth l k).2.2.2)) Try.underlying3 rfl rfl (fun _ => (CellIs.cells 1 rfl rfl))) ?_
      refine SL.calle rfl rfl rfl rfl rfl rfl callable52 (fun w hw => within2_ok ((nth l k).2.2.2) w) ?_
      refine SL.norm [_, _] rfl ?_
      refine SL.pure rfl rfl rfl (PureOp.not rfl) ?_
      refine SL.pure rfl rfl rfl (PureOp.move rfl) ?_
      refine SL.newg 48 false rfl ?_
      refine SL.gpure (c := 1) rfl rfl rfl rfl rfl rfl rfl (PureOp.fieldAddrT 9 Try.underlying65 rfl sz3 rfl rfl) ?_
      refine SL.gpure (c := 1) rfl rfl rfl rfl rfl rfl rfl (PureOp.load (v := .int .i64 ((nth l k).2.2.1)) Try.underlying3 rfl rfl (fun _ => (CellIs.cells 1 rfl rfl))) ?_
      refine SL.gpure (c := 1) rfl rfl rfl rfl rfl rfl rfl (PureOp.lss rfl rfl) ?_
      refine SL.pure rfl rfl rfl (PureOp.or_ rfl rfl rfl rfl) ?_
      refine SL.pure rfl rfl rfl (PureOp.move rfl) ?_
      refine SL.newg 53 false rfl ?_
      refine SL.gpure (c := 2) rfl rfl rfl rfl rfl rfl rfl (PureOp.fieldAddrT 9 Try.underlying65 rfl sz3 rfl rfl) ?_
      refine SL.gpure (c := 2) rfl rfl rfl rfl rfl rfl rfl (PureOp.load (v := .int .i64 ((nth l k).2.2.1)) Try.underlying3 rfl rfl (fun _ => (CellIs.cells 1 rfl rfl))) ?_
      refine SL.gpure (c := 2) rfl rfl rfl rfl rfl rfl rfl (PureOp.gtr rfl rfl) ?_
      refine SL.pure rfl rfl rfl (PureOp.or_ rfl rfl rfl rfl) ?_
      refine SL.nil_then ?_
      refine WC.cond rfl (fun h3 => ?_) (fun h3 => ?_)
      · try simp only [Bool.and_eq_true, Bool.or_eq_true, Bool.not_eq_true', Bool.not_eq_false', Bool.and_eq_false_iff, Bool.or_eq_false_iff, decide_eq_true_eq, decide_eq_false_iff_not, Int.not_lt, Int.not_le, ne_eq, Decidable.not_not] at h3
        refine WC.seq ?_
        refine WC.region ?_
        refine SL.pure rfl rfl rfl (PureOp.assign rfl) ?_
        refine SL.nil_then ?_
        refine WC.ret ?_
        refine QX.ret_then ?_
        refine QX.ret_in ?_
        refine QX.ret_then ?_
        refine QX.ret_then ?_
        refine QX.ret_in ?_
        refine QX.ret_then ?_
        refine QX.ret1 rfl rfl ?_
        intro w hw
        exact ⟨false, rfl, fun q => by cases q⟩
      · try simp only [Bool.and_eq_true, Bool.or_eq_true, Bool.not_eq_true', Bool.not_eq_false', Bool.and_eq_false_iff, Bool.or_eq_false_iff, decide_eq_true_eq, decide_eq_false_iff_not, Int.not_lt, Int.not_le, ne_eq, Decidable.not_not] at h3
        refine WC.skip ?_
        refine QX.then_ ?_
        refine WC.region ?_
        refine SL.pure rfl rfl rfl (PureOp.move rfl) ?_
        refine SL.pure rfl rfl rfl (PureOp.fieldAddrT 10 Try.underlying65 rfl sz3 rfl rfl) ?_
        refine SL.pure rfl rfl rfl (PureOp.load (v := .int .i64 ((nth l k).2.2.2)) Try.underlying3 rfl rfl (fun _ => (CellIs.cells 1 rfl rfl))) ?_
        refine SL.pure rfl rfl rfl (PureOp.add rfl rfl (fun _ => by first | omega | (simp only [outB_not] at *; omega) | (have q1 := hz.le; have q2 := hz.max; have q3 := hx.le; have q4 := hx.max; unfold maxLen at q2 q4; omega))) ?_
        refine SL.pure rfl rfl rfl (PureOp.assign rfl) ?_
        refine SL.nil ?_
        refine QX.normal_in ?_
        refine QX.then_ ?_
        refine WC.region ?_
        refine SL.pure rfl rfl rfl (PureOp.move rfl) ?_
        refine SL.pure rfl rfl rfl (PureOp.addN (k := 1) rfl rfl (fun _ => by first | omega | (simp only [outB_not] at *; omega) | (have q1 := hz.le; have q2 := hz.max; have q3 := hx.le; have q4 := hx.max; unfold maxLen at q2 q4; omega))) ?_
        refine SL.pure rfl rfl rfl (PureOp.assign rfl) ?_
        refine SL.nil ?_
        have hV := outB_not.1 h3.1.1
        refine QX.round (σ := Nat × Int) (Ef := fun q_ => [(0, 0, .agg #[.int .i64 t.num, .string t.loc, .string t.p1, .string t.p2, .string t.p3, .slice ao n cap, .int .i64 t.fare, .slice t.taxes.ao t.taxes.l.length t.taxes.cap, .int .i64 t.total, .int .i64 t.issued]), (1, 0, .pointer (some ⟨b1, 0, none⟩)), (4, 0, .int .i64 t.fare), (8, 0, .pointer (some ⟨b1, 5, none⟩)), (9, 0, .slice ao n cap), (10, 0, .int .i64 ((n : Nat) : Int)), (11, 0, .bool (decide (((n : Nat) : Int) < 1))), (12, 0, .bool (decide (((n : Nat) : Int) < 1))), (17, 0, .bool ((decide (((n : Nat) : Int) < 1)) || (decide (6 < ((n : Nat) : Int))))), (18, 0, .bool ((decide (((n : Nat) : Int) < 1)) || (decide (6 < ((n : Nat) : Int))))), (23, 0, .bool (((decide (((n : Nat) : Int) < 1)) || (decide (6 < ((n : Nat) : Int)))) || (!(!outB t.fare)))), (24, 0, .bool (((decide (((n : Nat) : Int) < 1)) || (decide (6 < ((n : Nat) : Int)))) || (!(!outB t.fare)))), (29, 0, .bool ((((decide (((n : Nat) : Int) < 1)) || (decide (6 < ((n : Nat) : Int)))) || (!(!outB t.fare))) || (!(!outB t.total)))), (30, 0, .pointer (some ⟨b1, 6, none⟩)), (31, 0, .int .i64 t.fare), (5, 0, .int .i64 ((q_.1 : Nat) : Int)), (3, 0, .int .i64 q_.2)]) (Hf := fun q_ => [Item.cells b1 [.int .i64 t.num, .string t.loc, .string t.p1, .string t.p2, .string t.p3, .slice ao n cap, .int .i64 t.fare, .slice t.taxes.ao t.taxes.l.length t.taxes.cap, .int .i64 t.total, .int .i64 t.issued] 27]) (I := fun q_ => q_.1 ≤ n ∧ q_.2 = sumV (vals (l.take q_.1)) ∧ (∀ c ∈ l.take q_.1, (0 ≤ c.2.2.2 ∧ c.2.2.2 ≤ 1099511627776) ∧ 1 ≤ c.2.2.1 ∧ c.2.2.1 ≤ 8) ∧ (0 ≤ q_.2 ∧ q_.2 ≤ q_.1 * 1099511627776)) (μ := fun q_ => n - q_.1) (s := (k, f)) 1 ((k + 1, f + (nth l k).2.2.2)) ⟨⟨(by first | omega | (dsimp only; omega)), by rw [hs, vals_take (by omega)], all_take (by omega) ha ⟨outB_not.1 h3.1.1, by omega⟩, by omega⟩, by first | omega | (dsimp only; omega)⟩ ⟨rfl, rfl, rfl, rfl, rfl, rfl, rfl, rfl, rfl, rfl, rfl, rfl, rfl, rfl, rfl, rfl, rfl, rfl, rfl, rfl, rfl, rfl, rfl, rfl, rfl, rfl, rfl, rfl, rfl, rfl, rfl, rfl, rfl, rfl, trivial⟩ rfl
    · try simp only [Bool.and_eq_true, Bool.or_eq_true, Bool.not_eq_true', Bool.not_eq_false', Bool.and_eq_false_iff, Bool.or_eq_false_iff, decide_eq_true_eq, decide_eq_false_iff_not, Int.not_lt, Int.not_le, ne_eq, Decidable.not_not] at h2
      refine WC.exit ?_
      refine QX.exit_then ?_
      refine QX.exit_then ?_
      refine QX.exit_hit ?_
      refine QX.then_ ?_
      refine WC.seq ?_
      refine WC.seq ?_
      refine WC.region ?_
      refine SL.pure rfl rfl rfl (PureOp.assign rfl) ?_
      refine SL.nil_then ?_
      refine WC.block ?_
      refine WC.loop (σ := Nat × Int) (fun q_ => [(0, 0, .agg #[.int .i64 t.num, .string t.loc, .string t.p1, .string t.p2, .string t.p3, .slice ao n cap, .int .i64 t.fare, .slice t.taxes.ao t.taxes.l.length t.taxes.cap, .int .i64 t.total, .int .i64 t.issued]), (1, 0, .pointer (some ⟨b1, 0, none⟩)), (3, 0, .int .i64 f), (5, 0, .int .i64 ((k : Nat) : Int)), (8, 0, .pointer (some ⟨b1, 5, none⟩)), (9, 0, .slice ao n cap), (10, 0, .int .i64 ((n : Nat) : Int)), (11, 0, .bool (decide (((n : Nat) : Int) < 1))), (12, 0, .bool (decide (((n : Nat) : Int) < 1))), (17, 0, .bool ((decide (((n : Nat) : Int) < 1)) || (decide (6 < ((n : Nat) : Int))))), (18, 0, .bool ((decide (((n : Nat) : Int) < 1)) || (decide (6 < ((n : Nat) : Int))))), (23, 0, .bool (((decide (((n : Nat) : Int) < 1)) || (decide (6 < ((n : Nat) : Int)))) || (!(!outB t.fare)))), (24, 0, .bool (((decide (((n : Nat) : Int) < 1)) || (decide (6 < ((n : Nat) : Int)))) || (!(!outB t.fare)))), (29, 0, .bool ((((decide (((n : Nat) : Int) < 1)) || (decide (6 < ((n : Nat) : Int)))) || (!(!outB t.fare))) || (!(!outB t.total)))), (30, 0, .pointer (some ⟨b1, 6, none⟩)), (31, 0, .int .i64 t.fare), (32, 0, .int .i64 ((k : Nat) : Int)), (33, 0, .pointer (some ⟨b1, 5, none⟩)), (34, 0, .slice ao n cap), (35, 0, .int .i64 ((n : Nat) : Int)), (36, 0, .bool (decide (((k : Nat) : Int) < ((n : Nat) : Int)))), (7, 0, .int .i64 ((q_.1 : Nat) : Int)), (4, 0, .int .i64 q_.2)]) (fun q_ => [Item.cells b1 [.int .i64 t.num, .string t.loc, .string t.p1, .string t.p2, .string t.p3, .slice ao n cap, .int .i64 t.fare, .slice t.taxes.ao t.taxes.l.length t.taxes.cap, .int .i64 t.total, .int .i64 t.issued] 27]) (fun q_ => q_.1 ≤ t.taxes.l.length ∧ q_.2 = t.fare + sumV (amts (t.taxes.l.take q_.1)) ∧ (∀ y ∈ t.taxes.l.take q_.1, 0 ≤ y.2 ∧ y.2 ≤ 1099511627776) ∧ (0 ≤ q_.2 ∧ q_.2 ≤ 2199023255552)) (fun q_ => t.taxes.l.length - q_.1) 1 ((0, t.fare)) (⟨Nat.zero_le _, by simp [amts, sumV], by simp, by omega⟩) ⟨rfl, rfl, rfl, rfl, rfl, rfl, rfl, rfl, rfl, rfl, rfl, rfl, rfl, rfl, rfl, rfl, rfl, rfl, rfl, rfl, rfl, rfl, rfl, rfl, rfl, rfl, rfl, rfl, rfl, rfl, rfl, rfl, rfl, rfl, rfl, rfl, rfl, rfl, rfl, rfl, rfl, rfl, rfl, rfl, rfl, rfl, trivial⟩ rfl ?_
      rintro ⟨j, g⟩ ⟨hj, hg, hb, hbd⟩
      try dsimp only at *
      refine WC.seq ?_
      refine WC.seq ?_
      refine WC.region ?_
      refine SL.pure rfl rfl rfl (PureOp.move rfl) ?_
      refine SL.pure rfl rfl rfl (PureOp.fieldAddrT 7 Try.underlying27 rfl sz25 rfl rfl) ?_
      refine SL.pure rfl rfl rfl (PureOp.load (v := .slice t.taxes.ao t.taxes.l.length t.taxes.cap) Try.underlying25 rfl rfl (fun _ => (CellIs.cells 0 rfl rfl))) ?_
      refine SL.pure rfl rfl rfl (PureOp.len rfl Try.underlying25) ?_
      refine SL.pure rfl rfl rfl (PureOp.lss rfl rfl) ?_
      refine SL.nil_then ?_
      refine WC.cond rfl (fun h4 => ?_) (fun h4 => ?_)
      · try simp only [Bool.and_eq_true, Bool.or_eq_true, Bool.not_eq_true', Bool.not_eq_false', Bool.and_eq_false_iff, Bool.or_eq_false_iff, decide_eq_true_eq, decide_eq_false_iff_not, Int.not_lt, Int.not_le, ne_eq, Decidable.not_not] at h4
        refine WC.skip ?_
        refine QX.then_ ?_
        refine WC.seq ?_
        refine WC.block ?_
        refine WC.seq ?_
        refine WC.seq ?_
        refine WC.region ?_
        refine SL.pure rfl rfl rfl (PureOp.fieldAddrT 7 Try.underlying27 rfl sz25 rfl rfl) ?_
        refine SL.pure rfl rfl rfl (PureOp.load (v := .slice t.taxes.ao t.taxes.l.length t.taxes.cap) Try.underlying25 rfl rfl (fun _ => (CellIs.cells 0 rfl rfl))) ?_
        refine SL.pure rfl rfl rfl (PureOp.move rfl) ?_
        refine SL.pure rfl rfl rfl (PureOp.indexAddrN Try.underlying25 sz67 rfl rfl (AoOk.in_ hx) (fun _ => by first | omega | (simp only [outB_not] at *; omega) | (have q1 := hz.le; have q2 := hz.max; have q3 := hx.le; have q4 := hx.max; unfold maxLen at q2 q4; omega))) ?_
        refine SL.pure rfl rfl rfl (PureOp.fieldAddr 1 Try.underlying67 rfl rfl sz3 rfl) ?_
        refine SL.pure rfl rfl rfl (PureOp.load (v := .int .i64 ((nth t.taxes.l j).2)) Try.underlying3 rfl rfl (fun _ => (CellIs.in_ hx j 1 (by first | omega | (simp only [outB_not] at *; omega) | (have q1 := hz.le; have q2 := hz.max; have q3 := hx.le; have q4 := hx.max; unfold maxLen at q2 q4; omega)) (by omega)))) ?_
        refine SL.calle rfl rfl rfl rfl rfl rfl callable52 (fun w hw => within2_ok ((nth t.taxes.l j).2) w) ?_
        refine SL.norm [_] rfl ?_
        refine SL.pure rfl rfl rfl (PureOp.not rfl) ?_
        refine SL.pure rfl rfl rfl (PureOp.move rfl) ?_
        refine SL.newg 77 false rfl ?_
        refine SL.gpure (c := 1) rfl rfl rfl rfl rfl rfl rfl (PureOp.move rfl) ?_
        refine SL.gpure (c := 1) rfl rfl rfl rfl rfl rfl rfl (PureOp.gtr rfl rfl) ?_
        refine SL.pure rfl rfl rfl (PureOp.or_ rfl rfl rfl rfl) ?_
        refine SL.nil_then ?_
        refine WC.cond rfl (fun h5 => ?_) (fun h5 => ?_)
        · try simp only [Bool.and_eq_true, Bool.or_eq_true, Bool.not_eq_true', Bool.not_eq_false', Bool.and_eq_false_iff, Bool.or_eq_false_iff, decide_eq_true_eq, decide_eq_false_iff_not, Int.not_lt, Int.not_le, ne_eq, Decidable.not_not] at h5
          refine WC.seq ?_
          refine WC.region ?_
          refine SL.pure rfl rfl rfl (PureOp.assign rfl) ?_
          refine SL.nil_then ?_
          refine WC.ret ?_
          refine QX.ret_then ?_
          refine QX.ret_in ?_
          refine QX.ret_then ?_
          refine QX.ret_then ?_
          refine QX.ret_in ?_
          refine QX.ret_then ?_
          refine QX.ret1 rfl rfl ?_
          intro w hw
          exact ⟨false, rfl, fun q => by cases q⟩
        · try simp only [Bool.and_eq_true, Bool.or_eq_true, Bool.not_eq_true', Bool.not_eq_false', Bool.and_eq_false_iff, Bool.or_eq_false_iff, decide_eq_true_eq, decide_eq_false_iff_not, Int.not_lt, Int.not_le, ne_eq, Decidable.not_not] at h5
          refine WC.skip ?_
          refine QX.then_ ?_
          refine WC.region ?_
          refine SL.pure rfl rfl rfl (PureOp.move rfl) ?_
          refine SL.pure rfl rfl rfl (PureOp.fieldAddrT 7 Try.underlying27 rfl sz25 rfl rfl) ?_
          refine SL.pure rfl rfl rfl (PureOp.load (v := .slice t.taxes.ao t.taxes.l.length t.taxes.cap) Try.underlying25 rfl rfl (fun _ => (CellIs.cells 0 rfl rfl))) ?_
          refine SL.pure rfl rfl rfl (PureOp.move rfl) ?_
          refine SL.pure rfl rfl rfl (PureOp.indexAddrN Try.underlying25 sz67 rfl rfl (AoOk.in_ hx) (fun _ => by first | omega | (simp only [outB_not] at *; omega) | (have q1 := hz.le; have q2 := hz.max; have q3 := hx.le; have q4 := hx.max; unfold maxLen at q2 q4; omega))) ?_
          refine SL.pure rfl rfl rfl (PureOp.fieldAddr 1 Try.underlying67 rfl rfl sz3 rfl) ?_
          refine SL.pure rfl rfl rfl (PureOp.load (v := .int .i64 ((nth t.taxes.l j).2)) Try.underlying3 rfl rfl (fun _ => (CellIs.in_ hx j 1 (by first | omega | (simp only [outB_not] at *; omega) | (have q1 := hz.le; have q2 := hz.max; have q3 := hx.le; have q4 := hx.max; unfold maxLen at q2 q4; omega)) (by omega)))) ?_
          refine SL.pure rfl rfl rfl (PureOp.add rfl rfl (fun _ => by first | omega | (simp only [outB_not] at *; omega) | (have q1 := hz.le; have q2 := hz.max; have q3 := hx.le; have q4 := hx.max; unfold maxLen at q2 q4; omega))) ?_
          refine SL.pure rfl rfl rfl (PureOp.assign rfl) ?_
          refine SL.nil ?_
          refine QX.normal_in ?_
          refine QX.then_ ?_
          refine WC.region ?_
          refine SL.pure rfl rfl rfl (PureOp.move rfl) ?_
          refine SL.pure rfl rfl rfl (PureOp.addN (k := 1) rfl rfl (fun _ => by first | omega | (simp only [outB_not] at *; omega) | (have q1 := hz.le; have q2 := hz.max; have q3 := hx.le; have q4 := hx.max; unfold maxLen at q2 q4; omega))) ?_
          refine SL.pure rfl rfl rfl (PureOp.assign rfl) ?_
          refine SL.nil ?_
          have hY := outB_not.1 h5.1
          refine QX.round (σ := Nat × Int) (Ef := fun q_ => [(0, 0, .agg #[.int .i64 t.num, .string t.loc, .string t.p1, .string t.p2, .string t.p3, .slice ao n cap, .int .i64 t.fare, .slice t.taxes.ao t.taxes.l.length t.taxes.cap, .int .i64 t.total, .int .i64 t.issued]), (1, 0, .pointer (some ⟨b1, 0, none⟩)), (3, 0, .int .i64 f), (5, 0, .int .i64 ((k : Nat) : Int)), (8, 0, .pointer (some ⟨b1, 5, none⟩)), (9, 0, .slice ao n cap), (10, 0, .int .i64 ((n : Nat) : Int)), (11, 0, .bool (decide (((n : Nat) : Int) < 1))), (12, 0, .bool (decide (((n : Nat) : Int) < 1))), (17, 0, .bool ((decide (((n : Nat) : Int) < 1)) || (decide (6 < ((n : Nat) : Int))))), (18, 0, .bool ((decide (((n : Nat) : Int) < 1)) || (decide (6 < ((n : Nat) : Int))))), (23, 0, .bool (((decide (((n : Nat) : Int) < 1)) || (decide (6 < ((n : Nat) : Int)))) || (!(!outB t.fare)))), (24, 0, .bool (((decide (((n : Nat) : Int) < 1)) || (decide (6 < ((n : Nat) : Int)))) || (!(!outB t.fare)))), (29, 0, .bool ((((decide (((n : Nat) : Int) < 1)) || (decide (6 < ((n : Nat) : Int)))) || (!(!outB t.fare))) || (!(!outB t.total)))), (30, 0, .pointer (some ⟨b1, 6, none⟩)), (31, 0, .int .i64 t.fare), (32, 0, .int .i64 ((k : Nat) : Int)), (33, 0, .pointer (some ⟨b1, 5, none⟩)), (34, 0, .slice ao n cap), (35, 0, .int .i64 ((n : Nat) : Int)), (36, 0, .bool (decide (((k : Nat) : Int) < ((n : Nat) : Int)))), (7, 0, .int .i64 ((q_.1 : Nat) : Int)), (4, 0, .int .i64 q_.2)]) (Hf := fun q_ => [Item.cells b1 [.int .i64 t.num, .string t.loc, .string t.p1, .string t.p2, .string t.p3, .slice ao n cap, .int .i64 t.fare, .slice t.taxes.ao t.taxes.l.length t.taxes.cap, .int .i64 t.total, .int .i64 t.issued] 27]) (I := fun q_ => q_.1 ≤ t.taxes.l.length ∧ q_.2 = t.fare + sumV (amts (t.taxes.l.take q_.1)) ∧ (∀ y ∈ t.taxes.l.take q_.1, 0 ≤ y.2 ∧ y.2 ≤ 1099511627776) ∧ (0 ≤ q_.2 ∧ q_.2 ≤ 2199023255552)) (μ := fun q_ => t.taxes.l.length - q_.1) (s := (j, g)) 1 ((j + 1, g + (nth t.taxes.l j).2)) ⟨⟨(by first | omega | (dsimp only; omega)), by rw [hg, amts_take (by omega), Int.add_assoc], all_take (by omega) hb (outB_not.1 h5.1), by omega⟩, by first | omega | (dsimp only; omega)⟩ ⟨rfl, rfl, rfl, rfl, rfl, rfl, rfl, rfl, rfl, rfl, rfl, rfl, rfl, rfl, rfl, rfl, rfl, rfl, rfl, rfl, rfl, rfl, rfl, rfl, rfl, rfl, rfl, rfl, rfl, rfl, rfl, rfl, rfl, rfl, rfl, rfl, rfl, rfl, rfl, rfl, rfl, rfl, rfl, rfl, rfl, rfl, trivial⟩ rfl
      · try simp only [Bool.and_eq_true, Bool.or_eq_true, Bool.not_eq_true', Bool.not_eq_false', Bool.and_eq_false_iff, Bool.or_eq_false_iff, decide_eq_true_eq, decide_eq_false_iff_not, Int.not_lt, Int.not_le, ne_eq, Decidable.not_not] at h4
        refine WC.exit ?_
        refine QX.exit_then ?_
        refine QX.exit_then ?_
        refine QX.exit_hit ?_
        refine QX.then_ ?_
        refine WC.seq ?_
        refine WC.region ?_
        refine SL.pure rfl rfl rfl (PureOp.move rfl) ?_
        refine SL.pure rfl rfl rfl (PureOp.fieldAddrT 6 Try.underlying27 rfl sz3 rfl rfl) ?_
        refine SL.pure rfl rfl rfl (PureOp.load (v := .int .i64 t.fare) Try.underlying3 rfl rfl (fun _ => (CellIs.cells 0 rfl rfl))) ?_
        refine SL.pure rfl rfl rfl (PureOp.eql rfl rfl) ?_
        refine SL.pure rfl rfl rfl (PureOp.move rfl) ?_
        refine SL.newg 93 true rfl ?_
        refine SL.gpure (c := 1) rfl rfl rfl rfl rfl rfl rfl (PureOp.move rfl) ?_
        refine SL.gpure (c := 1) rfl rfl rfl rfl rfl rfl rfl (PureOp.fieldAddrT 8 Try.underlying27 rfl sz3 rfl rfl) ?_
        refine SL.gpure (c := 1) rfl rfl rfl rfl rfl rfl rfl (PureOp.load (v := .int .i64 t.total) Try.underlying3 rfl rfl (fun _ => (CellIs.cells 0 rfl rfl))) ?_
        refine SL.gpure (c := 1) rfl rfl rfl rfl rfl rfl rfl (PureOp.eql rfl rfl) ?_
        refine SL.pure rfl rfl rfl (PureOp.and_ rfl rfl rfl rfl) ?_
        refine SL.pure rfl rfl rfl (PureOp.assign rfl) ?_
        refine SL.nil_then ?_
        refine WC.ret ?_
        refine QX.ret1 rfl rfl ?_
        intro w hw
        refine ⟨_, rfl, fun q => ?_⟩
        simp only [Bool.and_eq_true, decide_eq_true_eq] at q
        obtain rfl : k = n := by omega
        obtain rfl : j = t.taxes.l.length := by omega
        rw [List.take_of_length_le (by omega)] at hs ha hg hb
        exact ⟨by omega, hF, hG, ha, hb, by omega, by omega⟩

end Go.Proofs.Ytipmdakhmpaemaa
