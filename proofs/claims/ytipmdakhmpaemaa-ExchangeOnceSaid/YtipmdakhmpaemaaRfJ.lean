import Derived.Test.YtipmdakhmpaemaaRfG
import Derived.Test.YtipmdakhmpaemaaRfI
namespace Go.Proofs.Ytipmdakhmpaemaa
open Go Go.RowKit Eng
set_option linter.unusedVariables false
set_option linter.unusedSimpArgs false

set_option maxHeartbeats 4000000 in
set_option maxRecDepth 100000 in
theorem xapply_ok (t : TK) (l : List Cp) (ao : Option Addr) (n cap : Nat) (hn : n = l.length) (w0 : World) (hz : SliceIn w0 11 ao n cap (rowsF enc65 l)) (hnb : n ≤ 1000) (hx : SliceIn w0 2 t.taxes.ao t.taxes.l.length t.taxes.cap (rowsF enc67 t.taxes.l)) (hxb : t.taxes.l.length ≤ 1000) (total fee : Int) : FnC Try.prog 28 [.agg #[.int .i64 t.num, .string t.loc, .string t.p1, .string t.p2, .string t.p3, .slice ao n cap, .int .i64 t.fare, .slice t.taxes.ao t.taxes.l.length t.taxes.cap, .int .i64 t.total, .int .i64 t.issued], .agg #[.slice none 0 0, .slice none 0 0, .slice none 0 0, .int .i64 0, .int .i64 total], .int .i64 fee] w0 fun v w' => ∃ a c, v = apV t l (exE l t.taxes.l total fee).1 (exE l t.taxes.l total fee).2 8 a c ∧ w'.ownsRow w0.heap.size 65 11 (.slice a (lA l 8 (exE l t.taxes.l total fee).2).length c) (lA l 8 (exE l t.taxes.l total fee).2).length (cellsOf enc65 (lA l 8 (exE l t.taxes.l total fee).2)) := by
  refine fnc (N := 53) Try.func28 rfl rfl rfl ?_
  refine WC.seq ?_
  refine WC.region ?_
  refine SL.box rfl rfl rfl (fun b1 hb1 => ?_)
  refine SL.norm [_] rfl ?_
  refine SL.box rfl rfl rfl (fun b2 hb2 => ?_)
  refine SL.norm [_, _] rfl ?_
  refine SL.alloc rfl rfl zero27 (fun b3 hb3 => ?_)
  refine SL.norm [_, _, _] rfl ?_
  refine SL.alloc rfl rfl zero70 (fun b4 hb4 => ?_)
  refine SL.norm [_, _, _, _] rfl ?_
  refine SL.pure rfl rfl rfl (PureOp.assign rfl) ?_
  refine SL.nil_then ?_
  refine WC.seq ?_
  refine WC.region ?_
  refine SL.pure rfl rfl rfl (PureOp.loads (vs := [.int .i64 t.num, .string t.loc, .string t.p1, .string t.p2, .string t.p3, .slice ao n cap, .int .i64 t.fare, .slice t.taxes.ao t.taxes.l.length t.taxes.cap, .int .i64 t.total, .int .i64 t.issued]) Try.underlying27 rfl rfl (fun _ => (RowIs.cells 0 0 10 rfl rfl)) sz27) ?_
  refine SL.pure rfl rfl rfl (PureOp.loads (vs := [.slice none 0 0, .slice none 0 0, .slice none 0 0, .int .i64 0, .int .i64 total]) Try.underlying56 rfl rfl (fun _ => (RowIs.cells 1 0 5 rfl rfl)) sz56) ?_
  refine SL.pure rfl rfl rfl (PureOp.move rfl) ?_
  refine SL.calle rfl rfl rfl rfl rfl rfl callable26 (fun w hw => xof_ok t l ao n cap hn w (hz.below hw.below) hnb (hx.below hw.below) hxb total fee) ?_
  refine SL.norm [_, _, _, _] rfl ?_
  refine SL.pure rfl rfl rfl (PureOp.move rfl) ?_
  refine SL.pure rfl rfl rfl (PureOp.extract rfl rfl) ?_
  refine SL.pure rfl rfl rfl (PureOp.extract rfl rfl) ?_
  refine SL.alloc rfl rfl zero70 (fun b5 hb5 => ?_)
  refine SL.norm [_, _, _, _, _] rfl ?_
  refine SL.store 4 rfl rfl rfl rfl sz70 rfl rfl ?_
  refine SL.norm [_, _, _, _, _] rfl ?_
  refine SL.pure rfl rfl rfl (PureOp.assign rfl) ?_
  refine SL.nil_then ?_
  refine WC.seq ?_
  refine WC.seq ?_
  refine WC.region ?_
  refine SL.pure rfl rfl rfl (PureOp.move rfl) ?_
  refine SL.pure rfl rfl rfl (PureOp.neq rfl rfl) ?_
  refine SL.nil_then ?_
  refine WC.cond rfl (fun h1 => ?_) (fun h1 => ?_)
  · try simp only [Bool.and_eq_true, Bool.or_eq_true, Bool.not_eq_true', Bool.not_eq_false', Bool.and_eq_false_iff, Bool.or_eq_false_iff, decide_eq_true_eq, decide_eq_false_iff_not, Int.not_lt, Int.not_le, ne_eq, Decidable.not_not] at h1
    refine WC.seq ?_
    refine WC.region ?_
    refine SL.pure rfl rfl rfl (PureOp.build bld27 rfl rfl) ?_
    refine SL.pure rfl rfl rfl (PureOp.build bld70 rfl rfl) ?_
    refine SL.pure rfl rfl rfl (PureOp.move rfl) ?_
    refine SL.store 2 rfl rfl rfl rfl sz27 rfl rfl ?_
    refine SL.norm [_, _, _, _, _] rfl ?_
    refine SL.store 3 rfl rfl rfl rfl sz70 rfl rfl ?_
    refine SL.norm [_, _, _, _, _] rfl ?_
    refine SL.pure rfl rfl rfl (PureOp.assign rfl) ?_
    refine SL.nil_then ?_
    refine WC.ret ?_
    refine QX.ret_then ?_
    refine QX.retv rfl (RVs.cons (RV.cell rfl Try.underlying27 rfl (RowIs.cells 2 0 10 rfl rfl) sz27) (RVs.cons (RV.cell rfl Try.underlying70 rfl (RowIs.cells 3 0 4 rfl rfl) sz70) (RVs.cons (RV.tmp rfl) RVs.nil))) ?_
    intro w hw
    have q1 : (exE l t.taxes.l total fee).1 = pd0 := exE_err h1
    have q2 : ∀ ev, lA l ev (exE l t.taxes.l total fee).2 = [] := fun ev => by rw [lA, if_neg (by omega)]
    refine ⟨none, 0, ?_, by rw [q2]; exact ownsRow_nil⟩
    rw [apV, q2, tkA, if_neg (by omega), q1]; rfl
  · try simp only [Bool.and_eq_true, Bool.or_eq_true, Bool.not_eq_true', Bool.not_eq_false', Bool.and_eq_false_iff, Bool.or_eq_false_iff, decide_eq_true_eq, decide_eq_false_iff_not, Int.not_lt, Int.not_le, ne_eq, Decidable.not_not] at h1
    refine WC.skip ?_
    refine QX.then_ ?_
    refine WC.seq ?_
    refine WC.seq ?_
    refine WC.region ?_
    refine SL.pure rfl rfl rfl (PureOp.fieldAddrT 5 Try.underlying27 rfl sz24 rfl rfl) ?_
    refine SL.pure rfl rfl rfl (PureOp.load (v := .slice ao n cap) Try.underlying24 rfl rfl (fun _ => (CellIs.cells 0 rfl rfl))) ?_
    refine SL.pure rfl rfl rfl (PureOp.len rfl Try.underlying24) ?_
    refine SL.addnil 65 11 ?_
    refine SL.pure rfl rfl rfl (PureOp.move rfl) ?_
    refine SL.nil_then ?_
    refine WC.block ?_
    refine WC.loop (σ := Nat × Option Addr × Nat × List Cp × Option Addr × Nat × Nat × List Value) (fun q_ => [(0, 0, .agg #[.int .i64 t.num, .string t.loc, .string t.p1, .string t.p2, .string t.p3, .slice ao n cap, .int .i64 t.fare, .slice t.taxes.ao t.taxes.l.length t.taxes.cap, .int .i64 t.total, .int .i64 t.issued]), (1, 0, .agg #[.slice none 0 0, .slice none 0 0, .slice none 0 0, .int .i64 0, .int .i64 total]), (2, 0, .int .i64 fee), (3, 0, .pointer (some ⟨b1, 0, none⟩)), (4, 0, .pointer (some ⟨b2, 0, none⟩)), (6, 0, .pointer (some ⟨b3, 0, none⟩)), (7, 0, .pointer (some ⟨b4, 0, none⟩)), (9, 0, .pointer (some ⟨b5, 0, none⟩)), (10, 0, .int .i64 ((exE l t.taxes.l total fee).2)), (15, 0, .tuple #[.agg #[.int .i64 ((exE l t.taxes.l total fee).1.1), .int .i64 ((exE l t.taxes.l total fee).1.2.1), .int .i64 ((exE l t.taxes.l total fee).1.2.2.1), .int .i64 ((exE l t.taxes.l total fee).1.2.2.2)], .int .i64 ((exE l t.taxes.l total fee).2)]), (16, 0, .agg #[.int .i64 t.num, .string t.loc, .string t.p1, .string t.p2, .string t.p3, .slice ao n cap, .int .i64 t.fare, .slice t.taxes.ao t.taxes.l.length t.taxes.cap, .int .i64 t.total, .int .i64 t.issued]), (17, 0, .agg #[.slice none 0 0, .slice none 0 0, .slice none 0 0, .int .i64 0, .int .i64 total]), (18, 0, .int .i64 fee), (19, 0, .tuple #[.agg #[.int .i64 ((exE l t.taxes.l total fee).1.1), .int .i64 ((exE l t.taxes.l total fee).1.2.1), .int .i64 ((exE l t.taxes.l total fee).1.2.2.1), .int .i64 ((exE l t.taxes.l total fee).1.2.2.2)], .int .i64 ((exE l t.taxes.l total fee).2)]), (20, 0, .agg #[.int .i64 ((exE l t.taxes.l total fee).1.1), .int .i64 ((exE l t.taxes.l total fee).1.2.1), .int .i64 ((exE l t.taxes.l total fee).1.2.2.1), .int .i64 ((exE l t.taxes.l total fee).1.2.2.2)]), (21, 0, .int .i64 ((exE l t.taxes.l total fee).2)), (22, 0, .int .i64 ((exE l t.taxes.l total fee).2)), (23, 0, .bool (decide ((exE l t.taxes.l total fee).2 ≠ 0))), (27, 0, .pointer (some ⟨b1, 5, none⟩)), (28, 0, .slice ao n cap), (29, 0, .int .i64 ((n : Nat) : Int)), (30, 0, .int .i64 ((q_.1 : Nat) : Int))]) (fun q_ => [Item.cells b1 [.int .i64 t.num, .string t.loc, .string t.p1, .string t.p2, .string t.p3, .slice q_.2.1 n q_.2.2.1, .int .i64 t.fare, .slice t.taxes.ao t.taxes.l.length t.taxes.cap, .int .i64 t.total, .int .i64 t.issued] 27, Item.cells b2 [.slice none 0 0, .slice none 0 0, .slice none 0 0, .int .i64 0, .int .i64 total] 56, Item.cells b3 [.int .i64 0, .string (⟨#[]⟩), .string (⟨#[]⟩), .string (⟨#[]⟩), .string (⟨#[]⟩), .slice none 0 0, .int .i64 0, .slice none 0 0, .int .i64 0, .int .i64 0] 27, Item.cells b4 [.int .i64 0, .int .i64 0, .int .i64 0, .int .i64 0] 70, Item.cells b5 [.int .i64 ((exE l t.taxes.l total fee).1.1), .int .i64 ((exE l t.taxes.l total fee).1.2.1), .int .i64 ((exE l t.taxes.l total fee).1.2.2.1), .int .i64 ((exE l t.taxes.l total fee).1.2.2.2)] 70, Item.own w0.heap.size q_.2.2.2.2.1 q_.2.2.2.2.2.1 q_.2.2.2.2.2.2.1 65 11 q_.2.2.2.2.2.2.2]) (fun q_ => q_.1 ≤ n ∧ q_.2.2.2.1 = cutM l 8 q_.1 ∧ ((q_.2.2.2.2.1 = q_.2.1 ∧ q_.2.2.2.2.2.1 = n ∧ q_.2.2.2.2.2.2.1 = q_.2.2.1 ∧ q_.2.2.2.2.2.2.2 = cellsOf enc65 q_.2.2.2.1) ∨ (anyB (l.take q_.1) = false ∧ q_.2.1 = ao ∧ q_.2.2.1 = cap ∧ q_.2.2.2.1 = l))) (fun q_ => n - q_.1) 6 ((0, ao, cap, l, none, 0, 0, [])) (⟨Nat.zero_le _, rfl, .inr ⟨rfl, rfl, rfl, rfl⟩⟩) ⟨rfl, rfl, rfl, rfl, rfl, rfl, rfl, rfl, rfl, rfl, rfl, rfl, rfl, rfl, rfl, rfl, rfl, rfl, rfl, rfl, rfl, rfl, rfl, rfl, rfl, rfl, rfl, rfl, rfl, rfl, rfl, rfl, rfl, rfl, rfl, rfl, rfl, rfl, rfl, rfl, rfl, rfl, rfl, rfl, trivial⟩ rfl ?_
    rintro ⟨k, a, c, cs, pa, pn, pc, px⟩ ⟨hk, hcs, hph⟩
    try dsimp only at *
    refine WC.seq ?_
    refine WC.region ?_
    refine SL.pure rfl rfl rfl (PureOp.lss rfl rfl) ?_
    refine SL.nil_then ?_
    refine WC.seq ?_
    refine WC.cond rfl (fun h2 => ?_) (fun h2 => ?_)
    · try simp only [Bool.and_eq_true, Bool.or_eq_true, Bool.not_eq_true', Bool.not_eq_false', Bool.and_eq_false_iff, Bool.or_eq_false_iff, decide_eq_true_eq, decide_eq_false_iff_not, Int.not_lt, Int.not_le, ne_eq, Decidable.not_not] at h2
      refine WC.skip ?_
      refine QX.then_ ?_
      refine WC.seq ?_
      refine WC.block ?_
      refine WC.seq ?_
      refine WC.region ?_
      refine SL.pure rfl rfl rfl (PureOp.move rfl) ?_
      refine SL.pure rfl rfl rfl (PureOp.indexAddrN Try.underlying24 sz65 rfl rfl (AoOk.in_ hz) (fun _ => by omega)) ?_
      refine SL.pure rfl rfl rfl (PureOp.loads (vs := [.string ((nth l k).1.1.1), .int .i64 ((nth l k).1.1.2.1), .int .i64 ((nth l k).1.1.2.2.1), .string ((nth l k).1.1.2.2.2.1), .string ((nth l k).1.1.2.2.2.2.1), .int .i64 ((nth l k).1.1.2.2.2.2.2.1), .int .i64 ((nth l k).1.1.2.2.2.2.2.2), .string ((nth l k).1.2), .string ((nth l k).2.1), .int .i64 ((nth l k).2.2.1), .int .i64 ((nth l k).2.2.2)]) Try.underlying65 rfl rfl (fun _ => (RowIs.in_ hz k 0 11 (by omega) (by omega))) sz65) ?_
      refine SL.alloc rfl rfl zero65 (fun b6 hb6 => ?_)
      refine SL.norm [_, _, _, _, _, _, _] rfl ?_
      refine SL.pure rfl rfl rfl (PureOp.assign rfl) ?_
      refine SL.store 6 rfl rfl rfl rfl sz65 rfl rfl ?_
      refine SL.norm [_, _, _, _, _, _, _] rfl ?_
      refine SL.nil_then ?_
      refine WC.seq ?_
      refine WC.seq ?_
      refine WC.region ?_
      refine SL.pure rfl rfl rfl (PureOp.fieldAddrT 9 Try.underlying65 rfl sz3 rfl rfl) ?_
      refine SL.pure rfl rfl rfl (PureOp.load (v := .int .i64 ((nth l k).2.2.1)) Try.underlying3 rfl rfl (fun _ => (CellIs.cells 6 rfl rfl))) ?_
      refine SL.pure rfl rfl rfl (PureOp.neq rfl rfl) ?_
      refine SL.nil_then ?_
      refine WC.cond rfl (fun h3 => ?_) (fun h3 => ?_)
      · try simp only [Bool.and_eq_true, Bool.or_eq_true, Bool.not_eq_true', Bool.not_eq_false', Bool.and_eq_false_iff, Bool.or_eq_false_iff, decide_eq_true_eq, decide_eq_false_iff_not, Int.not_lt, Int.not_le, ne_eq, Decidable.not_not] at h3
        refine WC.exit ?_
        refine QX.exit_then ?_
        refine QX.exit_hit ?_
        refine QX.then_ ?_
        refine WC.region ?_
        refine SL.pure rfl rfl rfl (PureOp.addN (k := 1) rfl rfl (fun _ => by omega)) ?_
        refine SL.addnil 65 11 ?_
        refine SL.pure rfl rfl rfl (PureOp.move rfl) ?_
        refine SL.nil ?_
        refine QX.round (σ := Nat × Option Addr × Nat × List Cp × Option Addr × Nat × Nat × List Value) (Ef := fun q_ => [(0, 0, .agg #[.int .i64 t.num, .string t.loc, .string t.p1, .string t.p2, .string t.p3, .slice ao n cap, .int .i64 t.fare, .slice t.taxes.ao t.taxes.l.length t.taxes.cap, .int .i64 t.total, .int .i64 t.issued]), (1, 0, .agg #[.slice none 0 0, .slice none 0 0, .slice none 0 0, .int .i64 0, .int .i64 total]), (2, 0, .int .i64 fee), (3, 0, .pointer (some ⟨b1, 0, none⟩)), (4, 0, .pointer (some ⟨b2, 0, none⟩)), (6, 0, .pointer (some ⟨b3, 0, none⟩)), (7, 0, .pointer (some ⟨b4, 0, none⟩)), (9, 0, .pointer (some ⟨b5, 0, none⟩)), (10, 0, .int .i64 ((exE l t.taxes.l total fee).2)), (15, 0, .tuple #[.agg #[.int .i64 ((exE l t.taxes.l total fee).1.1), .int .i64 ((exE l t.taxes.l total fee).1.2.1), .int .i64 ((exE l t.taxes.l total fee).1.2.2.1), .int .i64 ((exE l t.taxes.l total fee).1.2.2.2)], .int .i64 ((exE l t.taxes.l total fee).2)]), (16, 0, .agg #[.int .i64 t.num, .string t.loc, .string t.p1, .string t.p2, .string t.p3, .slice ao n cap, .int .i64 t.fare, .slice t.taxes.ao t.taxes.l.length t.taxes.cap, .int .i64 t.total, .int .i64 t.issued]), (17, 0, .agg #[.slice none 0 0, .slice none 0 0, .slice none 0 0, .int .i64 0, .int .i64 total]), (18, 0, .int .i64 fee), (19, 0, .tuple #[.agg #[.int .i64 ((exE l t.taxes.l total fee).1.1), .int .i64 ((exE l t.taxes.l total fee).1.2.1), .int .i64 ((exE l t.taxes.l total fee).1.2.2.1), .int .i64 ((exE l t.taxes.l total fee).1.2.2.2)], .int .i64 ((exE l t.taxes.l total fee).2)]), (20, 0, .agg #[.int .i64 ((exE l t.taxes.l total fee).1.1), .int .i64 ((exE l t.taxes.l total fee).1.2.1), .int .i64 ((exE l t.taxes.l total fee).1.2.2.1), .int .i64 ((exE l t.taxes.l total fee).1.2.2.2)]), (21, 0, .int .i64 ((exE l t.taxes.l total fee).2)), (22, 0, .int .i64 ((exE l t.taxes.l total fee).2)), (23, 0, .bool (decide ((exE l t.taxes.l total fee).2 ≠ 0))), (27, 0, .pointer (some ⟨b1, 5, none⟩)), (28, 0, .slice ao n cap), (29, 0, .int .i64 ((n : Nat) : Int)), (30, 0, .int .i64 ((q_.1 : Nat) : Int))]) (Hf := fun q_ => [Item.cells b1 [.int .i64 t.num, .string t.loc, .string t.p1, .string t.p2, .string t.p3, .slice q_.2.1 n q_.2.2.1, .int .i64 t.fare, .slice t.taxes.ao t.taxes.l.length t.taxes.cap, .int .i64 t.total, .int .i64 t.issued] 27, Item.cells b2 [.slice none 0 0, .slice none 0 0, .slice none 0 0, .int .i64 0, .int .i64 total] 56, Item.cells b3 [.int .i64 0, .string (⟨#[]⟩), .string (⟨#[]⟩), .string (⟨#[]⟩), .string (⟨#[]⟩), .slice none 0 0, .int .i64 0, .slice none 0 0, .int .i64 0, .int .i64 0] 27, Item.cells b4 [.int .i64 0, .int .i64 0, .int .i64 0, .int .i64 0] 70, Item.cells b5 [.int .i64 ((exE l t.taxes.l total fee).1.1), .int .i64 ((exE l t.taxes.l total fee).1.2.1), .int .i64 ((exE l t.taxes.l total fee).1.2.2.1), .int .i64 ((exE l t.taxes.l total fee).1.2.2.2)] 70, Item.own w0.heap.size q_.2.2.2.2.1 q_.2.2.2.2.2.1 q_.2.2.2.2.2.2.1 65 11 q_.2.2.2.2.2.2.2]) (I := fun q_ => q_.1 ≤ n ∧ q_.2.2.2.1 = cutM l 8 q_.1 ∧ ((q_.2.2.2.2.1 = q_.2.1 ∧ q_.2.2.2.2.2.1 = n ∧ q_.2.2.2.2.2.2.1 = q_.2.2.1 ∧ q_.2.2.2.2.2.2.2 = cellsOf enc65 q_.2.2.2.1) ∨ (anyB (l.take q_.1) = false ∧ q_.2.1 = ao ∧ q_.2.2.1 = cap ∧ q_.2.2.2.1 = l))) (μ := fun q_ => n - q_.1) (s := (k, a, c, cs, pa, pn, pc, px)) 6 ((k + 1, a, c, cs, pa, pn, pc, px)) ⟨⟨(by first | omega | (dsimp only; omega)), by rw [hcs]; exact cutM_shut (by omega) (by omega), hph.imp id fun z => ⟨any_take (by omega) z.1 (by omega), z.2⟩⟩, by first | omega | (dsimp only; omega)⟩ ⟨rfl, rfl, rfl, rfl, rfl, rfl, rfl, rfl, rfl, rfl, rfl, rfl, rfl, rfl, rfl, rfl, rfl, rfl, rfl, rfl, rfl, rfl, rfl, rfl, rfl, rfl, rfl, rfl, rfl, rfl, rfl, rfl, rfl, rfl, rfl, rfl, rfl, rfl, rfl, rfl, rfl, rfl, rfl, rfl, trivial⟩ rfl
      · try simp only [Bool.and_eq_true, Bool.or_eq_true, Bool.not_eq_true', Bool.not_eq_false', Bool.and_eq_false_iff, Bool.or_eq_false_iff, decide_eq_true_eq, decide_eq_false_iff_not, Int.not_lt, Int.not_le, ne_eq, Decidable.not_not] at h3
        refine WC.skip ?_
        refine QX.then_ ?_
        refine WC.seq ?_
        refine WC.region ?_
        refine SL.pure rfl rfl rfl (PureOp.loads (vs := [.int .i64 t.num, .string t.loc, .string t.p1, .string t.p2, .string t.p3, .slice a n c, .int .i64 t.fare, .slice t.taxes.ao t.taxes.l.length t.taxes.cap, .int .i64 t.total, .int .i64 t.issued]) Try.underlying27 rfl rfl (fun _ => (RowIs.cells 0 0 10 rfl rfl)) sz27) ?_
        refine SL.pure rfl rfl rfl (PureOp.move rfl) ?_
        refine SL.callo (fun ma mc => .tuple #[.agg #[.int .i64 t.num, .string t.loc, .string t.p1, .string t.p2, .string t.p3, .slice ma n mc, .int .i64 t.fare, .slice t.taxes.ao t.taxes.l.length t.taxes.cap, .int .i64 t.total, .int .i64 t.issued], .int .i64 0]) rfl rfl rfl rfl rfl rfl callable44 (fun w hw => move_ok t cs a n c (by rw [hcs, cutM_len]; exact hn) w (src_of hw (i := 5) rfl hph hz (by rw [hcs, cutM_len]; exact hn)) hnb ((k : Nat) : Int) 8 (by omega) (by rw [hcs]; exact (congrArg (fun z : Cp => z.2.2.1) (cutM_at (by omega))).trans (by omega)) (by decide)) (fun ma mc => ?_)
        refine SL.norm [_, _, _, _, _, _, _, _] rfl ?_
        refine SL.pure rfl rfl rfl (PureOp.move rfl) ?_
        refine SL.pure rfl rfl rfl (PureOp.extract rfl rfl) ?_
        refine SL.pure rfl rfl rfl (PureOp.extract rfl rfl) ?_
        refine SL.alloc rfl rfl zero27 (fun b7 hb7 => ?_)
        refine SL.norm [_, _, _, _, _, _, _, _, _] rfl ?_
        refine SL.store 8 rfl rfl rfl rfl sz27 rfl rfl ?_
        refine SL.norm [_, _, _, _, _, _, _, _, _] rfl ?_
        refine SL.pure rfl rfl rfl (PureOp.assign rfl) ?_
        refine SL.nil_then ?_
        refine WC.seq ?_
        refine WC.seq ?_
        refine WC.region ?_
        refine SL.pure rfl rfl rfl (PureOp.move rfl) ?_
        refine SL.pure rfl rfl rfl (PureOp.neq rfl rfl) ?_
        refine SL.nil_then ?_
        refine WC.cond rfl (fun h4 => ?_) (fun h4 => ?_)
        · try simp only [Bool.and_eq_true, Bool.or_eq_true, Bool.not_eq_true', Bool.not_eq_false', Bool.and_eq_false_iff, Bool.or_eq_false_iff, decide_eq_true_eq, decide_eq_false_iff_not, Int.not_lt, Int.not_le, ne_eq, Decidable.not_not] at h4
          exact absurd h4 (by decide)
        · try simp only [Bool.and_eq_true, Bool.or_eq_true, Bool.not_eq_true', Bool.not_eq_false', Bool.and_eq_false_iff, Bool.or_eq_false_iff, decide_eq_true_eq, decide_eq_false_iff_not, Int.not_lt, Int.not_le, ne_eq, Decidable.not_not] at h4
          refine WC.skip ?_
          refine QX.then_ ?_
          refine WC.region ?_
          refine SL.pure rfl rfl rfl (PureOp.loads (vs := [.int .i64 t.num, .string t.loc, .string t.p1, .string t.p2, .string t.p3, .slice ma n mc, .int .i64 t.fare, .slice t.taxes.ao t.taxes.l.length t.taxes.cap, .int .i64 t.total, .int .i64 t.issued]) Try.underlying27 rfl rfl (fun _ => (RowIs.cells 8 0 10 rfl rfl)) sz27) ?_
          refine SL.store 0 rfl rfl rfl rfl sz27 rfl rfl ?_
          refine SL.norm [_, _, _, _, _, _, _, _, _] rfl ?_
          refine SL.nil ?_
          refine QX.normal_in ?_
          refine QX.then_ ?_
          refine WC.region ?_
          refine SL.pure rfl rfl rfl (PureOp.addN (k := 1) rfl rfl (fun _ => by omega)) ?_
          refine SL.addnil 65 11 ?_
          refine SL.pure rfl rfl rfl (PureOp.move rfl) ?_
          refine SL.nil ?_
          refine QX.heap (fun _ h => HeapOk.pick [0, 1, 2, 3, 4, 7] (by decide) h) ?_
          refine QX.round (σ := Nat × Option Addr × Nat × List Cp × Option Addr × Nat × Nat × List Value) (Ef := fun q_ => [(0, 0, .agg #[.int .i64 t.num, .string t.loc, .string t.p1, .string t.p2, .string t.p3, .slice ao n cap, .int .i64 t.fare, .slice t.taxes.ao t.taxes.l.length t.taxes.cap, .int .i64 t.total, .int .i64 t.issued]), (1, 0, .agg #[.slice none 0 0, .slice none 0 0, .slice none 0 0, .int .i64 0, .int .i64 total]), (2, 0, .int .i64 fee), (3, 0, .pointer (some ⟨b1, 0, none⟩)), (4, 0, .pointer (some ⟨b2, 0, none⟩)), (6, 0, .pointer (some ⟨b3, 0, none⟩)), (7, 0, .pointer (some ⟨b4, 0, none⟩)), (9, 0, .pointer (some ⟨b5, 0, none⟩)), (10, 0, .int .i64 ((exE l t.taxes.l total fee).2)), (15, 0, .tuple #[.agg #[.int .i64 ((exE l t.taxes.l total fee).1.1), .int .i64 ((exE l t.taxes.l total fee).1.2.1), .int .i64 ((exE l t.taxes.l total fee).1.2.2.1), .int .i64 ((exE l t.taxes.l total fee).1.2.2.2)], .int .i64 ((exE l t.taxes.l total fee).2)]), (16, 0, .agg #[.int .i64 t.num, .string t.loc, .string t.p1, .string t.p2, .string t.p3, .slice ao n cap, .int .i64 t.fare, .slice t.taxes.ao t.taxes.l.length t.taxes.cap, .int .i64 t.total, .int .i64 t.issued]), (17, 0, .agg #[.slice none 0 0, .slice none 0 0, .slice none 0 0, .int .i64 0, .int .i64 total]), (18, 0, .int .i64 fee), (19, 0, .tuple #[.agg #[.int .i64 ((exE l t.taxes.l total fee).1.1), .int .i64 ((exE l t.taxes.l total fee).1.2.1), .int .i64 ((exE l t.taxes.l total fee).1.2.2.1), .int .i64 ((exE l t.taxes.l total fee).1.2.2.2)], .int .i64 ((exE l t.taxes.l total fee).2)]), (20, 0, .agg #[.int .i64 ((exE l t.taxes.l total fee).1.1), .int .i64 ((exE l t.taxes.l total fee).1.2.1), .int .i64 ((exE l t.taxes.l total fee).1.2.2.1), .int .i64 ((exE l t.taxes.l total fee).1.2.2.2)]), (21, 0, .int .i64 ((exE l t.taxes.l total fee).2)), (22, 0, .int .i64 ((exE l t.taxes.l total fee).2)), (23, 0, .bool (decide ((exE l t.taxes.l total fee).2 ≠ 0))), (27, 0, .pointer (some ⟨b1, 5, none⟩)), (28, 0, .slice ao n cap), (29, 0, .int .i64 ((n : Nat) : Int)), (30, 0, .int .i64 ((q_.1 : Nat) : Int))]) (Hf := fun q_ => [Item.cells b1 [.int .i64 t.num, .string t.loc, .string t.p1, .string t.p2, .string t.p3, .slice q_.2.1 n q_.2.2.1, .int .i64 t.fare, .slice t.taxes.ao t.taxes.l.length t.taxes.cap, .int .i64 t.total, .int .i64 t.issued] 27, Item.cells b2 [.slice none 0 0, .slice none 0 0, .slice none 0 0, .int .i64 0, .int .i64 total] 56, Item.cells b3 [.int .i64 0, .string (⟨#[]⟩), .string (⟨#[]⟩), .string (⟨#[]⟩), .string (⟨#[]⟩), .slice none 0 0, .int .i64 0, .slice none 0 0, .int .i64 0, .int .i64 0] 27, Item.cells b4 [.int .i64 0, .int .i64 0, .int .i64 0, .int .i64 0] 70, Item.cells b5 [.int .i64 ((exE l t.taxes.l total fee).1.1), .int .i64 ((exE l t.taxes.l total fee).1.2.1), .int .i64 ((exE l t.taxes.l total fee).1.2.2.1), .int .i64 ((exE l t.taxes.l total fee).1.2.2.2)] 70, Item.own w0.heap.size q_.2.2.2.2.1 q_.2.2.2.2.2.1 q_.2.2.2.2.2.2.1 65 11 q_.2.2.2.2.2.2.2]) (I := fun q_ => q_.1 ≤ n ∧ q_.2.2.2.1 = cutM l 8 q_.1 ∧ ((q_.2.2.2.2.1 = q_.2.1 ∧ q_.2.2.2.2.2.1 = n ∧ q_.2.2.2.2.2.2.1 = q_.2.2.1 ∧ q_.2.2.2.2.2.2.2 = cellsOf enc65 q_.2.2.2.1) ∨ (anyB (l.take q_.1) = false ∧ q_.2.1 = ao ∧ q_.2.2.1 = cap ∧ q_.2.2.2.1 = l))) (μ := fun q_ => n - q_.1) (s := (k, a, c, cs, pa, pn, pc, px)) 6 ((k + 1, ma, mc, cs.set k (setS (nth cs k) (8 - 2)), ma, n, mc, cellsOf enc65 (cs.set k (setS (nth cs k) (8 - 2))))) ⟨⟨(by first | omega | (dsimp only; omega)), by rw [hcs]; exact cutM_open (by omega) (by omega), .inl ⟨rfl, rfl, rfl, rfl⟩⟩, by first | omega | (dsimp only; omega)⟩ ⟨rfl, rfl, rfl, rfl, rfl, rfl, rfl, rfl, rfl, rfl, rfl, rfl, rfl, rfl, rfl, rfl, rfl, rfl, rfl, rfl, rfl, rfl, rfl, rfl, rfl, rfl, rfl, rfl, rfl, rfl, rfl, rfl, rfl, rfl, rfl, rfl, rfl, rfl, rfl, rfl, rfl, rfl, rfl, rfl, trivial⟩ rfl
    · try simp only [Bool.and_eq_true, Bool.or_eq_true, Bool.not_eq_true', Bool.not_eq_false', Bool.and_eq_false_iff, Bool.or_eq_false_iff, decide_eq_true_eq, decide_eq_false_iff_not, Int.not_lt, Int.not_le, ne_eq, Decidable.not_not] at h2
      refine WC.exit ?_
      refine QX.exit_then ?_
      refine QX.exit_then ?_
      refine QX.exit_hit ?_
      refine QX.then_ ?_
      refine WC.seq ?_
      refine WC.drawh ([Item.cells b1 [.int .i64 t.num, .string t.loc, .string t.p1, .string t.p2, .string t.p3, .slice a n c, .int .i64 t.fare, .slice t.taxes.ao t.taxes.l.length t.taxes.cap, .int .i64 t.total, .int .i64 t.issued] 27, Item.cells b2 [.slice none 0 0, .slice none 0 0, .slice none 0 0, .int .i64 0, .int .i64 total] 56, Item.triv, Item.triv, Item.cells b5 [.int .i64 ((exE l t.taxes.l total fee).1.1), .int .i64 ((exE l t.taxes.l total fee).1.2.1), .int .i64 ((exE l t.taxes.l total fee).1.2.2.1), .int .i64 ((exE l t.taxes.l total fee).1.2.2.2)] 70, Item.own w0.heap.size pa pn pc 65 11 px]) 5 [false, false, false, false, false] rfl rfl rfl ?_
      refine SD.take 0 [true, false, false, false, false] rfl (by kernel_rfl) rfl (fun _ h => (HeapOk.settriv (HeapOk.settriv h (i := 2) rfl) (i := 3) rfl)) rfl rfl rfl (PureOp.loads (vs := [.int .i64 t.num, .string t.loc, .string t.p1, .string t.p2, .string t.p3, .slice a n c, .int .i64 t.fare, .slice t.taxes.ao t.taxes.l.length t.taxes.cap, .int .i64 t.total, .int .i64 t.issued]) Try.underlying27 rfl rfl (fun _ => (RowIs.cells 0 0 10 rfl rfl)) sz27) ?_
      refine SD.take 1 [true, true, false, false, false] rfl (by kernel_rfl) rfl (fun _ h => (HeapOk.settriv (HeapOk.settriv h (i := 2) rfl) (i := 3) rfl)) rfl rfl rfl (PureOp.loads (vs := [.int .i64 ((exE l t.taxes.l total fee).1.1), .int .i64 ((exE l t.taxes.l total fee).1.2.1), .int .i64 ((exE l t.taxes.l total fee).1.2.2.1), .int .i64 ((exE l t.taxes.l total fee).1.2.2.2)]) Try.underlying70 rfl rfl (fun _ => (RowIs.cells 4 0 4 rfl rfl)) sz70) ?_
      refine SD.one 2 [true, true, true, false, false] (by kernel_rfl) rfl rfl ?_
      refine SL.store 2 rfl rfl rfl rfl sz27 rfl rfl ?_
      refine SL.norm [_, _, _, _, _, _] rfl ?_
      refine SD.back (fun _ h => (HeapOk.settriv (HeapOk.settriv h (i := 2) rfl) (i := 3) rfl)) ?_
      refine SD.one 3 [true, true, true, true, false] (by kernel_rfl) rfl rfl ?_
      refine SL.store 3 rfl rfl rfl rfl sz70 rfl rfl ?_
      refine SL.norm [_, _, _, _, _, _] rfl ?_
      refine SD.back (fun _ h => (HeapOk.settriv (HeapOk.settriv h (i := 2) rfl) (i := 3) rfl)) ?_
      refine SD.take 4 [true, true, true, true, true] rfl (by kernel_rfl) rfl (fun _ h => (HeapOk.settriv (HeapOk.settriv h (i := 2) rfl) (i := 3) rfl)) rfl rfl rfl (PureOp.assign rfl) ?_
      refine SD.done (by kernel_rfl) ?_
      refine QX.ofK ?_
      refine QX.then_ ?_
      refine WC.ret ?_
      refine QX.retv rfl (RVs.cons (RV.cell rfl Try.underlying27 rfl (RowIs.cells 2 0 10 rfl rfl) sz27) (RVs.cons (RV.cell rfl Try.underlying70 rfl (RowIs.cells 3 0 4 rfl rfl) sz70) (RVs.cons (RV.tmp rfl) RVs.nil))) ?_
      intro w hw
      have q0 : (exE l t.taxes.l total fee).2 = 0 := by omega
      have q1 : lA l 8 (exE l t.taxes.l total fee).2 = cs := by rw [lA, if_pos q0]; exact (by rw [hcs]; exact (cutM_all (by omega)).symm)
      have q2 : n = (lA l 8 (exE l t.taxes.l total fee).2).length := by rw [lA_len, if_pos q0]; exact hn
      rcases hph with ⟨rfl, rfl, rfl, rfl⟩ | ⟨z, -, -, -⟩
      · rw [← q2, q1]
        refine ⟨_, _, ?_, hw.mem (i := 5) rfl⟩
        rw [apV, ← q2, tkA, if_pos q0, q0]; rfl
      · exfalso
        have q3 := any_take_all (by omega) z
        rw [exE_ok q0] at q3; cases q3

set_option maxHeartbeats 4000000 in
set_option maxRecDepth 100000 in
theorem rxapply_ok (t : TK) (l : List Cp) (ao : Option Addr) (n cap : Nat) (hn : n = l.length) (w0 : World) (hz : SliceIn w0 11 ao n cap (rowsF enc65 l)) (hnb : n ≤ 1000) (hx : SliceIn w0 2 t.taxes.ao t.taxes.l.length t.taxes.cap (rowsF enc67 t.taxes.l)) (hxb : t.taxes.l.length ≤ 1000) (total fee : Int) (h64 : ∀ x ∈ opens l, In64 x) (h64x : ∀ x ∈ amts t.taxes.l, In64 x) : FnC Try.prog 29 [.agg #[.int .i64 t.num, .string t.loc, .string t.p1, .string t.p2, .string t.p3, .slice ao n cap, .int .i64 t.fare, .slice t.taxes.ao t.taxes.l.length t.taxes.cap, .int .i64 t.total, .int .i64 t.issued], .agg #[.slice none 0 0, .slice none 0 0, .slice none 0 0, .int .i64 0, .int .i64 total], .int .i64 fee] w0 fun v w' => ∃ a c, v = apV t l (exE l t.taxes.l total fee).1 (exE l t.taxes.l total fee).2 8 a c ∧ w'.ownsRow w0.heap.size 65 11 (.slice a (lA l 8 (exE l t.taxes.l total fee).2).length c) (lA l 8 (exE l t.taxes.l total fee).2).length (cellsOf enc65 (lA l 8 (exE l t.taxes.l total fee).2)) := by
  refine fnc (N := 46) Try.func29 rfl rfl rfl ?_
  refine WC.seq ?_
  refine WC.region ?_
  refine SL.box rfl rfl rfl (fun b1 hb1 => ?_)
  refine SL.norm [_] rfl ?_
  refine SL.box rfl rfl rfl (fun b2 hb2 => ?_)
  refine SL.norm [_, _] rfl ?_
  refine SL.alloc rfl rfl zero27 (fun b3 hb3 => ?_)
  refine SL.norm [_, _, _] rfl ?_
  refine SL.alloc rfl rfl zero73 (fun b4 hb4 => ?_)
  refine SL.norm [_, _, _, _] rfl ?_
  refine SL.pure rfl rfl rfl (PureOp.assign rfl) ?_
  refine SL.nil_then ?_
  refine WC.seq ?_
  refine WC.region ?_
  refine SL.pure rfl rfl rfl (PureOp.loads (vs := [.int .i64 t.num, .string t.loc, .string t.p1, .string t.p2, .string t.p3, .slice ao n cap, .int .i64 t.fare, .slice t.taxes.ao t.taxes.l.length t.taxes.cap, .int .i64 t.total, .int .i64 t.issued]) Try.underlying27 rfl rfl (fun _ => (RowIs.cells 0 0 10 rfl rfl)) sz27) ?_
  refine SL.pure rfl rfl rfl (PureOp.loads (vs := [.slice none 0 0, .slice none 0 0, .slice none 0 0, .int .i64 0, .int .i64 total]) Try.underlying56 rfl rfl (fun _ => (RowIs.cells 1 0 5 rfl rfl)) sz56) ?_
  refine SL.pure rfl rfl rfl (PureOp.move rfl) ?_
  refine SL.calle rfl rfl rfl rfl rfl rfl callable27 (fun w hw => rxof_ok t l ao n cap hn w (hz.below hw.below) hnb (hx.below hw.below) hxb total fee h64 h64x) ?_
  refine SL.norm [_, _, _, _] rfl ?_
  refine SL.pure rfl rfl rfl (PureOp.move rfl) ?_
  refine SL.pure rfl rfl rfl (PureOp.extract rfl rfl) ?_
  refine SL.pure rfl rfl rfl (PureOp.extract rfl rfl) ?_
  refine SL.alloc rfl rfl zero73 (fun b5 hb5 => ?_)
  refine SL.norm [_, _, _, _, _] rfl ?_
  refine SL.store 4 rfl rfl rfl rfl sz73 rfl rfl ?_
  refine SL.norm [_, _, _, _, _] rfl ?_
  refine SL.pure rfl rfl rfl (PureOp.assign rfl) ?_
  refine SL.nil_then ?_
  refine WC.seq ?_
  refine WC.seq ?_
  refine WC.region ?_
  refine SL.pure rfl rfl rfl (PureOp.move rfl) ?_
  refine SL.pure rfl rfl rfl (PureOp.neq rfl rfl) ?_
  refine SL.nil_then ?_
  refine WC.cond rfl (fun h1 => ?_) (fun h1 => ?_)
  · try simp only [Bool.and_eq_true, Bool.or_eq_true, Bool.not_eq_true', Bool.not_eq_false', Bool.and_eq_false_iff, Bool.or_eq_false_iff, decide_eq_true_eq, decide_eq_false_iff_not, Int.not_lt, Int.not_le, ne_eq, Decidable.not_not] at h1
    refine WC.seq ?_
    refine WC.region ?_
    refine SL.pure rfl rfl rfl (PureOp.build bld27 rfl rfl) ?_
    refine SL.pure rfl rfl rfl (PureOp.build bld73 rfl rfl) ?_
    refine SL.pure rfl rfl rfl (PureOp.move rfl) ?_
    refine SL.store 2 rfl rfl rfl rfl sz27 rfl rfl ?_
    refine SL.norm [_, _, _, _, _] rfl ?_
    refine SL.store 3 rfl rfl rfl rfl sz73 rfl rfl ?_
    refine SL.norm [_, _, _, _, _] rfl ?_
    refine SL.pure rfl rfl rfl (PureOp.assign rfl) ?_
    refine SL.nil_then ?_
    refine WC.ret ?_
    refine QX.ret_then ?_
    refine QX.retv rfl (RVs.cons (RV.cell rfl Try.underlying27 rfl (RowIs.cells 2 0 10 rfl rfl) sz27) (RVs.cons (RV.cell rfl Try.underlying73 rfl (RowIs.cells 3 0 4 rfl rfl) sz73) (RVs.cons (RV.tmp rfl) RVs.nil))) ?_
    intro w hw
    have q1 : (exE l t.taxes.l total fee).1 = pd0 := exE_err h1
    have q2 : ∀ ev, lA l ev (exE l t.taxes.l total fee).2 = [] := fun ev => by rw [lA, if_neg (by omega)]
    refine ⟨none, 0, ?_, by rw [q2]; exact ownsRow_nil⟩
    rw [apV, q2, tkA, if_neg (by omega), q1]; rfl
  · try simp only [Bool.and_eq_true, Bool.or_eq_true, Bool.not_eq_true', Bool.not_eq_false', Bool.and_eq_false_iff, Bool.or_eq_false_iff, decide_eq_true_eq, decide_eq_false_iff_not, Int.not_lt, Int.not_le, ne_eq, Decidable.not_not] at h1
    refine WC.skip ?_
    refine QX.then_ ?_
    refine WC.seq ?_
    refine WC.seq ?_
    refine WC.region ?_
    refine SL.addnil 65 11 ?_
    refine SL.pure rfl rfl rfl (PureOp.assign rfl) ?_
    refine SL.nil_then ?_
    refine WC.block ?_
    refine WC.loop (σ := Nat × Option Addr × Nat × List Cp × Option Addr × Nat × Nat × List Value) (fun q_ => [(0, 0, .agg #[.int .i64 t.num, .string t.loc, .string t.p1, .string t.p2, .string t.p3, .slice ao n cap, .int .i64 t.fare, .slice t.taxes.ao t.taxes.l.length t.taxes.cap, .int .i64 t.total, .int .i64 t.issued]), (1, 0, .agg #[.slice none 0 0, .slice none 0 0, .slice none 0 0, .int .i64 0, .int .i64 total]), (2, 0, .int .i64 fee), (3, 0, .pointer (some ⟨b1, 0, none⟩)), (4, 0, .pointer (some ⟨b2, 0, none⟩)), (6, 0, .pointer (some ⟨b3, 0, none⟩)), (7, 0, .pointer (some ⟨b4, 0, none⟩)), (8, 0, .int .i64 0), (9, 0, .pointer (some ⟨b5, 0, none⟩)), (10, 0, .int .i64 ((exE l t.taxes.l total fee).2)), (12, 0, .tuple #[.agg #[.int .i64 ((exE l t.taxes.l total fee).1.1), .int .i64 ((exE l t.taxes.l total fee).1.2.1), .int .i64 ((exE l t.taxes.l total fee).1.2.2.1), .int .i64 ((exE l t.taxes.l total fee).1.2.2.2)], .int .i64 ((exE l t.taxes.l total fee).2)]), (13, 0, .agg #[.int .i64 t.num, .string t.loc, .string t.p1, .string t.p2, .string t.p3, .slice ao n cap, .int .i64 t.fare, .slice t.taxes.ao t.taxes.l.length t.taxes.cap, .int .i64 t.total, .int .i64 t.issued]), (14, 0, .agg #[.slice none 0 0, .slice none 0 0, .slice none 0 0, .int .i64 0, .int .i64 total]), (15, 0, .int .i64 fee), (16, 0, .tuple #[.agg #[.int .i64 ((exE l t.taxes.l total fee).1.1), .int .i64 ((exE l t.taxes.l total fee).1.2.1), .int .i64 ((exE l t.taxes.l total fee).1.2.2.1), .int .i64 ((exE l t.taxes.l total fee).1.2.2.2)], .int .i64 ((exE l t.taxes.l total fee).2)]), (17, 0, .agg #[.int .i64 ((exE l t.taxes.l total fee).1.1), .int .i64 ((exE l t.taxes.l total fee).1.2.1), .int .i64 ((exE l t.taxes.l total fee).1.2.2.1), .int .i64 ((exE l t.taxes.l total fee).1.2.2.2)]), (18, 0, .int .i64 ((exE l t.taxes.l total fee).2)), (19, 0, .int .i64 ((exE l t.taxes.l total fee).2)), (20, 0, .bool (decide ((exE l t.taxes.l total fee).2 ≠ 0))), (11, 0, .int .i64 ((q_.1 : Nat) : Int))]) (fun q_ => [Item.cells b1 [.int .i64 t.num, .string t.loc, .string t.p1, .string t.p2, .string t.p3, .slice q_.2.1 n q_.2.2.1, .int .i64 t.fare, .slice t.taxes.ao t.taxes.l.length t.taxes.cap, .int .i64 t.total, .int .i64 t.issued] 27, Item.cells b2 [.slice none 0 0, .slice none 0 0, .slice none 0 0, .int .i64 0, .int .i64 total] 56, Item.cells b3 [.int .i64 0, .string (⟨#[]⟩), .string (⟨#[]⟩), .string (⟨#[]⟩), .string (⟨#[]⟩), .slice none 0 0, .int .i64 0, .slice none 0 0, .int .i64 0, .int .i64 0] 27, Item.cells b4 [.int .i64 0, .int .i64 0, .int .i64 0, .int .i64 0] 73, Item.cells b5 [.int .i64 ((exE l t.taxes.l total fee).1.1), .int .i64 ((exE l t.taxes.l total fee).1.2.1), .int .i64 ((exE l t.taxes.l total fee).1.2.2.1), .int .i64 ((exE l t.taxes.l total fee).1.2.2.2)] 73, Item.own w0.heap.size q_.2.2.2.2.1 q_.2.2.2.2.2.1 q_.2.2.2.2.2.2.1 65 11 q_.2.2.2.2.2.2.2]) (fun q_ => q_.1 ≤ n ∧ q_.2.2.2.1 = cutM l 8 q_.1 ∧ ((q_.2.2.2.2.1 = q_.2.1 ∧ q_.2.2.2.2.2.1 = n ∧ q_.2.2.2.2.2.2.1 = q_.2.2.1 ∧ q_.2.2.2.2.2.2.2 = cellsOf enc65 q_.2.2.2.1) ∨ (anyB (l.take q_.1) = false ∧ q_.2.1 = ao ∧ q_.2.2.1 = cap ∧ q_.2.2.2.1 = l))) (fun q_ => n - q_.1) 6 ((0, ao, cap, l, none, 0, 0, [])) (⟨Nat.zero_le _, rfl, .inr ⟨rfl, rfl, rfl, rfl⟩⟩) ⟨rfl, rfl, rfl, rfl, rfl, rfl, rfl, rfl, rfl, rfl, rfl, rfl, rfl, rfl, rfl, rfl, rfl, rfl, rfl, rfl, rfl, rfl, rfl, rfl, rfl, rfl, rfl, rfl, rfl, rfl, rfl, rfl, rfl, rfl, rfl, rfl, rfl, rfl, rfl, rfl, trivial⟩ rfl ?_
    rintro ⟨k, a, c, cs, pa, pn, pc, px⟩ ⟨hk, hcs, hph⟩
    try dsimp only at *
    refine WC.seq ?_
    refine WC.seq ?_
    refine WC.region ?_
    refine SL.pure rfl rfl rfl (PureOp.move rfl) ?_
    refine SL.pure rfl rfl rfl (PureOp.fieldAddrT 5 Try.underlying27 rfl sz24 rfl rfl) ?_
    refine SL.pure rfl rfl rfl (PureOp.load (v := .slice a n c) Try.underlying24 rfl rfl (fun _ => (CellIs.cells 0 rfl rfl))) ?_
    refine SL.pure rfl rfl rfl (PureOp.len rfl Try.underlying24) ?_
    refine SL.pure rfl rfl rfl (PureOp.lss rfl rfl) ?_
    refine SL.nil_then ?_
    refine WC.cond rfl (fun h2 => ?_) (fun h2 => ?_)
    · try simp only [Bool.and_eq_true, Bool.or_eq_true, Bool.not_eq_true', Bool.not_eq_false', Bool.and_eq_false_iff, Bool.or_eq_false_iff, decide_eq_true_eq, decide_eq_false_iff_not, Int.not_lt, Int.not_le, ne_eq, Decidable.not_not] at h2
      refine WC.skip ?_
      refine QX.then_ ?_
      refine WC.seq ?_
      refine WC.block ?_
      refine WC.seq ?_
      refine WC.region ?_
      refine SL.pure rfl rfl rfl (PureOp.fieldAddrT 5 Try.underlying27 rfl sz24 rfl rfl) ?_
      refine SL.pure rfl rfl rfl (PureOp.load (v := .slice a n c) Try.underlying24 rfl rfl (fun _ => (CellIs.cells 0 rfl rfl))) ?_
      refine SL.pure rfl rfl rfl (PureOp.move rfl) ?_
      refine SL.pure rfl rfl rfl (PureOp.indexAddrN Try.underlying24 sz65 rfl rfl (AoOk.any (fun w hw => src_of hw (i := 5) rfl hph hz (by rw [hcs, cutM_len]; exact hn))) (fun _ => by omega)) ?_
      refine SL.pure rfl rfl rfl (PureOp.fieldAddr 9 Try.underlying65 rfl rfl sz3 rfl) ?_
      refine SL.pure rfl rfl rfl (PureOp.load (v := .int .i64 ((nth cs k).2.2.1)) Try.underlying3 rfl rfl (fun _ => (CellIs.any (fun w hw => src_of hw (i := 5) rfl hph hz (by rw [hcs, cutM_len]; exact hn)) k 9 (by omega) (by omega)))) ?_
      refine SL.pure rfl rfl rfl (PureOp.eql rfl rfl) ?_
      refine SL.nil_then ?_
      refine WC.cond rfl (fun h3 => ?_) (fun h3 => ?_)
      · try simp only [Bool.and_eq_true, Bool.or_eq_true, Bool.not_eq_true', Bool.not_eq_false', Bool.and_eq_false_iff, Bool.or_eq_false_iff, decide_eq_true_eq, decide_eq_false_iff_not, Int.not_lt, Int.not_le, ne_eq, Decidable.not_not] at h3
        refine WC.region ?_
        refine SL.pure rfl rfl rfl (PureOp.loads (vs := [.int .i64 t.num, .string t.loc, .string t.p1, .string t.p2, .string t.p3, .slice a n c, .int .i64 t.fare, .slice t.taxes.ao t.taxes.l.length t.taxes.cap, .int .i64 t.total, .int .i64 t.issued]) Try.underlying27 rfl rfl (fun _ => (RowIs.cells 0 0 10 rfl rfl)) sz27) ?_
        refine SL.pure rfl rfl rfl (PureOp.move rfl) ?_
        refine SL.callo (fun ma mc => .tuple #[.agg #[.int .i64 t.num, .string t.loc, .string t.p1, .string t.p2, .string t.p3, .slice ma n mc, .int .i64 t.fare, .slice t.taxes.ao t.taxes.l.length t.taxes.cap, .int .i64 t.total, .int .i64 t.issued], .int .i64 0]) rfl rfl rfl rfl rfl rfl callable45 (fun w hw => rmove_ok t cs a n c (by rw [hcs, cutM_len]; exact hn) w (src_of hw (i := 5) rfl hph hz (by rw [hcs, cutM_len]; exact hn)) hnb ((k : Nat) : Int) 8 (by omega) (by exact h3) (by decide)) (fun ma mc => ?_)
        refine SL.norm [_, _, _, _, _, _, _] rfl ?_
        refine SL.pure rfl rfl rfl (PureOp.move rfl) ?_
        refine SL.pure rfl rfl rfl (PureOp.extract rfl rfl) ?_
        refine SL.pure rfl rfl rfl (PureOp.extract rfl rfl) ?_
        refine SL.store 0 rfl rfl rfl rfl sz27 rfl rfl ?_
        refine SL.norm [_, _, _, _, _, _, _] rfl ?_
        refine SL.nil ?_
        refine QX.normal_in ?_
        refine QX.then_ ?_
        refine WC.region ?_
        refine SL.pure rfl rfl rfl (PureOp.move rfl) ?_
        refine SL.pure rfl rfl rfl (PureOp.addN (k := 1) rfl rfl (fun _ => by omega)) ?_
        refine SL.addnil 65 11 ?_
        refine SL.pure rfl rfl rfl (PureOp.assign rfl) ?_
        refine SL.nil ?_
        refine QX.heap (fun _ h => HeapOk.pick [0, 1, 2, 3, 4, 6] (by decide) h) ?_
        refine QX.round (σ := Nat × Option Addr × Nat × List Cp × Option Addr × Nat × Nat × List Value) (Ef := fun q_ => [(0, 0, .agg #[.int .i64 t.num, .string t.loc, .string t.p1, .string t.p2, .string t.p3, .slice ao n cap, .int .i64 t.fare, .slice t.taxes.ao t.taxes.l.length t.taxes.cap, .int .i64 t.total, .int .i64 t.issued]), (1, 0, .agg #[.slice none 0 0, .slice none 0 0, .slice none 0 0, .int .i64 0, .int .i64 total]), (2, 0, .int .i64 fee), (3, 0, .pointer (some ⟨b1, 0, none⟩)), (4, 0, .pointer (some ⟨b2, 0, none⟩)), (6, 0, .pointer (some ⟨b3, 0, none⟩)), (7, 0, .pointer (some ⟨b4, 0, none⟩)), (8, 0, .int .i64 0), (9, 0, .pointer (some ⟨b5, 0, none⟩)), (10, 0, .int .i64 ((exE l t.taxes.l total fee).2)), (12, 0, .tuple #[.agg #[.int .i64 ((exE l t.taxes.l total fee).1.1), .int .i64 ((exE l t.taxes.l total fee).1.2.1), .int .i64 ((exE l t.taxes.l total fee).1.2.2.1), .int .i64 ((exE l t.taxes.l total fee).1.2.2.2)], .int .i64 ((exE l t.taxes.l total fee).2)]), (13, 0, .agg #[.int .i64 t.num, .string t.loc, .string t.p1, .string t.p2, .string t.p3, .slice ao n cap, .int .i64 t.fare, .slice t.taxes.ao t.taxes.l.length t.taxes.cap, .int .i64 t.total, .int .i64 t.issued]), (14, 0, .agg #[.slice none 0 0, .slice none 0 0, .slice none 0 0, .int .i64 0, .int .i64 total]), (15, 0, .int .i64 fee), (16, 0, .tuple #[.agg #[.int .i64 ((exE l t.taxes.l total fee).1.1), .int .i64 ((exE l t.taxes.l total fee).1.2.1), .int .i64 ((exE l t.taxes.l total fee).1.2.2.1), .int .i64 ((exE l t.taxes.l total fee).1.2.2.2)], .int .i64 ((exE l t.taxes.l total fee).2)]), (17, 0, .agg #[.int .i64 ((exE l t.taxes.l total fee).1.1), .int .i64 ((exE l t.taxes.l total fee).1.2.1), .int .i64 ((exE l t.taxes.l total fee).1.2.2.1), .int .i64 ((exE l t.taxes.l total fee).1.2.2.2)]), (18, 0, .int .i64 ((exE l t.taxes.l total fee).2)), (19, 0, .int .i64 ((exE l t.taxes.l total fee).2)), (20, 0, .bool (decide ((exE l t.taxes.l total fee).2 ≠ 0))), (11, 0, .int .i64 ((q_.1 : Nat) : Int))]) (Hf := fun q_ => [Item.cells b1 [.int .i64 t.num, .string t.loc, .string t.p1, .string t.p2, .string t.p3, .slice q_.2.1 n q_.2.2.1, .int .i64 t.fare, .slice t.taxes.ao t.taxes.l.length t.taxes.cap, .int .i64 t.total, .int .i64 t.issued] 27, Item.cells b2 [.slice none 0 0, .slice none 0 0, .slice none 0 0, .int .i64 0, .int .i64 total] 56, Item.cells b3 [.int .i64 0, .string (⟨#[]⟩), .string (⟨#[]⟩), .string (⟨#[]⟩), .string (⟨#[]⟩), .slice none 0 0, .int .i64 0, .slice none 0 0, .int .i64 0, .int .i64 0] 27, Item.cells b4 [.int .i64 0, .int .i64 0, .int .i64 0, .int .i64 0] 73, Item.cells b5 [.int .i64 ((exE l t.taxes.l total fee).1.1), .int .i64 ((exE l t.taxes.l total fee).1.2.1), .int .i64 ((exE l t.taxes.l total fee).1.2.2.1), .int .i64 ((exE l t.taxes.l total fee).1.2.2.2)] 73, Item.own w0.heap.size q_.2.2.2.2.1 q_.2.2.2.2.2.1 q_.2.2.2.2.2.2.1 65 11 q_.2.2.2.2.2.2.2]) (I := fun q_ => q_.1 ≤ n ∧ q_.2.2.2.1 = cutM l 8 q_.1 ∧ ((q_.2.2.2.2.1 = q_.2.1 ∧ q_.2.2.2.2.2.1 = n ∧ q_.2.2.2.2.2.2.1 = q_.2.2.1 ∧ q_.2.2.2.2.2.2.2 = cellsOf enc65 q_.2.2.2.1) ∨ (anyB (l.take q_.1) = false ∧ q_.2.1 = ao ∧ q_.2.2.1 = cap ∧ q_.2.2.2.1 = l))) (μ := fun q_ => n - q_.1) (s := (k, a, c, cs, pa, pn, pc, px)) 6 ((k + 1, ma, mc, cs.set k (setS (nth cs k) (8 - 2)), ma, n, mc, cellsOf enc65 (cs.set k (setS (nth cs k) (8 - 2))))) ⟨⟨(by first | omega | (dsimp only; omega)), by rw [hcs]; exact cutM_open (by omega) (by have q := congrArg (fun z : Cp => z.2.2.1) (cutM_at (l := l) (e := 8) (k := k) (by omega)); rw [← hcs] at q; omega), .inl ⟨rfl, rfl, rfl, rfl⟩⟩, by first | omega | (dsimp only; omega)⟩ ⟨rfl, rfl, rfl, rfl, rfl, rfl, rfl, rfl, rfl, rfl, rfl, rfl, rfl, rfl, rfl, rfl, rfl, rfl, rfl, rfl, rfl, rfl, rfl, rfl, rfl, rfl, rfl, rfl, rfl, rfl, rfl, rfl, rfl, rfl, rfl, rfl, rfl, rfl, rfl, rfl, trivial⟩ rfl
      · try simp only [Bool.and_eq_true, Bool.or_eq_true, Bool.not_eq_true', Bool.not_eq_false', Bool.and_eq_false_iff, Bool.or_eq_false_iff, decide_eq_true_eq, decide_eq_false_iff_not, Int.not_lt, Int.not_le, ne_eq, Decidable.not_not] at h3
        refine WC.skip ?_
        refine QX.normal_in ?_
        refine QX.then_ ?_
        refine WC.region ?_
        refine SL.pure rfl rfl rfl (PureOp.move rfl) ?_
        refine SL.pure rfl rfl rfl (PureOp.addN (k := 1) rfl rfl (fun _ => by omega)) ?_
        refine SL.addnil 65 11 ?_
        refine SL.pure rfl rfl rfl (PureOp.assign rfl) ?_
        refine SL.nil ?_
        refine QX.round (σ := Nat × Option Addr × Nat × List Cp × Option Addr × Nat × Nat × List Value) (Ef := fun q_ => [(0, 0, .agg #[.int .i64 t.num, .string t.loc, .string t.p1, .string t.p2, .string t.p3, .slice ao n cap, .int .i64 t.fare, .slice t.taxes.ao t.taxes.l.length t.taxes.cap, .int .i64 t.total, .int .i64 t.issued]), (1, 0, .agg #[.slice none 0 0, .slice none 0 0, .slice none 0 0, .int .i64 0, .int .i64 total]), (2, 0, .int .i64 fee), (3, 0, .pointer (some ⟨b1, 0, none⟩)), (4, 0, .pointer (some ⟨b2, 0, none⟩)), (6, 0, .pointer (some ⟨b3, 0, none⟩)), (7, 0, .pointer (some ⟨b4, 0, none⟩)), (8, 0, .int .i64 0), (9, 0, .pointer (some ⟨b5, 0, none⟩)), (10, 0, .int .i64 ((exE l t.taxes.l total fee).2)), (12, 0, .tuple #[.agg #[.int .i64 ((exE l t.taxes.l total fee).1.1), .int .i64 ((exE l t.taxes.l total fee).1.2.1), .int .i64 ((exE l t.taxes.l total fee).1.2.2.1), .int .i64 ((exE l t.taxes.l total fee).1.2.2.2)], .int .i64 ((exE l t.taxes.l total fee).2)]), (13, 0, .agg #[.int .i64 t.num, .string t.loc, .string t.p1, .string t.p2, .string t.p3, .slice ao n cap, .int .i64 t.fare, .slice t.taxes.ao t.taxes.l.length t.taxes.cap, .int .i64 t.total, .int .i64 t.issued]), (14, 0, .agg #[.slice none 0 0, .slice none 0 0, .slice none 0 0, .int .i64 0, .int .i64 total]), (15, 0, .int .i64 fee), (16, 0, .tuple #[.agg #[.int .i64 ((exE l t.taxes.l total fee).1.1), .int .i64 ((exE l t.taxes.l total fee).1.2.1), .int .i64 ((exE l t.taxes.l total fee).1.2.2.1), .int .i64 ((exE l t.taxes.l total fee).1.2.2.2)], .int .i64 ((exE l t.taxes.l total fee).2)]), (17, 0, .agg #[.int .i64 ((exE l t.taxes.l total fee).1.1), .int .i64 ((exE l t.taxes.l total fee).1.2.1), .int .i64 ((exE l t.taxes.l total fee).1.2.2.1), .int .i64 ((exE l t.taxes.l total fee).1.2.2.2)]), (18, 0, .int .i64 ((exE l t.taxes.l total fee).2)), (19, 0, .int .i64 ((exE l t.taxes.l total fee).2)), (20, 0, .bool (decide ((exE l t.taxes.l total fee).2 ≠ 0))), (11, 0, .int .i64 ((q_.1 : Nat) : Int))]) (Hf := fun q_ => [Item.cells b1 [.int .i64 t.num, .string t.loc, .string t.p1, .string t.p2, .string t.p3, .slice q_.2.1 n q_.2.2.1, .int .i64 t.fare, .slice t.taxes.ao t.taxes.l.length t.taxes.cap, .int .i64 t.total, .int .i64 t.issued] 27, Item.cells b2 [.slice none 0 0, .slice none 0 0, .slice none 0 0, .int .i64 0, .int .i64 total] 56, Item.cells b3 [.int .i64 0, .string (⟨#[]⟩), .string (⟨#[]⟩), .string (⟨#[]⟩), .string (⟨#[]⟩), .slice none 0 0, .int .i64 0, .slice none 0 0, .int .i64 0, .int .i64 0] 27, Item.cells b4 [.int .i64 0, .int .i64 0, .int .i64 0, .int .i64 0] 73, Item.cells b5 [.int .i64 ((exE l t.taxes.l total fee).1.1), .int .i64 ((exE l t.taxes.l total fee).1.2.1), .int .i64 ((exE l t.taxes.l total fee).1.2.2.1), .int .i64 ((exE l t.taxes.l total fee).1.2.2.2)] 73, Item.own w0.heap.size q_.2.2.2.2.1 q_.2.2.2.2.2.1 q_.2.2.2.2.2.2.1 65 11 q_.2.2.2.2.2.2.2]) (I := fun q_ => q_.1 ≤ n ∧ q_.2.2.2.1 = cutM l 8 q_.1 ∧ ((q_.2.2.2.2.1 = q_.2.1 ∧ q_.2.2.2.2.2.1 = n ∧ q_.2.2.2.2.2.2.1 = q_.2.2.1 ∧ q_.2.2.2.2.2.2.2 = cellsOf enc65 q_.2.2.2.1) ∨ (anyB (l.take q_.1) = false ∧ q_.2.1 = ao ∧ q_.2.2.1 = cap ∧ q_.2.2.2.1 = l))) (μ := fun q_ => n - q_.1) (s := (k, a, c, cs, pa, pn, pc, px)) 6 ((k + 1, a, c, cs, pa, pn, pc, px)) ⟨⟨(by first | omega | (dsimp only; omega)), by rw [hcs]; exact cutM_shut (by omega) (by have q := congrArg (fun z : Cp => z.2.2.1) (cutM_at (l := l) (e := 8) (k := k) (by omega)); rw [← hcs] at q; omega), hph.imp id fun z => ⟨any_take (by omega) z.1 (by have q := congrArg (fun z : Cp => z.2.2.1) (cutM_at (l := l) (e := 8) (k := k) (by omega)); rw [← hcs] at q; omega), z.2⟩⟩, by first | omega | (dsimp only; omega)⟩ ⟨rfl, rfl, rfl, rfl, rfl, rfl, rfl, rfl, rfl, rfl, rfl, rfl, rfl, rfl, rfl, rfl, rfl, rfl, rfl, rfl, rfl, rfl, rfl, rfl, rfl, rfl, rfl, rfl, rfl, rfl, rfl, rfl, rfl, rfl, rfl, rfl, rfl, rfl, rfl, rfl, trivial⟩ rfl
    · try simp only [Bool.and_eq_true, Bool.or_eq_true, Bool.not_eq_true', Bool.not_eq_false', Bool.and_eq_false_iff, Bool.or_eq_false_iff, decide_eq_true_eq, decide_eq_false_iff_not, Int.not_lt, Int.not_le, ne_eq, Decidable.not_not] at h2
      refine WC.exit ?_
      refine QX.exit_then ?_
      refine QX.exit_then ?_
      refine QX.exit_hit ?_
      refine QX.then_ ?_
      refine WC.seq ?_
      refine WC.drawh ([Item.cells b1 [.int .i64 t.num, .string t.loc, .string t.p1, .string t.p2, .string t.p3, .slice a n c, .int .i64 t.fare, .slice t.taxes.ao t.taxes.l.length t.taxes.cap, .int .i64 t.total, .int .i64 t.issued] 27, Item.cells b2 [.slice none 0 0, .slice none 0 0, .slice none 0 0, .int .i64 0, .int .i64 total] 56, Item.triv, Item.triv, Item.cells b5 [.int .i64 ((exE l t.taxes.l total fee).1.1), .int .i64 ((exE l t.taxes.l total fee).1.2.1), .int .i64 ((exE l t.taxes.l total fee).1.2.2.1), .int .i64 ((exE l t.taxes.l total fee).1.2.2.2)] 73, Item.own w0.heap.size pa pn pc 65 11 px]) 5 [false, false, false, false, false] rfl rfl rfl ?_
      refine SD.take 0 [true, false, false, false, false] rfl (by kernel_rfl) rfl (fun _ h => (HeapOk.settriv (HeapOk.settriv h (i := 2) rfl) (i := 3) rfl)) rfl rfl rfl (PureOp.loads (vs := [.int .i64 t.num, .string t.loc, .string t.p1, .string t.p2, .string t.p3, .slice a n c, .int .i64 t.fare, .slice t.taxes.ao t.taxes.l.length t.taxes.cap, .int .i64 t.total, .int .i64 t.issued]) Try.underlying27 rfl rfl (fun _ => (RowIs.cells 0 0 10 rfl rfl)) sz27) ?_
      refine SD.take 1 [true, true, false, false, false] rfl (by kernel_rfl) rfl (fun _ h => (HeapOk.settriv (HeapOk.settriv h (i := 2) rfl) (i := 3) rfl)) rfl rfl rfl (PureOp.loads (vs := [.int .i64 ((exE l t.taxes.l total fee).1.1), .int .i64 ((exE l t.taxes.l total fee).1.2.1), .int .i64 ((exE l t.taxes.l total fee).1.2.2.1), .int .i64 ((exE l t.taxes.l total fee).1.2.2.2)]) Try.underlying73 rfl rfl (fun _ => (RowIs.cells 4 0 4 rfl rfl)) sz73) ?_
      refine SD.one 2 [true, true, true, false, false] (by kernel_rfl) rfl rfl ?_
      refine SL.store 2 rfl rfl rfl rfl sz27 rfl rfl ?_
      refine SL.norm [_, _, _, _, _, _] rfl ?_
      refine SD.back (fun _ h => (HeapOk.settriv (HeapOk.settriv h (i := 2) rfl) (i := 3) rfl)) ?_
      refine SD.one 3 [true, true, true, true, false] (by kernel_rfl) rfl rfl ?_
      refine SL.store 3 rfl rfl rfl rfl sz73 rfl rfl ?_
      refine SL.norm [_, _, _, _, _, _] rfl ?_
      refine SD.back (fun _ h => (HeapOk.settriv (HeapOk.settriv h (i := 2) rfl) (i := 3) rfl)) ?_
      refine SD.take 4 [true, true, true, true, true] rfl (by kernel_rfl) rfl (fun _ h => (HeapOk.settriv (HeapOk.settriv h (i := 2) rfl) (i := 3) rfl)) rfl rfl rfl (PureOp.assign rfl) ?_
      refine SD.done (by kernel_rfl) ?_
      refine QX.ofK ?_
      refine QX.then_ ?_
      refine WC.ret ?_
      refine QX.retv rfl (RVs.cons (RV.cell rfl Try.underlying27 rfl (RowIs.cells 2 0 10 rfl rfl) sz27) (RVs.cons (RV.cell rfl Try.underlying73 rfl (RowIs.cells 3 0 4 rfl rfl) sz73) (RVs.cons (RV.tmp rfl) RVs.nil))) ?_
      intro w hw
      have q0 : (exE l t.taxes.l total fee).2 = 0 := by omega
      have q1 : lA l 8 (exE l t.taxes.l total fee).2 = cs := by rw [lA, if_pos q0]; exact (by rw [hcs]; exact (cutM_all (by omega)).symm)
      have q2 : n = (lA l 8 (exE l t.taxes.l total fee).2).length := by rw [lA_len, if_pos q0]; exact hn
      rcases hph with ⟨rfl, rfl, rfl, rfl⟩ | ⟨z, -, -, -⟩
      · rw [← q2, q1]
        refine ⟨_, _, ?_, hw.mem (i := 5) rfl⟩
        rw [apV, ← q2, tkA, if_pos q0, q0]; rfl
      · exfalso
        have q3 := any_take_all (by omega) z
        rw [exE_ok q0] at q3; cases q3

end Go.Proofs.Ytipmdakhmpaemaa
