import Derived.Test.YtipmdakhmpaemaaRfC
namespace Go.Proofs.Ytipmdakhmpaemaa
open Go Go.RowKit Eng
set_option linter.unusedVariables false
set_option linter.unusedSimpArgs false

set_option maxHeartbeats 4000000 in
set_option maxRecDepth 100000 in
theorem ropen_ok (t : TK) (l : List Cp) (ao : Option Addr) (n cap : Nat) (hn : n = l.length) (w0 : World) (hz : SliceIn w0 11 ao n cap (rowsF enc65 l)) (hnb : n ≤ 1000) (hx : SliceIn w0 2 t.taxes.ao t.taxes.l.length t.taxes.cap (rowsF enc67 t.taxes.l)) (hxb : t.taxes.l.length ≤ 1000) : FnC Try.prog 41 [.agg #[.int .i64 t.num, .string t.loc, .string t.p1, .string t.p2, .string t.p3, .slice ao n cap, .int .i64 t.fare, .slice t.taxes.ao t.taxes.l.length t.taxes.cap, .int .i64 t.total, .int .i64 t.issued]] w0 fun v w' => ∃ a c, v = .slice a (openT l n).length c ∧ w'.ownsRow w0.heap.size 3 1 (.slice a (openT l n).length c) (openT l n).length (cellsOf encI (openT l n)) := by
  refine fnc (N := 24) Try.func41 rfl rfl rfl ?_
  refine WC.seq ?_
  refine WC.region ?_
  refine SL.box rfl rfl rfl (fun b1 hb1 => ?_)
  refine SL.norm [_] rfl ?_
  refine SL.pure rfl rfl rfl (PureOp.assign rfl) ?_
  refine SL.nil_then ?_
  refine WC.seq ?_
  refine WC.region ?_
  refine SL.addnil 3 1 ?_
  refine SL.pure rfl rfl rfl (PureOp.assign rfl) ?_
  refine SL.nil_then ?_
  refine WC.seq ?_
  refine WC.seq ?_
  refine WC.region ?_
  refine SL.pure rfl rfl rfl (PureOp.assign rfl) ?_
  refine SL.nil_then ?_
  refine WC.block ?_
  refine WC.loop (σ := Nat × Nat × List Int × Option Addr × Nat) (fun q_ => [(0, 0, .agg #[.int .i64 t.num, .string t.loc, .string t.p1, .string t.p2, .string t.p3, .slice ao n cap, .int .i64 t.fare, .slice t.taxes.ao t.taxes.l.length t.taxes.cap, .int .i64 t.total, .int .i64 t.issued]), (1, 0, .pointer (some ⟨b1, 0, none⟩)), (2, 0, .slice none 0 0), (4, 0, .int .i64 ((q_.1 : Nat) : Int)), (3, 0, .slice q_.2.2.2.1 q_.2.1 q_.2.2.2.2)]) (fun q_ => [Item.cells b1 [.int .i64 t.num, .string t.loc, .string t.p1, .string t.p2, .string t.p3, .slice ao n cap, .int .i64 t.fare, .slice t.taxes.ao t.taxes.l.length t.taxes.cap, .int .i64 t.total, .int .i64 t.issued] 27, Item.own w0.heap.size q_.2.2.2.1 q_.2.1 q_.2.2.2.2 3 1 (cellsOf encI q_.2.2.1)]) (fun q_ => (q_.1 ≤ n ∧ q_.2.1 ≤ q_.1 ∧ q_.2.1 = q_.2.2.1.length) ∧ q_.2.2.1 = openT l q_.1) (fun q_ => n - q_.1) 2 ((0, 0, [], none, 0)) (⟨⟨Nat.zero_le _, Nat.le_refl _, rfl⟩, rfl⟩) ⟨rfl, rfl, rfl, rfl, rfl, rfl, rfl, rfl, rfl, rfl, trivial⟩ rfl ?_
  rintro ⟨k, m, vs, a, c⟩ ⟨⟨hk, hm1, hm⟩, hv⟩
  try dsimp only at *
  refine WC.seq ?_
  refine WC.seq ?_
  refine WC.region ?_
  refine SL.pure rfl rfl rfl (PureOp.move rfl) ?_
  refine SL.pure rfl rfl rfl (PureOp.fieldAddrT 5 Try.underlying27 rfl sz24 rfl rfl) ?_
  refine SL.pure rfl rfl rfl (PureOp.load (v := .slice ao n cap) Try.underlying24 rfl rfl (fun _ => (CellIs.cells 0 rfl rfl))) ?_
  refine SL.pure rfl rfl rfl (PureOp.len rfl Try.underlying24) ?_
  refine SL.pure rfl rfl rfl (PureOp.lss rfl rfl) ?_
  refine SL.nil_then ?_
  refine WC.cond rfl (fun h1 => ?_) (fun h1 => ?_)
  · try simp only [Bool.and_eq_true, Bool.or_eq_true, Bool.not_eq_true', Bool.not_eq_false', Bool.and_eq_false_iff, Bool.or_eq_false_iff, decide_eq_true_eq, decide_eq_false_iff_not, Int.not_lt, Int.not_le, ne_eq, Decidable.not_not] at h1
    refine WC.skip ?_
    refine QX.then_ ?_
    refine WC.seq ?_
    refine WC.block ?_
    refine WC.seq ?_
    refine WC.region ?_
    refine SL.pure rfl rfl rfl (PureOp.fieldAddrT 5 Try.underlying27 rfl sz24 rfl rfl) ?_
    refine SL.pure rfl rfl rfl (PureOp.load (v := .slice ao n cap) Try.underlying24 rfl rfl (fun _ => (CellIs.cells 0 rfl rfl))) ?_
    refine SL.pure rfl rfl rfl (PureOp.move rfl) ?_
    refine SL.pure rfl rfl rfl (PureOp.indexAddrN Try.underlying24 sz65 rfl rfl (AoOk.in_ hz) (fun _ => by omega)) ?_
    refine SL.pure rfl rfl rfl (PureOp.fieldAddr 9 Try.underlying65 rfl rfl sz3 rfl) ?_
    refine SL.pure rfl rfl rfl (PureOp.load (v := .int .i64 ((nth l k).2.2.1)) Try.underlying3 rfl rfl (fun _ => (CellIs.in_ hz k 9 (by omega) (by omega)))) ?_
    refine SL.pure rfl rfl rfl (PureOp.eql rfl rfl) ?_
    refine SL.nil_then ?_
    refine WC.cond rfl (fun h2 => ?_) (fun h2 => ?_)
    · try simp only [Bool.and_eq_true, Bool.or_eq_true, Bool.not_eq_true', Bool.not_eq_false', Bool.and_eq_false_iff, Bool.or_eq_false_iff, decide_eq_true_eq, decide_eq_false_iff_not, Int.not_lt, Int.not_le, ne_eq, Decidable.not_not] at h2
      refine WC.region ?_
      refine SL.pure rfl rfl rfl (PureOp.move rfl) ?_
      refine SL.pure rfl rfl rfl (PureOp.move rfl) ?_
      refine SL.buildSlice rfl rfl Try.underlying89 elem3 rfl rfl rfl rfl (fun b2 hb2 => ?_)
      refine SL.norm [_, _, _] rfl ?_
      refine SL.append 1 rfl rfl Try.underlying89 elem3 rfl rfl rfl rfl (SrcIs.own 2 rfl) (by rfl) (by omega) (by omega) (fun ao1_ cap1_ => ?_)
      refine SL.itemxs 1 rfl (show _ = cellsOf encI (vs ++ [((k : Nat) : Int)]) from by rw [cellsOf_append, cellsOf_one]; rfl) ?_
      refine SL.norm [_, _, _] rfl ?_
      refine SL.pure rfl rfl rfl (PureOp.assign rfl) ?_
      refine SL.nil ?_
      refine QX.normal_in ?_
      refine QX.then_ ?_
      refine WC.region ?_
      refine SL.pure rfl rfl rfl (PureOp.move rfl) ?_
      refine SL.pure rfl rfl rfl (PureOp.addN (k := 1) rfl rfl (fun _ => by omega)) ?_
      refine SL.pure rfl rfl rfl (PureOp.assign rfl) ?_
      refine SL.nil ?_
      refine QX.round (σ := Nat × Nat × List Int × Option Addr × Nat) (Ef := fun q_ => [(0, 0, .agg #[.int .i64 t.num, .string t.loc, .string t.p1, .string t.p2, .string t.p3, .slice ao n cap, .int .i64 t.fare, .slice t.taxes.ao t.taxes.l.length t.taxes.cap, .int .i64 t.total, .int .i64 t.issued]), (1, 0, .pointer (some ⟨b1, 0, none⟩)), (2, 0, .slice none 0 0), (4, 0, .int .i64 ((q_.1 : Nat) : Int)), (3, 0, .slice q_.2.2.2.1 q_.2.1 q_.2.2.2.2)]) (Hf := fun q_ => [Item.cells b1 [.int .i64 t.num, .string t.loc, .string t.p1, .string t.p2, .string t.p3, .slice ao n cap, .int .i64 t.fare, .slice t.taxes.ao t.taxes.l.length t.taxes.cap, .int .i64 t.total, .int .i64 t.issued] 27, Item.own w0.heap.size q_.2.2.2.1 q_.2.1 q_.2.2.2.2 3 1 (cellsOf encI q_.2.2.1)]) (I := fun q_ => (q_.1 ≤ n ∧ q_.2.1 ≤ q_.1 ∧ q_.2.1 = q_.2.2.1.length) ∧ q_.2.2.1 = openT l q_.1) (μ := fun q_ => n - q_.1) (s := (k, m, vs, a, c)) 2 ((k + 1, m + 1, vs ++ [((k : Nat) : Int)], ao1_, cap1_)) ⟨⟨⟨(by first | omega | (dsimp only; omega)), (by first | omega | (dsimp only; omega)), by rw [List.length_append, hm]; rfl⟩, by rw [openT, if_pos h2, hv]⟩, by first | omega | (dsimp only; omega)⟩ ⟨rfl, rfl, rfl, rfl, rfl, rfl, rfl, rfl, rfl, rfl, trivial⟩ rfl
    · try simp only [Bool.and_eq_true, Bool.or_eq_true, Bool.not_eq_true', Bool.not_eq_false', Bool.and_eq_false_iff, Bool.or_eq_false_iff, decide_eq_true_eq, decide_eq_false_iff_not, Int.not_lt, Int.not_le, ne_eq, Decidable.not_not] at h2
      refine WC.skip ?_
      refine QX.normal_in ?_
      refine QX.then_ ?_
      refine WC.region ?_
      refine SL.pure rfl rfl rfl (PureOp.move rfl) ?_
      refine SL.pure rfl rfl rfl (PureOp.addN (k := 1) rfl rfl (fun _ => by omega)) ?_
      refine SL.pure rfl rfl rfl (PureOp.assign rfl) ?_
      refine SL.nil ?_
      refine QX.round (σ := Nat × Nat × List Int × Option Addr × Nat) (Ef := fun q_ => [(0, 0, .agg #[.int .i64 t.num, .string t.loc, .string t.p1, .string t.p2, .string t.p3, .slice ao n cap, .int .i64 t.fare, .slice t.taxes.ao t.taxes.l.length t.taxes.cap, .int .i64 t.total, .int .i64 t.issued]), (1, 0, .pointer (some ⟨b1, 0, none⟩)), (2, 0, .slice none 0 0), (4, 0, .int .i64 ((q_.1 : Nat) : Int)), (3, 0, .slice q_.2.2.2.1 q_.2.1 q_.2.2.2.2)]) (Hf := fun q_ => [Item.cells b1 [.int .i64 t.num, .string t.loc, .string t.p1, .string t.p2, .string t.p3, .slice ao n cap, .int .i64 t.fare, .slice t.taxes.ao t.taxes.l.length t.taxes.cap, .int .i64 t.total, .int .i64 t.issued] 27, Item.own w0.heap.size q_.2.2.2.1 q_.2.1 q_.2.2.2.2 3 1 (cellsOf encI q_.2.2.1)]) (I := fun q_ => (q_.1 ≤ n ∧ q_.2.1 ≤ q_.1 ∧ q_.2.1 = q_.2.2.1.length) ∧ q_.2.2.1 = openT l q_.1) (μ := fun q_ => n - q_.1) (s := (k, m, vs, a, c)) 2 ((k + 1, m, vs, a, c)) ⟨⟨⟨(by first | omega | (dsimp only; omega)), (by first | omega | (dsimp only; omega)), hm⟩, by rw [openT, if_neg h2, hv]⟩, by first | omega | (dsimp only; omega)⟩ ⟨rfl, rfl, rfl, rfl, rfl, rfl, rfl, rfl, rfl, rfl, trivial⟩ rfl
  · try simp only [Bool.and_eq_true, Bool.or_eq_true, Bool.not_eq_true', Bool.not_eq_false', Bool.and_eq_false_iff, Bool.or_eq_false_iff, decide_eq_true_eq, decide_eq_false_iff_not, Int.not_lt, Int.not_le, ne_eq, Decidable.not_not] at h1
    refine WC.exit ?_
    refine QX.exit_then ?_
    refine QX.exit_then ?_
    refine QX.exit_hit ?_
    refine QX.then_ ?_
    refine WC.seq ?_
    refine WC.region ?_
    refine SL.pure rfl rfl rfl (PureOp.move rfl) ?_
    refine SL.pure rfl rfl rfl (PureOp.assign rfl) ?_
    refine SL.nil_then ?_
    refine WC.ret ?_
    refine QX.ret1 rfl rfl ?_
    intro w hw
    obtain rfl : k = n := by omega
    subst hm
    subst hv
    exact ⟨_, _, rfl, hw.mem (i := 1) rfl⟩

set_option maxHeartbeats 4000000 in
set_option maxRecDepth 100000 in
theorem taxes_ok (t : TK) (l : List Cp) (ao : Option Addr) (n cap : Nat) (hn : n = l.length) (w0 : World) (hz : SliceIn w0 11 ao n cap (rowsF enc65 l)) (hnb : n ≤ 1000) (hx : SliceIn w0 2 t.taxes.ao t.taxes.l.length t.taxes.cap (rowsF enc67 t.taxes.l)) (hxb : t.taxes.l.length ≤ 1000) : FnC Try.prog 39 [.agg #[.int .i64 t.num, .string t.loc, .string t.p1, .string t.p2, .string t.p3, .slice ao n cap, .int .i64 t.fare, .slice t.taxes.ao t.taxes.l.length t.taxes.cap, .int .i64 t.total, .int .i64 t.issued]] w0 fun v w' => v = .tuple #[.int .i64 (taxE l t.taxes.l).1, .int .i64 (taxE l t.taxes.l).2] := by
  refine fnc (N := 27) Try.func39 rfl rfl rfl ?_
  refine WC.seq ?_
  refine WC.region ?_
  refine SL.box rfl rfl rfl (fun b1 hb1 => ?_)
  refine SL.norm [_] rfl ?_
  refine SL.pure rfl rfl rfl (PureOp.assign rfl) ?_
  refine SL.pure rfl rfl rfl (PureOp.assign rfl) ?_
  refine SL.nil_then ?_
  refine WC.seq ?_
  refine WC.seq ?_
  refine WC.region ?_
  refine SL.pure rfl rfl rfl (PureOp.fieldAddrT 5 Try.underlying27 rfl sz24 rfl rfl) ?_
  refine SL.pure rfl rfl rfl (PureOp.load (v := .slice ao n cap) Try.underlying24 rfl rfl (fun _ => (CellIs.cells 0 rfl rfl))) ?_
  refine SL.calle rfl rfl rfl rfl rfl rfl callable37 (fun w hw => has_shut l ao n cap hn w (hz.below hw.below) hnb) ?_
  refine SL.norm [_] rfl ?_
  refine SL.nil_then ?_
  refine WC.cond rfl (fun h1 => ?_) (fun h1 => ?_)
  · try simp only [Bool.and_eq_true, Bool.or_eq_true, Bool.not_eq_true', Bool.not_eq_false', Bool.and_eq_false_iff, Bool.or_eq_false_iff, decide_eq_true_eq, decide_eq_false_iff_not, Int.not_lt, Int.not_le, ne_eq, Decidable.not_not] at h1
    refine WC.seq ?_
    refine WC.region ?_
    refine SL.pure rfl rfl rfl (PureOp.assign rfl) ?_
    refine SL.pure rfl rfl rfl (PureOp.assign rfl) ?_
    refine SL.nil_then ?_
    refine WC.ret ?_
    refine QX.ret_then ?_
    refine QX.ret2 rfl rfl rfl ?_
    intro w hw
    rw [taxE, if_pos (show shutB l = true from h1)]
  · try simp only [Bool.and_eq_true, Bool.or_eq_true, Bool.not_eq_true', Bool.not_eq_false', Bool.and_eq_false_iff, Bool.or_eq_false_iff, decide_eq_true_eq, decide_eq_false_iff_not, Int.not_lt, Int.not_le, ne_eq, Decidable.not_not] at h1
    refine WC.skip ?_
    refine QX.then_ ?_
    refine WC.seq ?_
    refine WC.region ?_
    refine SL.addnil 3 1 ?_
    refine SL.pure rfl rfl rfl (PureOp.assign rfl) ?_
    refine SL.nil_then ?_
    refine WC.seq ?_
    refine WC.seq ?_
    refine WC.region ?_
    refine SL.pure rfl rfl rfl (PureOp.fieldAddrT 7 Try.underlying27 rfl sz25 rfl rfl) ?_
    refine SL.pure rfl rfl rfl (PureOp.load (v := .slice t.taxes.ao t.taxes.l.length t.taxes.cap) Try.underlying25 rfl rfl (fun _ => (CellIs.cells 0 rfl rfl))) ?_
    refine SL.pure rfl rfl rfl (PureOp.len rfl Try.underlying25) ?_
    refine SL.pure rfl rfl rfl (PureOp.move rfl) ?_
    refine SL.nil_then ?_
    refine WC.block ?_
    refine WC.loop (σ := Nat × Nat × List Int × Option Addr × Nat) (fun q_ => [(0, 0, .agg #[.int .i64 t.num, .string t.loc, .string t.p1, .string t.p2, .string t.p3, .slice ao n cap, .int .i64 t.fare, .slice t.taxes.ao t.taxes.l.length t.taxes.cap, .int .i64 t.total, .int .i64 t.issued]), (1, 0, .pointer (some ⟨b1, 0, none⟩)), (2, 0, .int .i64 0), (3, 0, .int .i64 0), (7, 0, .pointer (some ⟨b1, 5, none⟩)), (8, 0, .slice ao n cap), (9, 0, .bool (shutB l)), (10, 0, .pointer (some ⟨b1, 7, none⟩)), (11, 0, .slice t.taxes.ao t.taxes.l.length t.taxes.cap), (12, 0, .int .i64 ((t.taxes.l.length : Nat) : Int)), (13, 0, .int .i64 ((q_.1 : Nat) : Int)), (4, 0, .slice q_.2.2.2.1 q_.2.1 q_.2.2.2.2)]) (fun q_ => [Item.cells b1 [.int .i64 t.num, .string t.loc, .string t.p1, .string t.p2, .string t.p3, .slice ao n cap, .int .i64 t.fare, .slice t.taxes.ao t.taxes.l.length t.taxes.cap, .int .i64 t.total, .int .i64 t.issued] 27, Item.own w0.heap.size q_.2.2.2.1 q_.2.1 q_.2.2.2.2 3 1 (cellsOf encI q_.2.2.1)]) (fun q_ => (q_.1 ≤ t.taxes.l.length ∧ q_.2.1 = q_.1 ∧ q_.2.1 = q_.2.2.1.length) ∧ q_.2.2.1 = amts (t.taxes.l.take q_.1)) (fun q_ => t.taxes.l.length - q_.1) 2 ((0, 0, [], none, 0)) (⟨⟨Nat.zero_le _, rfl, rfl⟩, rfl⟩) ⟨rfl, rfl, rfl, rfl, rfl, rfl, rfl, rfl, rfl, rfl, rfl, rfl, rfl, rfl, rfl, rfl, rfl, rfl, rfl, rfl, rfl, rfl, rfl, rfl, trivial⟩ rfl ?_
    rintro ⟨k, m, vs, a, c⟩ ⟨⟨hk, hm1, hm⟩, hv⟩
    try dsimp only at *
    refine WC.seq ?_
    refine WC.region ?_
    refine SL.pure rfl rfl rfl (PureOp.lss rfl rfl) ?_
    refine SL.nil_then ?_
    refine WC.seq ?_
    refine WC.cond rfl (fun h2 => ?_) (fun h2 => ?_)
    · try simp only [Bool.and_eq_true, Bool.or_eq_true, Bool.not_eq_true', Bool.not_eq_false', Bool.and_eq_false_iff, Bool.or_eq_false_iff, decide_eq_true_eq, decide_eq_false_iff_not, Int.not_lt, Int.not_le, ne_eq, Decidable.not_not] at h2
      refine WC.skip ?_
      refine QX.then_ ?_
      refine WC.seq ?_
      refine WC.block ?_
      refine WC.seq ?_
      refine WC.region ?_
      refine SL.pure rfl rfl rfl (PureOp.indexAddrN Try.underlying25 sz67 rfl rfl (AoOk.in_ hx) (fun _ => by omega)) ?_
      refine SL.pure rfl rfl rfl (PureOp.loads (vs := [.string ((nth t.taxes.l k).1), .int .i64 ((nth t.taxes.l k).2)]) Try.underlying67 rfl rfl (fun _ => (RowIs.in_ hx k 0 2 (by omega) (by omega))) sz67) ?_
      refine SL.alloc rfl rfl zero67 (fun b2 hb2 => ?_)
      refine SL.norm [_, _, _] rfl ?_
      refine SL.store 2 rfl rfl rfl rfl sz67 rfl rfl ?_
      refine SL.norm [_, _, _] rfl ?_
      refine SL.nil_then ?_
      refine WC.region ?_
      refine SL.pure rfl rfl rfl (PureOp.move rfl) ?_
      refine SL.pure rfl rfl rfl (PureOp.fieldAddrT 1 Try.underlying67 rfl sz3 rfl rfl) ?_
      refine SL.pure rfl rfl rfl (PureOp.load (v := .int .i64 ((nth t.taxes.l k).2)) Try.underlying3 rfl rfl (fun _ => (CellIs.cells 2 rfl rfl))) ?_
      refine SL.buildSlice rfl rfl Try.underlying89 elem3 rfl rfl rfl rfl (fun b3 hb3 => ?_)
      refine SL.norm [_, _, _, _] rfl ?_
      refine SL.append 1 rfl rfl Try.underlying89 elem3 rfl rfl rfl rfl (SrcIs.own 3 rfl) (by rfl) (by omega) (by omega) (fun ao1_ cap1_ => ?_)
      refine SL.itemxs 1 rfl (show _ = cellsOf encI (vs ++ [(nth t.taxes.l k).2]) from by rw [cellsOf_append, cellsOf_one]; rfl) ?_
      refine SL.norm [_, _, _, _] rfl ?_
      refine SL.pure rfl rfl rfl (PureOp.assign rfl) ?_
      refine SL.nil ?_
      refine QX.normal_in ?_
      refine QX.then_ ?_
      refine WC.region ?_
      refine SL.pure rfl rfl rfl (PureOp.addN (k := 1) rfl rfl (fun _ => by omega)) ?_
      refine SL.pure rfl rfl rfl (PureOp.move rfl) ?_
      refine SL.nil ?_
      refine QX.round (σ := Nat × Nat × List Int × Option Addr × Nat) (Ef := fun q_ => [(0, 0, .agg #[.int .i64 t.num, .string t.loc, .string t.p1, .string t.p2, .string t.p3, .slice ao n cap, .int .i64 t.fare, .slice t.taxes.ao t.taxes.l.length t.taxes.cap, .int .i64 t.total, .int .i64 t.issued]), (1, 0, .pointer (some ⟨b1, 0, none⟩)), (2, 0, .int .i64 0), (3, 0, .int .i64 0), (7, 0, .pointer (some ⟨b1, 5, none⟩)), (8, 0, .slice ao n cap), (9, 0, .bool (shutB l)), (10, 0, .pointer (some ⟨b1, 7, none⟩)), (11, 0, .slice t.taxes.ao t.taxes.l.length t.taxes.cap), (12, 0, .int .i64 ((t.taxes.l.length : Nat) : Int)), (13, 0, .int .i64 ((q_.1 : Nat) : Int)), (4, 0, .slice q_.2.2.2.1 q_.2.1 q_.2.2.2.2)]) (Hf := fun q_ => [Item.cells b1 [.int .i64 t.num, .string t.loc, .string t.p1, .string t.p2, .string t.p3, .slice ao n cap, .int .i64 t.fare, .slice t.taxes.ao t.taxes.l.length t.taxes.cap, .int .i64 t.total, .int .i64 t.issued] 27, Item.own w0.heap.size q_.2.2.2.1 q_.2.1 q_.2.2.2.2 3 1 (cellsOf encI q_.2.2.1)]) (I := fun q_ => (q_.1 ≤ t.taxes.l.length ∧ q_.2.1 = q_.1 ∧ q_.2.1 = q_.2.2.1.length) ∧ q_.2.2.1 = amts (t.taxes.l.take q_.1)) (μ := fun q_ => t.taxes.l.length - q_.1) (s := (k, m, vs, a, c)) 2 ((k + 1, m + 1, vs ++ [(nth t.taxes.l k).2], ao1_, cap1_)) ⟨⟨⟨(by first | omega | (dsimp only; omega)), (by first | omega | (dsimp only; omega)), by rw [List.length_append, hm]; rfl⟩, by rw [take_nth (by omega), hv]; simp [amts]⟩, by first | omega | (dsimp only; omega)⟩ ⟨rfl, rfl, rfl, rfl, rfl, rfl, rfl, rfl, rfl, rfl, rfl, rfl, rfl, rfl, rfl, rfl, rfl, rfl, rfl, rfl, rfl, rfl, rfl, rfl, trivial⟩ rfl
    · try simp only [Bool.and_eq_true, Bool.or_eq_true, Bool.not_eq_true', Bool.not_eq_false', Bool.and_eq_false_iff, Bool.or_eq_false_iff, decide_eq_true_eq, decide_eq_false_iff_not, Int.not_lt, Int.not_le, ne_eq, Decidable.not_not] at h2
      refine WC.exit ?_
      refine QX.exit_then ?_
      refine QX.exit_then ?_
      refine QX.exit_hit ?_
      refine QX.then_ ?_
      refine WC.seq ?_
      refine WC.region ?_
      refine SL.pure rfl rfl rfl (PureOp.move rfl) ?_
      refine SL.calle rfl rfl rfl rfl rfl rfl callable35 (fun w hw => sum_ok vs _ _ _ (by omega) w (SliceIn.rows (enc := encI) (l := vs) (hw.mem (i := 1) rfl) encI_len (by first | decide | omega | simp)) (by first | decide | omega | simp)) ?_
      refine SL.norm [_, _] rfl ?_
      refine SL.pure rfl rfl rfl (PureOp.extract rfl rfl) ?_
      refine SL.pure rfl rfl rfl (PureOp.extract rfl rfl) ?_
      refine SL.pure rfl rfl rfl (PureOp.assign rfl) ?_
      refine SL.pure rfl rfl rfl (PureOp.assign rfl) ?_
      refine SL.nil_then ?_
      refine WC.ret ?_
      refine QX.ret2 rfl rfl rfl ?_
      intro w hw
      obtain rfl : k = t.taxes.l.length := by omega
      rw [List.take_of_length_le (Nat.le_refl _)] at hv
      rw [taxE, if_neg (by rw [show shutB l = false from h1]; decide), ← hv]; rfl

set_option maxHeartbeats 4000000 in
set_option maxRecDepth 100000 in
theorem rtax_ok (t : TK) (l : List Cp) (ao : Option Addr) (n cap : Nat) (hn : n = l.length) (w0 : World) (hz : SliceIn w0 11 ao n cap (rowsF enc65 l)) (hnb : n ≤ 1000) (hx : SliceIn w0 2 t.taxes.ao t.taxes.l.length t.taxes.cap (rowsF enc67 t.taxes.l)) (hxb : t.taxes.l.length ≤ 1000) (h64 : ∀ x ∈ amts t.taxes.l, In64 x) : FnC Try.prog 42 [.agg #[.int .i64 t.num, .string t.loc, .string t.p1, .string t.p2, .string t.p3, .slice ao n cap, .int .i64 t.fare, .slice t.taxes.ao t.taxes.l.length t.taxes.cap, .int .i64 t.total, .int .i64 t.issued]] w0 fun v w' => v = .tuple #[.int .i64 (taxE l t.taxes.l).1, .int .i64 (taxE l t.taxes.l).2] := by
  refine fnc (N := 35) Try.func42 rfl rfl rfl ?_
  refine WC.seq ?_
  refine WC.region ?_
  refine SL.box rfl rfl rfl (fun b1 hb1 => ?_)
  refine SL.norm [_] rfl ?_
  refine SL.pure rfl rfl rfl (PureOp.assign rfl) ?_
  refine SL.pure rfl rfl rfl (PureOp.assign rfl) ?_
  refine SL.nil_then ?_
  refine WC.seq ?_
  refine WC.region ?_
  refine SL.addnil 3 1 ?_
  refine SL.pure rfl rfl rfl (PureOp.assign rfl) ?_
  refine SL.nil_then ?_
  refine WC.seq ?_
  refine WC.seq ?_
  refine WC.region ?_
  refine SL.pure rfl rfl rfl (PureOp.assign rfl) ?_
  refine SL.nil_then ?_
  refine WC.block ?_
  refine WC.loop (σ := Nat × Nat × List Int × Option Addr × Nat) (fun q_ => [(0, 0, .agg #[.int .i64 t.num, .string t.loc, .string t.p1, .string t.p2, .string t.p3, .slice ao n cap, .int .i64 t.fare, .slice t.taxes.ao t.taxes.l.length t.taxes.cap, .int .i64 t.total, .int .i64 t.issued]), (1, 0, .pointer (some ⟨b1, 0, none⟩)), (2, 0, .int .i64 0), (3, 0, .int .i64 0), (5, 0, .int .i64 ((q_.1 : Nat) : Int)), (4, 0, .slice q_.2.2.2.1 q_.2.1 q_.2.2.2.2)]) (fun q_ => [Item.cells b1 [.int .i64 t.num, .string t.loc, .string t.p1, .string t.p2, .string t.p3, .slice ao n cap, .int .i64 t.fare, .slice t.taxes.ao t.taxes.l.length t.taxes.cap, .int .i64 t.total, .int .i64 t.issued] 27, Item.own w0.heap.size q_.2.2.2.1 q_.2.1 q_.2.2.2.2 3 1 (cellsOf encI q_.2.2.1)]) (fun q_ => (q_.1 ≤ t.taxes.l.length ∧ q_.2.1 = q_.1 ∧ q_.2.1 = q_.2.2.1.length) ∧ q_.2.2.1 = amts (t.taxes.l.take q_.1) ∧ (0 < q_.1 → (openT l n).length = n)) (fun q_ => t.taxes.l.length - q_.1) 2 ((0, 0, [], none, 0)) (⟨⟨Nat.zero_le _, rfl, rfl⟩, rfl, fun q => absurd q (by decide)⟩) ⟨rfl, rfl, rfl, rfl, rfl, rfl, rfl, rfl, rfl, rfl, rfl, rfl, trivial⟩ rfl ?_
  rintro ⟨k, m, vs, a, c⟩ ⟨⟨hk, hm1, hm⟩, hv, hall⟩
  try dsimp only at *
  refine WC.seq ?_
  refine WC.seq ?_
  refine WC.drawH 14 [false, false, false, false, false, false, false, false, false, false, false, false, false, false] rfl rfl rfl ?_
  refine SD.take 0 [true, false, false, false, false, false, false, false, false, false, false, false, false, false] rfl (by kernel_rfl) rfl (fun _ h => h) rfl rfl rfl (PureOp.loads (vs := [.int .i64 t.num, .string t.loc, .string t.p1, .string t.p2, .string t.p3, .slice ao n cap, .int .i64 t.fare, .slice t.taxes.ao t.taxes.l.length t.taxes.cap, .int .i64 t.total, .int .i64 t.issued]) Try.underlying27 rfl rfl (fun _ => (RowIs.cells 0 0 10 rfl rfl)) sz27) ?_
  refine SD.take 3 [true, false, false, true, false, false, false, false, false, false, false, false, false, false] rfl (by kernel_rfl) rfl (fun _ h => h) rfl rfl rfl (PureOp.fieldAddrT 5 Try.underlying27 rfl sz24 rfl rfl) ?_
  refine SD.take 4 [true, false, false, true, true, false, false, false, false, false, false, false, false, false] rfl (by kernel_rfl) rfl (fun _ h => h) rfl rfl rfl (PureOp.load (v := .slice ao n cap) Try.underlying24 rfl rfl (fun _ => (CellIs.cells 0 rfl rfl))) ?_
  refine SD.take 5 [true, false, false, true, true, true, false, false, false, false, false, false, false, false] rfl (by kernel_rfl) rfl (fun _ h => h) rfl rfl rfl (PureOp.len rfl Try.underlying24) ?_
  refine SD.one 1 [true, true, false, true, true, true, false, false, false, false, false, false, false, false] (by kernel_rfl) rfl rfl ?_
  refine SL.callo (fun oa oc => .slice oa ((openT l n).length) oc) rfl rfl rfl rfl rfl rfl callable41 (fun w hw => ropen_ok t l ao n cap hn w (hz.below hw.below) hnb (hx.below hw.below) hxb) (fun oa oc => ?_)
  refine SL.norm [_, _, _] rfl ?_
  refine SD.back (fun _ h => HeapOk.take h 2) ?_
  refine SD.take 2 [true, true, true, true, true, true, false, false, false, false, false, false, false, false] rfl (by kernel_rfl) rfl (fun _ h => HeapOk.take h 2) rfl rfl rfl (PureOp.len rfl Try.underlying89) ?_
  refine SD.take 6 [true, true, true, true, true, true, true, false, false, false, false, false, false, false] rfl (by kernel_rfl) rfl (fun _ h => HeapOk.take h 2) rfl rfl rfl (PureOp.eql rfl rfl) ?_
  refine SD.take 7 [true, true, true, true, true, true, true, true, false, false, false, false, false, false] rfl (by kernel_rfl) rfl (fun _ h => HeapOk.take h 2) rfl rfl rfl (PureOp.move rfl) ?_
  refine SD.newg 13 true rfl ?_
  refine SD.gtake (c := 1) 8 [true, true, true, true, true, true, true, true, true, false, false, false, false, false] rfl (by kernel_rfl) rfl (fun _ h => HeapOk.take h 2) rfl rfl rfl rfl rfl rfl rfl (PureOp.move rfl) ?_
  refine SD.gtake (c := 1) 9 [true, true, true, true, true, true, true, true, true, true, false, false, false, false] rfl (by kernel_rfl) rfl (fun _ h => HeapOk.take h 2) rfl rfl rfl rfl rfl rfl rfl (PureOp.fieldAddrT 7 Try.underlying27 rfl sz25 rfl rfl) ?_
  refine SD.gtake (c := 1) 10 [true, true, true, true, true, true, true, true, true, true, true, false, false, false] rfl (by kernel_rfl) rfl (fun _ h => HeapOk.take h 2) rfl rfl rfl rfl rfl rfl rfl (PureOp.load (v := .slice t.taxes.ao t.taxes.l.length t.taxes.cap) Try.underlying25 rfl rfl (fun _ => (CellIs.cells 0 rfl rfl))) ?_
  refine SD.gtake (c := 1) 11 [true, true, true, true, true, true, true, true, true, true, true, true, false, false] rfl (by kernel_rfl) rfl (fun _ h => HeapOk.take h 2) rfl rfl rfl rfl rfl rfl rfl (PureOp.len rfl Try.underlying25) ?_
  refine SD.gtake (c := 1) 12 [true, true, true, true, true, true, true, true, true, true, true, true, true, false] rfl (by kernel_rfl) rfl (fun _ h => HeapOk.take h 2) rfl rfl rfl rfl rfl rfl rfl (PureOp.lss rfl rfl) ?_
  refine SD.take 13 [true, true, true, true, true, true, true, true, true, true, true, true, true, true] rfl (by kernel_rfl) rfl (fun _ h => HeapOk.take h 2) rfl rfl rfl (PureOp.and_ rfl rfl rfl rfl) ?_
  refine SD.done (by kernel_rfl) ?_
  refine QX.ofK ?_
  refine QX.then_ ?_
  refine WC.cond rfl (fun h1 => ?_) (fun h1 => ?_)
  · try simp only [Bool.and_eq_true, Bool.or_eq_true, Bool.not_eq_true', Bool.not_eq_false', Bool.and_eq_false_iff, Bool.or_eq_false_iff, decide_eq_true_eq, decide_eq_false_iff_not, Int.not_lt, Int.not_le, ne_eq, Decidable.not_not] at h1
    refine WC.skip ?_
    refine QX.then_ ?_
    refine WC.seq ?_
    refine WC.block ?_
    refine WC.region ?_
    refine SL.pure rfl rfl rfl (PureOp.move rfl) ?_
    refine SL.pure rfl rfl rfl (PureOp.fieldAddrT 7 Try.underlying27 rfl sz25 rfl rfl) ?_
    refine SL.pure rfl rfl rfl (PureOp.load (v := .slice t.taxes.ao t.taxes.l.length t.taxes.cap) Try.underlying25 rfl rfl (fun _ => (CellIs.cells 0 rfl rfl))) ?_
    refine SL.pure rfl rfl rfl (PureOp.move rfl) ?_
    refine SL.pure rfl rfl rfl (PureOp.indexAddrN Try.underlying25 sz67 rfl rfl (AoOk.in_ hx) (fun _ => by omega)) ?_
    refine SL.pure rfl rfl rfl (PureOp.fieldAddr 1 Try.underlying67 rfl rfl sz3 rfl) ?_
    refine SL.pure rfl rfl rfl (PureOp.load (v := .int .i64 ((nth t.taxes.l k).2)) Try.underlying3 rfl rfl (fun _ => (CellIs.in_ hx k 1 (by omega) (by omega)))) ?_
    refine SL.buildSlice rfl rfl Try.underlying89 elem3 rfl rfl rfl rfl (fun b2 hb2 => ?_)
    refine SL.norm [_, _, _, _] rfl ?_
    refine SL.append 1 rfl rfl Try.underlying89 elem3 rfl rfl rfl rfl (SrcIs.own 3 rfl) (by rfl) (by omega) (by omega) (fun ao1_ cap1_ => ?_)
    refine SL.itemxs 1 rfl (show _ = cellsOf encI (vs ++ [(nth t.taxes.l k).2]) from by rw [cellsOf_append, cellsOf_one]; rfl) ?_
    refine SL.norm [_, _, _, _] rfl ?_
    refine SL.pure rfl rfl rfl (PureOp.assign rfl) ?_
    refine SL.nil ?_
    refine QX.normal_in ?_
    refine QX.then_ ?_
    refine WC.region ?_
    refine SL.pure rfl rfl rfl (PureOp.move rfl) ?_
    refine SL.pure rfl rfl rfl (PureOp.addN (k := 1) rfl rfl (fun _ => by omega)) ?_
    refine SL.pure rfl rfl rfl (PureOp.assign rfl) ?_
    refine SL.nil ?_
    refine QX.round (σ := Nat × Nat × List Int × Option Addr × Nat) (Ef := fun q_ => [(0, 0, .agg #[.int .i64 t.num, .string t.loc, .string t.p1, .string t.p2, .string t.p3, .slice ao n cap, .int .i64 t.fare, .slice t.taxes.ao t.taxes.l.length t.taxes.cap, .int .i64 t.total, .int .i64 t.issued]), (1, 0, .pointer (some ⟨b1, 0, none⟩)), (2, 0, .int .i64 0), (3, 0, .int .i64 0), (5, 0, .int .i64 ((q_.1 : Nat) : Int)), (4, 0, .slice q_.2.2.2.1 q_.2.1 q_.2.2.2.2)]) (Hf := fun q_ => [Item.cells b1 [.int .i64 t.num, .string t.loc, .string t.p1, .string t.p2, .string t.p3, .slice ao n cap, .int .i64 t.fare, .slice t.taxes.ao t.taxes.l.length t.taxes.cap, .int .i64 t.total, .int .i64 t.issued] 27, Item.own w0.heap.size q_.2.2.2.1 q_.2.1 q_.2.2.2.2 3 1 (cellsOf encI q_.2.2.1)]) (I := fun q_ => (q_.1 ≤ t.taxes.l.length ∧ q_.2.1 = q_.1 ∧ q_.2.1 = q_.2.2.1.length) ∧ q_.2.2.1 = amts (t.taxes.l.take q_.1) ∧ (0 < q_.1 → (openT l n).length = n)) (μ := fun q_ => t.taxes.l.length - q_.1) (s := (k, m, vs, a, c)) 2 ((k + 1, m + 1, vs ++ [(nth t.taxes.l k).2], ao1_, cap1_)) ⟨⟨⟨(by first | omega | (dsimp only; omega)), (by first | omega | (dsimp only; omega)), by rw [List.length_append, hm]; rfl⟩, by rw [take_nth (by omega), hv]; simp [amts], fun _ => by omega⟩, by first | omega | (dsimp only; omega)⟩ ⟨rfl, rfl, rfl, rfl, rfl, rfl, rfl, rfl, rfl, rfl, rfl, rfl, trivial⟩ rfl
  · try simp only [Bool.and_eq_true, Bool.or_eq_true, Bool.not_eq_true', Bool.not_eq_false', Bool.and_eq_false_iff, Bool.or_eq_false_iff, decide_eq_true_eq, decide_eq_false_iff_not, Int.not_lt, Int.not_le, ne_eq, Decidable.not_not] at h1
    refine WC.exit ?_
    refine QX.exit_then ?_
    refine QX.exit_then ?_
    refine QX.exit_hit ?_
    refine QX.then_ ?_
    refine WC.seq ?_
    refine WC.region ?_
    refine SL.pure rfl rfl rfl (PureOp.move rfl) ?_
    refine SL.calle rfl rfl rfl rfl rfl rfl callable36 (fun w hw => rsum_ok vs _ _ _ hm w (SliceIn.rows (enc := encI) (l := vs) (hw.mem (i := 1) rfl) encI_len (by first | decide | omega | simp)) (by first | decide | omega | simp) (fun x hx => h64 x (amts_sub hv x hx))) ?_
    refine SL.norm [_, _, _] rfl ?_
    refine SL.pure rfl rfl rfl (PureOp.extract rfl rfl) ?_
    refine SL.pure rfl rfl rfl (PureOp.extract rfl rfl) ?_
    refine SL.pure rfl rfl rfl (PureOp.assign rfl) ?_
    refine SL.pure rfl rfl rfl (PureOp.assign rfl) ?_
    refine SL.nil_then ?_
    refine WC.ret ?_
    refine QX.ret2 rfl rfl rfl ?_
    intro w hw
    rw [tax_end hn (by omega) hv hall (by omega)]; rfl

end Go.Proofs.Ytipmdakhmpaemaa
