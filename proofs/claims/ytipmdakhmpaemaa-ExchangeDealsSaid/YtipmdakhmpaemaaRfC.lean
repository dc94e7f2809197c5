import Derived.Test.YtipmdakhmpaemaaRfB
namespace Go.Proofs.Ytipmdakhmpaemaa
open Go Go.RowKit Eng
set_option linter.unusedVariables false
set_option linter.unusedSimpArgs false

set_option maxHeartbeats 4000000 in
set_option maxRecDepth 100000 in
theorem unused_ok (t : TK) (l : List Cp) (ao : Option Addr) (n cap : Nat) (hn : n = l.length) (w0 : World) (hz : SliceIn w0 11 ao n cap (rowsF enc65 l)) (hnb : n ≤ 1000) (hx : SliceIn w0 2 t.taxes.ao t.taxes.l.length t.taxes.cap (rowsF enc67 t.taxes.l)) (hxb : t.taxes.l.length ≤ 1000) : FnC Try.prog 14 [.agg #[.int .i64 t.num, .string t.loc, .string t.p1, .string t.p2, .string t.p3, .slice ao n cap, .int .i64 t.fare, .slice t.taxes.ao t.taxes.l.length t.taxes.cap, .int .i64 t.total, .int .i64 t.issued]] w0 fun v w' => v = .tuple #[.int .i64 (unusedE l).1, .int .i64 (unusedE l).2] := by
  refine fnc (N := 33) Try.func14 rfl rfl rfl ?_
  refine WC.seq ?_
  refine WC.region ?_
  refine SL.box rfl rfl rfl (fun b1 hb1 => ?_)
  refine SL.norm [_] rfl ?_
  refine SL.pure rfl rfl rfl (PureOp.assign rfl) ?_
  refine SL.pure rfl rfl rfl (PureOp.assign rfl) ?_
  refine SL.nil_then ?_
  refine WC.seq ?_
  refine WC.region ?_
  refine SL.addnil 3 1 ?_
  refine SL.pure rfl rfl rfl (PureOp.assign rfl) ?_
  refine SL.nil_then ?_
  refine WC.seq ?_
  refine WC.seq ?_
  refine WC.region ?_
  refine SL.pure rfl rfl rfl (PureOp.fieldAddrT 5 Try.underlying27 rfl sz24 rfl rfl) ?_
  refine SL.pure rfl rfl rfl (PureOp.load (v := .slice ao n cap) Try.underlying24 rfl rfl (fun _ => (CellIs.cells 0 rfl rfl))) ?_
  refine SL.pure rfl rfl rfl (PureOp.len rfl Try.underlying24) ?_
  refine SL.pure rfl rfl rfl (PureOp.move rfl) ?_
  refine SL.nil_then ?_
  refine WC.block ?_
  refine WC.loop (σ := Nat × Nat × List Int × Option Addr × Nat) (fun q_ => [(0, 0, .agg #[.int .i64 t.num, .string t.loc, .string t.p1, .string t.p2, .string t.p3, .slice ao n cap, .int .i64 t.fare, .slice t.taxes.ao t.taxes.l.length t.taxes.cap, .int .i64 t.total, .int .i64 t.issued]), (1, 0, .pointer (some ⟨b1, 0, none⟩)), (7, 0, .pointer (some ⟨b1, 5, none⟩)), (8, 0, .slice ao n cap), (9, 0, .int .i64 ((n : Nat) : Int)), (10, 0, .int .i64 ((q_.1 : Nat) : Int)), (4, 0, .slice q_.2.2.2.1 q_.2.1 q_.2.2.2.2)]) (fun q_ => [Item.cells b1 [.int .i64 t.num, .string t.loc, .string t.p1, .string t.p2, .string t.p3, .slice ao n cap, .int .i64 t.fare, .slice t.taxes.ao t.taxes.l.length t.taxes.cap, .int .i64 t.total, .int .i64 t.issued] 27, Item.own w0.heap.size q_.2.2.2.1 q_.2.1 q_.2.2.2.2 3 1 (cellsOf encI q_.2.2.1)]) (fun q_ => (q_.1 ≤ n ∧ q_.2.1 ≤ q_.1 ∧ q_.2.1 = q_.2.2.1.length) ∧ badE (l.drop q_.1) = badE l ∧ q_.2.2.1 = opens (l.take q_.1)) (fun q_ => n - q_.1) 2 ((0, 0, [], none, 0)) (⟨⟨Nat.zero_le _, Nat.le_refl _, rfl⟩, rfl, rfl⟩) ⟨rfl, rfl, rfl, rfl, rfl, rfl, rfl, rfl, rfl, rfl, rfl, rfl, rfl, rfl, trivial⟩ rfl ?_
  rintro ⟨k, m, vs, a, c⟩ ⟨⟨hk, hm1, hm⟩, hb, hv⟩
  try dsimp only at *
  refine WC.seq ?_
  refine WC.region ?_
  refine SL.pure rfl rfl rfl (PureOp.lss rfl rfl) ?_
  refine SL.nil_then ?_
  refine WC.seq ?_
  refine WC.cond rfl (fun h1 => ?_) (fun h1 => ?_)
  · try simp only [Bool.and_eq_true, Bool.or_eq_true, Bool.not_eq_true', Bool.not_eq_false', Bool.and_eq_false_iff, Bool.or_eq_false_iff, decide_eq_true_eq, decide_eq_false_iff_not, Int.not_lt, Int.not_le, ne_eq, Decidable.not_not] at h1
    refine WC.skip ?_
    refine QX.then_ ?_
    refine WC.seq ?_
    refine WC.block ?_
    refine WC.seq ?_
    refine WC.region ?_
    refine SL.pure rfl rfl rfl (PureOp.indexAddrN Try.underlying24 sz65 rfl rfl (AoOk.in_ hz) (fun _ => by omega)) ?_
    refine SL.pure rfl rfl rfl (PureOp.loads (vs := [.string ((nth l k).1.1.1), .int .i64 ((nth l k).1.1.2.1), .int .i64 ((nth l k).1.1.2.2.1), .string ((nth l k).1.1.2.2.2.1), .string ((nth l k).1.1.2.2.2.2.1), .int .i64 ((nth l k).1.1.2.2.2.2.2.1), .int .i64 ((nth l k).1.1.2.2.2.2.2.2), .string ((nth l k).1.2), .string ((nth l k).2.1), .int .i64 ((nth l k).2.2.1), .int .i64 ((nth l k).2.2.2)]) Try.underlying65 rfl rfl (fun _ => (RowIs.in_ hz k 0 11 (by omega) (by omega))) sz65) ?_
    refine SL.alloc rfl rfl zero65 (fun b2 hb2 => ?_)
    refine SL.norm [_, _, _] rfl ?_
    refine SL.store 2 rfl rfl rfl rfl sz65 rfl rfl ?_
    refine SL.norm [_, _, _] rfl ?_
    refine SL.nil_then ?_
    refine WC.seq ?_
    refine WC.region ?_
    refine SL.pure rfl rfl rfl (PureOp.fieldAddrT 9 Try.underlying65 rfl sz3 rfl rfl) ?_
    refine SL.pure rfl rfl rfl (PureOp.load (v := .int .i64 ((nth l k).2.2.1)) Try.underlying3 rfl rfl (fun _ => (CellIs.cells 2 rfl rfl))) ?_
    refine SL.nil_then ?_
    refine WC.block ?_
    refine WC.seq ?_
    refine WC.region ?_
    refine SL.pure rfl rfl rfl (PureOp.eql rfl rfl) ?_
    refine SL.pure rfl rfl rfl (PureOp.assign rfl) ?_
    refine SL.nil_then ?_
    refine WC.cond rfl (fun h2 => ?_) (fun h2 => ?_)
    · try simp only [Bool.and_eq_true, Bool.or_eq_true, Bool.not_eq_true', Bool.not_eq_false', Bool.and_eq_false_iff, Bool.or_eq_false_iff, decide_eq_true_eq, decide_eq_false_iff_not, Int.not_lt, Int.not_le, ne_eq, Decidable.not_not] at h2
      refine WC.seq ?_
      refine WC.region ?_
      refine SL.pure rfl rfl rfl (PureOp.assign rfl) ?_
      refine SL.pure rfl rfl rfl (PureOp.assign rfl) ?_
      refine SL.nil_then ?_
      refine WC.ret ?_
      refine QX.ret_in ?_
      refine QX.ret_in ?_
      refine QX.ret_then ?_
      refine QX.ret_then ?_
      refine QX.ret_in ?_
      refine QX.ret_then ?_
      refine QX.ret2 rfl rfl rfl ?_
      intro w hw
      rw [unused_bad hb (by rw [badE_drop (by omega), if_pos h2]) (by decide)]
    · try simp only [Bool.and_eq_true, Bool.or_eq_true, Bool.not_eq_true', Bool.not_eq_false', Bool.and_eq_false_iff, Bool.or_eq_false_iff, decide_eq_true_eq, decide_eq_false_iff_not, Int.not_lt, Int.not_le, ne_eq, Decidable.not_not] at h2
      refine WC.seq ?_
      refine WC.seq ?_
      refine WC.region ?_
      refine SL.pure rfl rfl rfl (PureOp.eql rfl rfl) ?_
      refine SL.pure rfl rfl rfl (PureOp.assign rfl) ?_
      refine SL.nil_then ?_
      refine WC.cond rfl (fun h3 => ?_) (fun h3 => ?_)
      · try simp only [Bool.and_eq_true, Bool.or_eq_true, Bool.not_eq_true', Bool.not_eq_false', Bool.and_eq_false_iff, Bool.or_eq_false_iff, decide_eq_true_eq, decide_eq_false_iff_not, Int.not_lt, Int.not_le, ne_eq, Decidable.not_not] at h3
        refine WC.skip ?_
        refine QX.then_ ?_
        refine WC.cond rfl (fun h4 => ?_) (fun h4 => ?_)
        · try simp only [Bool.and_eq_true, Bool.or_eq_true, Bool.not_eq_true', Bool.not_eq_false', Bool.and_eq_false_iff, Bool.or_eq_false_iff, decide_eq_true_eq, decide_eq_false_iff_not, Int.not_lt, Int.not_le, ne_eq, Decidable.not_not] at h4
          refine WC.seq ?_
          refine WC.region ?_
          refine SL.pure rfl rfl rfl (PureOp.assign rfl) ?_
          refine SL.pure rfl rfl rfl (PureOp.assign rfl) ?_
          refine SL.nil_then ?_
          refine WC.ret ?_
          refine QX.ret_in ?_
          refine QX.ret_in ?_
          refine QX.ret_then ?_
          refine QX.ret_then ?_
          refine QX.ret_in ?_
          refine QX.ret_then ?_
          refine QX.ret2 rfl rfl rfl ?_
          intro w hw
          rw [unused_bad hb (by rw [badE_drop (by omega), if_neg h2, if_pos (by omega)]) (by decide)]
        · try simp only [Bool.and_eq_true, Bool.or_eq_true, Bool.not_eq_true', Bool.not_eq_false', Bool.and_eq_false_iff, Bool.or_eq_false_iff, decide_eq_true_eq, decide_eq_false_iff_not, Int.not_lt, Int.not_le, ne_eq, Decidable.not_not] at h4
          exact absurd h3 h4
      · try simp only [Bool.and_eq_true, Bool.or_eq_true, Bool.not_eq_true', Bool.not_eq_false', Bool.and_eq_false_iff, Bool.or_eq_false_iff, decide_eq_true_eq, decide_eq_false_iff_not, Int.not_lt, Int.not_le, ne_eq, Decidable.not_not] at h3
        refine WC.region ?_
        refine SL.pure rfl rfl rfl (PureOp.eql rfl rfl) ?_
        refine SL.pure rfl rfl rfl (PureOp.assign rfl) ?_
        refine SL.nil_then ?_
        refine WC.cond rfl (fun h5 => ?_) (fun h5 => ?_)
        · try simp only [Bool.and_eq_true, Bool.or_eq_true, Bool.not_eq_true', Bool.not_eq_false', Bool.and_eq_false_iff, Bool.or_eq_false_iff, decide_eq_true_eq, decide_eq_false_iff_not, Int.not_lt, Int.not_le, ne_eq, Decidable.not_not] at h5
          refine WC.seq ?_
          refine WC.region ?_
          refine SL.pure rfl rfl rfl (PureOp.assign rfl) ?_
          refine SL.pure rfl rfl rfl (PureOp.assign rfl) ?_
          refine SL.nil_then ?_
          refine WC.ret ?_
          refine QX.ret_in ?_
          refine QX.ret_in ?_
          refine QX.ret_then ?_
          refine QX.ret_then ?_
          refine QX.ret_in ?_
          refine QX.ret_then ?_
          refine QX.ret2 rfl rfl rfl ?_
          intro w hw
          rw [unused_bad hb (by rw [badE_drop (by omega), if_neg h2, if_pos (by omega)]) (by decide)]
        · try simp only [Bool.and_eq_true, Bool.or_eq_true, Bool.not_eq_true', Bool.not_eq_false', Bool.and_eq_false_iff, Bool.or_eq_false_iff, decide_eq_true_eq, decide_eq_false_iff_not, Int.not_lt, Int.not_le, ne_eq, Decidable.not_not] at h5
          refine WC.seq ?_
          refine WC.region ?_
          refine SL.pure rfl rfl rfl (PureOp.eql rfl rfl) ?_
          refine SL.pure rfl rfl rfl (PureOp.assign rfl) ?_
          refine SL.nil_then ?_
          refine WC.cond rfl (fun h6 => ?_) (fun h6 => ?_)
          · try simp only [Bool.and_eq_true, Bool.or_eq_true, Bool.not_eq_true', Bool.not_eq_false', Bool.and_eq_false_iff, Bool.or_eq_false_iff, decide_eq_true_eq, decide_eq_false_iff_not, Int.not_lt, Int.not_le, ne_eq, Decidable.not_not] at h6
            refine WC.region ?_
            refine SL.pure rfl rfl rfl (PureOp.move rfl) ?_
            refine SL.pure rfl rfl rfl (PureOp.fieldAddrT 10 Try.underlying65 rfl sz3 rfl rfl) ?_
            refine SL.pure rfl rfl rfl (PureOp.load (v := .int .i64 ((nth l k).2.2.2)) Try.underlying3 rfl rfl (fun _ => (CellIs.cells 2 rfl rfl))) ?_
            refine SL.buildSlice rfl rfl Try.underlying89 elem3 rfl rfl rfl rfl (fun b3 hb3 => ?_)
            refine SL.norm [_, _, _, _] rfl ?_
            refine SL.append 1 rfl rfl Try.underlying89 elem3 rfl rfl rfl rfl (SrcIs.own 3 rfl) (by rfl) (by omega) (by omega) (fun ao1_ cap1_ => ?_)
            refine SL.itemxs 1 rfl (show _ = cellsOf encI (vs ++ [(nth l k).2.2.2]) from by rw [cellsOf_append, cellsOf_one]; rfl) ?_
            refine SL.norm [_, _, _, _] rfl ?_
            refine SL.pure rfl rfl rfl (PureOp.assign rfl) ?_
            refine SL.nil ?_
            refine QX.normal_in ?_
            refine QX.normal_in ?_
            refine QX.then_ ?_
            refine WC.region ?_
            refine SL.pure rfl rfl rfl (PureOp.addN (k := 1) rfl rfl (fun _ => by omega)) ?_
            refine SL.pure rfl rfl rfl (PureOp.move rfl) ?_
            refine SL.nil ?_
            refine QX.round (σ := Nat × Nat × List Int × Option Addr × Nat) (Ef := fun q_ => [(0, 0, .agg #[.int .i64 t.num, .string t.loc, .string t.p1, .string t.p2, .string t.p3, .slice ao n cap, .int .i64 t.fare, .slice t.taxes.ao t.taxes.l.length t.taxes.cap, .int .i64 t.total, .int .i64 t.issued]), (1, 0, .pointer (some ⟨b1, 0, none⟩)), (7, 0, .pointer (some ⟨b1, 5, none⟩)), (8, 0, .slice ao n cap), (9, 0, .int .i64 ((n : Nat) : Int)), (10, 0, .int .i64 ((q_.1 : Nat) : Int)), (4, 0, .slice q_.2.2.2.1 q_.2.1 q_.2.2.2.2)]) (Hf := fun q_ => [Item.cells b1 [.int .i64 t.num, .string t.loc, .string t.p1, .string t.p2, .string t.p3, .slice ao n cap, .int .i64 t.fare, .slice t.taxes.ao t.taxes.l.length t.taxes.cap, .int .i64 t.total, .int .i64 t.issued] 27, Item.own w0.heap.size q_.2.2.2.1 q_.2.1 q_.2.2.2.2 3 1 (cellsOf encI q_.2.2.1)]) (I := fun q_ => (q_.1 ≤ n ∧ q_.2.1 ≤ q_.1 ∧ q_.2.1 = q_.2.2.1.length) ∧ badE (l.drop q_.1) = badE l ∧ q_.2.2.1 = opens (l.take q_.1)) (μ := fun q_ => n - q_.1) (s := (k, m, vs, a, c)) 2 ((k + 1, m + 1, vs ++ [(nth l k).2.2.2], ao1_, cap1_)) ⟨⟨⟨(by first | omega | (dsimp only; omega)), (by first | omega | (dsimp only; omega)), by rw [List.length_append, hm]; rfl⟩, by rw [← hb, badE_drop (i := k) (by omega), if_neg h2, if_neg (by omega)], by rw [opens_take (by omega), if_pos h6, hv]⟩, by first | omega | (dsimp only; omega)⟩ ⟨rfl, rfl, rfl, rfl, rfl, rfl, rfl, rfl, rfl, rfl, rfl, rfl, rfl, rfl, trivial⟩ rfl
          · try simp only [Bool.and_eq_true, Bool.or_eq_true, Bool.not_eq_true', Bool.not_eq_false', Bool.and_eq_false_iff, Bool.or_eq_false_iff, decide_eq_true_eq, decide_eq_false_iff_not, Int.not_lt, Int.not_le, ne_eq, Decidable.not_not] at h6
            refine WC.skip ?_
            refine QX.normal_in ?_
            refine QX.normal_in ?_
            refine QX.then_ ?_
            refine WC.region ?_
            refine SL.pure rfl rfl rfl (PureOp.addN (k := 1) rfl rfl (fun _ => by omega)) ?_
            refine SL.pure rfl rfl rfl (PureOp.move rfl) ?_
            refine SL.nil ?_
            refine QX.round (σ := Nat × Nat × List Int × Option Addr × Nat) (Ef := fun q_ => [(0, 0, .agg #[.int .i64 t.num, .string t.loc, .string t.p1, .string t.p2, .string t.p3, .slice ao n cap, .int .i64 t.fare, .slice t.taxes.ao t.taxes.l.length t.taxes.cap, .int .i64 t.total, .int .i64 t.issued]), (1, 0, .pointer (some ⟨b1, 0, none⟩)), (7, 0, .pointer (some ⟨b1, 5, none⟩)), (8, 0, .slice ao n cap), (9, 0, .int .i64 ((n : Nat) : Int)), (10, 0, .int .i64 ((q_.1 : Nat) : Int)), (4, 0, .slice q_.2.2.2.1 q_.2.1 q_.2.2.2.2)]) (Hf := fun q_ => [Item.cells b1 [.int .i64 t.num, .string t.loc, .string t.p1, .string t.p2, .string t.p3, .slice ao n cap, .int .i64 t.fare, .slice t.taxes.ao t.taxes.l.length t.taxes.cap, .int .i64 t.total, .int .i64 t.issued] 27, Item.own w0.heap.size q_.2.2.2.1 q_.2.1 q_.2.2.2.2 3 1 (cellsOf encI q_.2.2.1)]) (I := fun q_ => (q_.1 ≤ n ∧ q_.2.1 ≤ q_.1 ∧ q_.2.1 = q_.2.2.1.length) ∧ badE (l.drop q_.1) = badE l ∧ q_.2.2.1 = opens (l.take q_.1)) (μ := fun q_ => n - q_.1) (s := (k, m, vs, a, c)) 2 ((k + 1, m, vs, a, c)) ⟨⟨⟨(by first | omega | (dsimp only; omega)), (by first | omega | (dsimp only; omega)), hm⟩, by rw [← hb, badE_drop (i := k) (by omega), if_neg h2, if_neg (by omega)], by rw [opens_take (by omega), if_neg h6, hv]⟩, by first | omega | (dsimp only; omega)⟩ ⟨rfl, rfl, rfl, rfl, rfl, rfl, rfl, rfl, rfl, rfl, rfl, rfl, rfl, rfl, trivial⟩ rfl
  · try simp only [Bool.and_eq_true, Bool.or_eq_true, Bool.not_eq_true', Bool.not_eq_false', Bool.and_eq_false_iff, Bool.or_eq_false_iff, decide_eq_true_eq, decide_eq_false_iff_not, Int.not_lt, Int.not_le, ne_eq, Decidable.not_not] at h1
    refine WC.exit ?_
    refine QX.exit_then ?_
    refine QX.exit_then ?_
    refine QX.exit_hit ?_
    refine QX.then_ ?_
    refine WC.seq ?_
    refine WC.region ?_
    refine SL.pure rfl rfl rfl (PureOp.move rfl) ?_
    refine SL.calle rfl rfl rfl rfl rfl rfl callable35 (fun w hw => sum_ok vs _ _ _ hm w (SliceIn.rows (enc := encI) (l := vs) (hw.mem (i := 1) rfl) encI_len (by first | decide | omega | simp)) (by first | decide | omega | simp)) ?_
    refine SL.norm [_, _] rfl ?_
    refine SL.pure rfl rfl rfl (PureOp.extract rfl rfl) ?_
    refine SL.pure rfl rfl rfl (PureOp.extract rfl rfl) ?_
    refine SL.pure rfl rfl rfl (PureOp.assign rfl) ?_
    refine SL.pure rfl rfl rfl (PureOp.assign rfl) ?_
    refine SL.nil_then ?_
    refine WC.ret ?_
    refine QX.ret2 rfl rfl rfl ?_
    intro w hw
    rw [unused_end (by omega) hb hv]; rfl

set_option maxHeartbeats 4000000 in
set_option maxRecDepth 100000 in
theorem runused_ok (t : TK) (l : List Cp) (ao : Option Addr) (n cap : Nat) (hn : n = l.length) (w0 : World) (hz : SliceIn w0 11 ao n cap (rowsF enc65 l)) (hnb : n ≤ 1000) (hx : SliceIn w0 2 t.taxes.ao t.taxes.l.length t.taxes.cap (rowsF enc67 t.taxes.l)) (hxb : t.taxes.l.length ≤ 1000) (h64 : ∀ x ∈ opens l, In64 x) : FnC Try.prog 15 [.agg #[.int .i64 t.num, .string t.loc, .string t.p1, .string t.p2, .string t.p3, .slice ao n cap, .int .i64 t.fare, .slice t.taxes.ao t.taxes.l.length t.taxes.cap, .int .i64 t.total, .int .i64 t.issued]] w0 fun v w' => v = .tuple #[.int .i64 (unusedE l).1, .int .i64 (unusedE l).2] := by
  refine fnc (N := 39) Try.func15 rfl rfl rfl ?_
  refine WC.seq ?_
  refine WC.region ?_
  refine SL.box rfl rfl rfl (fun b1 hb1 => ?_)
  refine SL.norm [_] rfl ?_
  refine SL.pure rfl rfl rfl (PureOp.assign rfl) ?_
  refine SL.pure rfl rfl rfl (PureOp.assign rfl) ?_
  refine SL.nil_then ?_
  refine WC.seq ?_
  refine WC.region ?_
  refine SL.addnil 3 1 ?_
  refine SL.pure rfl rfl rfl (PureOp.assign rfl) ?_
  refine SL.nil_then ?_
  refine WC.seq ?_
  refine WC.seq ?_
  refine WC.region ?_
  refine SL.pure rfl rfl rfl (PureOp.assign rfl) ?_
  refine SL.nil_then ?_
  refine WC.block ?_
  refine WC.loop (σ := Nat × Nat × List Int × Option Addr × Nat) (fun q_ => [(0, 0, .agg #[.int .i64 t.num, .string t.loc, .string t.p1, .string t.p2, .string t.p3, .slice ao n cap, .int .i64 t.fare, .slice t.taxes.ao t.taxes.l.length t.taxes.cap, .int .i64 t.total, .int .i64 t.issued]), (1, 0, .pointer (some ⟨b1, 0, none⟩)), (5, 0, .int .i64 ((q_.1 : Nat) : Int)), (4, 0, .slice q_.2.2.2.1 q_.2.1 q_.2.2.2.2)]) (fun q_ => [Item.cells b1 [.int .i64 t.num, .string t.loc, .string t.p1, .string t.p2, .string t.p3, .slice ao n cap, .int .i64 t.fare, .slice t.taxes.ao t.taxes.l.length t.taxes.cap, .int .i64 t.total, .int .i64 t.issued] 27, Item.own w0.heap.size q_.2.2.2.1 q_.2.1 q_.2.2.2.2 3 1 (cellsOf encI q_.2.2.1)]) (fun q_ => (q_.1 ≤ n ∧ q_.2.1 ≤ q_.1 ∧ q_.2.1 = q_.2.2.1.length) ∧ badE (l.drop q_.1) = badE l ∧ q_.2.2.1 = opens (l.take q_.1)) (fun q_ => n - q_.1) 2 ((0, 0, [], none, 0)) (⟨⟨Nat.zero_le _, Nat.le_refl _, rfl⟩, rfl, rfl⟩) ⟨rfl, rfl, rfl, rfl, rfl, rfl, rfl, rfl, trivial⟩ rfl ?_
  rintro ⟨k, m, vs, a, c⟩ ⟨⟨hk, hm1, hm⟩, hb, hv⟩
  try dsimp only at *
  refine WC.seq ?_
  refine WC.seq ?_
  refine WC.region ?_
  refine SL.pure rfl rfl rfl (PureOp.move rfl) ?_
  refine SL.pure rfl rfl rfl (PureOp.fieldAddrT 5 Try.underlying27 rfl sz24 rfl rfl) ?_
  refine SL.pure rfl rfl rfl (PureOp.load (v := .slice ao n cap) Try.underlying24 rfl rfl (fun _ => (CellIs.cells 0 rfl rfl))) ?_
  refine SL.pure rfl rfl rfl (PureOp.len rfl Try.underlying24) ?_
  refine SL.pure rfl rfl rfl (PureOp.lss rfl rfl) ?_
  refine SL.nil_then ?_
  refine WC.cond rfl (fun h1 => ?_) (fun h1 => ?_)
  · try simp only [Bool.and_eq_true, Bool.or_eq_true, Bool.not_eq_true', Bool.not_eq_false', Bool.and_eq_false_iff, Bool.or_eq_false_iff, decide_eq_true_eq, decide_eq_false_iff_not, Int.not_lt, Int.not_le, ne_eq, Decidable.not_not] at h1
    refine WC.skip ?_
    refine QX.then_ ?_
    refine WC.seq ?_
    refine WC.block ?_
    refine WC.seq ?_
    refine WC.region ?_
    refine SL.pure rfl rfl rfl (PureOp.fieldAddrT 5 Try.underlying27 rfl sz24 rfl rfl) ?_
    refine SL.pure rfl rfl rfl (PureOp.load (v := .slice ao n cap) Try.underlying24 rfl rfl (fun _ => (CellIs.cells 0 rfl rfl))) ?_
    refine SL.pure rfl rfl rfl (PureOp.move rfl) ?_
    refine SL.pure rfl rfl rfl (PureOp.indexAddrN Try.underlying24 sz65 rfl rfl (AoOk.in_ hz) (fun _ => by omega)) ?_
    refine SL.pure rfl rfl rfl (PureOp.fieldAddr 9 Try.underlying65 rfl rfl sz3 rfl) ?_
    refine SL.pure rfl rfl rfl (PureOp.load (v := .int .i64 ((nth l k).2.2.1)) Try.underlying3 rfl rfl (fun _ => (CellIs.in_ hz k 9 (by omega) (by omega)))) ?_
    refine SL.nil_then ?_
    refine WC.block ?_
    refine WC.seq ?_
    refine WC.region ?_
    refine SL.pure rfl rfl rfl (PureOp.eql rfl rfl) ?_
    refine SL.pure rfl rfl rfl (PureOp.assign rfl) ?_
    refine SL.nil_then ?_
    refine WC.cond rfl (fun h2 => ?_) (fun h2 => ?_)
    · try simp only [Bool.and_eq_true, Bool.or_eq_true, Bool.not_eq_true', Bool.not_eq_false', Bool.and_eq_false_iff, Bool.or_eq_false_iff, decide_eq_true_eq, decide_eq_false_iff_not, Int.not_lt, Int.not_le, ne_eq, Decidable.not_not] at h2
      refine WC.seq ?_
      refine WC.region ?_
      refine SL.pure rfl rfl rfl (PureOp.assign rfl) ?_
      refine SL.pure rfl rfl rfl (PureOp.assign rfl) ?_
      refine SL.nil_then ?_
      refine WC.ret ?_
      refine QX.ret_in ?_
      refine QX.ret_in ?_
      refine QX.ret_then ?_
      refine QX.ret_then ?_
      refine QX.ret_in ?_
      refine QX.ret_then ?_
      refine QX.ret2 rfl rfl rfl ?_
      intro w hw
      rw [unused_bad hb (by rw [badE_drop (by omega), if_pos h2]) (by decide)]
    · try simp only [Bool.and_eq_true, Bool.or_eq_true, Bool.not_eq_true', Bool.not_eq_false', Bool.and_eq_false_iff, Bool.or_eq_false_iff, decide_eq_true_eq, decide_eq_false_iff_not, Int.not_lt, Int.not_le, ne_eq, Decidable.not_not] at h2
      refine WC.seq ?_
      refine WC.seq ?_
      refine WC.region ?_
      refine SL.pure rfl rfl rfl (PureOp.eql rfl rfl) ?_
      refine SL.pure rfl rfl rfl (PureOp.assign rfl) ?_
      refine SL.nil_then ?_
      refine WC.cond rfl (fun h3 => ?_) (fun h3 => ?_)
      · try simp only [Bool.and_eq_true, Bool.or_eq_true, Bool.not_eq_true', Bool.not_eq_false', Bool.and_eq_false_iff, Bool.or_eq_false_iff, decide_eq_true_eq, decide_eq_false_iff_not, Int.not_lt, Int.not_le, ne_eq, Decidable.not_not] at h3
        refine WC.skip ?_
        refine QX.then_ ?_
        refine WC.cond rfl (fun h4 => ?_) (fun h4 => ?_)
        · try simp only [Bool.and_eq_true, Bool.or_eq_true, Bool.not_eq_true', Bool.not_eq_false', Bool.and_eq_false_iff, Bool.or_eq_false_iff, decide_eq_true_eq, decide_eq_false_iff_not, Int.not_lt, Int.not_le, ne_eq, Decidable.not_not] at h4
          refine WC.seq ?_
          refine WC.region ?_
          refine SL.pure rfl rfl rfl (PureOp.assign rfl) ?_
          refine SL.pure rfl rfl rfl (PureOp.assign rfl) ?_
          refine SL.nil_then ?_
          refine WC.ret ?_
          refine QX.ret_in ?_
          refine QX.ret_in ?_
          refine QX.ret_then ?_
          refine QX.ret_then ?_
          refine QX.ret_in ?_
          refine QX.ret_then ?_
          refine QX.ret2 rfl rfl rfl ?_
          intro w hw
          rw [unused_bad hb (by rw [badE_drop (by omega), if_neg h2, if_pos (by omega)]) (by decide)]
        · try simp only [Bool.and_eq_true, Bool.or_eq_true, Bool.not_eq_true', Bool.not_eq_false', Bool.and_eq_false_iff, Bool.or_eq_false_iff, decide_eq_true_eq, decide_eq_false_iff_not, Int.not_lt, Int.not_le, ne_eq, Decidable.not_not] at h4
          exact absurd h3 h4
      · try simp only [Bool.and_eq_true, Bool.or_eq_true, Bool.not_eq_true', Bool.not_eq_false', Bool.and_eq_false_iff, Bool.or_eq_false_iff, decide_eq_true_eq, decide_eq_false_iff_not, Int.not_lt, Int.not_le, ne_eq, Decidable.not_not] at h3
        refine WC.region ?_
        refine SL.pure rfl rfl rfl (PureOp.eql rfl rfl) ?_
        refine SL.pure rfl rfl rfl (PureOp.assign rfl) ?_
        refine SL.nil_then ?_
        refine WC.cond rfl (fun h5 => ?_) (fun h5 => ?_)
        · try simp only [Bool.and_eq_true, Bool.or_eq_true, Bool.not_eq_true', Bool.not_eq_false', Bool.and_eq_false_iff, Bool.or_eq_false_iff, decide_eq_true_eq, decide_eq_false_iff_not, Int.not_lt, Int.not_le, ne_eq, Decidable.not_not] at h5
          refine WC.seq ?_
          refine WC.region ?_
          refine SL.pure rfl rfl rfl (PureOp.assign rfl) ?_
          refine SL.pure rfl rfl rfl (PureOp.assign rfl) ?_
          refine SL.nil_then ?_
          refine WC.ret ?_
          refine QX.ret_in ?_
          refine QX.ret_in ?_
          refine QX.ret_then ?_
          refine QX.ret_then ?_
          refine QX.ret_in ?_
          refine QX.ret_then ?_
          refine QX.ret2 rfl rfl rfl ?_
          intro w hw
          rw [unused_bad hb (by rw [badE_drop (by omega), if_neg h2, if_pos (by omega)]) (by decide)]
        · try simp only [Bool.and_eq_true, Bool.or_eq_true, Bool.not_eq_true', Bool.not_eq_false', Bool.and_eq_false_iff, Bool.or_eq_false_iff, decide_eq_true_eq, decide_eq_false_iff_not, Int.not_lt, Int.not_le, ne_eq, Decidable.not_not] at h5
          refine WC.seq ?_
          refine WC.region ?_
          refine SL.pure rfl rfl rfl (PureOp.eql rfl rfl) ?_
          refine SL.pure rfl rfl rfl (PureOp.assign rfl) ?_
          refine SL.nil_then ?_
          refine WC.cond rfl (fun h6 => ?_) (fun h6 => ?_)
          · try simp only [Bool.and_eq_true, Bool.or_eq_true, Bool.not_eq_true', Bool.not_eq_false', Bool.and_eq_false_iff, Bool.or_eq_false_iff, decide_eq_true_eq, decide_eq_false_iff_not, Int.not_lt, Int.not_le, ne_eq, Decidable.not_not] at h6
            refine WC.region ?_
            refine SL.pure rfl rfl rfl (PureOp.move rfl) ?_
            refine SL.pure rfl rfl rfl (PureOp.fieldAddrT 5 Try.underlying27 rfl sz24 rfl rfl) ?_
            refine SL.pure rfl rfl rfl (PureOp.load (v := .slice ao n cap) Try.underlying24 rfl rfl (fun _ => (CellIs.cells 0 rfl rfl))) ?_
            refine SL.pure rfl rfl rfl (PureOp.move rfl) ?_
            refine SL.pure rfl rfl rfl (PureOp.indexAddrN Try.underlying24 sz65 rfl rfl (AoOk.in_ hz) (fun _ => by omega)) ?_
            refine SL.pure rfl rfl rfl (PureOp.fieldAddr 10 Try.underlying65 rfl rfl sz3 rfl) ?_
            refine SL.pure rfl rfl rfl (PureOp.load (v := .int .i64 ((nth l k).2.2.2)) Try.underlying3 rfl rfl (fun _ => (CellIs.in_ hz k 10 (by omega) (by omega)))) ?_
            refine SL.buildSlice rfl rfl Try.underlying89 elem3 rfl rfl rfl rfl (fun b2 hb2 => ?_)
            refine SL.norm [_, _, _] rfl ?_
            refine SL.append 1 rfl rfl Try.underlying89 elem3 rfl rfl rfl rfl (SrcIs.own 2 rfl) (by rfl) (by omega) (by omega) (fun ao1_ cap1_ => ?_)
            refine SL.itemxs 1 rfl (show _ = cellsOf encI (vs ++ [(nth l k).2.2.2]) from by rw [cellsOf_append, cellsOf_one]; rfl) ?_
            refine SL.norm [_, _, _] rfl ?_
            refine SL.pure rfl rfl rfl (PureOp.assign rfl) ?_
            refine SL.nil ?_
            refine QX.normal_in ?_
            refine QX.normal_in ?_
            refine QX.then_ ?_
            refine WC.region ?_
            refine SL.pure rfl rfl rfl (PureOp.move rfl) ?_
            refine SL.pure rfl rfl rfl (PureOp.addN (k := 1) rfl rfl (fun _ => by omega)) ?_
            refine SL.pure rfl rfl rfl (PureOp.assign rfl) ?_
            refine SL.nil ?_
            refine QX.round (σ := Nat × Nat × List Int × Option Addr × Nat) (Ef := fun q_ => [(0, 0, .agg #[.int .i64 t.num, .string t.loc, .string t.p1, .string t.p2, .string t.p3, .slice ao n cap, .int .i64 t.fare, .slice t.taxes.ao t.taxes.l.length t.taxes.cap, .int .i64 t.total, .int .i64 t.issued]), (1, 0, .pointer (some ⟨b1, 0, none⟩)), (5, 0, .int .i64 ((q_.1 : Nat) : Int)), (4, 0, .slice q_.2.2.2.1 q_.2.1 q_.2.2.2.2)]) (Hf := fun q_ => [Item.cells b1 [.int .i64 t.num, .string t.loc, .string t.p1, .string t.p2, .string t.p3, .slice ao n cap, .int .i64 t.fare, .slice t.taxes.ao t.taxes.l.length t.taxes.cap, .int .i64 t.total, .int .i64 t.issued] 27, Item.own w0.heap.size q_.2.2.2.1 q_.2.1 q_.2.2.2.2 3 1 (cellsOf encI q_.2.2.1)]) (I := fun q_ => (q_.1 ≤ n ∧ q_.2.1 ≤ q_.1 ∧ q_.2.1 = q_.2.2.1.length) ∧ badE (l.drop q_.1) = badE l ∧ q_.2.2.1 = opens (l.take q_.1)) (μ := fun q_ => n - q_.1) (s := (k, m, vs, a, c)) 2 ((k + 1, m + 1, vs ++ [(nth l k).2.2.2], ao1_, cap1_)) ⟨⟨⟨(by first | omega | (dsimp only; omega)), (by first | omega | (dsimp only; omega)), by rw [List.length_append, hm]; rfl⟩, by rw [← hb, badE_drop (i := k) (by omega), if_neg h2, if_neg (by omega)], by rw [opens_take (by omega), if_pos h6, hv]⟩, by first | omega | (dsimp only; omega)⟩ ⟨rfl, rfl, rfl, rfl, rfl, rfl, rfl, rfl, trivial⟩ rfl
          · try simp only [Bool.and_eq_true, Bool.or_eq_true, Bool.not_eq_true', Bool.not_eq_false', Bool.and_eq_false_iff, Bool.or_eq_false_iff, decide_eq_true_eq, decide_eq_false_iff_not, Int.not_lt, Int.not_le, ne_eq, Decidable.not_not] at h6
            refine WC.skip ?_
            refine QX.normal_in ?_
            refine QX.normal_in ?_
            refine QX.then_ ?_
            refine WC.region ?_
            refine SL.pure rfl rfl rfl (PureOp.move rfl) ?_
            refine SL.pure rfl rfl rfl (PureOp.addN (k := 1) rfl rfl (fun _ => by omega)) ?_
            refine SL.pure rfl rfl rfl (PureOp.assign rfl) ?_
            refine SL.nil ?_
            refine QX.round (σ := Nat × Nat × List Int × Option Addr × Nat) (Ef := fun q_ => [(0, 0, .agg #[.int .i64 t.num, .string t.loc, .string t.p1, .string t.p2, .string t.p3, .slice ao n cap, .int .i64 t.fare, .slice t.taxes.ao t.taxes.l.length t.taxes.cap, .int .i64 t.total, .int .i64 t.issued]), (1, 0, .pointer (some ⟨b1, 0, none⟩)), (5, 0, .int .i64 ((q_.1 : Nat) : Int)), (4, 0, .slice q_.2.2.2.1 q_.2.1 q_.2.2.2.2)]) (Hf := fun q_ => [Item.cells b1 [.int .i64 t.num, .string t.loc, .string t.p1, .string t.p2, .string t.p3, .slice ao n cap, .int .i64 t.fare, .slice t.taxes.ao t.taxes.l.length t.taxes.cap, .int .i64 t.total, .int .i64 t.issued] 27, Item.own w0.heap.size q_.2.2.2.1 q_.2.1 q_.2.2.2.2 3 1 (cellsOf encI q_.2.2.1)]) (I := fun q_ => (q_.1 ≤ n ∧ q_.2.1 ≤ q_.1 ∧ q_.2.1 = q_.2.2.1.length) ∧ badE (l.drop q_.1) = badE l ∧ q_.2.2.1 = opens (l.take q_.1)) (μ := fun q_ => n - q_.1) (s := (k, m, vs, a, c)) 2 ((k + 1, m, vs, a, c)) ⟨⟨⟨(by first | omega | (dsimp only; omega)), (by first | omega | (dsimp only; omega)), hm⟩, by rw [← hb, badE_drop (i := k) (by omega), if_neg h2, if_neg (by omega)], by rw [opens_take (by omega), if_neg h6, hv]⟩, by first | omega | (dsimp only; omega)⟩ ⟨rfl, rfl, rfl, rfl, rfl, rfl, rfl, rfl, trivial⟩ rfl
  · try simp only [Bool.and_eq_true, Bool.or_eq_true, Bool.not_eq_true', Bool.not_eq_false', Bool.and_eq_false_iff, Bool.or_eq_false_iff, decide_eq_true_eq, decide_eq_false_iff_not, Int.not_lt, Int.not_le, ne_eq, Decidable.not_not] at h1
    refine WC.exit ?_
    refine QX.exit_then ?_
    refine QX.exit_then ?_
    refine QX.exit_hit ?_
    refine QX.then_ ?_
    refine WC.seq ?_
    refine WC.region ?_
    refine SL.pure rfl rfl rfl (PureOp.move rfl) ?_
    refine SL.calle rfl rfl rfl rfl rfl rfl callable36 (fun w hw => rsum_ok vs _ _ _ hm w (SliceIn.rows (enc := encI) (l := vs) (hw.mem (i := 1) rfl) encI_len (by first | decide | omega | simp)) (by first | decide | omega | simp) (fun x hx => h64 x (opens_sub hv x hx))) ?_
    refine SL.norm [_, _] rfl ?_
    refine SL.pure rfl rfl rfl (PureOp.extract rfl rfl) ?_
    refine SL.pure rfl rfl rfl (PureOp.extract rfl rfl) ?_
    refine SL.pure rfl rfl rfl (PureOp.assign rfl) ?_
    refine SL.pure rfl rfl rfl (PureOp.assign rfl) ?_
    refine SL.nil_then ?_
    refine WC.ret ?_
    refine QX.ret2 rfl rfl rfl ?_
    intro w hw
    rw [unused_end (by omega) hb hv]; rfl

end Go.Proofs.Ytipmdakhmpaemaa
