import Derived.Test.YtngkbnaehkailaaFlM
import Derived.Test.YtngkbnaehkailaaRefS
namespace Go.Proofs.Ytngkbnaehkailaa
open Go Go.RowKit Eng
set_option linter.unusedVariables false
set_option linter.unusedSimpArgs false

set_option maxHeartbeats 4000000 in
set_option maxRecDepth 100000 in
theorem rpath_ok (nu : Nat) (S : List Sp) (ja : Option Addr) (jn jc : Nat) (hj : jn = S.length) (hjb : jn ≤ 5000) (hS : ∀ x ∈ S, (0 ≤ x.1 ∧ x.1 < nu) ∧ (0 ≤ x.2.1 ∧ x.2.1 < nu) ∧ (-4294967296 ≤ x.2.2.1 ∧ x.2.2.1 ≤ 4294967296)) (s t : Int) (hs : 0 ≤ s ∧ s < nu) (ht : 0 ≤ t ∧ t < nu) (hn : nu ≤ 128) (K : Nat) (hK : K ≤ 1000) (p : List Sp) (hp : rtr S (riter S nu s nu).2 K t [] = some p) (w0 : World) (sS : SliceIn w0 6 ja jn jc (rowsF encSp S)) : FnC Try.prog 44 [.int .i64 ((nu : Nat) : Int), .slice ja jn jc, .int .i64 s, .int .i64 t] w0 fun v w' => ∃ a c, v = .slice a p.length c ∧ w'.ownsRow w0.heap.size 74 6 (.slice a p.length c) p.length (cellsOf encSp p) := by
  refine fnc (N := 133) Try.func44 rfl rfl rfl ?_
  refine WC.seq ?_
  refine WC.region ?_
  refine SL.pure rfl rfl rfl (PureOp.assign rfl) ?_
  refine SL.nil_then ?_
  refine WC.cutx (σ := Nat × Nat) (fun q_ => [(0, 0, .int .i64 ((nu : Nat) : Int)), (1, 0, .slice ja jn jc), (2, 0, .int .i64 s), (3, 0, .int .i64 t), (8, 0, .slice none 0 0), (9, 0, .slice (some ⟨q_.1, 0, none⟩) nu nu), (10, 0, .slice (some ⟨q_.2, 0, none⟩) nu nu)]) (fun q_ => [Item.own w0.heap.size (some ⟨q_.1, 0, none⟩) nu nu 3 1 (cellsOf encI (filK 1152921504606846976 nu 0)), Item.own w0.heap.size (some ⟨q_.2, 0, none⟩) nu nu 3 1 (cellsOf encI (filK (-1) nu 0))]) (fun q_ => True) ?_ ?_
  · skip
    refine WC.drawH 6 [false, false, false, false, false, false] rfl rfl rfl ?_
    refine SD.take 0 [true, false, false, false, false, false] rfl (by kernel_rfl) rfl (fun _ h => h) rfl rfl rfl (PureOp.move rfl) ?_
    refine SD.take 2 [true, false, true, false, false, false] rfl (by kernel_rfl) rfl (fun _ h => h) rfl rfl rfl (PureOp.move rfl) ?_
    refine SD.all [1, 3] (by kernel_rfl) (by simp) ⟨⟨_, [true, true, true, false, false, false], rfl, rfl, ?_⟩, ⟨_, [true, false, true, true, false, false], rfl, rfl, ?_⟩, trivial⟩
    · skip
      refine SL.make rfl rfl Try.underlying29 elem3 rfl rfl (by omega) (by omega) (fun b1 hb1 => ?_)
      refine SL.itemxs 0 rfl (show _ = cellsOf encI (filK 1152921504606846976 nu 0) from by rw [rep_int, filK_zero]) ?_
      refine SL.norm [_] rfl ?_
      refine SD.back (fun _ h => HeapOk.take h 0) ?_
      refine SD.take 4 [true, true, true, false, true, false] rfl (by kernel_rfl) rfl (fun _ h => HeapOk.take h 0) rfl rfl rfl (PureOp.assign rfl) ?_
      refine SD.one 3 [true, true, true, true, true, false] (by kernel_rfl) rfl rfl ?_
      refine SL.make rfl rfl Try.underlying29 elem3 rfl rfl (by omega) (by omega) (fun b2 hb2 => ?_)
      refine SL.itemxs 1 rfl (show _ = cellsOf encI (filK (-1) nu 0) from by rw [rep_int, filK_zero]) ?_
      refine SL.norm [_, _] rfl ?_
      refine SD.back (fun _ h => HeapOk.take h 0) ?_
      refine SD.take 5 [true, true, true, true, true, true] rfl (by kernel_rfl) rfl (fun _ h => HeapOk.take h 0) rfl rfl rfl (PureOp.assign rfl) ?_
      refine SD.done (by kernel_rfl) ?_
      refine QX.ofK ?_
      refine QX.heap (fun _ h => HeapOk.pick [0, 1] (by decide) h) ?_
      refine QX.cutx (σ := Nat × Nat) (E' := fun q_ => [(0, 0, .int .i64 ((nu : Nat) : Int)), (1, 0, .slice ja jn jc), (2, 0, .int .i64 s), (3, 0, .int .i64 t), (8, 0, .slice none 0 0), (9, 0, .slice (some ⟨q_.1, 0, none⟩) nu nu), (10, 0, .slice (some ⟨q_.2, 0, none⟩) nu nu)]) (H' := fun q_ => [Item.own w0.heap.size (some ⟨q_.1, 0, none⟩) nu nu 3 1 (cellsOf encI (filK 1152921504606846976 nu 0)), Item.own w0.heap.size (some ⟨q_.2, 0, none⟩) nu nu 3 1 (cellsOf encI (filK (-1) nu 0))]) (I := fun q_ => True) 2 ((b1, b2)) (trivial) ⟨rfl, rfl, rfl, rfl, rfl, rfl, rfl, rfl, rfl, rfl, rfl, rfl, rfl, rfl, trivial⟩ rfl
    · skip
      refine SL.make rfl rfl Try.underlying29 elem3 rfl rfl (by omega) (by omega) (fun b3 hb3 => ?_)
      refine SL.itemxs 0 rfl (show _ = cellsOf encI (filK (-1) nu 0) from by rw [rep_int, filK_zero]) ?_
      refine SL.norm [_] rfl ?_
      refine SD.back (fun _ h => HeapOk.take h 0) ?_
      refine SD.one 1 [true, true, true, true, false, false] (by kernel_rfl) rfl rfl ?_
      refine SL.make rfl rfl Try.underlying29 elem3 rfl rfl (by omega) (by omega) (fun b4 hb4 => ?_)
      refine SL.itemxs 1 rfl (show _ = cellsOf encI (filK 1152921504606846976 nu 0) from by rw [rep_int, filK_zero]) ?_
      refine SL.norm [_, _] rfl ?_
      refine SD.back (fun _ h => HeapOk.take h 0) ?_
      refine SD.take 4 [true, true, true, true, true, false] rfl (by kernel_rfl) rfl (fun _ h => HeapOk.take h 0) rfl rfl rfl (PureOp.assign rfl) ?_
      refine SD.take 5 [true, true, true, true, true, true] rfl (by kernel_rfl) rfl (fun _ h => HeapOk.take h 0) rfl rfl rfl (PureOp.assign rfl) ?_
      refine SD.done (by kernel_rfl) ?_
      refine QX.ofK ?_
      refine QX.heap (fun _ h => HeapOk.pick [1, 0] (by decide) h) ?_
      refine QX.cutx (σ := Nat × Nat) (E' := fun q_ => [(0, 0, .int .i64 ((nu : Nat) : Int)), (1, 0, .slice ja jn jc), (2, 0, .int .i64 s), (3, 0, .int .i64 t), (8, 0, .slice none 0 0), (9, 0, .slice (some ⟨q_.1, 0, none⟩) nu nu), (10, 0, .slice (some ⟨q_.2, 0, none⟩) nu nu)]) (H' := fun q_ => [Item.own w0.heap.size (some ⟨q_.1, 0, none⟩) nu nu 3 1 (cellsOf encI (filK 1152921504606846976 nu 0)), Item.own w0.heap.size (some ⟨q_.2, 0, none⟩) nu nu 3 1 (cellsOf encI (filK (-1) nu 0))]) (I := fun q_ => True) 2 ((b4, b3)) (trivial) ⟨rfl, rfl, rfl, rfl, rfl, rfl, rfl, rfl, rfl, rfl, rfl, rfl, rfl, rfl, trivial⟩ rfl
  rintro ⟨db, eb⟩ _
  try dsimp only at *
  refine WC.seq ?_
  refine WC.seq ?_
  refine WC.region ?_
  refine SL.pure rfl rfl rfl (PureOp.assign rfl) ?_
  refine SL.nil_then ?_
  refine WC.block ?_
  refine WC.loop (σ := Nat) (fun q_ => [(0, 0, .int .i64 ((nu : Nat) : Int)), (1, 0, .slice ja jn jc), (2, 0, .int .i64 s), (3, 0, .int .i64 t), (8, 0, .slice none 0 0), (9, 0, .slice (some ⟨db, 0, none⟩) nu nu), (10, 0, .slice (some ⟨eb, 0, none⟩) nu nu), (11, 0, .int .i64 ((q_ : Nat) : Int))]) (fun q_ => [Item.own w0.heap.size (some ⟨db, 0, none⟩) nu nu 3 1 (cellsOf encI (filK 1152921504606846976 nu q_)), Item.own w0.heap.size (some ⟨eb, 0, none⟩) nu nu 3 1 (cellsOf encI (filK (-1) nu q_))]) (fun q_ => q_ ≤ nu) (fun q_ => nu - q_) 2 (0) (Nat.zero_le _) ⟨rfl, rfl, rfl, rfl, rfl, rfl, rfl, rfl, rfl, rfl, rfl, rfl, rfl, rfl, rfl, rfl, trivial⟩ rfl ?_
  rintro k hk
  refine WC.seq ?_
  refine WC.seq ?_
  refine WC.region ?_
  refine SL.pure rfl rfl rfl (PureOp.move rfl) ?_
  refine SL.pure rfl rfl rfl (PureOp.move rfl) ?_
  refine SL.pure rfl rfl rfl (PureOp.lss rfl rfl) ?_
  refine SL.nil_then ?_
  refine WC.cond rfl (fun h1 => ?_) (fun h1 => ?_)
  · try simp only [Bool.and_eq_true, Bool.or_eq_true, Bool.not_eq_true', Bool.not_eq_false', Bool.and_eq_false_iff, Bool.or_eq_false_iff, decide_eq_true_eq, decide_eq_false_iff_not, Int.not_lt, Int.not_le, ne_eq, Decidable.not_not] at h1
    refine WC.skip ?_
    refine QX.then_ ?_
    refine WC.seq ?_
    refine WC.block ?_
    refine WC.region ?_
    refine SL.pure rfl rfl rfl (PureOp.move rfl) ?_
    refine SL.pure rfl rfl rfl (PureOp.move rfl) ?_
    refine SL.pure rfl rfl rfl (PureOp.move rfl) ?_
    refine SL.pure rfl rfl rfl (PureOp.move rfl) ?_
    refine SL.pure rfl rfl rfl (PureOp.indexAddrN Try.underlying29 sz3 rfl rfl AoOk.lit (fun _ => by omega)) ?_
    refine SL.storeown (k := k) (j := 0) 0 rfl rfl rfl rfl sz3 (by first | (rw [cellsOf_length encI_len]; omega) | (rw [cellsOf_length encI_len, filK_len (by omega)]; omega)) rfl ?_
    refine SL.itemxs 0 rfl (show _ = cellsOf encI (filK 1152921504606846976 nu (k + 1)) from by rw [encI_set (by rw [filK_len (by omega)]; omega), filK_set (by omega)]) ?_
    refine SL.norm [_, _] rfl ?_
    refine SL.pure rfl rfl rfl (PureOp.indexAddrN Try.underlying29 sz3 rfl rfl AoOk.lit (fun _ => by omega)) ?_
    refine SL.storeown (k := k) (j := 0) 1 rfl rfl rfl rfl sz3 (by first | (rw [cellsOf_length encI_len]; omega) | (rw [cellsOf_length encI_len, filK_len (by omega)]; omega)) rfl ?_
    refine SL.itemxs 1 rfl (show _ = cellsOf encI (filK (-1) nu (k + 1)) from by rw [encI_set (by rw [filK_len (by omega)]; omega), filK_set (by omega)]) ?_
    refine SL.norm [_, _] rfl ?_
    refine SL.nil ?_
    refine QX.normal_in ?_
    refine QX.then_ ?_
    refine WC.region ?_
    refine SL.pure rfl rfl rfl (PureOp.move rfl) ?_
    refine SL.pure rfl rfl rfl (PureOp.addN (k := 1) rfl rfl (fun _ => by omega)) ?_
    refine SL.pure rfl rfl rfl (PureOp.assign rfl) ?_
    refine SL.nil ?_
    refine QX.round 2 (k + 1) ⟨(by first | omega | (dsimp only; omega)), by first | omega | (dsimp only; omega)⟩ ⟨rfl, rfl, rfl, rfl, rfl, rfl, rfl, rfl, rfl, rfl, rfl, rfl, rfl, rfl, rfl, rfl, trivial⟩ rfl
  · try simp only [Bool.and_eq_true, Bool.or_eq_true, Bool.not_eq_true', Bool.not_eq_false', Bool.and_eq_false_iff, Bool.or_eq_false_iff, decide_eq_true_eq, decide_eq_false_iff_not, Int.not_lt, Int.not_le, ne_eq, Decidable.not_not] at h1
    have ek : k = nu := by omega
    refine WC.exit ?_
    refine QX.exit_then ?_
    refine QX.exit_then ?_
    refine QX.exit_hit ?_
    refine QX.then_ ?_
    refine WC.seq ?_
    refine WC.region ?_
    refine SL.pure rfl rfl rfl (PureOp.move rfl) ?_
    refine SL.pure rfl rfl rfl (PureOp.move rfl) ?_
    refine SL.pure rfl rfl rfl (PureOp.indexAddr Try.underlying29 sz3 rfl rfl AoOk.lit (fun _ => by omega)) ?_
    refine SL.storeown (k := ((s).toNat)) (j := 0) 0 rfl rfl rfl rfl sz3 (by first | (rw [cellsOf_length encI_len]; omega) | (rw [cellsOf_length encI_len, filK_len (by omega)]; omega)) rfl ?_
    refine SL.itemxs 0 rfl (show _ = cellsOf encI (initC nu s) from by rw [show k = nu from ek, filK_full]; exact encI_set (by simp; omega)) ?_
    refine SL.norm [_, _] rfl ?_
    refine SL.nil_then ?_
    refine WC.seq ?_
    refine WC.seq ?_
    refine WC.region ?_
    refine SL.pure rfl rfl rfl (PureOp.assign rfl) ?_
    refine SL.nil_then ?_
    refine WC.block ?_
    refine WC.loop (σ := Nat × List Int × List Int) (fun q_ => [(0, 0, .int .i64 ((nu : Nat) : Int)), (1, 0, .slice ja jn jc), (2, 0, .int .i64 s), (3, 0, .int .i64 t), (8, 0, .slice none 0 0), (9, 0, .slice (some ⟨db, 0, none⟩) nu nu), (10, 0, .slice (some ⟨eb, 0, none⟩) nu nu), (11, 0, .int .i64 ((k : Nat) : Int)), (20, 0, .int .i64 ((k : Nat) : Int)), (21, 0, .int .i64 ((nu : Nat) : Int)), (22, 0, .bool (decide (((k : Nat) : Int) < ((nu : Nat) : Int)))), (31, 0, .slice (some ⟨db, 0, none⟩) nu nu), (32, 0, .int .i64 s), (33, 0, .pointer (some ⟨blk (some ⟨db, 0, none⟩), off (some ⟨db, 0, none⟩) + ((s).toNat) * 1, none⟩)), (12, 0, .int .i64 ((q_.1 : Nat) : Int))]) (fun q_ => [Item.own w0.heap.size (some ⟨db, 0, none⟩) nu nu 3 1 (cellsOf encI (q_.2.1)), Item.own w0.heap.size (some ⟨eb, 0, none⟩) nu nu 3 1 (cellsOf encI (q_.2.2))]) (fun q_ => q_.1 ≤ nu ∧ riter S nu s q_.1 = (q_.2.1, q_.2.2) ∧ Bd nu (-(((q_.1 : Nat) : Int) * 35184372088832)) q_.2.1 ∧ q_.2.2.length = nu) (fun q_ => nu - q_.1) 2 ((0, initC nu s, filK (-1) nu k)) (⟨Nat.zero_le _, by dsimp only; rw [ek, filK_full]; rfl, initC_bd.mono (by simp), filK_len (by omega)⟩) ⟨rfl, rfl, rfl, rfl, rfl, rfl, rfl, rfl, rfl, rfl, rfl, rfl, rfl, rfl, rfl, rfl, rfl, rfl, rfl, rfl, rfl, rfl, rfl, rfl, rfl, rfl, rfl, rfl, rfl, rfl, trivial⟩ rfl ?_
    rintro ⟨r, D, E⟩ ⟨hr, hri, hD, hEl⟩
    try dsimp only at *
    refine WC.seq ?_
    refine WC.seq ?_
    refine WC.region ?_
    refine SL.pure rfl rfl rfl (PureOp.move rfl) ?_
    refine SL.pure rfl rfl rfl (PureOp.move rfl) ?_
    refine SL.pure rfl rfl rfl (PureOp.lss rfl rfl) ?_
    refine SL.nil_then ?_
    refine WC.cond rfl (fun h2 => ?_) (fun h2 => ?_)
    · try simp only [Bool.and_eq_true, Bool.or_eq_true, Bool.not_eq_true', Bool.not_eq_false', Bool.and_eq_false_iff, Bool.or_eq_false_iff, decide_eq_true_eq, decide_eq_false_iff_not, Int.not_lt, Int.not_le, ne_eq, Decidable.not_not] at h2
      refine WC.skip ?_
      refine QX.then_ ?_
      refine WC.seq ?_
      refine WC.block ?_
      refine WC.seq ?_
      refine WC.region ?_
      refine SL.pure rfl rfl rfl (PureOp.assign rfl) ?_
      refine SL.nil_then ?_
      refine WC.block ?_
      refine WC.loop (σ := Nat × List Int × List Int) (fun q_ => [(0, 0, .int .i64 ((nu : Nat) : Int)), (1, 0, .slice ja jn jc), (2, 0, .int .i64 s), (3, 0, .int .i64 t), (8, 0, .slice none 0 0), (9, 0, .slice (some ⟨db, 0, none⟩) nu nu), (10, 0, .slice (some ⟨eb, 0, none⟩) nu nu), (11, 0, .int .i64 ((k : Nat) : Int)), (12, 0, .int .i64 ((r : Nat) : Int)), (20, 0, .int .i64 ((k : Nat) : Int)), (21, 0, .int .i64 ((nu : Nat) : Int)), (22, 0, .bool (decide (((k : Nat) : Int) < ((nu : Nat) : Int)))), (31, 0, .slice (some ⟨db, 0, none⟩) nu nu), (32, 0, .int .i64 s), (33, 0, .pointer (some ⟨blk (some ⟨db, 0, none⟩), off (some ⟨db, 0, none⟩) + ((s).toNat) * 1, none⟩)), (34, 0, .int .i64 ((r : Nat) : Int)), (35, 0, .int .i64 ((nu : Nat) : Int)), (36, 0, .bool (decide (((r : Nat) : Int) < ((nu : Nat) : Int)))), (13, 0, .int .i64 ((q_.1 : Nat) : Int))]) (fun q_ => [Item.own w0.heap.size (some ⟨db, 0, none⟩) nu nu 3 1 (cellsOf encI (q_.2.1)), Item.own w0.heap.size (some ⟨eb, 0, none⟩) nu nu 3 1 (cellsOf encI (q_.2.2))]) (fun q_ => q_.1 ≤ jn ∧ rrnd S D E q_.1 = (q_.2.1, q_.2.2) ∧ Bd nu (-((r : Int) * 35184372088832) - ((q_.1 : Nat) : Int) * 4294967296) q_.2.1 ∧ q_.2.2.length = nu) (fun q_ => jn - q_.1) 2 ((0, D, E)) (⟨Nat.zero_le _, rfl, hD.mono (by dsimp only; omega), hEl⟩) ⟨rfl, rfl, rfl, rfl, rfl, rfl, rfl, rfl, rfl, rfl, rfl, rfl, rfl, rfl, rfl, rfl, rfl, rfl, rfl, rfl, rfl, rfl, rfl, rfl, rfl, rfl, rfl, rfl, rfl, rfl, rfl, rfl, rfl, rfl, rfl, rfl, rfl, rfl, trivial⟩ rfl ?_
      rintro ⟨j, X, Y⟩ ⟨hjj, hrr, hX, hYl⟩
      try dsimp only at *
      refine WC.seq ?_
      refine WC.seq ?_
      refine WC.region ?_
      refine SL.pure rfl rfl rfl (PureOp.move rfl) ?_
      refine SL.pure rfl rfl rfl (PureOp.move rfl) ?_
      refine SL.pure rfl rfl rfl (PureOp.len rfl Try.underlying70) ?_
      refine SL.pure rfl rfl rfl (PureOp.lss rfl rfl) ?_
      refine SL.nil_then ?_
      refine WC.cond rfl (fun h3 => ?_) (fun h3 => ?_)
      · try simp only [Bool.and_eq_true, Bool.or_eq_true, Bool.not_eq_true', Bool.not_eq_false', Bool.and_eq_false_iff, Bool.or_eq_false_iff, decide_eq_true_eq, decide_eq_false_iff_not, Int.not_lt, Int.not_le, ne_eq, Decidable.not_not] at h3
        have hSj := hS (nth S j) (nth_mem (by omega))
        have hx1 := hX.bd (nth S j).1.toNat (by omega)
        have hx2 := hX.bd (nth S j).2.1.toNat (by omega)
        have hxl := hX.len
        refine WC.skip ?_
        refine QX.then_ ?_
        refine WC.seq ?_
        refine WC.block ?_
        refine WC.seq ?_
        refine WC.quiet rfl (by kernel_rfl) ?_
        refine SQ.pure rfl rfl rfl (PureOp.move rfl) ?_
        refine SQ.pure rfl rfl rfl (PureOp.move rfl) ?_
        refine SQ.pure rfl rfl rfl (PureOp.move rfl) ?_
        refine SQ.pure rfl rfl rfl (PureOp.indexAddrN Try.underlying70 sz74 rfl rfl (AoOk.in_ sS) (fun _ => by omega)) ?_
        refine SQ.pure rfl rfl rfl (PureOp.fieldAddr 0 Try.underlying74 rfl rfl sz3 rfl) ?_
        refine SQ.pure rfl rfl rfl (PureOp.load (v := .int .i64 ((nth S j).1)) Try.underlying3 rfl rfl (fun _ => (CellIs.in_ sS j 0 (by omega) (by omega)))) ?_
        refine SQ.pure rfl rfl rfl (PureOp.indexAddr Try.underlying29 sz3 rfl rfl AoOk.lit (fun _ => by omega)) ?_
        refine SQ.pure rfl rfl rfl (PureOp.load (v := .int .i64 (nth X (((nth S j).1).toNat))) Try.underlying3 rfl rfl (fun _ => (CellIs.ownc 0 rfl (((nth S j).1).toNat) 0 (by exact encI_get (by omega))))) ?_
        refine SQ.pure rfl rfl rfl (PureOp.lss rfl rfl) ?_
        refine SQ.pure rfl rfl rfl (PureOp.move rfl) ?_
        refine SQ.newg 54 true rfl ?_
        refine SQ.gpure (c := 1) rfl rfl rfl rfl rfl rfl rfl (PureOp.move rfl) ?_
        refine SQ.gpure (c := 1) rfl rfl rfl rfl rfl rfl rfl (PureOp.move rfl) ?_
        refine SQ.gpure (c := 1) rfl rfl rfl rfl rfl rfl rfl (PureOp.move rfl) ?_
        refine SQ.gpure (c := 1) rfl rfl rfl rfl rfl rfl rfl (PureOp.indexAddrN Try.underlying70 sz74 rfl rfl (AoOk.in_ sS) (by intro hg; simp [gval] at hg; omega)) ?_
        refine SQ.gpure (c := 1) rfl rfl rfl rfl rfl rfl rfl (PureOp.fieldAddr 0 Try.underlying74 rfl rfl sz3 rfl) ?_
        refine SQ.gpure (c := 1) rfl rfl rfl rfl rfl rfl rfl (PureOp.load (v := .int .i64 ((nth S j).1)) Try.underlying3 rfl rfl (by intro hg; simp [gval] at hg; exact (CellIs.in_ sS j 0 (by omega) (by omega)))) ?_
        refine SQ.gpure (c := 1) rfl rfl rfl rfl rfl rfl rfl (PureOp.indexAddr Try.underlying29 sz3 rfl rfl AoOk.lit (by intro hg; simp [gval] at hg; omega)) ?_
        refine SQ.gpure (c := 1) rfl rfl rfl rfl rfl rfl rfl (PureOp.load (v := .int .i64 (nth X (((nth S j).1).toNat))) Try.underlying3 rfl rfl (by intro hg; simp [gval] at hg; exact (CellIs.ownc 0 rfl (((nth S j).1).toNat) 0 (by exact encI_get (by omega))))) ?_
        refine SQ.gpure (c := 1) rfl rfl rfl rfl rfl rfl rfl (PureOp.move rfl) ?_
        refine SQ.gpure (c := 1) rfl rfl rfl rfl rfl rfl rfl (PureOp.move rfl) ?_
        refine SQ.gpure (c := 1) rfl rfl rfl rfl rfl rfl rfl (PureOp.indexAddrN Try.underlying70 sz74 rfl rfl (AoOk.in_ sS) (by intro hg; simp [gval] at hg; omega)) ?_
        refine SQ.gpure (c := 1) rfl rfl rfl rfl rfl rfl rfl (PureOp.fieldAddr 2 Try.underlying74 rfl rfl sz3 rfl) ?_
        refine SQ.gpure (c := 1) rfl rfl rfl rfl rfl rfl rfl (PureOp.load (v := .int .i64 ((nth S j).2.2.1)) Try.underlying3 rfl rfl (by intro hg; simp [gval] at hg; exact (CellIs.in_ sS j 2 (by omega) (by omega)))) ?_
        refine SQ.gpure (c := 1) rfl rfl rfl rfl rfl rfl rfl (PureOp.add rfl rfl (by intro hg; simp [gval] at hg; omega)) ?_
        refine SQ.gpure (c := 1) rfl rfl rfl rfl rfl rfl rfl (PureOp.move rfl) ?_
        refine SQ.gpure (c := 1) rfl rfl rfl rfl rfl rfl rfl (PureOp.move rfl) ?_
        refine SQ.gpure (c := 1) rfl rfl rfl rfl rfl rfl rfl (PureOp.move rfl) ?_
        refine SQ.gpure (c := 1) rfl rfl rfl rfl rfl rfl rfl (PureOp.indexAddrN Try.underlying70 sz74 rfl rfl (AoOk.in_ sS) (by intro hg; simp [gval] at hg; omega)) ?_
        refine SQ.gpure (c := 1) rfl rfl rfl rfl rfl rfl rfl (PureOp.fieldAddr 1 Try.underlying74 rfl rfl sz3 rfl) ?_
        refine SQ.gpure (c := 1) rfl rfl rfl rfl rfl rfl rfl (PureOp.load (v := .int .i64 ((nth S j).2.1)) Try.underlying3 rfl rfl (by intro hg; simp [gval] at hg; exact (CellIs.in_ sS j 1 (by omega) (by omega)))) ?_
        refine SQ.gpure (c := 1) rfl rfl rfl rfl rfl rfl rfl (PureOp.indexAddr Try.underlying29 sz3 rfl rfl AoOk.lit (by intro hg; simp [gval] at hg; omega)) ?_
        refine SQ.gpure (c := 1) rfl rfl rfl rfl rfl rfl rfl (PureOp.load (v := .int .i64 (nth X (((nth S j).2.1).toNat))) Try.underlying3 rfl rfl (by intro hg; simp [gval] at hg; exact (CellIs.ownc 0 rfl (((nth S j).2.1).toNat) 0 (by exact encI_get (by omega))))) ?_
        refine SQ.gpure (c := 1) rfl rfl rfl rfl rfl rfl rfl (PureOp.lss rfl rfl) ?_
        refine SQ.pure rfl rfl rfl (PureOp.and_ rfl rfl rfl rfl) ?_
        refine SQ.nil_then ?_
        refine WC.cond rfl (fun h4 => ?_) (fun h4 => ?_)
        · try simp only [Bool.and_eq_true, Bool.or_eq_true, Bool.not_eq_true', Bool.not_eq_false', Bool.and_eq_false_iff, Bool.or_eq_false_iff, decide_eq_true_eq, decide_eq_false_iff_not, Int.not_lt, Int.not_le, ne_eq, Decidable.not_not] at h4
          have hcc : rsC S j X = true := by rw [rsC, Bool.and_eq_true, decide_eq_true_iff, decide_eq_true_iff]; exact h4
          refine WC.drawh ([Item.triv, Item.triv]) 31 [false, false, false, false, false, false, false, false, false, false, false, false, false, false, false, false, false, false, false, false, false, false, false, false, false, false, false, false, false, false, false] rfl rfl rfl ?_
          refine SD.take 0 [true, false, false, false, false, false, false, false, false, false, false, false, false, false, false, false, false, false, false, false, false, false, false, false, false, false, false, false, false, false, false] rfl (by kernel_rfl) rfl (fun _ h => (HeapOk.settriv (HeapOk.settriv h (i := 0) rfl) (i := 1) rfl)) rfl rfl rfl (PureOp.move rfl) ?_
          refine SD.take 1 [true, true, false, false, false, false, false, false, false, false, false, false, false, false, false, false, false, false, false, false, false, false, false, false, false, false, false, false, false, false, false] rfl (by kernel_rfl) rfl (fun _ h => (HeapOk.settriv (HeapOk.settriv h (i := 0) rfl) (i := 1) rfl)) rfl rfl rfl (PureOp.move rfl) ?_
          refine SD.take 2 [true, true, true, false, false, false, false, false, false, false, false, false, false, false, false, false, false, false, false, false, false, false, false, false, false, false, false, false, false, false, false] rfl (by kernel_rfl) rfl (fun _ h => (HeapOk.settriv (HeapOk.settriv h (i := 0) rfl) (i := 1) rfl)) rfl rfl rfl (PureOp.move rfl) ?_
          refine SD.take 3 [true, true, true, true, false, false, false, false, false, false, false, false, false, false, false, false, false, false, false, false, false, false, false, false, false, false, false, false, false, false, false] rfl (by kernel_rfl) rfl (fun _ h => (HeapOk.settriv (HeapOk.settriv h (i := 0) rfl) (i := 1) rfl)) rfl rfl rfl (PureOp.indexAddrN Try.underlying70 sz74 rfl rfl (AoOk.in_ sS) (fun _ => by omega)) ?_
          refine SD.take 4 [true, true, true, true, true, false, false, false, false, false, false, false, false, false, false, false, false, false, false, false, false, false, false, false, false, false, false, false, false, false, false] rfl (by kernel_rfl) rfl (fun _ h => (HeapOk.settriv (HeapOk.settriv h (i := 0) rfl) (i := 1) rfl)) rfl rfl rfl (PureOp.fieldAddr 1 Try.underlying74 rfl rfl sz3 rfl) ?_
          refine SD.take 5 [true, true, true, true, true, true, false, false, false, false, false, false, false, false, false, false, false, false, false, false, false, false, false, false, false, false, false, false, false, false, false] rfl (by kernel_rfl) rfl (fun _ h => (HeapOk.settriv (HeapOk.settriv h (i := 0) rfl) (i := 1) rfl)) rfl rfl rfl (PureOp.load (v := .int .i64 ((nth S j).2.1)) Try.underlying3 rfl rfl (fun _ => (CellIs.in_ sS j 1 (by omega) (by omega)))) ?_
          refine SD.take 6 [true, true, true, true, true, true, true, false, false, false, false, false, false, false, false, false, false, false, false, false, false, false, false, false, false, false, false, false, false, false, false] rfl (by kernel_rfl) rfl (fun _ h => (HeapOk.settriv (HeapOk.settriv h (i := 0) rfl) (i := 1) rfl)) rfl rfl rfl (PureOp.move rfl) ?_
          refine SD.take 7 [true, true, true, true, true, true, true, true, false, false, false, false, false, false, false, false, false, false, false, false, false, false, false, false, false, false, false, false, false, false, false] rfl (by kernel_rfl) rfl (fun _ h => (HeapOk.settriv (HeapOk.settriv h (i := 0) rfl) (i := 1) rfl)) rfl rfl rfl (PureOp.move rfl) ?_
          refine SD.take 8 [true, true, true, true, true, true, true, true, true, false, false, false, false, false, false, false, false, false, false, false, false, false, false, false, false, false, false, false, false, false, false] rfl (by kernel_rfl) rfl (fun _ h => (HeapOk.settriv (HeapOk.settriv h (i := 0) rfl) (i := 1) rfl)) rfl rfl rfl (PureOp.move rfl) ?_
          refine SD.take 9 [true, true, true, true, true, true, true, true, true, true, false, false, false, false, false, false, false, false, false, false, false, false, false, false, false, false, false, false, false, false, false] rfl (by kernel_rfl) rfl (fun _ h => (HeapOk.settriv (HeapOk.settriv h (i := 0) rfl) (i := 1) rfl)) rfl rfl rfl (PureOp.indexAddrN Try.underlying70 sz74 rfl rfl (AoOk.in_ sS) (fun _ => by omega)) ?_
          refine SD.take 10 [true, true, true, true, true, true, true, true, true, true, true, false, false, false, false, false, false, false, false, false, false, false, false, false, false, false, false, false, false, false, false] rfl (by kernel_rfl) rfl (fun _ h => (HeapOk.settriv (HeapOk.settriv h (i := 0) rfl) (i := 1) rfl)) rfl rfl rfl (PureOp.fieldAddr 1 Try.underlying74 rfl rfl sz3 rfl) ?_
          refine SD.take 11 [true, true, true, true, true, true, true, true, true, true, true, true, false, false, false, false, false, false, false, false, false, false, false, false, false, false, false, false, false, false, false] rfl (by kernel_rfl) rfl (fun _ h => (HeapOk.settriv (HeapOk.settriv h (i := 0) rfl) (i := 1) rfl)) rfl rfl rfl (PureOp.load (v := .int .i64 ((nth S j).2.1)) Try.underlying3 rfl rfl (fun _ => (CellIs.in_ sS j 1 (by omega) (by omega)))) ?_
          refine SD.take 12 [true, true, true, true, true, true, true, true, true, true, true, true, true, false, false, false, false, false, false, false, false, false, false, false, false, false, false, false, false, false, false] rfl (by kernel_rfl) rfl (fun _ h => (HeapOk.settriv (HeapOk.settriv h (i := 0) rfl) (i := 1) rfl)) rfl rfl rfl (PureOp.move rfl) ?_
          refine SD.take 13 [true, true, true, true, true, true, true, true, true, true, true, true, true, true, false, false, false, false, false, false, false, false, false, false, false, false, false, false, false, false, false] rfl (by kernel_rfl) rfl (fun _ h => (HeapOk.settriv (HeapOk.settriv h (i := 0) rfl) (i := 1) rfl)) rfl rfl rfl (PureOp.move rfl) ?_
          refine SD.take 14 [true, true, true, true, true, true, true, true, true, true, true, true, true, true, true, false, false, false, false, false, false, false, false, false, false, false, false, false, false, false, false] rfl (by kernel_rfl) rfl (fun _ h => (HeapOk.settriv (HeapOk.settriv h (i := 0) rfl) (i := 1) rfl)) rfl rfl rfl (PureOp.move rfl) ?_
          refine SD.take 15 [true, true, true, true, true, true, true, true, true, true, true, true, true, true, true, true, false, false, false, false, false, false, false, false, false, false, false, false, false, false, false] rfl (by kernel_rfl) rfl (fun _ h => (HeapOk.settriv (HeapOk.settriv h (i := 0) rfl) (i := 1) rfl)) rfl rfl rfl (PureOp.indexAddrN Try.underlying70 sz74 rfl rfl (AoOk.in_ sS) (fun _ => by omega)) ?_
          refine SD.take 16 [true, true, true, true, true, true, true, true, true, true, true, true, true, true, true, true, true, false, false, false, false, false, false, false, false, false, false, false, false, false, false] rfl (by kernel_rfl) rfl (fun _ h => (HeapOk.settriv (HeapOk.settriv h (i := 0) rfl) (i := 1) rfl)) rfl rfl rfl (PureOp.fieldAddr 0 Try.underlying74 rfl rfl sz3 rfl) ?_
          refine SD.take 17 [true, true, true, true, true, true, true, true, true, true, true, true, true, true, true, true, true, true, false, false, false, false, false, false, false, false, false, false, false, false, false] rfl (by kernel_rfl) rfl (fun _ h => (HeapOk.settriv (HeapOk.settriv h (i := 0) rfl) (i := 1) rfl)) rfl rfl rfl (PureOp.load (v := .int .i64 ((nth S j).1)) Try.underlying3 rfl rfl (fun _ => (CellIs.in_ sS j 0 (by omega) (by omega)))) ?_
          refine SD.take 18 [true, true, true, true, true, true, true, true, true, true, true, true, true, true, true, true, true, true, true, false, false, false, false, false, false, false, false, false, false, false, false] rfl (by kernel_rfl) rfl (fun _ h => (HeapOk.settriv (HeapOk.settriv h (i := 0) rfl) (i := 1) rfl)) rfl rfl rfl (PureOp.indexAddr Try.underlying29 sz3 rfl rfl AoOk.lit (fun _ => by omega)) ?_
          refine SD.take 20 [true, true, true, true, true, true, true, true, true, true, true, true, true, true, true, true, true, true, true, false, true, false, false, false, false, false, false, false, false, false, false] rfl (by kernel_rfl) rfl (fun _ h => (HeapOk.settriv (HeapOk.settriv h (i := 0) rfl) (i := 1) rfl)) rfl rfl rfl (PureOp.move rfl) ?_
          refine SD.take 21 [true, true, true, true, true, true, true, true, true, true, true, true, true, true, true, true, true, true, true, false, true, true, false, false, false, false, false, false, false, false, false] rfl (by kernel_rfl) rfl (fun _ h => (HeapOk.settriv (HeapOk.settriv h (i := 0) rfl) (i := 1) rfl)) rfl rfl rfl (PureOp.move rfl) ?_
          refine SD.take 22 [true, true, true, true, true, true, true, true, true, true, true, true, true, true, true, true, true, true, true, false, true, true, true, false, false, false, false, false, false, false, false] rfl (by kernel_rfl) rfl (fun _ h => (HeapOk.settriv (HeapOk.settriv h (i := 0) rfl) (i := 1) rfl)) rfl rfl rfl (PureOp.indexAddrN Try.underlying70 sz74 rfl rfl (AoOk.in_ sS) (fun _ => by omega)) ?_
          refine SD.take 23 [true, true, true, true, true, true, true, true, true, true, true, true, true, true, true, true, true, true, true, false, true, true, true, true, false, false, false, false, false, false, false] rfl (by kernel_rfl) rfl (fun _ h => (HeapOk.settriv (HeapOk.settriv h (i := 0) rfl) (i := 1) rfl)) rfl rfl rfl (PureOp.fieldAddr 2 Try.underlying74 rfl rfl sz3 rfl) ?_
          refine SD.take 24 [true, true, true, true, true, true, true, true, true, true, true, true, true, true, true, true, true, true, true, false, true, true, true, true, true, false, false, false, false, false, false] rfl (by kernel_rfl) rfl (fun _ h => (HeapOk.settriv (HeapOk.settriv h (i := 0) rfl) (i := 1) rfl)) rfl rfl rfl (PureOp.load (v := .int .i64 ((nth S j).2.2.1)) Try.underlying3 rfl rfl (fun _ => (CellIs.in_ sS j 2 (by omega) (by omega)))) ?_
          refine SD.take 26 [true, true, true, true, true, true, true, true, true, true, true, true, true, true, true, true, true, true, true, false, true, true, true, true, true, false, true, false, false, false, false] rfl (by kernel_rfl) rfl (fun _ h => (HeapOk.settriv (HeapOk.settriv h (i := 0) rfl) (i := 1) rfl)) rfl rfl rfl (PureOp.move rfl) ?_
          refine SD.one 19 [true, true, true, true, true, true, true, true, true, true, true, true, true, true, true, true, true, true, true, true, true, true, true, true, true, false, true, false, false, false, false] (by kernel_rfl) rfl rfl ?_
          refine SL.pure rfl rfl rfl (PureOp.load (v := .int .i64 (nth X (((nth S j).1).toNat))) Try.underlying3 rfl rfl (fun _ => (CellIs.ownc 0 rfl (((nth S j).1).toNat) 0 (by exact encI_get (by omega))))) ?_
          refine SD.back (fun _ h => (HeapOk.settriv (HeapOk.settriv h (i := 0) rfl) (i := 1) rfl)) ?_
          refine SD.take 25 [true, true, true, true, true, true, true, true, true, true, true, true, true, true, true, true, true, true, true, true, true, true, true, true, true, true, true, false, false, false, false] rfl (by kernel_rfl) rfl (fun _ h => (HeapOk.settriv (HeapOk.settriv h (i := 0) rfl) (i := 1) rfl)) rfl rfl rfl (PureOp.add rfl rfl (fun _ => by omega)) ?_
          refine SD.take 27 [true, true, true, true, true, true, true, true, true, true, true, true, true, true, true, true, true, true, true, true, true, true, true, true, true, true, true, true, false, false, false] rfl (by kernel_rfl) rfl (fun _ h => (HeapOk.settriv (HeapOk.settriv h (i := 0) rfl) (i := 1) rfl)) rfl rfl rfl (PureOp.indexAddr Try.underlying29 sz3 rfl rfl AoOk.lit (fun _ => by omega)) ?_
          refine SD.one 28 [true, true, true, true, true, true, true, true, true, true, true, true, true, true, true, true, true, true, true, true, true, true, true, true, true, true, true, true, true, false, false] (by kernel_rfl) rfl rfl ?_
          refine SL.storeown (k := (((nth S j).2.1).toNat)) (j := 0) 0 rfl rfl rfl rfl sz3 (by first | (rw [cellsOf_length encI_len]; omega) | (rw [cellsOf_length encI_len, filK_len (by omega)]; omega)) rfl ?_
          refine SL.itemxs 0 rfl (show _ = cellsOf encI (X.set ((nth S j).2.1.toNat) (nth X (nth S j).1.toNat + (nth S j).2.2.1)) from encI_set (by omega)) ?_
          refine SL.norm [_, _] rfl ?_
          refine SD.back (fun _ h => (HeapOk.settriv (HeapOk.settriv h (i := 0) rfl) (i := 1) rfl)) ?_
          refine SD.take 29 [true, true, true, true, true, true, true, true, true, true, true, true, true, true, true, true, true, true, true, true, true, true, true, true, true, true, true, true, true, true, false] rfl (by kernel_rfl) rfl (fun _ h => (HeapOk.settriv (HeapOk.settriv h (i := 0) rfl) (i := 1) rfl)) rfl rfl rfl (PureOp.indexAddr Try.underlying29 sz3 rfl rfl AoOk.lit (fun _ => by omega)) ?_
          refine SD.one 30 [true, true, true, true, true, true, true, true, true, true, true, true, true, true, true, true, true, true, true, true, true, true, true, true, true, true, true, true, true, true, true] (by kernel_rfl) rfl rfl ?_
          refine SL.storeown (k := (((nth S j).2.1).toNat)) (j := 0) 1 rfl rfl rfl rfl sz3 (by first | (rw [cellsOf_length encI_len]; omega) | (rw [cellsOf_length encI_len, filK_len (by omega)]; omega)) rfl ?_
          refine SL.itemxs 1 rfl (show _ = cellsOf encI (Y.set ((nth S j).2.1.toNat) (j : Int)) from encI_set (by omega)) ?_
          refine SL.norm [_, _] rfl ?_
          refine SD.back (fun _ h => (HeapOk.settriv (HeapOk.settriv h (i := 0) rfl) (i := 1) rfl)) ?_
          refine SD.done (by kernel_rfl) ?_
          refine QX.ofK ?_
          refine QX.normal_in ?_
          refine QX.then_ ?_
          refine WC.region ?_
          refine SL.pure rfl rfl rfl (PureOp.move rfl) ?_
          refine SL.pure rfl rfl rfl (PureOp.addN (k := 1) rfl rfl (fun _ => by omega)) ?_
          refine SL.pure rfl rfl rfl (PureOp.assign rfl) ?_
          refine SL.nil ?_
          refine QX.round (σ := Nat × List Int × List Int) (Ef := fun q_ => [(0, 0, .int .i64 ((nu : Nat) : Int)), (1, 0, .slice ja jn jc), (2, 0, .int .i64 s), (3, 0, .int .i64 t), (8, 0, .slice none 0 0), (9, 0, .slice (some ⟨db, 0, none⟩) nu nu), (10, 0, .slice (some ⟨eb, 0, none⟩) nu nu), (11, 0, .int .i64 ((k : Nat) : Int)), (12, 0, .int .i64 ((r : Nat) : Int)), (20, 0, .int .i64 ((k : Nat) : Int)), (21, 0, .int .i64 ((nu : Nat) : Int)), (22, 0, .bool (decide (((k : Nat) : Int) < ((nu : Nat) : Int)))), (31, 0, .slice (some ⟨db, 0, none⟩) nu nu), (32, 0, .int .i64 s), (33, 0, .pointer (some ⟨blk (some ⟨db, 0, none⟩), off (some ⟨db, 0, none⟩) + ((s).toNat) * 1, none⟩)), (34, 0, .int .i64 ((r : Nat) : Int)), (35, 0, .int .i64 ((nu : Nat) : Int)), (36, 0, .bool (decide (((r : Nat) : Int) < ((nu : Nat) : Int)))), (13, 0, .int .i64 ((q_.1 : Nat) : Int))]) (Hf := fun q_ => [Item.own w0.heap.size (some ⟨db, 0, none⟩) nu nu 3 1 (cellsOf encI (q_.2.1)), Item.own w0.heap.size (some ⟨eb, 0, none⟩) nu nu 3 1 (cellsOf encI (q_.2.2))]) (I := fun q_ => q_.1 ≤ jn ∧ rrnd S D E q_.1 = (q_.2.1, q_.2.2) ∧ Bd nu (-((r : Int) * 35184372088832) - ((q_.1 : Nat) : Int) * 4294967296) q_.2.1 ∧ q_.2.2.length = nu) (μ := fun q_ => jn - q_.1) (s := (j, X, Y)) 2 ((j + 1, X.set ((nth S j).2.1.toNat) (nth X (nth S j).1.toNat + (nth S j).2.2.1), Y.set ((nth S j).2.1.toNat) (j : Int))) ⟨⟨(by first | omega | (dsimp only; omega)), by rw [rrnd, hrr, rsD, rsB, if_pos hcc, if_pos hcc], by have h := rsD_bd (S := S) (j := j) hX ⟨by omega, by omega⟩ (by omega); rw [rsD, if_pos hcc] at h; exact h.mono (by dsimp only; omega), by rw [List.length_set]; exact hYl⟩, by first | omega | (dsimp only; omega)⟩ ⟨rfl, rfl, rfl, rfl, rfl, rfl, rfl, rfl, rfl, rfl, rfl, rfl, rfl, rfl, rfl, rfl, rfl, rfl, rfl, rfl, rfl, rfl, rfl, rfl, rfl, rfl, rfl, rfl, rfl, rfl, rfl, rfl, rfl, rfl, rfl, rfl, rfl, rfl, trivial⟩ rfl
        · try simp only [Bool.and_eq_true, Bool.or_eq_true, Bool.not_eq_true', Bool.not_eq_false', Bool.and_eq_false_iff, Bool.or_eq_false_iff, decide_eq_true_eq, decide_eq_false_iff_not, Int.not_lt, Int.not_le, ne_eq, Decidable.not_not] at h4
          have hcc : ¬ rsC S j X = true := by rw [rsC, Bool.and_eq_true, decide_eq_true_iff, decide_eq_true_iff]; omega
          refine WC.skip ?_
          refine QX.normal_in ?_
          refine QX.then_ ?_
          refine WC.region ?_
          refine SL.pure rfl rfl rfl (PureOp.move rfl) ?_
          refine SL.pure rfl rfl rfl (PureOp.addN (k := 1) rfl rfl (fun _ => by omega)) ?_
          refine SL.pure rfl rfl rfl (PureOp.assign rfl) ?_
          refine SL.nil ?_
          refine QX.round (σ := Nat × List Int × List Int) (Ef := fun q_ => [(0, 0, .int .i64 ((nu : Nat) : Int)), (1, 0, .slice ja jn jc), (2, 0, .int .i64 s), (3, 0, .int .i64 t), (8, 0, .slice none 0 0), (9, 0, .slice (some ⟨db, 0, none⟩) nu nu), (10, 0, .slice (some ⟨eb, 0, none⟩) nu nu), (11, 0, .int .i64 ((k : Nat) : Int)), (12, 0, .int .i64 ((r : Nat) : Int)), (20, 0, .int .i64 ((k : Nat) : Int)), (21, 0, .int .i64 ((nu : Nat) : Int)), (22, 0, .bool (decide (((k : Nat) : Int) < ((nu : Nat) : Int)))), (31, 0, .slice (some ⟨db, 0, none⟩) nu nu), (32, 0, .int .i64 s), (33, 0, .pointer (some ⟨blk (some ⟨db, 0, none⟩), off (some ⟨db, 0, none⟩) + ((s).toNat) * 1, none⟩)), (34, 0, .int .i64 ((r : Nat) : Int)), (35, 0, .int .i64 ((nu : Nat) : Int)), (36, 0, .bool (decide (((r : Nat) : Int) < ((nu : Nat) : Int)))), (13, 0, .int .i64 ((q_.1 : Nat) : Int))]) (Hf := fun q_ => [Item.own w0.heap.size (some ⟨db, 0, none⟩) nu nu 3 1 (cellsOf encI (q_.2.1)), Item.own w0.heap.size (some ⟨eb, 0, none⟩) nu nu 3 1 (cellsOf encI (q_.2.2))]) (I := fun q_ => q_.1 ≤ jn ∧ rrnd S D E q_.1 = (q_.2.1, q_.2.2) ∧ Bd nu (-((r : Int) * 35184372088832) - ((q_.1 : Nat) : Int) * 4294967296) q_.2.1 ∧ q_.2.2.length = nu) (μ := fun q_ => jn - q_.1) (s := (j, X, Y)) 2 ((j + 1, X, Y)) ⟨⟨(by first | omega | (dsimp only; omega)), by rw [rrnd, hrr, rsD, rsB, if_neg hcc, if_neg hcc], hX.mono (by dsimp only; omega), hYl⟩, by first | omega | (dsimp only; omega)⟩ ⟨rfl, rfl, rfl, rfl, rfl, rfl, rfl, rfl, rfl, rfl, rfl, rfl, rfl, rfl, rfl, rfl, rfl, rfl, rfl, rfl, rfl, rfl, rfl, rfl, rfl, rfl, rfl, rfl, rfl, rfl, rfl, rfl, rfl, rfl, rfl, rfl, rfl, rfl, trivial⟩ rfl
      · try simp only [Bool.and_eq_true, Bool.or_eq_true, Bool.not_eq_true', Bool.not_eq_false', Bool.and_eq_false_iff, Bool.or_eq_false_iff, decide_eq_true_eq, decide_eq_false_iff_not, Int.not_lt, Int.not_le, ne_eq, Decidable.not_not] at h3
        refine WC.exit ?_
        refine QX.exit_then ?_
        refine QX.exit_then ?_
        refine QX.exit_hit ?_
        refine QX.normal_in ?_
        refine QX.then_ ?_
        refine WC.region ?_
        refine SL.pure rfl rfl rfl (PureOp.move rfl) ?_
        refine SL.pure rfl rfl rfl (PureOp.addN (k := 1) rfl rfl (fun _ => by omega)) ?_
        refine SL.pure rfl rfl rfl (PureOp.assign rfl) ?_
        refine SL.nil ?_
        refine QX.round (σ := Nat × List Int × List Int) (Ef := fun q_ => [(0, 0, .int .i64 ((nu : Nat) : Int)), (1, 0, .slice ja jn jc), (2, 0, .int .i64 s), (3, 0, .int .i64 t), (8, 0, .slice none 0 0), (9, 0, .slice (some ⟨db, 0, none⟩) nu nu), (10, 0, .slice (some ⟨eb, 0, none⟩) nu nu), (11, 0, .int .i64 ((k : Nat) : Int)), (20, 0, .int .i64 ((k : Nat) : Int)), (21, 0, .int .i64 ((nu : Nat) : Int)), (22, 0, .bool (decide (((k : Nat) : Int) < ((nu : Nat) : Int)))), (31, 0, .slice (some ⟨db, 0, none⟩) nu nu), (32, 0, .int .i64 s), (33, 0, .pointer (some ⟨blk (some ⟨db, 0, none⟩), off (some ⟨db, 0, none⟩) + ((s).toNat) * 1, none⟩)), (12, 0, .int .i64 ((q_.1 : Nat) : Int))]) (Hf := fun q_ => [Item.own w0.heap.size (some ⟨db, 0, none⟩) nu nu 3 1 (cellsOf encI (q_.2.1)), Item.own w0.heap.size (some ⟨eb, 0, none⟩) nu nu 3 1 (cellsOf encI (q_.2.2))]) (I := fun q_ => q_.1 ≤ nu ∧ riter S nu s q_.1 = (q_.2.1, q_.2.2) ∧ Bd nu (-(((q_.1 : Nat) : Int) * 35184372088832)) q_.2.1 ∧ q_.2.2.length = nu) (μ := fun q_ => nu - q_.1) (s := (r, D, E)) 2 ((r + 1, X, Y)) ⟨⟨(by first | omega | (dsimp only; omega)), by rw [riter, hri, ← hj, show jn = j from by omega]; exact hrr, hX.mono (by dsimp only; omega), hYl⟩, by first | omega | (dsimp only; omega)⟩ ⟨rfl, rfl, rfl, rfl, rfl, rfl, rfl, rfl, rfl, rfl, rfl, rfl, rfl, rfl, rfl, rfl, rfl, rfl, rfl, rfl, rfl, rfl, rfl, rfl, rfl, rfl, rfl, rfl, rfl, rfl, trivial⟩ rfl
    · try simp only [Bool.and_eq_true, Bool.or_eq_true, Bool.not_eq_true', Bool.not_eq_false', Bool.and_eq_false_iff, Bool.or_eq_false_iff, decide_eq_true_eq, decide_eq_false_iff_not, Int.not_lt, Int.not_le, ne_eq, Decidable.not_not] at h2
      have er : r = nu := by omega
      have hp2 : rtr S E K t [] = some p := by
        have h := hp
        rw [show riter S nu s nu = (D, E) from er ▸ hri] at h
        exact h
      refine WC.exit ?_
      refine QX.exit_then ?_
      refine QX.exit_then ?_
      refine QX.exit_hit ?_
      refine QX.then_ ?_
      refine WC.seq ?_
      refine WC.region ?_
      refine SL.addnil 74 6 ?_
      refine SL.pure rfl rfl rfl (PureOp.assign rfl) ?_
      refine SL.nil_then ?_
      refine WC.seq ?_
      refine WC.seq ?_
      refine WC.region ?_
      refine SL.pure rfl rfl rfl (PureOp.move rfl) ?_
      refine SL.pure rfl rfl rfl (PureOp.assign rfl) ?_
      refine SL.nil_then ?_
      refine WC.block ?_
      refine WC.loop (σ := Nat × Int × List Sp × Nat × Option Addr × Nat) (fun q_ => [(0, 0, .int .i64 ((nu : Nat) : Int)), (1, 0, .slice ja jn jc), (2, 0, .int .i64 s), (3, 0, .int .i64 t), (8, 0, .slice none 0 0), (9, 0, .slice (some ⟨db, 0, none⟩) nu nu), (10, 0, .slice (some ⟨eb, 0, none⟩) nu nu), (11, 0, .int .i64 ((k : Nat) : Int)), (12, 0, .int .i64 ((r : Nat) : Int)), (20, 0, .int .i64 ((k : Nat) : Int)), (21, 0, .int .i64 ((nu : Nat) : Int)), (22, 0, .bool (decide (((k : Nat) : Int) < ((nu : Nat) : Int)))), (31, 0, .slice (some ⟨db, 0, none⟩) nu nu), (32, 0, .int .i64 s), (33, 0, .pointer (some ⟨blk (some ⟨db, 0, none⟩), off (some ⟨db, 0, none⟩) + ((s).toNat) * 1, none⟩)), (34, 0, .int .i64 ((r : Nat) : Int)), (35, 0, .int .i64 ((nu : Nat) : Int)), (36, 0, .bool (decide (((r : Nat) : Int) < ((nu : Nat) : Int)))), (108, 0, .int .i64 t), (15, 0, .int .i64 q_.2.1), (14, 0, .slice q_.2.2.2.2.1 q_.2.2.2.1 q_.2.2.2.2.2)]) (fun q_ => [Item.own w0.heap.size (some ⟨db, 0, none⟩) nu nu 3 1 (cellsOf encI (D)), Item.own w0.heap.size (some ⟨eb, 0, none⟩) nu nu 3 1 (cellsOf encI (E)), Item.own w0.heap.size q_.2.2.2.2.1 q_.2.2.2.1 q_.2.2.2.2.2 74 6 (cellsOf encSp (q_.2.2.1))]) (fun q_ => rtr S E q_.1 q_.2.1 q_.2.2.1 = some p ∧ (0 ≤ q_.2.1 ∧ q_.2.1 < nu) ∧ q_.2.2.2.1 = q_.2.2.1.length ∧ q_.2.2.2.1 + q_.1 ≤ K) (fun q_ => q_.1) 3 ((K, t, [], 0, none, 0)) (⟨hp2, ht, rfl, by dsimp only; omega⟩) ⟨rfl, rfl, rfl, rfl, rfl, rfl, rfl, rfl, rfl, rfl, rfl, rfl, rfl, rfl, rfl, rfl, rfl, rfl, rfl, rfl, rfl, rfl, rfl, rfl, rfl, rfl, rfl, rfl, rfl, rfl, rfl, rfl, rfl, rfl, rfl, rfl, rfl, rfl, rfl, rfl, rfl, rfl, trivial⟩ rfl ?_
      rintro ⟨Kt, v_, L, z, oa, oc⟩ ⟨ht_, hv_, hz, hzK⟩
      try dsimp only at *
      refine WC.seq ?_
      refine WC.seq ?_
      refine WC.region ?_
      refine SL.pure rfl rfl rfl (PureOp.move rfl) ?_
      refine SL.pure rfl rfl rfl (PureOp.move rfl) ?_
      refine SL.pure rfl rfl rfl (PureOp.indexAddr Try.underlying29 sz3 rfl rfl AoOk.lit (fun _ => by omega)) ?_
      refine SL.pure rfl rfl rfl (PureOp.load (v := .int .i64 (nth E ((v_).toNat))) Try.underlying3 rfl rfl (fun _ => (CellIs.ownc 1 rfl ((v_).toNat) 0 (by exact encI_get (by omega))))) ?_
      refine SL.pure rfl rfl rfl (PureOp.geq rfl rfl) ?_
      refine SL.nil_then ?_
      refine WC.cond rfl (fun h5 => ?_) (fun h5 => ?_)
      · try simp only [Bool.and_eq_true, Bool.or_eq_true, Bool.not_eq_true', Bool.not_eq_false', Bool.and_eq_false_iff, Bool.or_eq_false_iff, decide_eq_true_eq, decide_eq_false_iff_not, Int.not_lt, Int.not_le, ne_eq, Decidable.not_not] at h5
        obtain ⟨Kr, rfl, hb2, htr⟩ := rtr_step ht_ h5
        have hSe := hS (nth S (nth E v_.toNat).toNat) (nth_mem (by omega))
        refine WC.skip ?_
        refine QX.then_ ?_
        refine WC.seq ?_
        refine WC.block ?_
        refine WC.region ?_
        refine SL.pure rfl rfl rfl (PureOp.move rfl) ?_
        refine SL.pure rfl rfl rfl (PureOp.move rfl) ?_
        refine SL.pure rfl rfl rfl (PureOp.move rfl) ?_
        refine SL.pure rfl rfl rfl (PureOp.move rfl) ?_
        refine SL.pure rfl rfl rfl (PureOp.indexAddr Try.underlying29 sz3 rfl rfl AoOk.lit (fun _ => by omega)) ?_
        refine SL.pure rfl rfl rfl (PureOp.load (v := .int .i64 (nth E ((v_).toNat))) Try.underlying3 rfl rfl (fun _ => (CellIs.ownc 1 rfl ((v_).toNat) 0 (by exact encI_get (by omega))))) ?_
        refine SL.pure rfl rfl rfl (PureOp.indexAddr Try.underlying70 sz74 rfl rfl (AoOk.in_ sS) (fun _ => by omega)) ?_
        refine SL.pure rfl rfl rfl (PureOp.loads (vs := [.int .i64 ((nth S ((nth E ((v_).toNat)).toNat)).1), .int .i64 ((nth S ((nth E ((v_).toNat)).toNat)).2.1), .int .i64 ((nth S ((nth E ((v_).toNat)).toNat)).2.2.1), .int .i64 ((nth S ((nth E ((v_).toNat)).toNat)).2.2.2.1), .int .i64 ((nth S ((nth E ((v_).toNat)).toNat)).2.2.2.2.1), .bool ((nth S ((nth E ((v_).toNat)).toNat)).2.2.2.2.2)]) Try.underlying74 rfl rfl (fun _ => (RowIs.in_ sS ((nth E ((v_).toNat)).toNat) 0 6 (by omega) (by omega))) sz74) ?_
        refine SL.buildSlice rfl rfl Try.underlying70 elem74 rfl rfl rfl rfl (fun b5 hb5 => ?_)
        refine SL.norm [_, _, _, _] rfl ?_
        refine SL.append 2 rfl rfl Try.underlying70 elem74 rfl rfl rfl rfl (SrcIs.own 3 rfl) (by rfl) (by omega) (by omega) (fun ao1_ cap1_ => ?_)
        refine SL.itemxs 2 rfl (show _ = cellsOf encSp (L ++ [(nth S (nth E v_.toNat).toNat)]) from by rw [cellsOf_append (l := L), cellsOf_one]; rfl) ?_
        refine SL.norm [_, _, _, _] rfl ?_
        refine SL.pure rfl rfl rfl (PureOp.assign rfl) ?_
        refine SL.nil ?_
        refine QX.normal_in ?_
        refine QX.then_ ?_
        refine WC.region ?_
        refine SL.pure rfl rfl rfl (PureOp.move rfl) ?_
        refine SL.pure rfl rfl rfl (PureOp.move rfl) ?_
        refine SL.pure rfl rfl rfl (PureOp.move rfl) ?_
        refine SL.pure rfl rfl rfl (PureOp.indexAddr Try.underlying29 sz3 rfl rfl AoOk.lit (fun _ => by omega)) ?_
        refine SL.pure rfl rfl rfl (PureOp.load (v := .int .i64 (nth E ((v_).toNat))) Try.underlying3 rfl rfl (fun _ => (CellIs.ownc 1 rfl ((v_).toNat) 0 (by exact encI_get (by omega))))) ?_
        refine SL.pure rfl rfl rfl (PureOp.indexAddr Try.underlying70 sz74 rfl rfl (AoOk.in_ sS) (fun _ => by omega)) ?_
        refine SL.pure rfl rfl rfl (PureOp.fieldAddr 0 Try.underlying74 rfl rfl sz3 rfl) ?_
        refine SL.pure rfl rfl rfl (PureOp.load (v := .int .i64 ((nth S ((nth E ((v_).toNat)).toNat)).1)) Try.underlying3 rfl rfl (fun _ => (CellIs.in_ sS ((nth E ((v_).toNat)).toNat) 0 (by omega) (by omega)))) ?_
        refine SL.pure rfl rfl rfl (PureOp.assign rfl) ?_
        refine SL.nil ?_
        refine QX.round (σ := Nat × Int × List Sp × Nat × Option Addr × Nat) (Ef := fun q_ => [(0, 0, .int .i64 ((nu : Nat) : Int)), (1, 0, .slice ja jn jc), (2, 0, .int .i64 s), (3, 0, .int .i64 t), (8, 0, .slice none 0 0), (9, 0, .slice (some ⟨db, 0, none⟩) nu nu), (10, 0, .slice (some ⟨eb, 0, none⟩) nu nu), (11, 0, .int .i64 ((k : Nat) : Int)), (12, 0, .int .i64 ((r : Nat) : Int)), (20, 0, .int .i64 ((k : Nat) : Int)), (21, 0, .int .i64 ((nu : Nat) : Int)), (22, 0, .bool (decide (((k : Nat) : Int) < ((nu : Nat) : Int)))), (31, 0, .slice (some ⟨db, 0, none⟩) nu nu), (32, 0, .int .i64 s), (33, 0, .pointer (some ⟨blk (some ⟨db, 0, none⟩), off (some ⟨db, 0, none⟩) + ((s).toNat) * 1, none⟩)), (34, 0, .int .i64 ((r : Nat) : Int)), (35, 0, .int .i64 ((nu : Nat) : Int)), (36, 0, .bool (decide (((r : Nat) : Int) < ((nu : Nat) : Int)))), (108, 0, .int .i64 t), (15, 0, .int .i64 q_.2.1), (14, 0, .slice q_.2.2.2.2.1 q_.2.2.2.1 q_.2.2.2.2.2)]) (Hf := fun q_ => [Item.own w0.heap.size (some ⟨db, 0, none⟩) nu nu 3 1 (cellsOf encI (D)), Item.own w0.heap.size (some ⟨eb, 0, none⟩) nu nu 3 1 (cellsOf encI (E)), Item.own w0.heap.size q_.2.2.2.2.1 q_.2.2.2.1 q_.2.2.2.2.2 74 6 (cellsOf encSp (q_.2.2.1))]) (I := fun q_ => rtr S E q_.1 q_.2.1 q_.2.2.1 = some p ∧ (0 ≤ q_.2.1 ∧ q_.2.1 < nu) ∧ q_.2.2.2.1 = q_.2.2.1.length ∧ q_.2.2.2.1 + q_.1 ≤ K) (μ := fun q_ => q_.1) (s := ((Kr + 1), v_, L, z, oa, oc)) 3 ((Kr, (nth S (nth E v_.toNat).toNat).1, L ++ [(nth S (nth E v_.toNat).toNat)], z + 1, ao1_, cap1_)) ⟨⟨htr, hSe.1, by rw [List.length_append, ← hz]; rfl, by dsimp only; omega⟩, by first | omega | (dsimp only; omega)⟩ ⟨rfl, rfl, rfl, rfl, rfl, rfl, rfl, rfl, rfl, rfl, rfl, rfl, rfl, rfl, rfl, rfl, rfl, rfl, rfl, rfl, rfl, rfl, rfl, rfl, rfl, rfl, rfl, rfl, rfl, rfl, rfl, rfl, rfl, rfl, rfl, rfl, rfl, rfl, rfl, rfl, rfl, rfl, trivial⟩ rfl
      · try simp only [Bool.and_eq_true, Bool.or_eq_true, Bool.not_eq_true', Bool.not_eq_false', Bool.and_eq_false_iff, Bool.or_eq_false_iff, decide_eq_true_eq, decide_eq_false_iff_not, Int.not_lt, Int.not_le, ne_eq, Decidable.not_not] at h5
        refine WC.exit ?_
        refine QX.exit_then ?_
        refine QX.exit_then ?_
        refine QX.exit_hit ?_
        refine QX.then_ ?_
        refine WC.seq ?_
        refine WC.region ?_
        refine SL.pure rfl rfl rfl (PureOp.move rfl) ?_
        refine SL.pure rfl rfl rfl (PureOp.assign rfl) ?_
        refine SL.nil_then ?_
        refine WC.ret ?_
        refine QX.ret1 rfl rfl ?_
        intro w hw
        have ep := rtr_end ht_ (by omega)
        subst ep
        obtain rfl : z = _ := hz
        exact ⟨_, _, rfl, hw.mem (i := 2) rfl⟩

end Go.Proofs.Ytngkbnaehkailaa
