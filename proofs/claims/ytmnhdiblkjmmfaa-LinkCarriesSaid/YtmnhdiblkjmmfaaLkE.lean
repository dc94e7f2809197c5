import Derived.Test.YtmnhdiblkjmmfaaLkD
namespace Go.Proofs.Ytmnhdiblkjmmfaa
open Go Go.RowKit Eng
set_option linter.unusedVariables false
set_option linter.unusedSimpArgs false

set_option maxHeartbeats 4000000 in
set_option maxRecDepth 100000 in
theorem rsend_ok (b : Nat) (room : Int) (B : List ByteArray) (d : Nat) (ba : Option Addr) (bc : Nat) (hd : d ≤ B.length) (hB : B.length ≤ 500) (w0 : World) (body : ByteArray) : MC Try.prog 11 [.pointer (some ⟨b, 0, none⟩), .string body] w0 [Item.cells b [.int .i64 room, .slice ba B.length bc, .int .i64 ((d : Nat) : Int)] 64, Item.own w0.heap.size ba B.length bc 9 1 (cellsOf encStr B)] (fun _ : Option Addr × Nat => .tuple #[.agg (enc32 (sendM room B d body)).toArray, .int .i64 (sendE room B d body)]) (fun t => [.cells b [.int .i64 room, .slice t.1 (sendB room B d body).length t.2, .int .i64 ((d : Nat) : Int)] 64, .own w0.heap.size t.1 (sendB room B d body).length t.2 9 1 (cellsOf encStr (sendB room B d body))]) (fun _ => True) (fun _ => []) := by
  refine mcalls (N := 35) Try.func11 rfl rfl rfl ?_
  intro X
  show WC _ _ _ _ _ _ _ [Item.cells b [.int .i64 room, .slice ba B.length bc, .int .i64 ((d : Nat) : Int)] 64, Item.own w0.heap.size ba B.length bc 9 1 (cellsOf encStr B), X]
  refine WC.seq ?_
  refine WC.region ?_
  refine SL.alloc rfl rfl zero32 (fun b1 hb1 => ?_)
  refine SL.norm [_, _, _, _] rfl ?_
  refine SL.pure rfl rfl rfl (PureOp.assign rfl) ?_
  refine SL.nil_then ?_
  refine WC.seq ?_
  refine WC.seq ?_
  refine WC.region ?_
  refine SL.pure rfl rfl rfl (PureOp.move rfl) ?_
  refine SL.pure rfl rfl rfl (PureOp.lens rfl Try.underlying9) ?_
  refine SL.pure rfl rfl rfl (PureOp.gtr rfl rfl) ?_
  refine SL.nil_then ?_
  refine WC.cond rfl (fun h1 => ?_) (fun h1 => ?_)
  · try simp only [Bool.and_eq_true, Bool.or_eq_true, Bool.not_eq_true', Bool.not_eq_false', Bool.and_eq_false_iff, Bool.or_eq_false_iff, decide_eq_true_eq, decide_eq_false_iff_not, Int.not_lt, Int.not_le, ne_eq, Decidable.not_not] at h1
    refine WC.seq ?_
    refine WC.region ?_
    refine SL.pure rfl rfl rfl (PureOp.build bld32 rfl rfl) ?_
    refine SL.store 3 rfl rfl rfl rfl sz32 rfl rfl ?_
    refine SL.norm [_, _, _, _] rfl ?_
    refine SL.pure rfl rfl rfl (PureOp.assign rfl) ?_
    refine SL.nil_then ?_
    refine WC.ret ?_
    refine QX.ret_then ?_
    refine QX.bodyv rfl (RVs.cons (RV.cell rfl Try.underlying32 rfl (RowIs.cells 3 0 4 rfl rfl) sz32) (RVs.cons (RV.tmp rfl) RVs.nil)) ?_
    intro w hw
    have q : sendE room B d body = 4 := by rw [sendE, if_pos (by omega)]
    have qb : sendB room B d body = B := by rw [sendB, if_neg (by rw [q]; decide)]
    have qm : sendM room B d body = zeroM := by rw [sendM, if_neg (by rw [q]; decide)]
    refine ⟨(ba, bc), by rw [q, qm]; rfl, trivial, ?_⟩
    rw [qb]
    exact HeapOk.pick [0, 1, 2] (by decide) hw
  · try simp only [Bool.and_eq_true, Bool.or_eq_true, Bool.not_eq_true', Bool.not_eq_false', Bool.and_eq_false_iff, Bool.or_eq_false_iff, decide_eq_true_eq, decide_eq_false_iff_not, Int.not_lt, Int.not_le, ne_eq, Decidable.not_not] at h1
    refine WC.skip ?_
    refine QX.then_ ?_
    refine WC.seq ?_
    refine WC.seq ?_
    refine WC.quiet rfl (by kernel_rfl) ?_
    refine SQ.pure rfl rfl rfl (PureOp.move rfl) ?_
    refine SQ.calle rfl rfl rfl rfl rfl rfl callable20 (fun w hw => rkept_ok b room B d ba bc hd (by omega) w (ObjIn.of hw 0 rfl)) ?_
    refine SQ.pure rfl rfl rfl (PureOp.move rfl) ?_
    refine SQ.pure rfl rfl rfl (PureOp.nilCheckp rfl) ?_
    refine SQ.pure rfl rfl rfl (PureOp.fieldAddrT 0 Try.underlying64 rfl sz3 rfl rfl) ?_
    refine SQ.pure rfl rfl rfl (PureOp.load (v := .int .i64 room) Try.underlying3 rfl rfl (fun _ => (CellIs.cells 0 rfl rfl))) ?_
    refine SQ.pure rfl rfl rfl (PureOp.geq rfl rfl) ?_
    refine SQ.nil_then ?_
    refine WC.cond rfl (fun h2 => ?_) (fun h2 => ?_)
    · try simp only [Bool.and_eq_true, Bool.or_eq_true, Bool.not_eq_true', Bool.not_eq_false', Bool.and_eq_false_iff, Bool.or_eq_false_iff, decide_eq_true_eq, decide_eq_false_iff_not, Int.not_lt, Int.not_le, ne_eq, Decidable.not_not] at h2
      refine WC.seq ?_
      refine WC.region ?_
      refine SL.pure rfl rfl rfl (PureOp.build bld32 rfl rfl) ?_
      refine SL.store 3 rfl rfl rfl rfl sz32 rfl rfl ?_
      refine SL.norm [_, _, _, _] rfl ?_
      refine SL.pure rfl rfl rfl (PureOp.assign rfl) ?_
      refine SL.nil_then ?_
      refine WC.ret ?_
      refine QX.ret_then ?_
      refine QX.bodyv rfl (RVs.cons (RV.cell rfl Try.underlying32 rfl (RowIs.cells 3 0 4 rfl rfl) sz32) (RVs.cons (RV.tmp rfl) RVs.nil)) ?_
      intro w hw
      have q : sendE room B d body = 9 := by rw [sendE, if_neg (by omega), if_pos (by omega)]
      have qb : sendB room B d body = B := by rw [sendB, if_neg (by rw [q]; decide)]
      have qm : sendM room B d body = zeroM := by rw [sendM, if_neg (by rw [q]; decide)]
      refine ⟨(ba, bc), by rw [q, qm]; rfl, trivial, ?_⟩
      rw [qb]
      exact HeapOk.pick [0, 1, 2] (by decide) hw
    · try simp only [Bool.and_eq_true, Bool.or_eq_true, Bool.not_eq_true', Bool.not_eq_false', Bool.and_eq_false_iff, Bool.or_eq_false_iff, decide_eq_true_eq, decide_eq_false_iff_not, Int.not_lt, Int.not_le, ne_eq, Decidable.not_not] at h2
      refine WC.skip ?_
      refine QX.then_ ?_
      refine WC.seq ?_
      refine WC.region ?_
      refine SL.pure rfl rfl rfl (PureOp.move rfl) ?_
      refine SL.pure rfl rfl rfl (PureOp.move rfl) ?_
      refine SL.pure rfl rfl rfl (PureOp.nilCheckp rfl) ?_
      refine SL.pure rfl rfl rfl (PureOp.fieldAddrT 1 Try.underlying64 rfl sz49 rfl rfl) ?_
      refine SL.pure rfl rfl rfl (PureOp.load (v := .slice ba B.length bc) Try.underlying49 rfl rfl (fun _ => (CellIs.cells 0 rfl rfl))) ?_
      refine SL.pure rfl rfl rfl (PureOp.move rfl) ?_
      refine SL.buildSlice rfl rfl Try.underlying49 elem9 rfl rfl rfl rfl (fun b2 hb2 => ?_)
      refine SL.norm [_, _, _, _, _] rfl ?_
      refine SL.append 1 rfl rfl Try.underlying49 elem9 rfl rfl rfl rfl (SrcIs.own 4 rfl) (by rfl) (by omega) (by omega) (fun ao1_ cap1_ => ?_)
      refine SL.itemxs 1 rfl (show _ = cellsOf encStr (B ++ [body]) from by rw [cellsOf_append, cellsOf_one]; rfl) ?_
      refine SL.norm [_, _, _, _, _] rfl ?_
      refine SL.pure rfl rfl rfl (PureOp.nilCheckp rfl) ?_
      refine SL.pure rfl rfl rfl (PureOp.fieldAddrT 1 Try.underlying64 rfl sz49 rfl rfl) ?_
      refine SL.store 0 rfl rfl rfl rfl sz49 rfl rfl ?_
      refine SL.norm [_, _, _, _, _] rfl ?_
      refine SL.nil_then ?_
      refine WC.seq ?_
      refine WC.region ?_
      refine SL.pure rfl rfl rfl (PureOp.move rfl) ?_
      refine SL.pure rfl rfl rfl (PureOp.nilCheckp rfl) ?_
      refine SL.pure rfl rfl rfl (PureOp.fieldAddrT 1 Try.underlying64 rfl sz49 rfl rfl) ?_
      refine SL.pure rfl rfl rfl (PureOp.load (v := .slice ao1_ (B.length + 1) cap1_) Try.underlying49 rfl rfl (fun _ => (CellIs.cells 0 rfl rfl))) ?_
      refine SL.pure rfl rfl rfl (PureOp.len rfl Try.underlying49) ?_
      refine SL.pure rfl rfl rfl (PureOp.move rfl) ?_
      refine SL.calle rfl rfl rfl rfl rfl rfl callable30 (fun w hw => data_ok _ _ w) ?_
      refine SL.norm [_, _, _, _, _] rfl ?_
      refine SL.store 3 rfl rfl rfl rfl sz32 rfl rfl ?_
      refine SL.norm [_, _, _, _, _] rfl ?_
      refine SL.pure rfl rfl rfl (PureOp.assign rfl) ?_
      refine SL.nil_then ?_
      refine WC.ret ?_
      refine QX.bodyv rfl (RVs.cons (RV.cell rfl Try.underlying32 rfl (RowIs.cells 3 0 4 rfl rfl) sz32) (RVs.cons (RV.tmp rfl) RVs.nil)) ?_
      intro w hw
      have q : sendE room B d body = 0 := by rw [sendE, if_neg (by omega), if_neg (by omega)]
      have qb : sendB room B d body = B ++ [body] := by rw [sendB, if_pos q]
      have qm : sendM room B d body = dataM ((B.length : Int) + 1) body := by rw [sendM, if_pos q]
      refine ⟨(ao1_, cap1_), by rw [q, qm]; rfl, trivial, ?_⟩
      rw [qb]
      have h := HeapOk.pick [0, 1, 2] (by decide) hw
      rw [show (B ++ [body]).length = B.length + 1 from by simp]
      exact h

theorem kept_sub {w w0 : World} {base kn kc d k : Nat} {ka : Option Addr} {B : List ByteArray} (h : w.ownsRow base 32 4 (.slice ka kn kc) kn (cellsOf enc32 (keptL B d))) (hkn : kn = B.length - d) (hd : d + k ≤ B.length) : SliceIn w 4 (subAo ka kc k 4) (kn - k) (kc - k) (rowsF enc32 (keptL B (d + k))) := by
  have h1 : SliceIn w 4 ka kn kc (rowsF enc32 (keptL B d)) := SliceIn.rows h enc32_len (by rw [keptL_len]; omega)
  have h2 := h1.subrows (by rw [keptL_len]; exact hkn) k kn (by omega) (Nat.le_refl _)
  rw [keptL_drop hd, List.take_of_length_le (by rw [keptL_len]; omega)] at h2
  exact h2
set_option maxHeartbeats 4000000 in
set_option maxRecDepth 100000 in
theorem acked_ok (b : Nat) (room : Int) (B : List ByteArray) (d : Nat) (ka : Option Addr) (kn kc : Nat) (hr : 1 ≤ room) (hd : d ≤ B.length) (hkn : kn = B.length - d) (hB : B.length ≤ 500) (w0 : World) (m : Msg) : MC Try.prog 12 [.pointer (some ⟨b, 0, none⟩), .agg #[.int .i64 m.1, .int .i64 m.2.1, .int .i64 m.2.2.1, .string m.2.2.2]] w0 [Item.cells b [.int .i64 room, .int .i64 ((B.length : Nat) : Int), .int .i64 ((d : Nat) : Int), .slice ka kn kc] 57, Item.own w0.heap.size ka kn kc 32 4 (cellsOf enc32 (keptL B d))] (fun _ : Option Addr × Nat => .int .i64 (ackE B d m)) (fun t => [.cells b [.int .i64 room, .int .i64 (B.length : Int), .int .i64 ((ackD B d m : Nat) : Int), .slice t.1 (B.length - (ackD B d m)) t.2] 57, .own w0.heap.size t.1 (B.length - (ackD B d m)) t.2 32 4 (cellsOf enc32 (keptL B (ackD B d m)))]) (fun _ => True) (fun _ => []) := by
  refine mcalls (N := 55) Try.func12 rfl rfl rfl ?_
  intro X
  show WC _ _ _ _ _ _ _ [Item.cells b [.int .i64 room, .int .i64 ((B.length : Nat) : Int), .int .i64 ((d : Nat) : Int), .slice ka kn kc] 57, Item.own w0.heap.size ka kn kc 32 4 (cellsOf enc32 (keptL B d)), X]
  refine WC.seq ?_
  refine WC.region ?_
  refine SL.box rfl rfl rfl (fun b1 hb1 => ?_)
  refine SL.norm [_, _, _, _] rfl ?_
  refine SL.pure rfl rfl rfl (PureOp.assign rfl) ?_
  refine SL.nil_then ?_
  refine WC.seq ?_
  refine WC.seq ?_
  refine WC.region ?_
  refine SL.pure rfl rfl rfl (PureOp.move rfl) ?_
  refine SL.pure rfl rfl rfl (PureOp.makeIface Try.underlying24 rfl) ?_
  refine SL.pure rfl rfl rfl (PureOp.loads (vs := [.int .i64 m.1, .int .i64 m.2.1, .int .i64 m.2.2.1, .string m.2.2.2]) Try.underlying32 rfl rfl (fun _ => (RowIs.cells 3 0 4 rfl rfl)) sz32) ?_
  refine SL.calle rfl rfl rfl rfl rfl rfl callable31 (fun w hw => takess_ok b room B d ka kn kc hr hd hkn (by omega) w (ObjIn.of hw 0 rfl) m) ?_
  refine SL.norm [_, _, _, _] rfl ?_
  refine SL.pure rfl rfl rfl (PureOp.assign rfl) ?_
  refine SL.nil_then ?_
  refine WC.seq ?_
  refine WC.region ?_
  refine SL.pure rfl rfl rfl (PureOp.move rfl) ?_
  refine SL.pure rfl rfl rfl (PureOp.neq rfl rfl) ?_
  refine SL.nil_then ?_
  refine WC.cond rfl (fun h1 => ?_) (fun h1 => ?_)
  · try simp only [Bool.and_eq_true, Bool.or_eq_true, Bool.not_eq_true', Bool.not_eq_false', Bool.and_eq_false_iff, Bool.or_eq_false_iff, decide_eq_true_eq, decide_eq_false_iff_not, Int.not_lt, Int.not_le, ne_eq, Decidable.not_not] at h1
    have hm : m.1 ≠ 2 := fun q => h1 (if_neg (by omega))
    refine WC.seq ?_
    refine WC.region ?_
    refine SL.pure rfl rfl rfl (PureOp.move rfl) ?_
    refine SL.pure rfl rfl rfl (PureOp.assign rfl) ?_
    refine SL.nil_then ?_
    refine WC.ret ?_
    refine QX.ret_then ?_
    refine QX.body1 rfl rfl ?_
    intro w hw
    rw [show (if m.1 ≠ 2 then (8 : Int) else 0) = 8 from if_pos hm]
    have q : ackE B d m = 8 := by
      rw [ackE, if_pos hm]
    have qd : ackD B d m = d := by rw [ackD, if_neg (by rw [q]; decide)]
    refine ⟨(ka, kc), by rw [q], trivial, ?_⟩
    rw [qd]
    rw [← hkn]
    exact HeapOk.pick [0, 1, 2] (by decide) hw
  · try simp only [Bool.and_eq_true, Bool.or_eq_true, Bool.not_eq_true', Bool.not_eq_false', Bool.and_eq_false_iff, Bool.or_eq_false_iff, decide_eq_true_eq, decide_eq_false_iff_not, Int.not_lt, Int.not_le, ne_eq, Decidable.not_not] at h1
    have hm : m.1 = 2 := by
      by_cases q : m.1 = 2
      · exact q
      · rw [if_pos q] at h1; omega
    refine WC.skip ?_
    refine QX.then_ ?_
    refine WC.seq ?_
    refine WC.block ?_
    refine WC.seq ?_
    refine WC.quiet rfl (by kernel_rfl) ?_
    refine SQ.pure rfl rfl rfl (PureOp.fieldAddrT 2 Try.underlying32 rfl sz3 rfl rfl) ?_
    refine SQ.pure rfl rfl rfl (PureOp.load (v := .int .i64 m.2.2.1) Try.underlying3 rfl rfl (fun _ => (CellIs.cells 3 rfl rfl))) ?_
    refine SQ.pure rfl rfl rfl (PureOp.lss rfl rfl) ?_
    refine SQ.pure rfl rfl rfl (PureOp.move rfl) ?_
    refine SQ.newg 17 false rfl ?_
    refine SQ.gpure (c := 1) rfl rfl rfl rfl rfl rfl rfl (PureOp.fieldAddrT 2 Try.underlying32 rfl sz3 rfl rfl) ?_
    refine SQ.gpure (c := 1) rfl rfl rfl rfl rfl rfl rfl (PureOp.load (v := .int .i64 m.2.2.1) Try.underlying3 rfl rfl (fun _ => (CellIs.cells 3 rfl rfl))) ?_
    refine SQ.gpure (c := 1) rfl rfl rfl rfl rfl rfl rfl (PureOp.move rfl) ?_
    refine SQ.gpure (c := 1) rfl rfl rfl rfl rfl rfl rfl (PureOp.nilCheckp rfl) ?_
    refine SQ.gpure (c := 1) rfl rfl rfl rfl rfl rfl rfl (PureOp.fieldAddrT 1 Try.underlying57 rfl sz3 rfl rfl) ?_
    refine SQ.gpure (c := 1) rfl rfl rfl rfl rfl rfl rfl (PureOp.load (v := .int .i64 ((B.length : Nat) : Int)) Try.underlying3 rfl rfl (fun _ => (CellIs.cells 0 rfl rfl))) ?_
    refine SQ.gpure (c := 1) rfl rfl rfl rfl rfl rfl rfl (PureOp.gtr rfl rfl) ?_
    refine SQ.pure rfl rfl rfl (PureOp.or_ rfl rfl rfl rfl) ?_
    refine SQ.pure rfl rfl rfl (PureOp.assign rfl) ?_
    refine SQ.nil_then ?_
    refine WC.cond rfl (fun h2 => ?_) (fun h2 => ?_)
    · try simp only [Bool.and_eq_true, Bool.or_eq_true, Bool.not_eq_true', Bool.not_eq_false', Bool.and_eq_false_iff, Bool.or_eq_false_iff, decide_eq_true_eq, decide_eq_false_iff_not, Int.not_lt, Int.not_le, ne_eq, Decidable.not_not] at h2
      refine WC.seq ?_
      refine WC.region ?_
      refine SL.pure rfl rfl rfl (PureOp.assign rfl) ?_
      refine SL.nil_then ?_
      refine WC.ret ?_
      refine QX.ret_in ?_
      refine QX.ret_then ?_
      refine QX.body1 rfl rfl ?_
      intro w hw
      have q : ackE B d m = 2 := by
        rw [ackE, if_neg (by omega), if_pos (by omega)]
      have qd : ackD B d m = d := by rw [ackD, if_neg (by rw [q]; decide)]
      refine ⟨(ka, kc), by rw [q], trivial, ?_⟩
      rw [qd]
      rw [← hkn]
      exact HeapOk.pick [0, 1, 2] (by decide) hw
    · try simp only [Bool.and_eq_true, Bool.or_eq_true, Bool.not_eq_true', Bool.not_eq_false', Bool.and_eq_false_iff, Bool.or_eq_false_iff, decide_eq_true_eq, decide_eq_false_iff_not, Int.not_lt, Int.not_le, ne_eq, Decidable.not_not] at h2
      refine WC.seq ?_
      refine WC.quiet rfl (by kernel_rfl) ?_
      refine SQ.pure rfl rfl rfl (PureOp.fieldAddrT 2 Try.underlying32 rfl sz3 rfl rfl) ?_
      refine SQ.pure rfl rfl rfl (PureOp.load (v := .int .i64 m.2.2.1) Try.underlying3 rfl rfl (fun _ => (CellIs.cells 3 rfl rfl))) ?_
      refine SQ.pure rfl rfl rfl (PureOp.move rfl) ?_
      refine SQ.pure rfl rfl rfl (PureOp.nilCheckp rfl) ?_
      refine SQ.pure rfl rfl rfl (PureOp.fieldAddrT 2 Try.underlying57 rfl sz3 rfl rfl) ?_
      refine SQ.pure rfl rfl rfl (PureOp.load (v := .int .i64 ((d : Nat) : Int)) Try.underlying3 rfl rfl (fun _ => (CellIs.cells 0 rfl rfl))) ?_
      refine SQ.pure rfl rfl rfl (PureOp.lss rfl rfl) ?_
      refine SQ.pure rfl rfl rfl (PureOp.assign rfl) ?_
      refine SQ.nil_then ?_
      refine WC.cond rfl (fun h3 => ?_) (fun h3 => ?_)
      · try simp only [Bool.and_eq_true, Bool.or_eq_true, Bool.not_eq_true', Bool.not_eq_false', Bool.and_eq_false_iff, Bool.or_eq_false_iff, decide_eq_true_eq, decide_eq_false_iff_not, Int.not_lt, Int.not_le, ne_eq, Decidable.not_not] at h3
        refine WC.seq ?_
        refine WC.region ?_
        refine SL.pure rfl rfl rfl (PureOp.assign rfl) ?_
        refine SL.nil_then ?_
        refine WC.ret ?_
        refine QX.ret_in ?_
        refine QX.ret_then ?_
        refine QX.body1 rfl rfl ?_
        intro w hw
        have q : ackE B d m = 30 := by
          rw [ackE, if_neg (by omega), if_neg (by omega), if_pos (by omega)]
        have qd : ackD B d m = d := by rw [ackD, if_neg (by rw [q]; decide)]
        refine ⟨(ka, kc), by rw [q], trivial, ?_⟩
        rw [qd]
        rw [← hkn]
        exact HeapOk.pick [0, 1, 2] (by decide) hw
      · try simp only [Bool.and_eq_true, Bool.or_eq_true, Bool.not_eq_true', Bool.not_eq_false', Bool.and_eq_false_iff, Bool.or_eq_false_iff, decide_eq_true_eq, decide_eq_false_iff_not, Int.not_lt, Int.not_le, ne_eq, Decidable.not_not] at h3
        refine WC.skip ?_
        refine QX.normal_in ?_
        refine QX.then_ ?_
        refine WC.seq ?_
        refine WC.drawh ([Item.triv, Item.own w0.heap.size ka kn kc 32 4 (cellsOf enc32 (keptL B d)), X, Item.cells b1 [.int .i64 m.1, .int .i64 m.2.1, .int .i64 m.2.2.1, .string m.2.2.2] 32]) 17 [false, false, false, false, false, false, false, false, false, false, false, false, false, false, false, false, false] rfl rfl rfl ?_
        refine SD.take 0 [true, false, false, false, false, false, false, false, false, false, false, false, false, false, false, false, false] rfl (by kernel_rfl) rfl (fun _ h => (HeapOk.settriv h (i := 0) rfl)) rfl rfl rfl (PureOp.move rfl) ?_
        refine SD.take 1 [true, true, false, false, false, false, false, false, false, false, false, false, false, false, false, false, false] rfl (by kernel_rfl) rfl (fun _ h => (HeapOk.settriv h (i := 0) rfl)) rfl rfl rfl (PureOp.move rfl) ?_
        refine SD.take 2 [true, true, true, false, false, false, false, false, false, false, false, false, false, false, false, false, false] rfl (by kernel_rfl) rfl (fun _ h => (HeapOk.settriv h (i := 0) rfl)) rfl rfl rfl (PureOp.nilCheckp rfl) ?_
        refine SD.take 3 [true, true, true, true, false, false, false, false, false, false, false, false, false, false, false, false, false] rfl (by kernel_rfl) rfl (fun _ h => (HeapOk.settriv h (i := 0) rfl)) rfl rfl rfl (PureOp.fieldAddrT 3 Try.underlying57 rfl sz39 rfl rfl) ?_
        refine SD.take 5 [true, true, true, true, false, true, false, false, false, false, false, false, false, false, false, false, false] rfl (by kernel_rfl) rfl (fun _ h => (HeapOk.settriv h (i := 0) rfl)) rfl rfl rfl (PureOp.fieldAddrT 2 Try.underlying32 rfl sz3 rfl rfl) ?_
        refine SD.take 6 [true, true, true, true, false, true, true, false, false, false, false, false, false, false, false, false, false] rfl (by kernel_rfl) rfl (fun _ h => (HeapOk.settriv h (i := 0) rfl)) rfl rfl rfl (PureOp.load (v := .int .i64 m.2.2.1) Try.underlying3 rfl rfl (fun _ => (CellIs.cells 3 rfl rfl))) ?_
        refine SD.take 7 [true, true, true, true, false, true, true, true, false, false, false, false, false, false, false, false, false] rfl (by kernel_rfl) rfl (fun _ h => (HeapOk.settriv h (i := 0) rfl)) rfl rfl rfl (PureOp.move rfl) ?_
        refine SD.take 8 [true, true, true, true, false, true, true, true, true, false, false, false, false, false, false, false, false] rfl (by kernel_rfl) rfl (fun _ h => (HeapOk.settriv h (i := 0) rfl)) rfl rfl rfl (PureOp.nilCheckp rfl) ?_
        refine SD.take 9 [true, true, true, true, false, true, true, true, true, true, false, false, false, false, false, false, false] rfl (by kernel_rfl) rfl (fun _ h => (HeapOk.settriv h (i := 0) rfl)) rfl rfl rfl (PureOp.fieldAddrT 2 Try.underlying57 rfl sz3 rfl rfl) ?_
        refine SD.all [4, 10] (by kernel_rfl) (by simp) ⟨⟨_, [true, true, true, true, true, true, true, true, true, true, false, false, false, false, false, false, false], rfl, rfl, ?_⟩, ⟨_, [true, true, true, true, false, true, true, true, true, true, true, false, false, false, false, false, false], rfl, rfl, ?_⟩, trivial⟩
        · skip
          refine SL.pure rfl rfl rfl (PureOp.load (v := .slice ka kn kc) Try.underlying39 rfl rfl (fun _ => (CellIs.cells 0 rfl rfl))) ?_
          refine SD.back (fun _ h => (HeapOk.settriv h (i := 0) rfl)) ?_
          refine SD.one 10 [true, true, true, true, true, true, true, true, true, true, true, false, false, false, false, false, false] (by kernel_rfl) rfl rfl ?_
          refine SL.pure rfl rfl rfl (PureOp.load (v := .int .i64 ((d : Nat) : Int)) Try.underlying3 rfl rfl (fun _ => (CellIs.cells 0 rfl rfl))) ?_
          refine SD.back (fun _ h => (HeapOk.settriv h (i := 0) rfl)) ?_
          refine SD.take 11 [true, true, true, true, true, true, true, true, true, true, true, true, false, false, false, false, false] rfl (by kernel_rfl) rfl (fun _ h => (HeapOk.settriv h (i := 0) rfl)) rfl rfl rfl (PureOp.sub rfl rfl (fun _ => by omega)) ?_
          refine SD.take 12 [true, true, true, true, true, true, true, true, true, true, true, true, true, false, false, false, false] rfl (by kernel_rfl) rfl (fun _ h => (HeapOk.settriv h (i := 0) rfl)) rfl rfl rfl (PureOp.slicel Try.underlying39 sz32 rfl rfl (fun _ => by omega)) ?_
          refine SD.one 13 [true, true, true, true, true, true, true, true, true, true, true, true, true, true, false, false, false] (by kernel_rfl) rfl rfl ?_
          refine SL.callo (fun ca cc => .slice ca (kn - (m.2.2.1 - (d : Int)).toNat) cc) rfl rfl rfl rfl rfl rfl callable32 (fun w hw => clonem_ok (keptL B (d + (m.2.2.1 - (d : Int)).toNat)) _ _ _ (by rw [keptL_len]; omega) (by omega) w (kept_sub (w0 := w0) (hw.mem (i := 1) rfl) hkn (by omega))) (fun ca cc => ?_)
          refine SL.norm [_, _, _, _, _] rfl ?_
          refine SD.back (fun _ h => (HeapOk.settriv (HeapOk.take h 4) (i := 0) rfl)) ?_
          refine SD.take 14 [true, true, true, true, true, true, true, true, true, true, true, true, true, true, true, false, false] rfl (by kernel_rfl) rfl (fun _ h => (HeapOk.settriv (HeapOk.take h 4) (i := 0) rfl)) rfl rfl rfl (PureOp.nilCheckp rfl) ?_
          refine SD.take 15 [true, true, true, true, true, true, true, true, true, true, true, true, true, true, true, true, false] rfl (by kernel_rfl) rfl (fun _ h => (HeapOk.settriv (HeapOk.take h 4) (i := 0) rfl)) rfl rfl rfl (PureOp.fieldAddrT 3 Try.underlying57 rfl sz39 rfl rfl) ?_
          refine SD.one 16 [true, true, true, true, true, true, true, true, true, true, true, true, true, true, true, true, true] (by kernel_rfl) rfl rfl ?_
          refine SL.store 0 rfl rfl rfl rfl sz39 rfl rfl ?_
          refine SL.norm [_, _, _, _, _] rfl ?_
          refine SD.back (fun _ h => (HeapOk.settriv (HeapOk.take h 4) (i := 0) rfl)) ?_
          refine SD.done (by kernel_rfl) ?_
          refine QX.ofK ?_
          refine QX.then_ ?_
          refine WC.seq ?_
          refine WC.region ?_
          refine SL.pure rfl rfl rfl (PureOp.move rfl) ?_
          refine SL.pure rfl rfl rfl (PureOp.fieldAddrT 2 Try.underlying32 rfl sz3 rfl rfl) ?_
          refine SL.pure rfl rfl rfl (PureOp.load (v := .int .i64 m.2.2.1) Try.underlying3 rfl rfl (fun _ => (CellIs.cells 3 rfl rfl))) ?_
          refine SL.pure rfl rfl rfl (PureOp.nilCheckp rfl) ?_
          refine SL.pure rfl rfl rfl (PureOp.fieldAddrT 2 Try.underlying57 rfl sz3 rfl rfl) ?_
          refine SL.store 0 rfl rfl rfl rfl sz3 rfl rfl ?_
          refine SL.norm [_, _, _, _, _] rfl ?_
          refine SL.nil_then ?_
          refine WC.seq ?_
          refine WC.region ?_
          refine SL.pure rfl rfl rfl (PureOp.assign rfl) ?_
          refine SL.nil_then ?_
          refine WC.ret ?_
          refine QX.body1 rfl rfl ?_
          intro w hw
          have q : ackE B d m = 0 := by rw [ackE, if_neg (by omega), if_neg (by omega), if_neg (by omega)]
          have qd : ackD B d m = m.2.2.1.toNat := by rw [ackD, if_pos q]
          refine ⟨(ca, cc), by rw [q], trivial, ?_⟩
          rw [qd]
          have h := HeapOk.pick [0, 4, 2] (by decide) hw
          rw [show B.length - m.2.2.1.toNat = kn - (m.2.2.1 - (d : Int)).toNat from by omega, show ((m.2.2.1.toNat : Nat) : Int) = m.2.2.1 from by omega, show m.2.2.1.toNat = d + (m.2.2.1 - (d : Int)).toNat from by omega]
          exact h
        · skip
          refine SL.pure rfl rfl rfl (PureOp.load (v := .int .i64 ((d : Nat) : Int)) Try.underlying3 rfl rfl (fun _ => (CellIs.cells 0 rfl rfl))) ?_
          refine SD.back (fun _ h => (HeapOk.settriv h (i := 0) rfl)) ?_
          refine SD.take 11 [true, true, true, true, false, true, true, true, true, true, true, true, false, false, false, false, false] rfl (by kernel_rfl) rfl (fun _ h => (HeapOk.settriv h (i := 0) rfl)) rfl rfl rfl (PureOp.sub rfl rfl (fun _ => by omega)) ?_
          refine SD.one 4 [true, true, true, true, true, true, true, true, true, true, true, true, false, false, false, false, false] (by kernel_rfl) rfl rfl ?_
          refine SL.pure rfl rfl rfl (PureOp.load (v := .slice ka kn kc) Try.underlying39 rfl rfl (fun _ => (CellIs.cells 0 rfl rfl))) ?_
          refine SD.back (fun _ h => (HeapOk.settriv h (i := 0) rfl)) ?_
          refine SD.take 12 [true, true, true, true, true, true, true, true, true, true, true, true, true, false, false, false, false] rfl (by kernel_rfl) rfl (fun _ h => (HeapOk.settriv h (i := 0) rfl)) rfl rfl rfl (PureOp.slicel Try.underlying39 sz32 rfl rfl (fun _ => by omega)) ?_
          refine SD.one 13 [true, true, true, true, true, true, true, true, true, true, true, true, true, true, false, false, false] (by kernel_rfl) rfl rfl ?_
          refine SL.callo (fun ca cc => .slice ca (kn - (m.2.2.1 - (d : Int)).toNat) cc) rfl rfl rfl rfl rfl rfl callable32 (fun w hw => clonem_ok (keptL B (d + (m.2.2.1 - (d : Int)).toNat)) _ _ _ (by rw [keptL_len]; omega) (by omega) w (kept_sub (w0 := w0) (hw.mem (i := 1) rfl) hkn (by omega))) (fun ca cc => ?_)
          refine SL.norm [_, _, _, _, _] rfl ?_
          refine SD.back (fun _ h => (HeapOk.settriv (HeapOk.take h 4) (i := 0) rfl)) ?_
          refine SD.take 14 [true, true, true, true, true, true, true, true, true, true, true, true, true, true, true, false, false] rfl (by kernel_rfl) rfl (fun _ h => (HeapOk.settriv (HeapOk.take h 4) (i := 0) rfl)) rfl rfl rfl (PureOp.nilCheckp rfl) ?_
          refine SD.take 15 [true, true, true, true, true, true, true, true, true, true, true, true, true, true, true, true, false] rfl (by kernel_rfl) rfl (fun _ h => (HeapOk.settriv (HeapOk.take h 4) (i := 0) rfl)) rfl rfl rfl (PureOp.fieldAddrT 3 Try.underlying57 rfl sz39 rfl rfl) ?_
          refine SD.one 16 [true, true, true, true, true, true, true, true, true, true, true, true, true, true, true, true, true] (by kernel_rfl) rfl rfl ?_
          refine SL.store 0 rfl rfl rfl rfl sz39 rfl rfl ?_
          refine SL.norm [_, _, _, _, _] rfl ?_
          refine SD.back (fun _ h => (HeapOk.settriv (HeapOk.take h 4) (i := 0) rfl)) ?_
          refine SD.done (by kernel_rfl) ?_
          refine QX.ofK ?_
          refine QX.then_ ?_
          refine WC.seq ?_
          refine WC.region ?_
          refine SL.pure rfl rfl rfl (PureOp.move rfl) ?_
          refine SL.pure rfl rfl rfl (PureOp.fieldAddrT 2 Try.underlying32 rfl sz3 rfl rfl) ?_
          refine SL.pure rfl rfl rfl (PureOp.load (v := .int .i64 m.2.2.1) Try.underlying3 rfl rfl (fun _ => (CellIs.cells 3 rfl rfl))) ?_
          refine SL.pure rfl rfl rfl (PureOp.nilCheckp rfl) ?_
          refine SL.pure rfl rfl rfl (PureOp.fieldAddrT 2 Try.underlying57 rfl sz3 rfl rfl) ?_
          refine SL.store 0 rfl rfl rfl rfl sz3 rfl rfl ?_
          refine SL.norm [_, _, _, _, _] rfl ?_
          refine SL.nil_then ?_
          refine WC.seq ?_
          refine WC.region ?_
          refine SL.pure rfl rfl rfl (PureOp.assign rfl) ?_
          refine SL.nil_then ?_
          refine WC.ret ?_
          refine QX.body1 rfl rfl ?_
          intro w hw
          have q : ackE B d m = 0 := by rw [ackE, if_neg (by omega), if_neg (by omega), if_neg (by omega)]
          have qd : ackD B d m = m.2.2.1.toNat := by rw [ackD, if_pos q]
          refine ⟨(ca, cc), by rw [q], trivial, ?_⟩
          rw [qd]
          have h := HeapOk.pick [0, 4, 2] (by decide) hw
          rw [show B.length - m.2.2.1.toNat = kn - (m.2.2.1 - (d : Int)).toNat from by omega, show ((m.2.2.1.toNat : Nat) : Int) = m.2.2.1 from by omega, show m.2.2.1.toNat = d + (m.2.2.1 - (d : Int)).toNat from by omega]
          exact h

set_option maxHeartbeats 4000000 in
set_option maxRecDepth 100000 in
theorem racked_ok (b : Nat) (room : Int) (B : List ByteArray) (d : Nat) (ba : Option Addr) (bc : Nat) (hd : d ≤ B.length) (hB : B.length ≤ 500) (w0 : World) (m : Msg) : MC Try.prog 13 [.pointer (some ⟨b, 0, none⟩), .agg #[.int .i64 m.1, .int .i64 m.2.1, .int .i64 m.2.2.1, .string m.2.2.2]] w0 [Item.cells b [.int .i64 room, .slice ba B.length bc, .int .i64 ((d : Nat) : Int)] 64, Item.own w0.heap.size ba B.length bc 9 1 (cellsOf encStr B)] (fun _ : Option Addr × Nat => .int .i64 (ackE B d m)) (fun t => [.cells b [.int .i64 room, .slice t.1 B.length t.2, .int .i64 ((ackD B d m : Nat) : Int)] 64, .own w0.heap.size t.1 B.length t.2 9 1 (cellsOf encStr B)]) (fun _ => True) (fun _ => []) := by
  refine mcalls (N := 33) Try.func13 rfl rfl rfl ?_
  intro X
  show WC _ _ _ _ _ _ _ [Item.cells b [.int .i64 room, .slice ba B.length bc, .int .i64 ((d : Nat) : Int)] 64, Item.own w0.heap.size ba B.length bc 9 1 (cellsOf encStr B), X]
  refine WC.seq ?_
  refine WC.region ?_
  refine SL.box rfl rfl rfl (fun b1 hb1 => ?_)
  refine SL.norm [_, _, _, _] rfl ?_
  refine SL.pure rfl rfl rfl (PureOp.assign rfl) ?_
  refine SL.nil_then ?_
  refine WC.seq ?_
  refine WC.seq ?_
  refine WC.region ?_
  refine SL.pure rfl rfl rfl (PureOp.fieldAddrT 0 Try.underlying32 rfl sz3 rfl rfl) ?_
  refine SL.pure rfl rfl rfl (PureOp.load (v := .int .i64 m.1) Try.underlying3 rfl rfl (fun _ => (CellIs.cells 3 rfl rfl))) ?_
  refine SL.pure rfl rfl rfl (PureOp.neq rfl rfl) ?_
  refine SL.nil_then ?_
  refine WC.cond rfl (fun h1 => ?_) (fun h1 => ?_)
  · try simp only [Bool.and_eq_true, Bool.or_eq_true, Bool.not_eq_true', Bool.not_eq_false', Bool.and_eq_false_iff, Bool.or_eq_false_iff, decide_eq_true_eq, decide_eq_false_iff_not, Int.not_lt, Int.not_le, ne_eq, Decidable.not_not] at h1
    refine WC.seq ?_
    refine WC.region ?_
    refine SL.pure rfl rfl rfl (PureOp.assign rfl) ?_
    refine SL.nil_then ?_
    refine WC.ret ?_
    refine QX.ret_then ?_
    refine QX.body1 rfl rfl ?_
    intro w hw
    have q : ackE B d m = 8 := by
      rw [ackE, if_pos (by omega)]
    have qd : ackD B d m = d := by rw [ackD, if_neg (by rw [q]; decide)]
    refine ⟨(ba, bc), by rw [q], trivial, ?_⟩
    rw [qd]
    exact HeapOk.pick [0, 1, 2] (by decide) hw
  · try simp only [Bool.and_eq_true, Bool.or_eq_true, Bool.not_eq_true', Bool.not_eq_false', Bool.and_eq_false_iff, Bool.or_eq_false_iff, decide_eq_true_eq, decide_eq_false_iff_not, Int.not_lt, Int.not_le, ne_eq, Decidable.not_not] at h1
    refine WC.skip ?_
    refine QX.then_ ?_
    refine WC.seq ?_
    refine WC.seq ?_
    refine WC.quiet rfl (by kernel_rfl) ?_
    refine SQ.pure rfl rfl rfl (PureOp.fieldAddrT 2 Try.underlying32 rfl sz3 rfl rfl) ?_
    refine SQ.pure rfl rfl rfl (PureOp.load (v := .int .i64 m.2.2.1) Try.underlying3 rfl rfl (fun _ => (CellIs.cells 3 rfl rfl))) ?_
    refine SQ.pure rfl rfl rfl (PureOp.lss rfl rfl) ?_
    refine SQ.pure rfl rfl rfl (PureOp.move rfl) ?_
    refine SQ.newg 11 false rfl ?_
    refine SQ.gpure (c := 1) rfl rfl rfl rfl rfl rfl rfl (PureOp.fieldAddrT 2 Try.underlying32 rfl sz3 rfl rfl) ?_
    refine SQ.gpure (c := 1) rfl rfl rfl rfl rfl rfl rfl (PureOp.load (v := .int .i64 m.2.2.1) Try.underlying3 rfl rfl (fun _ => (CellIs.cells 3 rfl rfl))) ?_
    refine SQ.gpure (c := 1) rfl rfl rfl rfl rfl rfl rfl (PureOp.move rfl) ?_
    refine SQ.gpure (c := 1) rfl rfl rfl rfl rfl rfl rfl (PureOp.nilCheckp rfl) ?_
    refine SQ.gpure (c := 1) rfl rfl rfl rfl rfl rfl rfl (PureOp.fieldAddrT 1 Try.underlying64 rfl sz49 rfl rfl) ?_
    refine SQ.gpure (c := 1) rfl rfl rfl rfl rfl rfl rfl (PureOp.load (v := .slice ba B.length bc) Try.underlying49 rfl rfl (fun _ => (CellIs.cells 0 rfl rfl))) ?_
    refine SQ.gpure (c := 1) rfl rfl rfl rfl rfl rfl rfl (PureOp.len rfl Try.underlying49) ?_
    refine SQ.gpure (c := 1) rfl rfl rfl rfl rfl rfl rfl (PureOp.gtr rfl rfl) ?_
    refine SQ.pure rfl rfl rfl (PureOp.or_ rfl rfl rfl rfl) ?_
    refine SQ.nil_then ?_
    refine WC.cond rfl (fun h2 => ?_) (fun h2 => ?_)
    · try simp only [Bool.and_eq_true, Bool.or_eq_true, Bool.not_eq_true', Bool.not_eq_false', Bool.and_eq_false_iff, Bool.or_eq_false_iff, decide_eq_true_eq, decide_eq_false_iff_not, Int.not_lt, Int.not_le, ne_eq, Decidable.not_not] at h2
      refine WC.seq ?_
      refine WC.region ?_
      refine SL.pure rfl rfl rfl (PureOp.assign rfl) ?_
      refine SL.nil_then ?_
      refine WC.ret ?_
      refine QX.ret_then ?_
      refine QX.body1 rfl rfl ?_
      intro w hw
      have q : ackE B d m = 2 := by
        rw [ackE, if_neg (by omega), if_pos (by omega)]
      have qd : ackD B d m = d := by rw [ackD, if_neg (by rw [q]; decide)]
      refine ⟨(ba, bc), by rw [q], trivial, ?_⟩
      rw [qd]
      exact HeapOk.pick [0, 1, 2] (by decide) hw
    · try simp only [Bool.and_eq_true, Bool.or_eq_true, Bool.not_eq_true', Bool.not_eq_false', Bool.and_eq_false_iff, Bool.or_eq_false_iff, decide_eq_true_eq, decide_eq_false_iff_not, Int.not_lt, Int.not_le, ne_eq, Decidable.not_not] at h2
      refine WC.skip ?_
      refine QX.then_ ?_
      refine WC.seq ?_
      refine WC.seq ?_
      refine WC.quiet rfl (by kernel_rfl) ?_
      refine SQ.pure rfl rfl rfl (PureOp.fieldAddrT 2 Try.underlying32 rfl sz3 rfl rfl) ?_
      refine SQ.pure rfl rfl rfl (PureOp.load (v := .int .i64 m.2.2.1) Try.underlying3 rfl rfl (fun _ => (CellIs.cells 3 rfl rfl))) ?_
      refine SQ.pure rfl rfl rfl (PureOp.move rfl) ?_
      refine SQ.pure rfl rfl rfl (PureOp.nilCheckp rfl) ?_
      refine SQ.pure rfl rfl rfl (PureOp.fieldAddrT 2 Try.underlying64 rfl sz3 rfl rfl) ?_
      refine SQ.pure rfl rfl rfl (PureOp.load (v := .int .i64 ((d : Nat) : Int)) Try.underlying3 rfl rfl (fun _ => (CellIs.cells 0 rfl rfl))) ?_
      refine SQ.pure rfl rfl rfl (PureOp.lss rfl rfl) ?_
      refine SQ.nil_then ?_
      refine WC.cond rfl (fun h3 => ?_) (fun h3 => ?_)
      · try simp only [Bool.and_eq_true, Bool.or_eq_true, Bool.not_eq_true', Bool.not_eq_false', Bool.and_eq_false_iff, Bool.or_eq_false_iff, decide_eq_true_eq, decide_eq_false_iff_not, Int.not_lt, Int.not_le, ne_eq, Decidable.not_not] at h3
        refine WC.seq ?_
        refine WC.region ?_
        refine SL.pure rfl rfl rfl (PureOp.assign rfl) ?_
        refine SL.nil_then ?_
        refine WC.ret ?_
        refine QX.ret_then ?_
        refine QX.body1 rfl rfl ?_
        intro w hw
        have q : ackE B d m = 30 := by
          rw [ackE, if_neg (by omega), if_neg (by omega), if_pos (by omega)]
        have qd : ackD B d m = d := by rw [ackD, if_neg (by rw [q]; decide)]
        refine ⟨(ba, bc), by rw [q], trivial, ?_⟩
        rw [qd]
        exact HeapOk.pick [0, 1, 2] (by decide) hw
      · try simp only [Bool.and_eq_true, Bool.or_eq_true, Bool.not_eq_true', Bool.not_eq_false', Bool.and_eq_false_iff, Bool.or_eq_false_iff, decide_eq_true_eq, decide_eq_false_iff_not, Int.not_lt, Int.not_le, ne_eq, Decidable.not_not] at h3
        refine WC.skip ?_
        refine QX.then_ ?_
        refine WC.seq ?_
        refine WC.region ?_
        refine SL.pure rfl rfl rfl (PureOp.move rfl) ?_
        refine SL.pure rfl rfl rfl (PureOp.fieldAddrT 2 Try.underlying32 rfl sz3 rfl rfl) ?_
        refine SL.pure rfl rfl rfl (PureOp.load (v := .int .i64 m.2.2.1) Try.underlying3 rfl rfl (fun _ => (CellIs.cells 3 rfl rfl))) ?_
        refine SL.pure rfl rfl rfl (PureOp.nilCheckp rfl) ?_
        refine SL.pure rfl rfl rfl (PureOp.fieldAddrT 2 Try.underlying64 rfl sz3 rfl rfl) ?_
        refine SL.store 0 rfl rfl rfl rfl sz3 rfl rfl ?_
        refine SL.norm [_, _, _, _] rfl ?_
        refine SL.nil_then ?_
        refine WC.seq ?_
        refine WC.region ?_
        refine SL.pure rfl rfl rfl (PureOp.assign rfl) ?_
        refine SL.nil_then ?_
        refine WC.ret ?_
        refine QX.body1 rfl rfl ?_
        intro w hw
        have q : ackE B d m = 0 := by rw [ackE, if_neg (by omega), if_neg (by omega), if_neg (by omega)]
        have qd : ackD B d m = m.2.2.1.toNat := by rw [ackD, if_pos q]
        refine ⟨(ba, bc), by rw [q], trivial, ?_⟩
        rw [qd]
        have h := HeapOk.pick [0, 1, 2] (by decide) hw
        rw [show ((m.2.2.1.toNat : Nat) : Int) = m.2.2.1 from by omega]
        exact h

end Go.Proofs.Ytmnhdiblkjmmfaa
