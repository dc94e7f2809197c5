import Derived.Test.YtmnhdiblkjmmfaaLkC
namespace Go.Proofs.Ytmnhdiblkjmmfaa
open Go Go.RowKit Eng
set_option linter.unusedVariables false
set_option linter.unusedSimpArgs false

set_option maxHeartbeats 4000000 in
set_option maxRecDepth 100000 in
theorem send_ok (b : Nat) (room : Int) (B : List ByteArray) (d : Nat) (ka : Option Addr) (kn kc : Nat) (hr : 1 ≤ room) (hd : d ≤ B.length) (hkn : kn = B.length - d) (hB : B.length ≤ 500) (w0 : World) (body : ByteArray) : MC Try.prog 10 [.pointer (some ⟨b, 0, none⟩), .string body] w0 [Item.cells b [.int .i64 room, .int .i64 ((B.length : Nat) : Int), .int .i64 ((d : Nat) : Int), .slice ka kn kc] 57, Item.own w0.heap.size ka kn kc 32 4 (cellsOf enc32 (keptL B d))] (fun _ : Option Addr × Nat => .tuple #[.agg (enc32 (sendM room B d body)).toArray, .int .i64 (sendE room B d body)]) (fun t => [.cells b [.int .i64 room, .int .i64 ((sendB room B d body).length : Int), .int .i64 ((d : Nat) : Int), .slice t.1 ((sendB room B d body).length - d) t.2] 57, .own w0.heap.size t.1 ((sendB room B d body).length - d) t.2 32 4 (cellsOf enc32 (keptL (sendB room B d body) d))]) (fun _ => True) (fun _ => []) := by
  refine mcalls (N := 53) Try.func10 rfl rfl rfl ?_
  intro X
  show WC _ _ _ _ _ _ _ [Item.cells b [.int .i64 room, .int .i64 ((B.length : Nat) : Int), .int .i64 ((d : Nat) : Int), .slice ka kn kc] 57, Item.own w0.heap.size ka kn kc 32 4 (cellsOf enc32 (keptL B d)), X]
  refine WC.seq ?_
  refine WC.region ?_
  refine SL.alloc rfl rfl zero32 (fun b1 hb1 => ?_)
  refine SL.norm [_, _, _, _] rfl ?_
  refine SL.pure rfl rfl rfl (PureOp.assign rfl) ?_
  refine SL.nil_then ?_
  refine WC.seq ?_
  refine WC.block ?_
  refine WC.seq ?_
  refine WC.region ?_
  refine SL.pure rfl rfl rfl (PureOp.move rfl) ?_
  refine SL.calle rfl rfl rfl rfl rfl rfl callable29 (fun w hw => sready_ok b room B d ka kn kc hr hd hkn (by omega) w (ObjIn.of hw 0 rfl)) ?_
  refine SL.norm [_, _, _, _] rfl ?_
  refine SL.pure rfl rfl rfl (PureOp.not rfl) ?_
  refine SL.pure rfl rfl rfl (PureOp.assign rfl) ?_
  refine SL.nil_then ?_
  refine WC.condF rfl ?_
  refine WC.seq ?_
  refine WC.region ?_
  refine SL.pure rfl rfl rfl (PureOp.move rfl) ?_
  refine SL.pure rfl rfl rfl (PureOp.lens rfl Try.underlying9) ?_
  refine SL.pure rfl rfl rfl (PureOp.gtr rfl rfl) ?_
  refine SL.pure rfl rfl rfl (PureOp.assign rfl) ?_
  refine SL.nil_then ?_
  refine WC.cond rfl (fun h1 => ?_) (fun h1 => ?_)
  · try simp only [Bool.and_eq_true, Bool.or_eq_true, Bool.not_eq_true', Bool.not_eq_false', Bool.and_eq_false_iff, Bool.or_eq_false_iff, decide_eq_true_eq, decide_eq_false_iff_not, Int.not_lt, Int.not_le, ne_eq, Decidable.not_not] at h1
    refine WC.seq ?_
    refine WC.region ?_
    refine SL.pure rfl rfl rfl (PureOp.build bld32 rfl rfl) ?_
    refine SL.store 3 rfl rfl rfl rfl sz32 rfl rfl ?_
    refine SL.norm [_, _, _, _] rfl ?_
    refine SL.pure rfl rfl rfl (PureOp.assign rfl) ?_
    refine SL.nil_then ?_
    refine WC.ret ?_
    refine QX.ret_in ?_
    refine QX.ret_then ?_
    refine QX.bodyv rfl (RVs.cons (RV.cell rfl Try.underlying32 rfl (RowIs.cells 3 0 4 rfl rfl) sz32) (RVs.cons (RV.tmp rfl) RVs.nil)) ?_
    intro w hw
    have q : sendE room B d body = 4 := by rw [sendE, if_pos (by omega)]
    have qb : sendB room B d body = B := by rw [sendB, if_neg (by rw [q]; decide)]
    have qm : sendM room B d body = zeroM := by rw [sendM, if_neg (by rw [q]; decide)]
    refine ⟨(ka, kc), by rw [q, qm]; rfl, trivial, ?_⟩
    rw [qb, ← hkn]
    exact HeapOk.pick [0, 1, 2] (by decide) hw
  · try simp only [Bool.and_eq_true, Bool.or_eq_true, Bool.not_eq_true', Bool.not_eq_false', Bool.and_eq_false_iff, Bool.or_eq_false_iff, decide_eq_true_eq, decide_eq_false_iff_not, Int.not_lt, Int.not_le, ne_eq, Decidable.not_not] at h1
    refine WC.seq ?_
    refine WC.quiet rfl (by kernel_rfl) ?_
    refine SQ.pure rfl rfl rfl (PureOp.move rfl) ?_
    refine SQ.pure rfl rfl rfl (PureOp.nilCheckp rfl) ?_
    refine SQ.pure rfl rfl rfl (PureOp.fieldAddrT 3 Try.underlying57 rfl sz39 rfl rfl) ?_
    refine SQ.pure rfl rfl rfl (PureOp.load (v := .slice ka kn kc) Try.underlying39 rfl rfl (fun _ => (CellIs.cells 0 rfl rfl))) ?_
    refine SQ.pure rfl rfl rfl (PureOp.len rfl Try.underlying39) ?_
    refine SQ.pure rfl rfl rfl (PureOp.move rfl) ?_
    refine SQ.pure rfl rfl rfl (PureOp.nilCheckp rfl) ?_
    refine SQ.pure rfl rfl rfl (PureOp.fieldAddrT 0 Try.underlying57 rfl sz3 rfl rfl) ?_
    refine SQ.pure rfl rfl rfl (PureOp.load (v := .int .i64 room) Try.underlying3 rfl rfl (fun _ => (CellIs.cells 0 rfl rfl))) ?_
    refine SQ.pure rfl rfl rfl (PureOp.geq rfl rfl) ?_
    refine SQ.pure rfl rfl rfl (PureOp.assign rfl) ?_
    refine SQ.nil_then ?_
    refine WC.cond rfl (fun h2 => ?_) (fun h2 => ?_)
    · try simp only [Bool.and_eq_true, Bool.or_eq_true, Bool.not_eq_true', Bool.not_eq_false', Bool.and_eq_false_iff, Bool.or_eq_false_iff, decide_eq_true_eq, decide_eq_false_iff_not, Int.not_lt, Int.not_le, ne_eq, Decidable.not_not] at h2
      refine WC.seq ?_
      refine WC.region ?_
      refine SL.pure rfl rfl rfl (PureOp.build bld32 rfl rfl) ?_
      refine SL.store 3 rfl rfl rfl rfl sz32 rfl rfl ?_
      refine SL.norm [_, _, _, _] rfl ?_
      refine SL.pure rfl rfl rfl (PureOp.assign rfl) ?_
      refine SL.nil_then ?_
      refine WC.ret ?_
      refine QX.ret_in ?_
      refine QX.ret_then ?_
      refine QX.bodyv rfl (RVs.cons (RV.cell rfl Try.underlying32 rfl (RowIs.cells 3 0 4 rfl rfl) sz32) (RVs.cons (RV.tmp rfl) RVs.nil)) ?_
      intro w hw
      have q : sendE room B d body = 9 := by rw [sendE, if_neg (by omega), if_pos (by omega)]
      have qb : sendB room B d body = B := by rw [sendB, if_neg (by rw [q]; decide)]
      have qm : sendM room B d body = zeroM := by rw [sendM, if_neg (by rw [q]; decide)]
      refine ⟨(ka, kc), by rw [q, qm]; rfl, trivial, ?_⟩
      rw [qb, ← hkn]
      exact HeapOk.pick [0, 1, 2] (by decide) hw
    · try simp only [Bool.and_eq_true, Bool.or_eq_true, Bool.not_eq_true', Bool.not_eq_false', Bool.and_eq_false_iff, Bool.or_eq_false_iff, decide_eq_true_eq, decide_eq_false_iff_not, Int.not_lt, Int.not_le, ne_eq, Decidable.not_not] at h2
      refine WC.skip ?_
      refine QX.normal_in ?_
      refine QX.then_ ?_
      refine WC.seq ?_
      refine WC.region ?_
      refine SL.pure rfl rfl rfl (PureOp.move rfl) ?_
      refine SL.pure rfl rfl rfl (PureOp.nilCheckp rfl) ?_
      refine SL.pure rfl rfl rfl (PureOp.fieldAddrT 1 Try.underlying57 rfl sz3 rfl rfl) ?_
      refine SL.pure rfl rfl rfl (PureOp.load (v := .int .i64 ((B.length : Nat) : Int)) Try.underlying3 rfl rfl (fun _ => (CellIs.cells 0 rfl rfl))) ?_
      refine SL.pure rfl rfl rfl (PureOp.addN (k := 1) rfl rfl (fun _ => by omega)) ?_
      refine SL.pure rfl rfl rfl (PureOp.nilCheckp rfl) ?_
      refine SL.pure rfl rfl rfl (PureOp.fieldAddrT 1 Try.underlying57 rfl sz3 rfl rfl) ?_
      refine SL.store 0 rfl rfl rfl rfl sz3 rfl rfl ?_
      refine SL.norm [_, _, _, _] rfl ?_
      refine SL.nil_then ?_
      refine WC.seq ?_
      refine WC.region ?_
      refine SL.pure rfl rfl rfl (PureOp.move rfl) ?_
      refine SL.pure rfl rfl rfl (PureOp.nilCheckp rfl) ?_
      refine SL.pure rfl rfl rfl (PureOp.fieldAddrT 1 Try.underlying57 rfl sz3 rfl rfl) ?_
      refine SL.pure rfl rfl rfl (PureOp.load (v := .int .i64 ((B.length + 1 : Nat) : Int)) Try.underlying3 rfl rfl (fun _ => (CellIs.cells 0 rfl rfl))) ?_
      refine SL.pure rfl rfl rfl (PureOp.move rfl) ?_
      refine SL.pure rfl rfl rfl (PureOp.build bld32 rfl rfl) ?_
      refine SL.alloc rfl rfl zero32 (fun b2 hb2 => ?_)
      refine SL.norm [_, _, _, _, _] rfl ?_
      refine SL.store 4 rfl rfl rfl rfl sz32 rfl rfl ?_
      refine SL.norm [_, _, _, _, _] rfl ?_
      refine SL.nil_then ?_
      refine WC.seq ?_
      refine WC.drawh ([Item.triv, Item.triv, X, Item.cells b1 [.int .i64 0, .int .i64 0, .int .i64 0, .string (⟨#[]⟩)] 32, Item.cells b2 [.int .i64 1, .int .i64 ((B.length + 1 : Nat) : Int), .int .i64 0, .string body] 32]) 11 [false, false, false, false, false, false, false, false, false, false, false] rfl rfl rfl ?_
      refine SD.take 0 [true, false, false, false, false, false, false, false, false, false, false] rfl (by kernel_rfl) rfl (fun _ h => (HeapOk.settriv (HeapOk.settriv h (i := 0) rfl) (i := 1) rfl)) rfl rfl rfl (PureOp.move rfl) ?_
      refine SD.take 1 [true, true, false, false, false, false, false, false, false, false, false] rfl (by kernel_rfl) rfl (fun _ h => (HeapOk.settriv (HeapOk.settriv h (i := 0) rfl) (i := 1) rfl)) rfl rfl rfl (PureOp.move rfl) ?_
      refine SD.take 2 [true, true, true, false, false, false, false, false, false, false, false] rfl (by kernel_rfl) rfl (fun _ h => (HeapOk.settriv (HeapOk.settriv h (i := 0) rfl) (i := 1) rfl)) rfl rfl rfl (PureOp.nilCheckp rfl) ?_
      refine SD.take 3 [true, true, true, true, false, false, false, false, false, false, false] rfl (by kernel_rfl) rfl (fun _ h => (HeapOk.settriv (HeapOk.settriv h (i := 0) rfl) (i := 1) rfl)) rfl rfl rfl (PureOp.fieldAddrT 3 Try.underlying57 rfl sz39 rfl rfl) ?_
      refine SD.take 5 [true, true, true, true, false, true, false, false, false, false, false] rfl (by kernel_rfl) rfl (fun _ h => (HeapOk.settriv (HeapOk.settriv h (i := 0) rfl) (i := 1) rfl)) rfl rfl rfl (PureOp.loads (vs := [.int .i64 1, .int .i64 ((B.length + 1 : Nat) : Int), .int .i64 0, .string body]) Try.underlying32 rfl rfl (fun _ => (RowIs.cells 4 0 4 rfl rfl)) sz32) ?_
      refine SD.all [4, 6] (by kernel_rfl) (by simp) ⟨⟨_, [true, true, true, true, true, true, false, false, false, false, false], rfl, rfl, ?_⟩, ⟨_, [true, true, true, true, false, true, true, false, false, false, false], rfl, rfl, ?_⟩, trivial⟩
      · skip
        refine SL.pure rfl rfl rfl (PureOp.load (v := .slice ka kn kc) Try.underlying39 rfl rfl (fun _ => (CellIs.cells 0 rfl rfl))) ?_
        refine SD.back (fun _ h => (HeapOk.settriv (HeapOk.settriv h (i := 0) rfl) (i := 1) rfl)) ?_
        refine SD.one 6 [true, true, true, true, true, true, true, false, false, false, false] (by kernel_rfl) rfl rfl ?_
        refine SL.buildSlice rfl rfl Try.underlying39 elem32 rfl rfl rfl rfl (fun b3 hb3 => ?_)
        refine SL.norm [_, _, _, _, _, _] rfl ?_
        refine SD.back (fun _ h => (HeapOk.settriv (HeapOk.settriv (HeapOk.take h 5) (i := 0) rfl) (i := 1) rfl)) ?_
        refine SD.one 7 [true, true, true, true, true, true, true, true, false, false, false] (by kernel_rfl) rfl rfl ?_
        refine SL.append 1 rfl rfl Try.underlying39 elem32 rfl rfl rfl rfl (SrcIs.own 5 rfl) (by rfl) (by omega) (by omega) (fun ao1_ cap1_ => ?_)
        refine SL.itemxs 1 rfl (show _ = cellsOf enc32 (keptL (B ++ [body]) d) from by rw [keptL_snoc hd, cellsOf_append, cellsOf_one]; rfl) ?_
        refine SL.norm [_, _, _, _, _, _] rfl ?_
        refine SD.back (fun _ h => (HeapOk.settriv (HeapOk.settriv (HeapOk.take h 5) (i := 0) rfl) (i := 1) rfl)) ?_
        refine SD.take 8 [true, true, true, true, true, true, true, true, true, false, false] rfl (by kernel_rfl) rfl (fun _ h => (HeapOk.settriv (HeapOk.settriv (HeapOk.take h 5) (i := 0) rfl) (i := 1) rfl)) rfl rfl rfl (PureOp.nilCheckp rfl) ?_
        refine SD.take 9 [true, true, true, true, true, true, true, true, true, true, false] rfl (by kernel_rfl) rfl (fun _ h => (HeapOk.settriv (HeapOk.settriv (HeapOk.take h 5) (i := 0) rfl) (i := 1) rfl)) rfl rfl rfl (PureOp.fieldAddrT 3 Try.underlying57 rfl sz39 rfl rfl) ?_
        refine SD.one 10 [true, true, true, true, true, true, true, true, true, true, true] (by kernel_rfl) rfl rfl ?_
        refine SL.store 0 rfl rfl rfl rfl sz39 rfl rfl ?_
        refine SL.norm [_, _, _, _, _, _] rfl ?_
        refine SD.back (fun _ h => (HeapOk.settriv (HeapOk.settriv (HeapOk.take h 5) (i := 0) rfl) (i := 1) rfl)) ?_
        refine SD.done (by kernel_rfl) ?_
        refine QX.ofK ?_
        refine QX.then_ ?_
        refine WC.seq ?_
        refine WC.region ?_
        refine SL.pure rfl rfl rfl (PureOp.loads (vs := [.int .i64 1, .int .i64 ((B.length + 1 : Nat) : Int), .int .i64 0, .string body]) Try.underlying32 rfl rfl (fun _ => (RowIs.cells 4 0 4 rfl rfl)) sz32) ?_
        refine SL.store 3 rfl rfl rfl rfl sz32 rfl rfl ?_
        refine SL.norm [_, _, _, _, _, _] rfl ?_
        refine SL.pure rfl rfl rfl (PureOp.assign rfl) ?_
        refine SL.nil_then ?_
        refine WC.ret ?_
        refine QX.bodyv rfl (RVs.cons (RV.cell rfl Try.underlying32 rfl (RowIs.cells 3 0 4 rfl rfl) sz32) (RVs.cons (RV.tmp rfl) RVs.nil)) ?_
        intro w hw
        have q : sendE room B d body = 0 := by rw [sendE, if_neg (by omega), if_neg (by omega)]
        have qb : sendB room B d body = B ++ [body] := by rw [sendB, if_pos q]
        have qm : sendM room B d body = dataM ((B.length : Int) + 1) body := by rw [sendM, if_pos q]
        refine ⟨(ao1_, cap1_), by rw [q, qm]; rfl, trivial, ?_⟩
        rw [qb]
        have h := HeapOk.pick [0, 1, 2] (by decide) hw
        rw [show (B ++ [body]).length = B.length + 1 from by simp, show B.length + 1 - d = kn + 1 from by omega]
        exact h
      · skip
        refine SL.buildSlice rfl rfl Try.underlying39 elem32 rfl rfl rfl rfl (fun b4 hb4 => ?_)
        refine SL.norm [_, _, _, _, _, _] rfl ?_
        refine SD.back (fun _ h => (HeapOk.settriv (HeapOk.settriv (HeapOk.take h 5) (i := 0) rfl) (i := 1) rfl)) ?_
        refine SD.one 4 [true, true, true, true, true, true, true, false, false, false, false] (by kernel_rfl) rfl rfl ?_
        refine SL.pure rfl rfl rfl (PureOp.load (v := .slice ka kn kc) Try.underlying39 rfl rfl (fun _ => (CellIs.cells 0 rfl rfl))) ?_
        refine SD.back (fun _ h => (HeapOk.settriv (HeapOk.settriv (HeapOk.take h 5) (i := 0) rfl) (i := 1) rfl)) ?_
        refine SD.one 7 [true, true, true, true, true, true, true, true, false, false, false] (by kernel_rfl) rfl rfl ?_
        refine SL.append 1 rfl rfl Try.underlying39 elem32 rfl rfl rfl rfl (SrcIs.own 5 rfl) (by rfl) (by omega) (by omega) (fun ao2_ cap2_ => ?_)
        refine SL.itemxs 1 rfl (show _ = cellsOf enc32 (keptL (B ++ [body]) d) from by rw [keptL_snoc hd, cellsOf_append, cellsOf_one]; rfl) ?_
        refine SL.norm [_, _, _, _, _, _] rfl ?_
        refine SD.back (fun _ h => (HeapOk.settriv (HeapOk.settriv (HeapOk.take h 5) (i := 0) rfl) (i := 1) rfl)) ?_
        refine SD.take 8 [true, true, true, true, true, true, true, true, true, false, false] rfl (by kernel_rfl) rfl (fun _ h => (HeapOk.settriv (HeapOk.settriv (HeapOk.take h 5) (i := 0) rfl) (i := 1) rfl)) rfl rfl rfl (PureOp.nilCheckp rfl) ?_
        refine SD.take 9 [true, true, true, true, true, true, true, true, true, true, false] rfl (by kernel_rfl) rfl (fun _ h => (HeapOk.settriv (HeapOk.settriv (HeapOk.take h 5) (i := 0) rfl) (i := 1) rfl)) rfl rfl rfl (PureOp.fieldAddrT 3 Try.underlying57 rfl sz39 rfl rfl) ?_
        refine SD.one 10 [true, true, true, true, true, true, true, true, true, true, true] (by kernel_rfl) rfl rfl ?_
        refine SL.store 0 rfl rfl rfl rfl sz39 rfl rfl ?_
        refine SL.norm [_, _, _, _, _, _] rfl ?_
        refine SD.back (fun _ h => (HeapOk.settriv (HeapOk.settriv (HeapOk.take h 5) (i := 0) rfl) (i := 1) rfl)) ?_
        refine SD.done (by kernel_rfl) ?_
        refine QX.ofK ?_
        refine QX.then_ ?_
        refine WC.seq ?_
        refine WC.region ?_
        refine SL.pure rfl rfl rfl (PureOp.loads (vs := [.int .i64 1, .int .i64 ((B.length + 1 : Nat) : Int), .int .i64 0, .string body]) Try.underlying32 rfl rfl (fun _ => (RowIs.cells 4 0 4 rfl rfl)) sz32) ?_
        refine SL.store 3 rfl rfl rfl rfl sz32 rfl rfl ?_
        refine SL.norm [_, _, _, _, _, _] rfl ?_
        refine SL.pure rfl rfl rfl (PureOp.assign rfl) ?_
        refine SL.nil_then ?_
        refine WC.ret ?_
        refine QX.bodyv rfl (RVs.cons (RV.cell rfl Try.underlying32 rfl (RowIs.cells 3 0 4 rfl rfl) sz32) (RVs.cons (RV.tmp rfl) RVs.nil)) ?_
        intro w hw
        have q : sendE room B d body = 0 := by rw [sendE, if_neg (by omega), if_neg (by omega)]
        have qb : sendB room B d body = B ++ [body] := by rw [sendB, if_pos q]
        have qm : sendM room B d body = dataM ((B.length : Int) + 1) body := by rw [sendM, if_pos q]
        refine ⟨(ao2_, cap2_), by rw [q, qm]; rfl, trivial, ?_⟩
        rw [qb]
        have h := HeapOk.pick [0, 1, 2] (by decide) hw
        rw [show (B ++ [body]).length = B.length + 1 from by simp, show B.length + 1 - d = kn + 1 from by omega]
        exact h

end Go.Proofs.Ytmnhdiblkjmmfaa
