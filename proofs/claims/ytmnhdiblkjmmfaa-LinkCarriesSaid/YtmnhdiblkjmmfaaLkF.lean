import Derived.Test.YtmnhdiblkjmmfaaLkE
namespace Go.Proofs.Ytmnhdiblkjmmfaa
open Go Go.RowKit Eng
set_option linter.unusedVariables false
set_option linter.unusedSimpArgs false

set_option maxHeartbeats 4000000 in
set_option maxRecDepth 100000 in
theorem recv_ok (b : Nat) (B : List ByteArray) (ra : Option Addr) (rc : Nat) (hB : B.length ≤ 500) (w0 : World) (m : Msg) : MC Try.prog 23 [.pointer (some ⟨b, 0, none⟩), .agg #[.int .i64 m.1, .int .i64 m.2.1, .int .i64 m.2.2.1, .string m.2.2.2]] w0 [Item.cells b [.slice ra B.length rc, .bool true] 60, Item.own w0.heap.size ra B.length rc 9 1 (cellsOf encStr B)] (fun _ : Option Addr × Nat => .tuple #[.agg (enc32 (recvM B m)).toArray, .int .i64 (recvE B m)]) (fun t => [.cells b [.slice t.1 (recvB B m).length t.2, .bool true] 60, .own w0.heap.size t.1 (recvB B m).length t.2 9 1 (cellsOf encStr (recvB B m))]) (fun _ => True) (fun _ => []) := by
  refine mcalls (N := 56) Try.func23 rfl rfl rfl ?_
  intro X
  show WC _ _ _ _ _ _ _ [Item.cells b [.slice ra B.length rc, .bool true] 60, Item.own w0.heap.size ra B.length rc 9 1 (cellsOf encStr B), X]
  refine WC.seq ?_
  refine WC.region ?_
  refine SL.box rfl rfl rfl (fun b1 hb1 => ?_)
  refine SL.norm [_, _, _, _] rfl ?_
  refine SL.alloc rfl rfl zero32 (fun b2 hb2 => ?_)
  refine SL.norm [_, _, _, _, _] rfl ?_
  refine SL.pure rfl rfl rfl (PureOp.assign rfl) ?_
  refine SL.nil_then ?_
  refine WC.seq ?_
  refine WC.seq ?_
  refine WC.region ?_
  refine SL.pure rfl rfl rfl (PureOp.move rfl) ?_
  refine SL.pure rfl rfl rfl (PureOp.makeIface Try.underlying43 rfl) ?_
  refine SL.pure rfl rfl rfl (PureOp.loads (vs := [.int .i64 m.1, .int .i64 m.2.1, .int .i64 m.2.2.1, .string m.2.2.2]) Try.underlying32 rfl rfl (fun _ => (RowIs.cells 3 0 4 rfl rfl)) sz32) ?_
  refine SL.calle rfl rfl rfl rfl rfl rfl callable31 (fun w hw => takesr_ok b ra B.length rc w (ObjIn.of hw 0 rfl) m) ?_
  refine SL.norm [_, _, _, _, _] rfl ?_
  refine SL.pure rfl rfl rfl (PureOp.assign rfl) ?_
  refine SL.nil_then ?_
  refine WC.seq ?_
  refine WC.region ?_
  refine SL.pure rfl rfl rfl (PureOp.move rfl) ?_
  refine SL.pure rfl rfl rfl (PureOp.neq rfl rfl) ?_
  refine SL.nil_then ?_
  refine WC.cond rfl (fun h1 => ?_) (fun h1 => ?_)
  · try simp only [Bool.and_eq_true, Bool.or_eq_true, Bool.not_eq_true', Bool.not_eq_false', Bool.and_eq_false_iff, Bool.or_eq_false_iff, decide_eq_true_eq, decide_eq_false_iff_not, Int.not_lt, Int.not_le, ne_eq, Decidable.not_not] at h1
    have hm : m.1 ≠ 1 := fun q => h1 (if_neg (by omega))
    refine WC.seq ?_
    refine WC.region ?_
    refine SL.pure rfl rfl rfl (PureOp.build bld32 rfl rfl) ?_
    refine SL.pure rfl rfl rfl (PureOp.move rfl) ?_
    refine SL.store 4 rfl rfl rfl rfl sz32 rfl rfl ?_
    refine SL.norm [_, _, _, _, _] rfl ?_
    refine SL.pure rfl rfl rfl (PureOp.assign rfl) ?_
    refine SL.nil_then ?_
    refine WC.ret ?_
    refine QX.ret_then ?_
    refine QX.bodyv rfl (RVs.cons (RV.cell rfl Try.underlying32 rfl (RowIs.cells 4 0 4 rfl rfl) sz32) (RVs.cons (RV.tmp rfl) RVs.nil)) ?_
    intro w hw
    rw [show (if m.1 ≠ 1 then (8 : Int) else 0) = 8 from if_pos hm]
    have q : recvE B m = 8 := by rw [recvE, if_pos hm]
    have qb : recvB B m = B := by rw [recvB, if_neg (by rw [q]; decide)]
    have qm : recvM B m = zeroM := by rw [recvM, if_pos (by rw [q]; decide)]
    refine ⟨(ra, rc), by rw [q, qm]; rfl, trivial, ?_⟩
    rw [qb]
    exact HeapOk.pick [0, 1, 2] (by decide) hw
  · try simp only [Bool.and_eq_true, Bool.or_eq_true, Bool.not_eq_true', Bool.not_eq_false', Bool.and_eq_false_iff, Bool.or_eq_false_iff, decide_eq_true_eq, decide_eq_false_iff_not, Int.not_lt, Int.not_le, ne_eq, Decidable.not_not] at h1
    have hm : m.1 = 1 := by
      by_cases q : m.1 = 1
      · exact q
      · rw [if_pos q] at h1; omega
    refine WC.skip ?_
    refine QX.then_ ?_
    refine WC.seq ?_
    refine WC.region ?_
    refine SL.pure rfl rfl rfl (PureOp.move rfl) ?_
    refine SL.pure rfl rfl rfl (PureOp.nilCheckp rfl) ?_
    refine SL.pure rfl rfl rfl (PureOp.fieldAddrT 0 Try.underlying60 rfl sz49 rfl rfl) ?_
    refine SL.pure rfl rfl rfl (PureOp.load (v := .slice ra B.length rc) Try.underlying49 rfl rfl (fun _ => (CellIs.cells 0 rfl rfl))) ?_
    refine SL.pure rfl rfl rfl (PureOp.len rfl Try.underlying49) ?_
    refine SL.pure rfl rfl rfl (PureOp.assign rfl) ?_
    refine SL.nil_then ?_
    refine WC.seq ?_
    refine WC.region ?_
    refine SL.pure rfl rfl rfl (PureOp.assign rfl) ?_
    refine SL.nil_then ?_
    refine WC.seq ?_
    refine WC.block ?_
    refine WC.seq ?_
    refine WC.region ?_
    refine SL.pure rfl rfl rfl (PureOp.fieldAddrT 1 Try.underlying32 rfl sz3 rfl rfl) ?_
    refine SL.pure rfl rfl rfl (PureOp.load (v := .int .i64 m.2.1) Try.underlying3 rfl rfl (fun _ => (CellIs.cells 3 rfl rfl))) ?_
    refine SL.pure rfl rfl rfl (PureOp.lss rfl rfl) ?_
    refine SL.pure rfl rfl rfl (PureOp.assign rfl) ?_
    refine SL.nil_then ?_
    refine WC.cond rfl (fun h2 => ?_) (fun h2 => ?_)
    · try simp only [Bool.and_eq_true, Bool.or_eq_true, Bool.not_eq_true', Bool.not_eq_false', Bool.and_eq_false_iff, Bool.or_eq_false_iff, decide_eq_true_eq, decide_eq_false_iff_not, Int.not_lt, Int.not_le, ne_eq, Decidable.not_not] at h2
      refine WC.seq ?_
      refine WC.region ?_
      refine SL.pure rfl rfl rfl (PureOp.build bld32 rfl rfl) ?_
      refine SL.store 4 rfl rfl rfl rfl sz32 rfl rfl ?_
      refine SL.norm [_, _, _, _, _] rfl ?_
      refine SL.pure rfl rfl rfl (PureOp.assign rfl) ?_
      refine SL.nil_then ?_
      refine WC.ret ?_
      refine QX.ret_in ?_
      refine QX.ret_then ?_
      refine QX.bodyv rfl (RVs.cons (RV.cell rfl Try.underlying32 rfl (RowIs.cells 4 0 4 rfl rfl) sz32) (RVs.cons (RV.tmp rfl) RVs.nil)) ?_
      intro w hw
      have q : recvE B m = 2 := by rw [recvE, if_neg (by omega), if_pos (by omega)]
      have qb : recvB B m = B := by rw [recvB, if_neg (by rw [q]; decide)]
      have qm : recvM B m = zeroM := by rw [recvM, if_pos (by rw [q]; decide)]
      refine ⟨(ra, rc), by rw [q, qm]; rfl, trivial, ?_⟩
      rw [qb]
      exact HeapOk.pick [0, 1, 2] (by decide) hw
    · try simp only [Bool.and_eq_true, Bool.or_eq_true, Bool.not_eq_true', Bool.not_eq_false', Bool.and_eq_false_iff, Bool.or_eq_false_iff, decide_eq_true_eq, decide_eq_false_iff_not, Int.not_lt, Int.not_le, ne_eq, Decidable.not_not] at h2
      refine WC.seq ?_
      refine WC.region ?_
      refine SL.pure rfl rfl rfl (PureOp.fieldAddrT 1 Try.underlying32 rfl sz3 rfl rfl) ?_
      refine SL.pure rfl rfl rfl (PureOp.load (v := .int .i64 m.2.1) Try.underlying3 rfl rfl (fun _ => (CellIs.cells 3 rfl rfl))) ?_
      refine SL.pure rfl rfl rfl (PureOp.move rfl) ?_
      refine SL.pure rfl rfl rfl (PureOp.leq rfl rfl) ?_
      refine SL.pure rfl rfl rfl (PureOp.assign rfl) ?_
      refine SL.nil_then ?_
      refine WC.cond rfl (fun h3 => ?_) (fun h3 => ?_)
      · try simp only [Bool.and_eq_true, Bool.or_eq_true, Bool.not_eq_true', Bool.not_eq_false', Bool.and_eq_false_iff, Bool.or_eq_false_iff, decide_eq_true_eq, decide_eq_false_iff_not, Int.not_lt, Int.not_le, ne_eq, Decidable.not_not] at h3
        refine WC.region ?_
        refine SL.pure rfl rfl rfl (PureOp.assign rfl) ?_
        refine SL.nil ?_
        refine QX.normal_in ?_
        refine QX.then_ ?_
        refine WC.seq ?_
        refine WC.region ?_
        refine SL.pure rfl rfl rfl (PureOp.move rfl) ?_
        refine SL.pure rfl rfl rfl (PureOp.nilCheckp rfl) ?_
        refine SL.pure rfl rfl rfl (PureOp.fieldAddrT 0 Try.underlying60 rfl sz49 rfl rfl) ?_
        refine SL.pure rfl rfl rfl (PureOp.load (v := .slice ra B.length rc) Try.underlying49 rfl rfl (fun _ => (CellIs.cells 0 rfl rfl))) ?_
        refine SL.pure rfl rfl rfl (PureOp.len rfl Try.underlying49) ?_
        refine SL.pure rfl rfl rfl (PureOp.build bld32 rfl rfl) ?_
        refine SL.pure rfl rfl rfl (PureOp.move rfl) ?_
        refine SL.store 4 rfl rfl rfl rfl sz32 rfl rfl ?_
        refine SL.norm [_, _, _, _, _] rfl ?_
        refine SL.pure rfl rfl rfl (PureOp.assign rfl) ?_
        refine SL.nil_then ?_
        refine WC.ret ?_
        refine QX.bodyv rfl (RVs.cons (RV.cell rfl Try.underlying32 rfl (RowIs.cells 4 0 4 rfl rfl) sz32) (RVs.cons (RV.tmp rfl) RVs.nil)) ?_
        intro w hw
        have q : recvE B m = 30 := by rw [recvE, if_neg (by omega), if_neg (by omega), if_pos (by omega)]
        have qb : recvB B m = B := by rw [recvB, if_neg (by rw [q]; decide)]
        have qm : recvM B m = ackM (B.length : Int) := by rw [recvM, if_neg (by rw [q]; decide), qb]
        refine ⟨(ra, rc), by rw [q, qm]; rfl, trivial, ?_⟩
        rw [qb]
        exact HeapOk.pick [0, 1, 2] (by decide) hw
      · try simp only [Bool.and_eq_true, Bool.or_eq_true, Bool.not_eq_true', Bool.not_eq_false', Bool.and_eq_false_iff, Bool.or_eq_false_iff, decide_eq_true_eq, decide_eq_false_iff_not, Int.not_lt, Int.not_le, ne_eq, Decidable.not_not] at h3
        refine WC.seq ?_
        refine WC.region ?_
        refine SL.pure rfl rfl rfl (PureOp.fieldAddrT 1 Try.underlying32 rfl sz3 rfl rfl) ?_
        refine SL.pure rfl rfl rfl (PureOp.load (v := .int .i64 m.2.1) Try.underlying3 rfl rfl (fun _ => (CellIs.cells 3 rfl rfl))) ?_
        refine SL.pure rfl rfl rfl (PureOp.move rfl) ?_
        refine SL.pure rfl rfl rfl (PureOp.addN (k := 1) rfl rfl (fun _ => by omega)) ?_
        refine SL.pure rfl rfl rfl (PureOp.gtr rfl rfl) ?_
        refine SL.pure rfl rfl rfl (PureOp.assign rfl) ?_
        refine SL.nil_then ?_
        refine WC.cond rfl (fun h4 => ?_) (fun h4 => ?_)
        · try simp only [Bool.and_eq_true, Bool.or_eq_true, Bool.not_eq_true', Bool.not_eq_false', Bool.and_eq_false_iff, Bool.or_eq_false_iff, decide_eq_true_eq, decide_eq_false_iff_not, Int.not_lt, Int.not_le, ne_eq, Decidable.not_not] at h4
          refine WC.region ?_
          refine SL.pure rfl rfl rfl (PureOp.assign rfl) ?_
          refine SL.nil ?_
          refine QX.normal_in ?_
          refine QX.then_ ?_
          refine WC.seq ?_
          refine WC.region ?_
          refine SL.pure rfl rfl rfl (PureOp.move rfl) ?_
          refine SL.pure rfl rfl rfl (PureOp.nilCheckp rfl) ?_
          refine SL.pure rfl rfl rfl (PureOp.fieldAddrT 0 Try.underlying60 rfl sz49 rfl rfl) ?_
          refine SL.pure rfl rfl rfl (PureOp.load (v := .slice ra B.length rc) Try.underlying49 rfl rfl (fun _ => (CellIs.cells 0 rfl rfl))) ?_
          refine SL.pure rfl rfl rfl (PureOp.len rfl Try.underlying49) ?_
          refine SL.pure rfl rfl rfl (PureOp.build bld32 rfl rfl) ?_
          refine SL.pure rfl rfl rfl (PureOp.move rfl) ?_
          refine SL.store 4 rfl rfl rfl rfl sz32 rfl rfl ?_
          refine SL.norm [_, _, _, _, _] rfl ?_
          refine SL.pure rfl rfl rfl (PureOp.assign rfl) ?_
          refine SL.nil_then ?_
          refine WC.ret ?_
          refine QX.bodyv rfl (RVs.cons (RV.cell rfl Try.underlying32 rfl (RowIs.cells 4 0 4 rfl rfl) sz32) (RVs.cons (RV.tmp rfl) RVs.nil)) ?_
          intro w hw
          have q : recvE B m = 29 := by rw [recvE, if_neg (by omega), if_neg (by omega), if_neg (by omega), if_pos (by omega)]
          have qb : recvB B m = B := by rw [recvB, if_neg (by rw [q]; decide)]
          have qm : recvM B m = ackM (B.length : Int) := by rw [recvM, if_neg (by rw [q]; decide), qb]
          refine ⟨(ra, rc), by rw [q, qm]; rfl, trivial, ?_⟩
          rw [qb]
          exact HeapOk.pick [0, 1, 2] (by decide) hw
        · try simp only [Bool.and_eq_true, Bool.or_eq_true, Bool.not_eq_true', Bool.not_eq_false', Bool.and_eq_false_iff, Bool.or_eq_false_iff, decide_eq_true_eq, decide_eq_false_iff_not, Int.not_lt, Int.not_le, ne_eq, Decidable.not_not] at h4
          refine WC.drawh ([Item.triv, Item.triv, X, Item.cells b1 [.int .i64 m.1, .int .i64 m.2.1, .int .i64 m.2.2.1, .string m.2.2.2] 32, Item.cells b2 [.int .i64 0, .int .i64 0, .int .i64 0, .string (⟨#[]⟩)] 32]) 12 [false, false, false, false, false, false, false, false, false, false, false, false] rfl rfl rfl ?_
          refine SD.take 0 [true, false, false, false, false, false, false, false, false, false, false, false] rfl (by kernel_rfl) rfl (fun _ h => (HeapOk.settriv (HeapOk.settriv h (i := 0) rfl) (i := 1) rfl)) rfl rfl rfl (PureOp.move rfl) ?_
          refine SD.take 1 [true, true, false, false, false, false, false, false, false, false, false, false] rfl (by kernel_rfl) rfl (fun _ h => (HeapOk.settriv (HeapOk.settriv h (i := 0) rfl) (i := 1) rfl)) rfl rfl rfl (PureOp.move rfl) ?_
          refine SD.take 2 [true, true, true, false, false, false, false, false, false, false, false, false] rfl (by kernel_rfl) rfl (fun _ h => (HeapOk.settriv (HeapOk.settriv h (i := 0) rfl) (i := 1) rfl)) rfl rfl rfl (PureOp.nilCheckp rfl) ?_
          refine SD.take 3 [true, true, true, true, false, false, false, false, false, false, false, false] rfl (by kernel_rfl) rfl (fun _ h => (HeapOk.settriv (HeapOk.settriv h (i := 0) rfl) (i := 1) rfl)) rfl rfl rfl (PureOp.fieldAddrT 0 Try.underlying60 rfl sz49 rfl rfl) ?_
          refine SD.take 5 [true, true, true, true, false, true, false, false, false, false, false, false] rfl (by kernel_rfl) rfl (fun _ h => (HeapOk.settriv (HeapOk.settriv h (i := 0) rfl) (i := 1) rfl)) rfl rfl rfl (PureOp.fieldAddrT 3 Try.underlying32 rfl sz9 rfl rfl) ?_
          refine SD.take 6 [true, true, true, true, false, true, true, false, false, false, false, false] rfl (by kernel_rfl) rfl (fun _ h => (HeapOk.settriv (HeapOk.settriv h (i := 0) rfl) (i := 1) rfl)) rfl rfl rfl (PureOp.load (v := .string m.2.2.2) Try.underlying9 rfl rfl (fun _ => (CellIs.cells 3 rfl rfl))) ?_
          refine SD.all [4, 7] (by kernel_rfl) (by simp) ⟨⟨_, [true, true, true, true, true, true, true, false, false, false, false, false], rfl, rfl, ?_⟩, ⟨_, [true, true, true, true, false, true, true, true, false, false, false, false], rfl, rfl, ?_⟩, trivial⟩
          · skip
            refine SL.pure rfl rfl rfl (PureOp.load (v := .slice ra B.length rc) Try.underlying49 rfl rfl (fun _ => (CellIs.cells 0 rfl rfl))) ?_
            refine SD.back (fun _ h => (HeapOk.settriv (HeapOk.settriv h (i := 0) rfl) (i := 1) rfl)) ?_
            refine SD.one 7 [true, true, true, true, true, true, true, true, false, false, false, false] (by kernel_rfl) rfl rfl ?_
            refine SL.buildSlice rfl rfl Try.underlying49 elem9 rfl rfl rfl rfl (fun b3 hb3 => ?_)
            refine SL.norm [_, _, _, _, _, _] rfl ?_
            refine SD.back (fun _ h => (HeapOk.settriv (HeapOk.settriv (HeapOk.take h 5) (i := 0) rfl) (i := 1) rfl)) ?_
            refine SD.one 8 [true, true, true, true, true, true, true, true, true, false, false, false] (by kernel_rfl) rfl rfl ?_
            refine SL.append 1 rfl rfl Try.underlying49 elem9 rfl rfl rfl rfl (SrcIs.own 5 rfl) (by rfl) (by omega) (by omega) (fun ao1_ cap1_ => ?_)
            refine SL.itemxs 1 rfl (show _ = cellsOf encStr (B ++ [m.2.2.2]) from by rw [cellsOf_append, cellsOf_one]; rfl) ?_
            refine SL.norm [_, _, _, _, _, _] rfl ?_
            refine SD.back (fun _ h => (HeapOk.settriv (HeapOk.settriv (HeapOk.take h 5) (i := 0) rfl) (i := 1) rfl)) ?_
            refine SD.take 9 [true, true, true, true, true, true, true, true, true, true, false, false] rfl (by kernel_rfl) rfl (fun _ h => (HeapOk.settriv (HeapOk.settriv (HeapOk.take h 5) (i := 0) rfl) (i := 1) rfl)) rfl rfl rfl (PureOp.nilCheckp rfl) ?_
            refine SD.take 10 [true, true, true, true, true, true, true, true, true, true, true, false] rfl (by kernel_rfl) rfl (fun _ h => (HeapOk.settriv (HeapOk.settriv (HeapOk.take h 5) (i := 0) rfl) (i := 1) rfl)) rfl rfl rfl (PureOp.fieldAddrT 0 Try.underlying60 rfl sz49 rfl rfl) ?_
            refine SD.one 11 [true, true, true, true, true, true, true, true, true, true, true, true] (by kernel_rfl) rfl rfl ?_
            refine SL.store 0 rfl rfl rfl rfl sz49 rfl rfl ?_
            refine SL.norm [_, _, _, _, _, _] rfl ?_
            refine SD.back (fun _ h => (HeapOk.settriv (HeapOk.settriv (HeapOk.take h 5) (i := 0) rfl) (i := 1) rfl)) ?_
            refine SD.done (by kernel_rfl) ?_
            refine QX.ofK ?_
            refine QX.normal_in ?_
            refine QX.then_ ?_
            refine WC.seq ?_
            refine WC.region ?_
            refine SL.pure rfl rfl rfl (PureOp.move rfl) ?_
            refine SL.pure rfl rfl rfl (PureOp.nilCheckp rfl) ?_
            refine SL.pure rfl rfl rfl (PureOp.fieldAddrT 0 Try.underlying60 rfl sz49 rfl rfl) ?_
            refine SL.pure rfl rfl rfl (PureOp.load (v := .slice ao1_ (B.length + 1) cap1_) Try.underlying49 rfl rfl (fun _ => (CellIs.cells 0 rfl rfl))) ?_
            refine SL.pure rfl rfl rfl (PureOp.len rfl Try.underlying49) ?_
            refine SL.pure rfl rfl rfl (PureOp.build bld32 rfl rfl) ?_
            refine SL.pure rfl rfl rfl (PureOp.move rfl) ?_
            refine SL.store 4 rfl rfl rfl rfl sz32 rfl rfl ?_
            refine SL.norm [_, _, _, _, _, _] rfl ?_
            refine SL.pure rfl rfl rfl (PureOp.assign rfl) ?_
            refine SL.nil_then ?_
            refine WC.ret ?_
            refine QX.bodyv rfl (RVs.cons (RV.cell rfl Try.underlying32 rfl (RowIs.cells 4 0 4 rfl rfl) sz32) (RVs.cons (RV.tmp rfl) RVs.nil)) ?_
            intro w hw
            have q : recvE B m = 0 := by rw [recvE, if_neg (by omega), if_neg (by omega), if_neg (by omega), if_neg (by omega)]
            have qb : recvB B m = B ++ [m.2.2.2] := by rw [recvB, if_pos q]
            have qm : recvM B m = ackM ((B.length : Int) + 1) := by rw [recvM, if_neg (by rw [q]; decide), qb]; simp [ackM]
            refine ⟨(ao1_, cap1_), by rw [q, qm]; rfl, trivial, ?_⟩
            rw [qb]
            have h := HeapOk.pick [0, 1, 2] (by decide) hw
            rw [show (B ++ [m.2.2.2]).length = B.length + 1 from by simp]
            exact h
          · skip
            refine SL.buildSlice rfl rfl Try.underlying49 elem9 rfl rfl rfl rfl (fun b4 hb4 => ?_)
            refine SL.norm [_, _, _, _, _, _] rfl ?_
            refine SD.back (fun _ h => (HeapOk.settriv (HeapOk.settriv (HeapOk.take h 5) (i := 0) rfl) (i := 1) rfl)) ?_
            refine SD.one 4 [true, true, true, true, true, true, true, true, false, false, false, false] (by kernel_rfl) rfl rfl ?_
            refine SL.pure rfl rfl rfl (PureOp.load (v := .slice ra B.length rc) Try.underlying49 rfl rfl (fun _ => (CellIs.cells 0 rfl rfl))) ?_
            refine SD.back (fun _ h => (HeapOk.settriv (HeapOk.settriv (HeapOk.take h 5) (i := 0) rfl) (i := 1) rfl)) ?_
            refine SD.one 8 [true, true, true, true, true, true, true, true, true, false, false, false] (by kernel_rfl) rfl rfl ?_
            refine SL.append 1 rfl rfl Try.underlying49 elem9 rfl rfl rfl rfl (SrcIs.own 5 rfl) (by rfl) (by omega) (by omega) (fun ao2_ cap2_ => ?_)
            refine SL.itemxs 1 rfl (show _ = cellsOf encStr (B ++ [m.2.2.2]) from by rw [cellsOf_append, cellsOf_one]; rfl) ?_
            refine SL.norm [_, _, _, _, _, _] rfl ?_
            refine SD.back (fun _ h => (HeapOk.settriv (HeapOk.settriv (HeapOk.take h 5) (i := 0) rfl) (i := 1) rfl)) ?_
            refine SD.take 9 [true, true, true, true, true, true, true, true, true, true, false, false] rfl (by kernel_rfl) rfl (fun _ h => (HeapOk.settriv (HeapOk.settriv (HeapOk.take h 5) (i := 0) rfl) (i := 1) rfl)) rfl rfl rfl (PureOp.nilCheckp rfl) ?_
            refine SD.take 10 [true, true, true, true, true, true, true, true, true, true, true, false] rfl (by kernel_rfl) rfl (fun _ h => (HeapOk.settriv (HeapOk.settriv (HeapOk.take h 5) (i := 0) rfl) (i := 1) rfl)) rfl rfl rfl (PureOp.fieldAddrT 0 Try.underlying60 rfl sz49 rfl rfl) ?_
            refine SD.one 11 [true, true, true, true, true, true, true, true, true, true, true, true] (by kernel_rfl) rfl rfl ?_
            refine SL.store 0 rfl rfl rfl rfl sz49 rfl rfl ?_
            refine SL.norm [_, _, _, _, _, _] rfl ?_
            refine SD.back (fun _ h => (HeapOk.settriv (HeapOk.settriv (HeapOk.take h 5) (i := 0) rfl) (i := 1) rfl)) ?_
            refine SD.done (by kernel_rfl) ?_
            refine QX.ofK ?_
            refine QX.normal_in ?_
            refine QX.then_ ?_
            refine WC.seq ?_
            refine WC.region ?_
            refine SL.pure rfl rfl rfl (PureOp.move rfl) ?_
            refine SL.pure rfl rfl rfl (PureOp.nilCheckp rfl) ?_
            refine SL.pure rfl rfl rfl (PureOp.fieldAddrT 0 Try.underlying60 rfl sz49 rfl rfl) ?_
            refine SL.pure rfl rfl rfl (PureOp.load (v := .slice ao2_ (B.length + 1) cap2_) Try.underlying49 rfl rfl (fun _ => (CellIs.cells 0 rfl rfl))) ?_
            refine SL.pure rfl rfl rfl (PureOp.len rfl Try.underlying49) ?_
            refine SL.pure rfl rfl rfl (PureOp.build bld32 rfl rfl) ?_
            refine SL.pure rfl rfl rfl (PureOp.move rfl) ?_
            refine SL.store 4 rfl rfl rfl rfl sz32 rfl rfl ?_
            refine SL.norm [_, _, _, _, _, _] rfl ?_
            refine SL.pure rfl rfl rfl (PureOp.assign rfl) ?_
            refine SL.nil_then ?_
            refine WC.ret ?_
            refine QX.bodyv rfl (RVs.cons (RV.cell rfl Try.underlying32 rfl (RowIs.cells 4 0 4 rfl rfl) sz32) (RVs.cons (RV.tmp rfl) RVs.nil)) ?_
            intro w hw
            have q : recvE B m = 0 := by rw [recvE, if_neg (by omega), if_neg (by omega), if_neg (by omega), if_neg (by omega)]
            have qb : recvB B m = B ++ [m.2.2.2] := by rw [recvB, if_pos q]
            have qm : recvM B m = ackM ((B.length : Int) + 1) := by rw [recvM, if_neg (by rw [q]; decide), qb]; simp [ackM]
            refine ⟨(ao2_, cap2_), by rw [q, qm]; rfl, trivial, ?_⟩
            rw [qb]
            have h := HeapOk.pick [0, 1, 2] (by decide) hw
            rw [show (B ++ [m.2.2.2]).length = B.length + 1 from by simp]
            exact h

set_option maxHeartbeats 4000000 in
set_option maxRecDepth 100000 in
theorem rrecv_ok (b : Nat) (B : List ByteArray) (ra : Option Addr) (rc : Nat) (hB : B.length ≤ 500) (w0 : World) (m : Msg) : MC Try.prog 24 [.pointer (some ⟨b, 0, none⟩), .agg #[.int .i64 m.1, .int .i64 m.2.1, .int .i64 m.2.2.1, .string m.2.2.2]] w0 [Item.cells b [.slice ra B.length rc] 69, Item.own w0.heap.size ra B.length rc 9 1 (cellsOf encStr B)] (fun _ : Option Addr × Nat => .tuple #[.agg (enc32 (recvM B m)).toArray, .int .i64 (recvE B m)]) (fun t => [.cells b [.slice t.1 (recvB B m).length t.2] 69, .own w0.heap.size t.1 (recvB B m).length t.2 9 1 (cellsOf encStr (recvB B m))]) (fun _ => True) (fun _ => []) := by
  refine mcalls (N := 50) Try.func24 rfl rfl rfl ?_
  intro X
  show WC _ _ _ _ _ _ _ [Item.cells b [.slice ra B.length rc] 69, Item.own w0.heap.size ra B.length rc 9 1 (cellsOf encStr B), X]
  refine WC.seq ?_
  refine WC.region ?_
  refine SL.box rfl rfl rfl (fun b1 hb1 => ?_)
  refine SL.norm [_, _, _, _] rfl ?_
  refine SL.alloc rfl rfl zero32 (fun b2 hb2 => ?_)
  refine SL.norm [_, _, _, _, _] rfl ?_
  refine SL.pure rfl rfl rfl (PureOp.assign rfl) ?_
  refine SL.nil_then ?_
  refine WC.seq ?_
  refine WC.seq ?_
  refine WC.region ?_
  refine SL.pure rfl rfl rfl (PureOp.fieldAddrT 0 Try.underlying32 rfl sz3 rfl rfl) ?_
  refine SL.pure rfl rfl rfl (PureOp.load (v := .int .i64 m.1) Try.underlying3 rfl rfl (fun _ => (CellIs.cells 3 rfl rfl))) ?_
  refine SL.pure rfl rfl rfl (PureOp.neq rfl rfl) ?_
  refine SL.nil_then ?_
  refine WC.cond rfl (fun h1 => ?_) (fun h1 => ?_)
  · try simp only [Bool.and_eq_true, Bool.or_eq_true, Bool.not_eq_true', Bool.not_eq_false', Bool.and_eq_false_iff, Bool.or_eq_false_iff, decide_eq_true_eq, decide_eq_false_iff_not, Int.not_lt, Int.not_le, ne_eq, Decidable.not_not] at h1
    refine WC.seq ?_
    refine WC.region ?_
    refine SL.pure rfl rfl rfl (PureOp.build bld32 rfl rfl) ?_
    refine SL.store 4 rfl rfl rfl rfl sz32 rfl rfl ?_
    refine SL.norm [_, _, _, _, _] rfl ?_
    refine SL.pure rfl rfl rfl (PureOp.assign rfl) ?_
    refine SL.nil_then ?_
    refine WC.ret ?_
    refine QX.ret_then ?_
    refine QX.bodyv rfl (RVs.cons (RV.cell rfl Try.underlying32 rfl (RowIs.cells 4 0 4 rfl rfl) sz32) (RVs.cons (RV.tmp rfl) RVs.nil)) ?_
    intro w hw
    have q : recvE B m = 8 := by rw [recvE, if_pos (by omega)]
    have qb : recvB B m = B := by rw [recvB, if_neg (by rw [q]; decide)]
    have qm : recvM B m = zeroM := by rw [recvM, if_pos (by rw [q]; decide)]
    refine ⟨(ra, rc), by rw [q, qm]; rfl, trivial, ?_⟩
    rw [qb]
    exact HeapOk.pick [0, 1, 2] (by decide) hw
  · try simp only [Bool.and_eq_true, Bool.or_eq_true, Bool.not_eq_true', Bool.not_eq_false', Bool.and_eq_false_iff, Bool.or_eq_false_iff, decide_eq_true_eq, decide_eq_false_iff_not, Int.not_lt, Int.not_le, ne_eq, Decidable.not_not] at h1
    refine WC.skip ?_
    refine QX.then_ ?_
    refine WC.seq ?_
    refine WC.seq ?_
    refine WC.region ?_
    refine SL.pure rfl rfl rfl (PureOp.fieldAddrT 1 Try.underlying32 rfl sz3 rfl rfl) ?_
    refine SL.pure rfl rfl rfl (PureOp.load (v := .int .i64 m.2.1) Try.underlying3 rfl rfl (fun _ => (CellIs.cells 3 rfl rfl))) ?_
    refine SL.pure rfl rfl rfl (PureOp.lss rfl rfl) ?_
    refine SL.nil_then ?_
    refine WC.cond rfl (fun h2 => ?_) (fun h2 => ?_)
    · try simp only [Bool.and_eq_true, Bool.or_eq_true, Bool.not_eq_true', Bool.not_eq_false', Bool.and_eq_false_iff, Bool.or_eq_false_iff, decide_eq_true_eq, decide_eq_false_iff_not, Int.not_lt, Int.not_le, ne_eq, Decidable.not_not] at h2
      refine WC.seq ?_
      refine WC.region ?_
      refine SL.pure rfl rfl rfl (PureOp.build bld32 rfl rfl) ?_
      refine SL.store 4 rfl rfl rfl rfl sz32 rfl rfl ?_
      refine SL.norm [_, _, _, _, _] rfl ?_
      refine SL.pure rfl rfl rfl (PureOp.assign rfl) ?_
      refine SL.nil_then ?_
      refine WC.ret ?_
      refine QX.ret_then ?_
      refine QX.bodyv rfl (RVs.cons (RV.cell rfl Try.underlying32 rfl (RowIs.cells 4 0 4 rfl rfl) sz32) (RVs.cons (RV.tmp rfl) RVs.nil)) ?_
      intro w hw
      have q : recvE B m = 2 := by rw [recvE, if_neg (by omega), if_pos (by omega)]
      have qb : recvB B m = B := by rw [recvB, if_neg (by rw [q]; decide)]
      have qm : recvM B m = zeroM := by rw [recvM, if_pos (by rw [q]; decide)]
      refine ⟨(ra, rc), by rw [q, qm]; rfl, trivial, ?_⟩
      rw [qb]
      exact HeapOk.pick [0, 1, 2] (by decide) hw
    · try simp only [Bool.and_eq_true, Bool.or_eq_true, Bool.not_eq_true', Bool.not_eq_false', Bool.and_eq_false_iff, Bool.or_eq_false_iff, decide_eq_true_eq, decide_eq_false_iff_not, Int.not_lt, Int.not_le, ne_eq, Decidable.not_not] at h2
      refine WC.skip ?_
      refine QX.then_ ?_
      refine WC.seq ?_
      refine WC.region ?_
      refine SL.pure rfl rfl rfl (PureOp.assign rfl) ?_
      refine SL.nil_then ?_
      refine WC.seq ?_
      refine WC.seq ?_
      refine WC.quiet rfl (by kernel_rfl) ?_
      refine SQ.pure rfl rfl rfl (PureOp.fieldAddrT 1 Try.underlying32 rfl sz3 rfl rfl) ?_
      refine SQ.pure rfl rfl rfl (PureOp.load (v := .int .i64 m.2.1) Try.underlying3 rfl rfl (fun _ => (CellIs.cells 3 rfl rfl))) ?_
      refine SQ.pure rfl rfl rfl (PureOp.move rfl) ?_
      refine SQ.pure rfl rfl rfl (PureOp.nilCheckp rfl) ?_
      refine SQ.pure rfl rfl rfl (PureOp.fieldAddrT 0 Try.underlying69 rfl sz49 rfl rfl) ?_
      refine SQ.pure rfl rfl rfl (PureOp.load (v := .slice ra B.length rc) Try.underlying49 rfl rfl (fun _ => (CellIs.cells 0 rfl rfl))) ?_
      refine SQ.pure rfl rfl rfl (PureOp.len rfl Try.underlying49) ?_
      refine SQ.pure rfl rfl rfl (PureOp.leq rfl rfl) ?_
      refine SQ.nil_then ?_
      refine WC.cond rfl (fun h3 => ?_) (fun h3 => ?_)
      · try simp only [Bool.and_eq_true, Bool.or_eq_true, Bool.not_eq_true', Bool.not_eq_false', Bool.and_eq_false_iff, Bool.or_eq_false_iff, decide_eq_true_eq, decide_eq_false_iff_not, Int.not_lt, Int.not_le, ne_eq, Decidable.not_not] at h3
        refine WC.region ?_
        refine SL.pure rfl rfl rfl (PureOp.assign rfl) ?_
        refine SL.nil_then ?_
        refine WC.seq ?_
        refine WC.region ?_
        refine SL.pure rfl rfl rfl (PureOp.move rfl) ?_
        refine SL.pure rfl rfl rfl (PureOp.nilCheckp rfl) ?_
        refine SL.pure rfl rfl rfl (PureOp.fieldAddrT 0 Try.underlying69 rfl sz49 rfl rfl) ?_
        refine SL.pure rfl rfl rfl (PureOp.load (v := .slice ra B.length rc) Try.underlying49 rfl rfl (fun _ => (CellIs.cells 0 rfl rfl))) ?_
        refine SL.pure rfl rfl rfl (PureOp.len rfl Try.underlying49) ?_
        refine SL.pure rfl rfl rfl (PureOp.build bld32 rfl rfl) ?_
        refine SL.pure rfl rfl rfl (PureOp.move rfl) ?_
        refine SL.store 4 rfl rfl rfl rfl sz32 rfl rfl ?_
        refine SL.norm [_, _, _, _, _] rfl ?_
        refine SL.pure rfl rfl rfl (PureOp.assign rfl) ?_
        refine SL.nil_then ?_
        refine WC.ret ?_
        refine QX.bodyv rfl (RVs.cons (RV.cell rfl Try.underlying32 rfl (RowIs.cells 4 0 4 rfl rfl) sz32) (RVs.cons (RV.tmp rfl) RVs.nil)) ?_
        intro w hw
        have q : recvE B m = 30 := by rw [recvE, if_neg (by omega), if_neg (by omega), if_pos (by omega)]
        have qb : recvB B m = B := by rw [recvB, if_neg (by rw [q]; decide)]
        have qm : recvM B m = ackM (B.length : Int) := by rw [recvM, if_neg (by rw [q]; decide), qb]
        refine ⟨(ra, rc), by rw [q, qm]; rfl, trivial, ?_⟩
        rw [qb]
        exact HeapOk.pick [0, 1, 2] (by decide) hw
      · try simp only [Bool.and_eq_true, Bool.or_eq_true, Bool.not_eq_true', Bool.not_eq_false', Bool.and_eq_false_iff, Bool.or_eq_false_iff, decide_eq_true_eq, decide_eq_false_iff_not, Int.not_lt, Int.not_le, ne_eq, Decidable.not_not] at h3
        refine WC.seq ?_
        refine WC.quiet rfl (by kernel_rfl) ?_
        refine SQ.pure rfl rfl rfl (PureOp.fieldAddrT 1 Try.underlying32 rfl sz3 rfl rfl) ?_
        refine SQ.pure rfl rfl rfl (PureOp.load (v := .int .i64 m.2.1) Try.underlying3 rfl rfl (fun _ => (CellIs.cells 3 rfl rfl))) ?_
        refine SQ.pure rfl rfl rfl (PureOp.move rfl) ?_
        refine SQ.pure rfl rfl rfl (PureOp.nilCheckp rfl) ?_
        refine SQ.pure rfl rfl rfl (PureOp.fieldAddrT 0 Try.underlying69 rfl sz49 rfl rfl) ?_
        refine SQ.pure rfl rfl rfl (PureOp.load (v := .slice ra B.length rc) Try.underlying49 rfl rfl (fun _ => (CellIs.cells 0 rfl rfl))) ?_
        refine SQ.pure rfl rfl rfl (PureOp.len rfl Try.underlying49) ?_
        refine SQ.pure rfl rfl rfl (PureOp.addN (k := 1) rfl rfl (fun _ => by omega)) ?_
        refine SQ.pure rfl rfl rfl (PureOp.gtr rfl rfl) ?_
        refine SQ.nil_then ?_
        refine WC.cond rfl (fun h4 => ?_) (fun h4 => ?_)
        · try simp only [Bool.and_eq_true, Bool.or_eq_true, Bool.not_eq_true', Bool.not_eq_false', Bool.and_eq_false_iff, Bool.or_eq_false_iff, decide_eq_true_eq, decide_eq_false_iff_not, Int.not_lt, Int.not_le, ne_eq, Decidable.not_not] at h4
          refine WC.region ?_
          refine SL.pure rfl rfl rfl (PureOp.assign rfl) ?_
          refine SL.nil_then ?_
          refine WC.seq ?_
          refine WC.region ?_
          refine SL.pure rfl rfl rfl (PureOp.move rfl) ?_
          refine SL.pure rfl rfl rfl (PureOp.nilCheckp rfl) ?_
          refine SL.pure rfl rfl rfl (PureOp.fieldAddrT 0 Try.underlying69 rfl sz49 rfl rfl) ?_
          refine SL.pure rfl rfl rfl (PureOp.load (v := .slice ra B.length rc) Try.underlying49 rfl rfl (fun _ => (CellIs.cells 0 rfl rfl))) ?_
          refine SL.pure rfl rfl rfl (PureOp.len rfl Try.underlying49) ?_
          refine SL.pure rfl rfl rfl (PureOp.build bld32 rfl rfl) ?_
          refine SL.pure rfl rfl rfl (PureOp.move rfl) ?_
          refine SL.store 4 rfl rfl rfl rfl sz32 rfl rfl ?_
          refine SL.norm [_, _, _, _, _] rfl ?_
          refine SL.pure rfl rfl rfl (PureOp.assign rfl) ?_
          refine SL.nil_then ?_
          refine WC.ret ?_
          refine QX.bodyv rfl (RVs.cons (RV.cell rfl Try.underlying32 rfl (RowIs.cells 4 0 4 rfl rfl) sz32) (RVs.cons (RV.tmp rfl) RVs.nil)) ?_
          intro w hw
          have q : recvE B m = 29 := by rw [recvE, if_neg (by omega), if_neg (by omega), if_neg (by omega), if_pos (by omega)]
          have qb : recvB B m = B := by rw [recvB, if_neg (by rw [q]; decide)]
          have qm : recvM B m = ackM (B.length : Int) := by rw [recvM, if_neg (by rw [q]; decide), qb]
          refine ⟨(ra, rc), by rw [q, qm]; rfl, trivial, ?_⟩
          rw [qb]
          exact HeapOk.pick [0, 1, 2] (by decide) hw
        · try simp only [Bool.and_eq_true, Bool.or_eq_true, Bool.not_eq_true', Bool.not_eq_false', Bool.and_eq_false_iff, Bool.or_eq_false_iff, decide_eq_true_eq, decide_eq_false_iff_not, Int.not_lt, Int.not_le, ne_eq, Decidable.not_not] at h4
          refine WC.drawh ([Item.triv, Item.triv, X, Item.cells b1 [.int .i64 m.1, .int .i64 m.2.1, .int .i64 m.2.2.1, .string m.2.2.2] 32, Item.cells b2 [.int .i64 0, .int .i64 0, .int .i64 0, .string (⟨#[]⟩)] 32]) 12 [false, false, false, false, false, false, false, false, false, false, false, false] rfl rfl rfl ?_
          refine SD.take 0 [true, false, false, false, false, false, false, false, false, false, false, false] rfl (by kernel_rfl) rfl (fun _ h => (HeapOk.settriv (HeapOk.settriv h (i := 0) rfl) (i := 1) rfl)) rfl rfl rfl (PureOp.move rfl) ?_
          refine SD.take 1 [true, true, false, false, false, false, false, false, false, false, false, false] rfl (by kernel_rfl) rfl (fun _ h => (HeapOk.settriv (HeapOk.settriv h (i := 0) rfl) (i := 1) rfl)) rfl rfl rfl (PureOp.move rfl) ?_
          refine SD.take 2 [true, true, true, false, false, false, false, false, false, false, false, false] rfl (by kernel_rfl) rfl (fun _ h => (HeapOk.settriv (HeapOk.settriv h (i := 0) rfl) (i := 1) rfl)) rfl rfl rfl (PureOp.nilCheckp rfl) ?_
          refine SD.take 3 [true, true, true, true, false, false, false, false, false, false, false, false] rfl (by kernel_rfl) rfl (fun _ h => (HeapOk.settriv (HeapOk.settriv h (i := 0) rfl) (i := 1) rfl)) rfl rfl rfl (PureOp.fieldAddrT 0 Try.underlying69 rfl sz49 rfl rfl) ?_
          refine SD.take 5 [true, true, true, true, false, true, false, false, false, false, false, false] rfl (by kernel_rfl) rfl (fun _ h => (HeapOk.settriv (HeapOk.settriv h (i := 0) rfl) (i := 1) rfl)) rfl rfl rfl (PureOp.fieldAddrT 3 Try.underlying32 rfl sz9 rfl rfl) ?_
          refine SD.take 6 [true, true, true, true, false, true, true, false, false, false, false, false] rfl (by kernel_rfl) rfl (fun _ h => (HeapOk.settriv (HeapOk.settriv h (i := 0) rfl) (i := 1) rfl)) rfl rfl rfl (PureOp.load (v := .string m.2.2.2) Try.underlying9 rfl rfl (fun _ => (CellIs.cells 3 rfl rfl))) ?_
          refine SD.all [4, 7] (by kernel_rfl) (by simp) ⟨⟨_, [true, true, true, true, true, true, true, false, false, false, false, false], rfl, rfl, ?_⟩, ⟨_, [true, true, true, true, false, true, true, true, false, false, false, false], rfl, rfl, ?_⟩, trivial⟩
          · skip
            refine SL.pure rfl rfl rfl (PureOp.load (v := .slice ra B.length rc) Try.underlying49 rfl rfl (fun _ => (CellIs.cells 0 rfl rfl))) ?_
            refine SD.back (fun _ h => (HeapOk.settriv (HeapOk.settriv h (i := 0) rfl) (i := 1) rfl)) ?_
            refine SD.one 7 [true, true, true, true, true, true, true, true, false, false, false, false] (by kernel_rfl) rfl rfl ?_
            refine SL.buildSlice rfl rfl Try.underlying49 elem9 rfl rfl rfl rfl (fun b3 hb3 => ?_)
            refine SL.norm [_, _, _, _, _, _] rfl ?_
            refine SD.back (fun _ h => (HeapOk.settriv (HeapOk.settriv (HeapOk.take h 5) (i := 0) rfl) (i := 1) rfl)) ?_
            refine SD.one 8 [true, true, true, true, true, true, true, true, true, false, false, false] (by kernel_rfl) rfl rfl ?_
            refine SL.append 1 rfl rfl Try.underlying49 elem9 rfl rfl rfl rfl (SrcIs.own 5 rfl) (by rfl) (by omega) (by omega) (fun ao1_ cap1_ => ?_)
            refine SL.itemxs 1 rfl (show _ = cellsOf encStr (B ++ [m.2.2.2]) from by rw [cellsOf_append, cellsOf_one]; rfl) ?_
            refine SL.norm [_, _, _, _, _, _] rfl ?_
            refine SD.back (fun _ h => (HeapOk.settriv (HeapOk.settriv (HeapOk.take h 5) (i := 0) rfl) (i := 1) rfl)) ?_
            refine SD.take 9 [true, true, true, true, true, true, true, true, true, true, false, false] rfl (by kernel_rfl) rfl (fun _ h => (HeapOk.settriv (HeapOk.settriv (HeapOk.take h 5) (i := 0) rfl) (i := 1) rfl)) rfl rfl rfl (PureOp.nilCheckp rfl) ?_
            refine SD.take 10 [true, true, true, true, true, true, true, true, true, true, true, false] rfl (by kernel_rfl) rfl (fun _ h => (HeapOk.settriv (HeapOk.settriv (HeapOk.take h 5) (i := 0) rfl) (i := 1) rfl)) rfl rfl rfl (PureOp.fieldAddrT 0 Try.underlying69 rfl sz49 rfl rfl) ?_
            refine SD.one 11 [true, true, true, true, true, true, true, true, true, true, true, true] (by kernel_rfl) rfl rfl ?_
            refine SL.store 0 rfl rfl rfl rfl sz49 rfl rfl ?_
            refine SL.norm [_, _, _, _, _, _] rfl ?_
            refine SD.back (fun _ h => (HeapOk.settriv (HeapOk.settriv (HeapOk.take h 5) (i := 0) rfl) (i := 1) rfl)) ?_
            refine SD.done (by kernel_rfl) ?_
            refine QX.ofK ?_
            refine QX.then_ ?_
            refine WC.seq ?_
            refine WC.region ?_
            refine SL.pure rfl rfl rfl (PureOp.move rfl) ?_
            refine SL.pure rfl rfl rfl (PureOp.nilCheckp rfl) ?_
            refine SL.pure rfl rfl rfl (PureOp.fieldAddrT 0 Try.underlying69 rfl sz49 rfl rfl) ?_
            refine SL.pure rfl rfl rfl (PureOp.load (v := .slice ao1_ (B.length + 1) cap1_) Try.underlying49 rfl rfl (fun _ => (CellIs.cells 0 rfl rfl))) ?_
            refine SL.pure rfl rfl rfl (PureOp.len rfl Try.underlying49) ?_
            refine SL.pure rfl rfl rfl (PureOp.build bld32 rfl rfl) ?_
            refine SL.pure rfl rfl rfl (PureOp.move rfl) ?_
            refine SL.store 4 rfl rfl rfl rfl sz32 rfl rfl ?_
            refine SL.norm [_, _, _, _, _, _] rfl ?_
            refine SL.pure rfl rfl rfl (PureOp.assign rfl) ?_
            refine SL.nil_then ?_
            refine WC.ret ?_
            refine QX.bodyv rfl (RVs.cons (RV.cell rfl Try.underlying32 rfl (RowIs.cells 4 0 4 rfl rfl) sz32) (RVs.cons (RV.tmp rfl) RVs.nil)) ?_
            intro w hw
            have q : recvE B m = 0 := by rw [recvE, if_neg (by omega), if_neg (by omega), if_neg (by omega), if_neg (by omega)]
            have qb : recvB B m = B ++ [m.2.2.2] := by rw [recvB, if_pos q]
            have qm : recvM B m = ackM ((B.length : Int) + 1) := by rw [recvM, if_neg (by rw [q]; decide), qb]; simp [ackM]
            refine ⟨(ao1_, cap1_), by rw [q, qm]; rfl, trivial, ?_⟩
            rw [qb]
            have h := HeapOk.pick [0, 1, 2] (by decide) hw
            rw [show (B ++ [m.2.2.2]).length = B.length + 1 from by simp]
            exact h
          · skip
            refine SL.buildSlice rfl rfl Try.underlying49 elem9 rfl rfl rfl rfl (fun b4 hb4 => ?_)
            refine SL.norm [_, _, _, _, _, _] rfl ?_
            refine SD.back (fun _ h => (HeapOk.settriv (HeapOk.settriv (HeapOk.take h 5) (i := 0) rfl) (i := 1) rfl)) ?_
            refine SD.one 4 [true, true, true, true, true, true, true, true, false, false, false, false] (by kernel_rfl) rfl rfl ?_
            refine SL.pure rfl rfl rfl (PureOp.load (v := .slice ra B.length rc) Try.underlying49 rfl rfl (fun _ => (CellIs.cells 0 rfl rfl))) ?_
            refine SD.back (fun _ h => (HeapOk.settriv (HeapOk.settriv (HeapOk.take h 5) (i := 0) rfl) (i := 1) rfl)) ?_
            refine SD.one 8 [true, true, true, true, true, true, true, true, true, false, false, false] (by kernel_rfl) rfl rfl ?_
            refine SL.append 1 rfl rfl Try.underlying49 elem9 rfl rfl rfl rfl (SrcIs.own 5 rfl) (by rfl) (by omega) (by omega) (fun ao2_ cap2_ => ?_)
            refine SL.itemxs 1 rfl (show _ = cellsOf encStr (B ++ [m.2.2.2]) from by rw [cellsOf_append, cellsOf_one]; rfl) ?_
            refine SL.norm [_, _, _, _, _, _] rfl ?_
            refine SD.back (fun _ h => (HeapOk.settriv (HeapOk.settriv (HeapOk.take h 5) (i := 0) rfl) (i := 1) rfl)) ?_
            refine SD.take 9 [true, true, true, true, true, true, true, true, true, true, false, false] rfl (by kernel_rfl) rfl (fun _ h => (HeapOk.settriv (HeapOk.settriv (HeapOk.take h 5) (i := 0) rfl) (i := 1) rfl)) rfl rfl rfl (PureOp.nilCheckp rfl) ?_
            refine SD.take 10 [true, true, true, true, true, true, true, true, true, true, true, false] rfl (by kernel_rfl) rfl (fun _ h => (HeapOk.settriv (HeapOk.settriv (HeapOk.take h 5) (i := 0) rfl) (i := 1) rfl)) rfl rfl rfl (PureOp.fieldAddrT 0 Try.underlying69 rfl sz49 rfl rfl) ?_
            refine SD.one 11 [true, true, true, true, true, true, true, true, true, true, true, true] (by kernel_rfl) rfl rfl ?_
            refine SL.store 0 rfl rfl rfl rfl sz49 rfl rfl ?_
            refine SL.norm [_, _, _, _, _, _] rfl ?_
            refine SD.back (fun _ h => (HeapOk.settriv (HeapOk.settriv (HeapOk.take h 5) (i := 0) rfl) (i := 1) rfl)) ?_
            refine SD.done (by kernel_rfl) ?_
            refine QX.ofK ?_
            refine QX.then_ ?_
            refine WC.seq ?_
            refine WC.region ?_
            refine SL.pure rfl rfl rfl (PureOp.move rfl) ?_
            refine SL.pure rfl rfl rfl (PureOp.nilCheckp rfl) ?_
            refine SL.pure rfl rfl rfl (PureOp.fieldAddrT 0 Try.underlying69 rfl sz49 rfl rfl) ?_
            refine SL.pure rfl rfl rfl (PureOp.load (v := .slice ao2_ (B.length + 1) cap2_) Try.underlying49 rfl rfl (fun _ => (CellIs.cells 0 rfl rfl))) ?_
            refine SL.pure rfl rfl rfl (PureOp.len rfl Try.underlying49) ?_
            refine SL.pure rfl rfl rfl (PureOp.build bld32 rfl rfl) ?_
            refine SL.pure rfl rfl rfl (PureOp.move rfl) ?_
            refine SL.store 4 rfl rfl rfl rfl sz32 rfl rfl ?_
            refine SL.norm [_, _, _, _, _, _] rfl ?_
            refine SL.pure rfl rfl rfl (PureOp.assign rfl) ?_
            refine SL.nil_then ?_
            refine WC.ret ?_
            refine QX.bodyv rfl (RVs.cons (RV.cell rfl Try.underlying32 rfl (RowIs.cells 4 0 4 rfl rfl) sz32) (RVs.cons (RV.tmp rfl) RVs.nil)) ?_
            intro w hw
            have q : recvE B m = 0 := by rw [recvE, if_neg (by omega), if_neg (by omega), if_neg (by omega), if_neg (by omega)]
            have qb : recvB B m = B ++ [m.2.2.2] := by rw [recvB, if_pos q]
            have qm : recvM B m = ackM ((B.length : Int) + 1) := by rw [recvM, if_neg (by rw [q]; decide), qb]; simp [ackM]
            refine ⟨(ao2_, cap2_), by rw [q, qm]; rfl, trivial, ?_⟩
            rw [qb]
            have h := HeapOk.pick [0, 1, 2] (by decide) hw
            rw [show (B ++ [m.2.2.2]).length = B.length + 1 from by simp]
            exact h

set_option maxHeartbeats 4000000 in
set_option maxRecDepth 100000 in
theorem got_ok (b : Nat) (B : List ByteArray) (ra : Option Addr) (rc : Nat) (hB : B.length ≤ 500) (w0 : World) (ho : ObjIn w0 b [.slice ra B.length rc, .bool true]) (hr : SliceIn w0 1 ra B.length rc (rowsF encStr B)) (f : Int) (hf : -9223372036854775808 ≤ f ∧ f ≤ 9223372036854775807) : FnC Try.prog 26 [.pointer (some ⟨b, 0, none⟩), .int .i64 f] w0 fun v w' => ∃ a c, v = .slice a (B.length - gotK B f) c ∧ w'.ownsRow w0.heap.size 9 1 (.slice a (B.length - gotK B f) c) (B.length - gotK B f) (cellsOf encStr (gotL B f)) := by
  refine fnc (N := 26) Try.func26 rfl rfl rfl ?_
  refine WC.seq ?_
  refine WC.region ?_
  refine SL.pure rfl rfl rfl (PureOp.assign rfl) ?_
  refine SL.nil_then ?_
  refine WC.seq ?_
  refine WC.seq ?_
  refine WC.region ?_
  refine SL.pure rfl rfl rfl (PureOp.move rfl) ?_
  refine SL.calle rfl rfl rfl rfl rfl rfl callable33 (fun w hw => rready_ok b ra B.length rc w (ho.below hw.below)) ?_
  refine SL.norm [] rfl ?_
  refine SL.pure rfl rfl rfl (PureOp.not rfl) ?_
  refine SL.pure rfl rfl rfl (PureOp.move rfl) ?_
  refine SL.ung rfl rfl rfl rfl ?_
  refine SL.pure rfl rfl rfl (PureOp.move rfl) ?_
  refine SL.ung rfl rfl rfl rfl ?_
  refine SL.pure rfl rfl rfl (PureOp.move rfl) ?_
  refine SL.ung rfl rfl rfl rfl ?_
  refine SL.pure rfl rfl rfl (PureOp.nilCheckp rfl) ?_
  refine SL.ung rfl rfl rfl rfl ?_
  refine SL.pure rfl rfl rfl (PureOp.fieldAddrT 0 Try.underlying60 rfl sz49 rfl rfl) ?_
  refine SL.ung rfl rfl rfl rfl ?_
  refine SL.pure rfl rfl rfl (PureOp.load (v := .slice ra B.length rc) Try.underlying49 rfl rfl (fun _ => (ho.cell 0 rfl))) ?_
  refine SL.ung rfl rfl rfl rfl ?_
  refine SL.pure rfl rfl rfl (PureOp.len rfl Try.underlying49) ?_
  refine SL.ung rfl rfl rfl rfl ?_
  refine SL.pure rfl rfl rfl (PureOp.gtr rfl rfl) ?_
  refine SL.pure rfl rfl rfl (PureOp.pickF rfl rfl) ?_
  refine SL.nil_then ?_
  refine WC.cond rfl (fun h1 => ?_) (fun h1 => ?_)
  · try simp only [Bool.and_eq_true, Bool.or_eq_true, Bool.not_eq_true', Bool.not_eq_false', Bool.and_eq_false_iff, Bool.or_eq_false_iff, decide_eq_true_eq, decide_eq_false_iff_not, Int.not_lt, Int.not_le, ne_eq, Decidable.not_not] at h1
    refine WC.seq ?_
    refine WC.region ?_
    refine SL.pure rfl rfl rfl (PureOp.assign rfl) ?_
    refine SL.nil_then ?_
    refine WC.ret ?_
    refine QX.ret_then ?_
    refine QX.ret1 rfl rfl ?_
    intro w hw
    have q : gotK B f = B.length := by rw [gotK, if_pos (by omega)]
    rw [gotL, q, List.drop_length, Nat.sub_self]
    exact ⟨none, 0, rfl, ownsRow_nil⟩
  · try simp only [Bool.and_eq_true, Bool.or_eq_true, Bool.not_eq_true', Bool.not_eq_false', Bool.and_eq_false_iff, Bool.or_eq_false_iff, decide_eq_true_eq, decide_eq_false_iff_not, Int.not_lt, Int.not_le, ne_eq, Decidable.not_not] at h1
    refine WC.skip ?_
    refine QX.then_ ?_
    refine WC.seq ?_
    refine WC.region ?_
    refine SL.pure rfl rfl rfl (PureOp.move rfl) ?_
    refine SL.pure rfl rfl rfl (PureOp.nilCheckp rfl) ?_
    refine SL.pure rfl rfl rfl (PureOp.fieldAddrT 0 Try.underlying60 rfl sz49 rfl rfl) ?_
    refine SL.pure rfl rfl rfl (PureOp.load (v := .slice ra B.length rc) Try.underlying49 rfl rfl (fun _ => (ho.cell 0 rfl))) ?_
    refine SL.pure rfl rfl rfl (PureOp.move rfl) ?_
    refine SL.pure rfl rfl rfl (PureOp.max_ rfl rfl) ?_
    refine SL.pure rfl rfl rfl (PureOp.sub rfl rfl (fun _ => by omega)) ?_
    refine SL.pure rfl rfl rfl (PureOp.slicel Try.underlying49 sz9 rfl rfl (fun _ => by omega)) ?_
    refine SL.callo (fun ca cc => .slice ca (B.length - (max 1 f - 1).toNat) cc) rfl rfl rfl rfl rfl rfl callable34 (fun w hw => clones_ok (gotL B f) _ _ _ (by rw [gotL_len, gotK, if_neg (by omega)]) (by omega) w (by have h := (hr.subrows rfl (max 1 f - 1).toNat B.length (by omega) (Nat.le_refl _)).below hw.below; rw [List.take_of_length_le (by simp)] at h; rw [gotL, gotK, if_neg (by omega)]; exact h)) (fun ca cc => ?_)
    refine SL.norm [_] rfl ?_
    refine SL.pure rfl rfl rfl (PureOp.assign rfl) ?_
    refine SL.nil_then ?_
    refine WC.ret ?_
    refine QX.ret1 rfl rfl ?_
    intro w hw
    have q : gotK B f = (max 1 f - 1).toNat := by rw [gotK, if_neg (by omega)]
    rw [q]
    exact ⟨_, _, rfl, hw.mem (i := 0) rfl⟩

set_option maxHeartbeats 4000000 in
set_option maxRecDepth 100000 in
theorem rgot_ok (b : Nat) (B : List ByteArray) (ra : Option Addr) (rc : Nat) (hB : B.length ≤ 500) (w0 : World) (ho : ObjIn w0 b [.slice ra B.length rc]) (f : Int) (hf : -9223372036854775808 ≤ f ∧ f ≤ 9223372036854775807) : FnC Try.prog 27 [.pointer (some ⟨b, 0, none⟩), .int .i64 f] w0 fun v w' => v = .slice (gA B ra rc f) (gN B f) (gC B rc f) := by
  refine fnc (N := 25) Try.func27 rfl rfl rfl ?_
  refine WC.seq ?_
  refine WC.region ?_
  refine SL.pure rfl rfl rfl (PureOp.assign rfl) ?_
  refine SL.nil_then ?_
  refine WC.seq ?_
  refine WC.seq ?_
  refine WC.region ?_
  refine SL.pure rfl rfl rfl (PureOp.move rfl) ?_
  refine SL.pure rfl rfl rfl (PureOp.lss rfl rfl) ?_
  refine SL.nil_then ?_
  refine WC.cond rfl (fun h1 => ?_) (fun h1 => ?_)
  · try simp only [Bool.and_eq_true, Bool.or_eq_true, Bool.not_eq_true', Bool.not_eq_false', Bool.and_eq_false_iff, Bool.or_eq_false_iff, decide_eq_true_eq, decide_eq_false_iff_not, Int.not_lt, Int.not_le, ne_eq, Decidable.not_not] at h1
    refine WC.seq ?_
    refine WC.region ?_
    refine SL.pure rfl rfl rfl (PureOp.move rfl) ?_
    refine SL.pure rfl rfl rfl (PureOp.nilCheckp rfl) ?_
    refine SL.pure rfl rfl rfl (PureOp.fieldAddrT 0 Try.underlying69 rfl sz49 rfl rfl) ?_
    refine SL.pure rfl rfl rfl (PureOp.load (v := .slice ra B.length rc) Try.underlying49 rfl rfl (fun _ => (ho.cell 0 rfl))) ?_
    refine SL.pure rfl rfl rfl (PureOp.assign rfl) ?_
    refine SL.nil_then ?_
    refine WC.ret ?_
    refine QX.ret_then ?_
    refine QX.ret1 rfl rfl ?_
    intro w hw
    unfold gA gN gC
    simp only [if_pos (show f < 1 from by omega)]
  · try simp only [Bool.and_eq_true, Bool.or_eq_true, Bool.not_eq_true', Bool.not_eq_false', Bool.and_eq_false_iff, Bool.or_eq_false_iff, decide_eq_true_eq, decide_eq_false_iff_not, Int.not_lt, Int.not_le, ne_eq, Decidable.not_not] at h1
    refine WC.skip ?_
    refine QX.then_ ?_
    refine WC.seq ?_
    refine WC.seq ?_
    refine WC.region ?_
    refine SL.pure rfl rfl rfl (PureOp.move rfl) ?_
    refine SL.pure rfl rfl rfl (PureOp.move rfl) ?_
    refine SL.pure rfl rfl rfl (PureOp.nilCheckp rfl) ?_
    refine SL.pure rfl rfl rfl (PureOp.fieldAddrT 0 Try.underlying69 rfl sz49 rfl rfl) ?_
    refine SL.pure rfl rfl rfl (PureOp.load (v := .slice ra B.length rc) Try.underlying49 rfl rfl (fun _ => (ho.cell 0 rfl))) ?_
    refine SL.pure rfl rfl rfl (PureOp.len rfl Try.underlying49) ?_
    refine SL.pure rfl rfl rfl (PureOp.gtr rfl rfl) ?_
    refine SL.nil_then ?_
    refine WC.cond rfl (fun h2 => ?_) (fun h2 => ?_)
    · try simp only [Bool.and_eq_true, Bool.or_eq_true, Bool.not_eq_true', Bool.not_eq_false', Bool.and_eq_false_iff, Bool.or_eq_false_iff, decide_eq_true_eq, decide_eq_false_iff_not, Int.not_lt, Int.not_le, ne_eq, Decidable.not_not] at h2
      refine WC.seq ?_
      refine WC.region ?_
      refine SL.pure rfl rfl rfl (PureOp.assign rfl) ?_
      refine SL.nil_then ?_
      refine WC.ret ?_
      refine QX.ret_then ?_
      refine QX.ret1 rfl rfl ?_
      intro w hw
      unfold gA gN gC
      simp only [if_neg (show ¬ f < 1 from by omega), if_pos (show (B.length : Int) < f from by omega)]
    · try simp only [Bool.and_eq_true, Bool.or_eq_true, Bool.not_eq_true', Bool.not_eq_false', Bool.and_eq_false_iff, Bool.or_eq_false_iff, decide_eq_true_eq, decide_eq_false_iff_not, Int.not_lt, Int.not_le, ne_eq, Decidable.not_not] at h2
      refine WC.skip ?_
      refine QX.then_ ?_
      refine WC.seq ?_
      refine WC.region ?_
      refine SL.pure rfl rfl rfl (PureOp.move rfl) ?_
      refine SL.pure rfl rfl rfl (PureOp.nilCheckp rfl) ?_
      refine SL.pure rfl rfl rfl (PureOp.fieldAddrT 0 Try.underlying69 rfl sz49 rfl rfl) ?_
      refine SL.pure rfl rfl rfl (PureOp.load (v := .slice ra B.length rc) Try.underlying49 rfl rfl (fun _ => (ho.cell 0 rfl))) ?_
      refine SL.pure rfl rfl rfl (PureOp.move rfl) ?_
      refine SL.pure rfl rfl rfl (PureOp.sub rfl rfl (fun _ => by omega)) ?_
      refine SL.pure rfl rfl rfl (PureOp.slicel Try.underlying49 sz9 rfl rfl (fun _ => by omega)) ?_
      refine SL.pure rfl rfl rfl (PureOp.assign rfl) ?_
      refine SL.nil_then ?_
      refine WC.ret ?_
      refine QX.ret1 rfl rfl ?_
      intro w hw
      unfold gA gN gC
      simp only [if_neg (show ¬ f < 1 from by omega), if_neg (show ¬ (B.length : Int) < f from by omega)]

set_option maxHeartbeats 4000000 in
set_option maxRecDepth 100000 in
theorem long_ok (l : List ByteArray) (ao : Option Addr) (n cap : Nat) (hn : n = l.length) (m : Int) (hm : 0 ≤ m ∧ m ≤ 1000) (hsz : ∀ i, i < l.length → (nth l i).size ≤ maxLen) (hsum : True) (w0 : World) (hs : SliceIn w0 1 ao n cap (rowsF encStr l)) : FnC Try.prog 28 [.slice ao n cap, .int .i64 m] w0 fun v w' => ∃ q, v = .bool q ∧ (q = false → (n : Int) ≤ m) := by
  refine fnc (N := 27) Try.func28 rfl rfl rfl ?_
  refine WC.seq ?_
  refine WC.region ?_
  refine SL.pure rfl rfl rfl (PureOp.assign rfl) ?_
  refine SL.nil_then ?_
  refine WC.seq ?_
  refine WC.seq ?_
  refine WC.region ?_
  refine SL.pure rfl rfl rfl (PureOp.move rfl) ?_
  refine SL.pure rfl rfl rfl (PureOp.len rfl Try.underlying49) ?_
  refine SL.pure rfl rfl rfl (PureOp.move rfl) ?_
  refine SL.pure rfl rfl rfl (PureOp.gtr rfl rfl) ?_
  refine SL.nil_then ?_
  refine WC.cond rfl (fun h1 => ?_) (fun h1 => ?_)
  · try simp only [Bool.and_eq_true, Bool.or_eq_true, Bool.not_eq_true', Bool.not_eq_false', Bool.and_eq_false_iff, Bool.or_eq_false_iff, decide_eq_true_eq, decide_eq_false_iff_not, Int.not_lt, Int.not_le, ne_eq, Decidable.not_not] at h1
    refine WC.seq ?_
    refine WC.region ?_
    refine SL.pure rfl rfl rfl (PureOp.assign rfl) ?_
    refine SL.nil_then ?_
    refine WC.ret ?_
    refine QX.ret_then ?_
    refine QX.ret1 rfl rfl ?_
    intro w hw
    exact ⟨true, rfl, fun h => by cases h⟩
  · try simp only [Bool.and_eq_true, Bool.or_eq_true, Bool.not_eq_true', Bool.not_eq_false', Bool.and_eq_false_iff, Bool.or_eq_false_iff, decide_eq_true_eq, decide_eq_false_iff_not, Int.not_lt, Int.not_le, ne_eq, Decidable.not_not] at h1
    refine WC.skip ?_
    refine QX.then_ ?_
    refine WC.seq ?_
    refine WC.region ?_
    refine SL.pure rfl rfl rfl (PureOp.assign rfl) ?_
    refine SL.nil_then ?_
    refine WC.seq ?_
    refine WC.seq ?_
    refine WC.region ?_
    refine SL.pure rfl rfl rfl (PureOp.assign rfl) ?_
    refine SL.nil_then ?_
    refine WC.block ?_
    refine WC.loop (σ := Nat × Int) (fun q_ => [(0, 0, .slice ao n cap), (1, 0, .int .i64 m), (4, 0, .bool false), (7, 0, .slice ao n cap), (8, 0, .int .i64 ((n : Nat) : Int)), (9, 0, .int .i64 m), (10, 0, .bool (decide (m < ((n : Nat) : Int)))), (6, 0, .int .i64 ((q_.1 : Nat) : Int)), (5, 0, .int .i64 q_.2)]) (fun q_ => []) (fun q_ => q_.1 ≤ n) (fun q_ => n - q_.1) 0 ((0, 0)) (Nat.zero_le _) ⟨rfl, rfl, rfl, rfl, rfl, rfl, rfl, rfl, rfl, rfl, rfl, rfl, rfl, rfl, rfl, rfl, rfl, rfl, trivial⟩ rfl ?_
    rintro ⟨k, z⟩ hk
    try dsimp only at *
    refine WC.seq ?_
    refine WC.seq ?_
    refine WC.region ?_
    refine SL.pure rfl rfl rfl (PureOp.move rfl) ?_
    refine SL.pure rfl rfl rfl (PureOp.move rfl) ?_
    refine SL.pure rfl rfl rfl (PureOp.len rfl Try.underlying49) ?_
    refine SL.pure rfl rfl rfl (PureOp.lss rfl rfl) ?_
    refine SL.nil_then ?_
    refine WC.cond rfl (fun h2 => ?_) (fun h2 => ?_)
    · try simp only [Bool.and_eq_true, Bool.or_eq_true, Bool.not_eq_true', Bool.not_eq_false', Bool.and_eq_false_iff, Bool.or_eq_false_iff, decide_eq_true_eq, decide_eq_false_iff_not, Int.not_lt, Int.not_le, ne_eq, Decidable.not_not] at h2
      refine WC.skip ?_
      refine QX.then_ ?_
      refine WC.seq ?_
      refine WC.block ?_
      refine WC.region ?_
      refine SL.pure rfl rfl rfl (PureOp.move rfl) ?_
      refine SL.pure rfl rfl rfl (PureOp.move rfl) ?_
      refine SL.pure rfl rfl rfl (PureOp.move rfl) ?_
      refine SL.pure rfl rfl rfl (PureOp.indexAddrN Try.underlying49 sz9 rfl rfl (AoOk.in_ hs) (fun _ => by omega)) ?_
      refine SL.pure rfl rfl rfl (PureOp.load (v := .string (nth l k)) Try.underlying9 rfl rfl (fun _ => (CellIs.in_ hs k 0 (by omega) (by omega)))) ?_
      refine SL.pure rfl rfl rfl (PureOp.lens rfl Try.underlying9) ?_
      refine SL.pure rfl rfl rfl (PureOp.addw rfl rfl) ?_
      refine SL.pure rfl rfl rfl (PureOp.assign rfl) ?_
      refine SL.nil ?_
      refine QX.normal_in ?_
      refine QX.then_ ?_
      refine WC.region ?_
      refine SL.pure rfl rfl rfl (PureOp.move rfl) ?_
      refine SL.pure rfl rfl rfl (PureOp.addN (k := 1) rfl rfl (fun _ => by omega)) ?_
      refine SL.pure rfl rfl rfl (PureOp.assign rfl) ?_
      refine SL.nil ?_
      refine QX.round (σ := Nat × Int) (Ef := fun q_ => [(0, 0, .slice ao n cap), (1, 0, .int .i64 m), (4, 0, .bool false), (7, 0, .slice ao n cap), (8, 0, .int .i64 ((n : Nat) : Int)), (9, 0, .int .i64 m), (10, 0, .bool (decide (m < ((n : Nat) : Int)))), (6, 0, .int .i64 ((q_.1 : Nat) : Int)), (5, 0, .int .i64 q_.2)]) (Hf := fun q_ => []) (I := fun q_ => q_.1 ≤ n) (μ := fun q_ => n - q_.1) (s := (k, z)) 0 ((k + 1, wrap64 (z + ((nth l k).size : Int)))) ⟨(by first | omega | (dsimp only; omega)), by first | omega | (dsimp only; omega)⟩ ⟨rfl, rfl, rfl, rfl, rfl, rfl, rfl, rfl, rfl, rfl, rfl, rfl, rfl, rfl, rfl, rfl, rfl, rfl, trivial⟩ rfl
    · try simp only [Bool.and_eq_true, Bool.or_eq_true, Bool.not_eq_true', Bool.not_eq_false', Bool.and_eq_false_iff, Bool.or_eq_false_iff, decide_eq_true_eq, decide_eq_false_iff_not, Int.not_lt, Int.not_le, ne_eq, Decidable.not_not] at h2
      refine WC.exit ?_
      refine QX.exit_then ?_
      refine QX.exit_then ?_
      refine QX.exit_hit ?_
      refine QX.then_ ?_
      refine WC.seq ?_
      refine WC.region ?_
      refine SL.pure rfl rfl rfl (PureOp.move rfl) ?_
      refine SL.pure rfl rfl rfl (PureOp.move rfl) ?_
      refine SL.pure rfl rfl rfl (PureOp.gtr rfl rfl) ?_
      refine SL.pure rfl rfl rfl (PureOp.assign rfl) ?_
      refine SL.nil_then ?_
      refine WC.ret ?_
      refine QX.ret1 rfl rfl ?_
      intro w hw
      exact ⟨_, rfl, fun _ => by omega⟩

end Go.Proofs.Ytmnhdiblkjmmfaa
