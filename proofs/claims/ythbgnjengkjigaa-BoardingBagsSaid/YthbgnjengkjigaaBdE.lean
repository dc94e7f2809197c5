import Derived.Test.YthbgnjengkjigaaBdD
namespace Go.Proofs.Ythbgnjengkjigaa
open Go Go.RowKit Eng
set_option linter.unusedVariables false
set_option linter.unusedSimpArgs false

set_option maxHeartbeats 4000000 in
set_option maxRecDepth 100000 in
theorem pload_ok (b : Nat) (T R : List Int) (A : List Bool) (cl : Bool) (G : List Bag) (ta ra aa ga : Option Addr) (n tc rc ac gc : Nat) (hM : Made T R) (hn : n = T.length) (hR : R.length = n) (h9 : n ≤ 999) (hA : A.length = n) (hK : Known T G) (hG : G.length ≤ 500) (x : Bag) (w0 : World) : MC Try.prog 21 [.pointer (some ⟨b, 0, none⟩), .agg #[.int .i64 x.1, .int .i64 x.2.1, .int .i64 x.2.2]] w0 [Item.cells b [.bool true, .bool cl, .slice ta n tc, .slice ra n rc, .slice aa n ac, .slice ga G.length gc] 44, Item.own w0.heap.size ta n tc 3 1 (cellsOf encI T), Item.own w0.heap.size ra n rc 3 1 (cellsOf encI R), Item.own w0.heap.size aa n ac 4 1 (cellsOf encBo A), Item.own w0.heap.size ga G.length gc 47 3 (cellsOf encBag G)] (fun u_ : Option Addr × Nat => .int .i64 (loadE T cl G x)) (fun u_ => [Item.cells b [.bool true, .bool cl, .slice ta n tc, .slice ra n rc, .slice aa n ac, .slice u_.1 ((loadG T cl G x).length) u_.2] 44, Item.own w0.heap.size ta n tc 3 1 (cellsOf encI T), Item.own w0.heap.size ra n rc 3 1 (cellsOf encI R), Item.own w0.heap.size aa n ac 4 1 (cellsOf encBo A), Item.own w0.heap.size u_.1 ((loadG T cl G x).length) u_.2 47 3 (cellsOf encBag (loadG T cl G x))]) (fun _ => True) (fun _ => []) := by
  refine mcalls (N := 31) Try.func21 rfl rfl rfl ?_
  intro X
  show WC _ _ _ _ _ _ _ [Item.cells b [.bool true, .bool cl, .slice ta n tc, .slice ra n rc, .slice aa n ac, .slice ga G.length gc] 44, Item.own w0.heap.size ta n tc 3 1 (cellsOf encI T), Item.own w0.heap.size ra n rc 3 1 (cellsOf encI R), Item.own w0.heap.size aa n ac 4 1 (cellsOf encBo A), Item.own w0.heap.size ga G.length gc 47 3 (cellsOf encBag G), X]
  refine WC.seq ?_
  refine WC.region ?_
  refine SL.box rfl rfl rfl (fun b1 hb1 => ?_)
  refine SL.norm [_, _, _, _, _, _, _] rfl ?_
  refine SL.pure rfl rfl rfl (PureOp.assign rfl) ?_
  refine SL.nil_then ?_
  refine WC.seq ?_
  refine WC.seq ?_
  refine WC.region ?_
  refine SL.pure rfl rfl rfl (PureOp.move rfl) ?_
  refine SL.calle rfl rfl rfl rfl rfl rfl callable38 (fun w hw => popen_ok b T R A cl G ta ra aa ga n tc rc ac gc hM hn hR h9 hA hK (by omega) w (ObjIn.of hw 0 rfl) (SliceIn.rows (hw.mem (i := 1) rfl) encI_len (by omega)) (SliceIn.rows (hw.mem (i := 2) rfl) encI_len (by omega)) (SliceIn.rows (hw.mem (i := 3) rfl) encBo_len (by first | omega | (rw [hA]; exact Nat.le_refl _))) (SliceIn.rows (hw.mem (i := 4) rfl) encBag_len (Nat.le_refl _))) ?_
  refine SL.norm [_, _, _, _, _, _, _] rfl ?_
  refine SL.pure rfl rfl rfl (PureOp.assign rfl) ?_
  refine SL.nil_then ?_
  refine WC.seq ?_
  refine WC.region ?_
  refine SL.pure rfl rfl rfl (PureOp.move rfl) ?_
  refine SL.pure rfl rfl rfl (PureOp.neq rfl rfl) ?_
  refine SL.nil_then ?_
  refine WC.cond rfl (fun h1 => ?_) (fun h1 => ?_)
  · try simp only [Bool.and_eq_true, Bool.or_eq_true, Bool.not_eq_true', Bool.not_eq_false', Bool.and_eq_false_iff, Bool.or_eq_false_iff, decide_eq_true_eq, decide_eq_false_iff_not, Int.not_lt, Int.not_le, ne_eq, Decidable.not_not] at h1
    have hcl : cl = true := by
      by_cases q : cl = true
      · exact q
      · rw [if_neg q] at h1; exact absurd rfl h1
    refine WC.seq ?_
    refine WC.region ?_
    refine SL.pure rfl rfl rfl (PureOp.move rfl) ?_
    refine SL.pure rfl rfl rfl (PureOp.assign rfl) ?_
    refine SL.nil_then ?_
    refine WC.ret ?_
    refine QX.ret_then ?_
    refine QX.body1 rfl rfl ?_
    intro w hw
    have q : loadE T cl G x = 10 := by rw [loadE, if_pos hcl]
    have qb : loadG T cl G x = G := by rw [loadG, if_neg (by rw [q]; decide)]
    refine ⟨(ga, gc), by rw [q, if_pos hcl], trivial, ?_⟩
    rw [qb]
    exact HeapOk.pick [0, 1, 2, 3, 4, 5] (by decide) hw
  · try simp only [Bool.and_eq_true, Bool.or_eq_true, Bool.not_eq_true', Bool.not_eq_false', Bool.and_eq_false_iff, Bool.or_eq_false_iff, decide_eq_true_eq, decide_eq_false_iff_not, Int.not_lt, Int.not_le, ne_eq, Decidable.not_not] at h1
    have hcl : cl = false := by
      cases cl
      · rfl
      · exact absurd h1 (by decide)
    refine WC.skip ?_
    refine QX.then_ ?_
    refine WC.seq ?_
    refine WC.seq ?_
    refine WC.region ?_
    refine SL.pure rfl rfl rfl (PureOp.move rfl) ?_
    refine SL.pure rfl rfl rfl (PureOp.fieldAddrT 1 Try.underlying47 rfl sz3 rfl rfl) ?_
    refine SL.pure rfl rfl rfl (PureOp.load (v := .int .i64 x.2.1) Try.underlying3 rfl rfl (fun _ => (CellIs.cells 6 rfl rfl))) ?_
    refine SL.calle rfl rfl rfl rfl rfl rfl callable27 (fun w hw => pfind_ok b T R A cl G ta ra aa ga n tc rc ac gc hM hn hR h9 hA hK (by omega) x.2.1 w (ObjIn.of hw 0 rfl) (SliceIn.rows (hw.mem (i := 1) rfl) encI_len (by omega)) (SliceIn.rows (hw.mem (i := 2) rfl) encI_len (by omega)) (SliceIn.rows (hw.mem (i := 3) rfl) encBo_len (by first | omega | (rw [hA]; exact Nat.le_refl _))) (SliceIn.rows (hw.mem (i := 4) rfl) encBag_len (Nat.le_refl _))) ?_
    refine SL.norm [_, _, _, _, _, _, _] rfl ?_
    refine SL.pure rfl rfl rfl (PureOp.lss rfl rfl) ?_
    refine SL.nil_then ?_
    refine WC.cond rfl (fun h2 => ?_) (fun h2 => ?_)
    · try simp only [Bool.and_eq_true, Bool.or_eq_true, Bool.not_eq_true', Bool.not_eq_false', Bool.and_eq_false_iff, Bool.or_eq_false_iff, decide_eq_true_eq, decide_eq_false_iff_not, Int.not_lt, Int.not_le, ne_eq, Decidable.not_not] at h2
      refine WC.seq ?_
      refine WC.region ?_
      refine SL.pure rfl rfl rfl (PureOp.assign rfl) ?_
      refine SL.nil_then ?_
      refine WC.ret ?_
      refine QX.ret_then ?_
      refine QX.body1 rfl rfl ?_
      intro w hw
      have q : loadE T cl G x = 7 := by rw [loadE, if_neg (by rw [hcl]; decide), if_pos (by omega)]
      have qb : loadG T cl G x = G := by rw [loadG, if_neg (by rw [q]; decide)]
      refine ⟨(ga, gc), by rw [q], trivial, ?_⟩
      rw [qb]
      exact HeapOk.pick [0, 1, 2, 3, 4, 5] (by decide) hw
    · try simp only [Bool.and_eq_true, Bool.or_eq_true, Bool.not_eq_true', Bool.not_eq_false', Bool.and_eq_false_iff, Bool.or_eq_false_iff, decide_eq_true_eq, decide_eq_false_iff_not, Int.not_lt, Int.not_le, ne_eq, Decidable.not_not] at h2
      refine WC.skip ?_
      refine QX.then_ ?_
      refine WC.seq ?_
      refine WC.seq ?_
      refine WC.region ?_
      refine SL.pure rfl rfl rfl (PureOp.move rfl) ?_
      refine SL.pure rfl rfl rfl (PureOp.fieldAddrT 0 Try.underlying47 rfl sz3 rfl rfl) ?_
      refine SL.pure rfl rfl rfl (PureOp.load (v := .int .i64 x.1) Try.underlying3 rfl rfl (fun _ => (CellIs.cells 6 rfl rfl))) ?_
      refine SL.calle rfl rfl rfl rfl rfl rfl callable39 (fun w hw => pbag_ok b T R A cl G ta ra aa ga n tc rc ac gc hM hn hR h9 hA hK (by omega) x.1 w (ObjIn.of hw 0 rfl) (SliceIn.rows (hw.mem (i := 1) rfl) encI_len (by omega)) (SliceIn.rows (hw.mem (i := 2) rfl) encI_len (by omega)) (SliceIn.rows (hw.mem (i := 3) rfl) encBo_len (by first | omega | (rw [hA]; exact Nat.le_refl _))) (SliceIn.rows (hw.mem (i := 4) rfl) encBag_len (Nat.le_refl _))) ?_
      refine SL.norm [_, _, _, _, _, _, _] rfl ?_
      refine SL.pure rfl rfl rfl (PureOp.geq rfl rfl) ?_
      refine SL.nil_then ?_
      refine WC.cond rfl (fun h3 => ?_) (fun h3 => ?_)
      · try simp only [Bool.and_eq_true, Bool.or_eq_true, Bool.not_eq_true', Bool.not_eq_false', Bool.and_eq_false_iff, Bool.or_eq_false_iff, decide_eq_true_eq, decide_eq_false_iff_not, Int.not_lt, Int.not_le, ne_eq, Decidable.not_not] at h3
        refine WC.seq ?_
        refine WC.region ?_
        refine SL.pure rfl rfl rfl (PureOp.assign rfl) ?_
        refine SL.nil_then ?_
        refine WC.ret ?_
        refine QX.ret_then ?_
        refine QX.body1 rfl rfl ?_
        intro w hw
        have q : loadE T cl G x = 6 := by rw [loadE, if_neg (by rw [hcl]; decide), if_neg (by omega), if_pos (by omega)]
        have qb : loadG T cl G x = G := by rw [loadG, if_neg (by rw [q]; decide)]
        refine ⟨(ga, gc), by rw [q], trivial, ?_⟩
        rw [qb]
        exact HeapOk.pick [0, 1, 2, 3, 4, 5] (by decide) hw
      · try simp only [Bool.and_eq_true, Bool.or_eq_true, Bool.not_eq_true', Bool.not_eq_false', Bool.and_eq_false_iff, Bool.or_eq_false_iff, decide_eq_true_eq, decide_eq_false_iff_not, Int.not_lt, Int.not_le, ne_eq, Decidable.not_not] at h3
        refine WC.skip ?_
        refine QX.then_ ?_
        refine WC.seq ?_
        refine WC.drawh ([Item.triv, Item.own w0.heap.size ta n tc 3 1 (cellsOf encI T), Item.own w0.heap.size ra n rc 3 1 (cellsOf encI R), Item.own w0.heap.size aa n ac 4 1 (cellsOf encBo A), Item.triv, X, Item.cells b1 [.int .i64 x.1, .int .i64 x.2.1, .int .i64 x.2.2] 47]) 11 [false, false, false, false, false, false, false, false, false, false, false] rfl rfl rfl ?_
        refine SD.take 0 [true, false, false, false, false, false, false, false, false, false, false] rfl (by kernel_rfl) rfl (fun _ h => (HeapOk.settriv (HeapOk.settriv h (i := 0) rfl) (i := 4) rfl)) rfl rfl rfl (PureOp.move rfl) ?_
        refine SD.take 1 [true, true, false, false, false, false, false, false, false, false, false] rfl (by kernel_rfl) rfl (fun _ h => (HeapOk.settriv (HeapOk.settriv h (i := 0) rfl) (i := 4) rfl)) rfl rfl rfl (PureOp.move rfl) ?_
        refine SD.take 2 [true, true, true, false, false, false, false, false, false, false, false] rfl (by kernel_rfl) rfl (fun _ h => (HeapOk.settriv (HeapOk.settriv h (i := 0) rfl) (i := 4) rfl)) rfl rfl rfl (PureOp.nilCheckp rfl) ?_
        refine SD.take 3 [true, true, true, true, false, false, false, false, false, false, false] rfl (by kernel_rfl) rfl (fun _ h => (HeapOk.settriv (HeapOk.settriv h (i := 0) rfl) (i := 4) rfl)) rfl rfl rfl (PureOp.fieldAddrT 5 Try.underlying44 rfl sz38 rfl rfl) ?_
        refine SD.take 5 [true, true, true, true, false, true, false, false, false, false, false] rfl (by kernel_rfl) rfl (fun _ h => (HeapOk.settriv (HeapOk.settriv h (i := 0) rfl) (i := 4) rfl)) rfl rfl rfl (PureOp.loads (vs := [.int .i64 x.1, .int .i64 x.2.1, .int .i64 x.2.2]) Try.underlying47 rfl rfl (fun _ => (RowIs.cells 6 0 3 rfl rfl)) sz47) ?_
        refine SD.all [4, 6] (by kernel_rfl) (by simp) ⟨⟨_, [true, true, true, true, true, true, false, false, false, false, false], rfl, rfl, ?_⟩, ⟨_, [true, true, true, true, false, true, true, false, false, false, false], rfl, rfl, ?_⟩, trivial⟩
        · skip
          refine SL.pure rfl rfl rfl (PureOp.load (v := .slice ga G.length gc) Try.underlying38 rfl rfl (fun _ => (CellIs.cells 0 rfl rfl))) ?_
          refine SD.back (fun _ h => (HeapOk.settriv (HeapOk.settriv h (i := 0) rfl) (i := 4) rfl)) ?_
          refine SD.one 6 [true, true, true, true, true, true, true, false, false, false, false] (by kernel_rfl) rfl rfl ?_
          refine SL.buildSlice rfl rfl Try.underlying38 elem47 rfl rfl rfl rfl (fun b2 hb2 => ?_)
          refine SL.norm [_, _, _, _, _, _, _, _] rfl ?_
          refine SD.back (fun _ h => (HeapOk.settriv (HeapOk.settriv (HeapOk.take h 7) (i := 0) rfl) (i := 4) rfl)) ?_
          refine SD.one 7 [true, true, true, true, true, true, true, true, false, false, false] (by kernel_rfl) rfl rfl ?_
          refine SL.append 4 rfl rfl Try.underlying38 elem47 rfl rfl rfl rfl (SrcIs.own 7 rfl) (by rfl) (by omega) (by omega) (fun ao1_ cap1_ => ?_)
          refine SL.itemxs 4 rfl (show _ = cellsOf encBag (G ++ [x]) from by rw [cellsOf_append, cellsOf_one]; rfl) ?_
          refine SL.norm [_, _, _, _, _, _, _, _] rfl ?_
          refine SD.back (fun _ h => (HeapOk.settriv (HeapOk.settriv (HeapOk.take h 7) (i := 0) rfl) (i := 4) rfl)) ?_
          refine SD.take 8 [true, true, true, true, true, true, true, true, true, false, false] rfl (by kernel_rfl) rfl (fun _ h => (HeapOk.settriv (HeapOk.settriv (HeapOk.take h 7) (i := 0) rfl) (i := 4) rfl)) rfl rfl rfl (PureOp.nilCheckp rfl) ?_
          refine SD.take 9 [true, true, true, true, true, true, true, true, true, true, false] rfl (by kernel_rfl) rfl (fun _ h => (HeapOk.settriv (HeapOk.settriv (HeapOk.take h 7) (i := 0) rfl) (i := 4) rfl)) rfl rfl rfl (PureOp.fieldAddrT 5 Try.underlying44 rfl sz38 rfl rfl) ?_
          refine SD.one 10 [true, true, true, true, true, true, true, true, true, true, true] (by kernel_rfl) rfl rfl ?_
          refine SL.store 0 rfl rfl rfl rfl sz38 rfl rfl ?_
          refine SL.norm [_, _, _, _, _, _, _, _] rfl ?_
          refine SD.back (fun _ h => (HeapOk.settriv (HeapOk.settriv (HeapOk.take h 7) (i := 0) rfl) (i := 4) rfl)) ?_
          refine SD.done (by kernel_rfl) ?_
          refine QX.ofK ?_
          refine QX.then_ ?_
          refine WC.seq ?_
          refine WC.region ?_
          refine SL.pure rfl rfl rfl (PureOp.assign rfl) ?_
          refine SL.nil_then ?_
          refine WC.ret ?_
          refine QX.body1 rfl rfl ?_
          intro w hw
          have q : loadE T cl G x = 0 := by rw [loadE, if_neg (by rw [hcl]; decide), if_neg (by omega), if_neg (by omega)]
          have qb : loadG T cl G x = G ++ [x] := by rw [loadG, if_pos q]
          refine ⟨(ao1_, cap1_), by rw [q], trivial, ?_⟩
          rw [qb]
          have h := HeapOk.pick [0, 1, 2, 3, 4, 5] (by decide) hw
          rw [show (G ++ [x]).length = G.length + 1 from by simp]
          exact h
        · skip
          refine SL.buildSlice rfl rfl Try.underlying38 elem47 rfl rfl rfl rfl (fun b3 hb3 => ?_)
          refine SL.norm [_, _, _, _, _, _, _, _] rfl ?_
          refine SD.back (fun _ h => (HeapOk.settriv (HeapOk.settriv (HeapOk.take h 7) (i := 0) rfl) (i := 4) rfl)) ?_
          refine SD.one 4 [true, true, true, true, true, true, true, false, false, false, false] (by kernel_rfl) rfl rfl ?_
          refine SL.pure rfl rfl rfl (PureOp.load (v := .slice ga G.length gc) Try.underlying38 rfl rfl (fun _ => (CellIs.cells 0 rfl rfl))) ?_
          refine SD.back (fun _ h => (HeapOk.settriv (HeapOk.settriv (HeapOk.take h 7) (i := 0) rfl) (i := 4) rfl)) ?_
          refine SD.one 7 [true, true, true, true, true, true, true, true, false, false, false] (by kernel_rfl) rfl rfl ?_
          refine SL.append 4 rfl rfl Try.underlying38 elem47 rfl rfl rfl rfl (SrcIs.own 7 rfl) (by rfl) (by omega) (by omega) (fun ao2_ cap2_ => ?_)
          refine SL.itemxs 4 rfl (show _ = cellsOf encBag (G ++ [x]) from by rw [cellsOf_append, cellsOf_one]; rfl) ?_
          refine SL.norm [_, _, _, _, _, _, _, _] rfl ?_
          refine SD.back (fun _ h => (HeapOk.settriv (HeapOk.settriv (HeapOk.take h 7) (i := 0) rfl) (i := 4) rfl)) ?_
          refine SD.take 8 [true, true, true, true, true, true, true, true, true, false, false] rfl (by kernel_rfl) rfl (fun _ h => (HeapOk.settriv (HeapOk.settriv (HeapOk.take h 7) (i := 0) rfl) (i := 4) rfl)) rfl rfl rfl (PureOp.nilCheckp rfl) ?_
          refine SD.take 9 [true, true, true, true, true, true, true, true, true, true, false] rfl (by kernel_rfl) rfl (fun _ h => (HeapOk.settriv (HeapOk.settriv (HeapOk.take h 7) (i := 0) rfl) (i := 4) rfl)) rfl rfl rfl (PureOp.fieldAddrT 5 Try.underlying44 rfl sz38 rfl rfl) ?_
          refine SD.one 10 [true, true, true, true, true, true, true, true, true, true, true] (by kernel_rfl) rfl rfl ?_
          refine SL.store 0 rfl rfl rfl rfl sz38 rfl rfl ?_
          refine SL.norm [_, _, _, _, _, _, _, _] rfl ?_
          refine SD.back (fun _ h => (HeapOk.settriv (HeapOk.settriv (HeapOk.take h 7) (i := 0) rfl) (i := 4) rfl)) ?_
          refine SD.done (by kernel_rfl) ?_
          refine QX.ofK ?_
          refine QX.then_ ?_
          refine WC.seq ?_
          refine WC.region ?_
          refine SL.pure rfl rfl rfl (PureOp.assign rfl) ?_
          refine SL.nil_then ?_
          refine WC.ret ?_
          refine QX.body1 rfl rfl ?_
          intro w hw
          have q : loadE T cl G x = 0 := by rw [loadE, if_neg (by rw [hcl]; decide), if_neg (by omega), if_neg (by omega)]
          have qb : loadG T cl G x = G ++ [x] := by rw [loadG, if_pos q]
          refine ⟨(ao2_, cap2_), by rw [q], trivial, ?_⟩
          rw [qb]
          have h := HeapOk.pick [0, 1, 2, 3, 4, 5] (by decide) hw
          rw [show (G ++ [x]).length = G.length + 1 from by simp]
          exact h

set_option maxHeartbeats 4000000 in
set_option maxRecDepth 100000 in
theorem rload_ok (b : Nat) (T R : List Int) (A : List Bool) (cl : Bool) (G : List Bag) (ta ra aa ga : Option Addr) (n tc rc ac gc : Nat) (hM : Made T R) (hn : n = T.length) (hR : R.length = n) (h9 : n ≤ 999) (hA : A.length = n) (hK : Known T G) (hG : G.length ≤ 500) (x : Bag) (w0 : World) : MC Try.prog 29 [.pointer (some ⟨b, 0, none⟩), .agg #[.int .i64 x.1, .int .i64 x.2.1, .int .i64 x.2.2]] w0 [Item.cells b [.slice ta n tc, .slice ra n rc, .slice aa n ac, .slice ga G.length gc, .bool true, .bool cl] 59, Item.own w0.heap.size ta n tc 3 1 (cellsOf encI T), Item.own w0.heap.size ra n rc 3 1 (cellsOf encI R), Item.own w0.heap.size aa n ac 4 1 (cellsOf encBo A), Item.own w0.heap.size ga G.length gc 47 3 (cellsOf encBag G)] (fun u_ : Option Addr × Nat => .int .i64 (loadE T cl G x)) (fun u_ => [Item.cells b [.slice ta n tc, .slice ra n rc, .slice aa n ac, .slice u_.1 ((loadG T cl G x).length) u_.2, .bool true, .bool cl] 59, Item.own w0.heap.size ta n tc 3 1 (cellsOf encI T), Item.own w0.heap.size ra n rc 3 1 (cellsOf encI R), Item.own w0.heap.size aa n ac 4 1 (cellsOf encBo A), Item.own w0.heap.size u_.1 ((loadG T cl G x).length) u_.2 47 3 (cellsOf encBag (loadG T cl G x))]) (fun _ => True) (fun _ => []) := by
  refine mcalls (N := 31) Try.func29 rfl rfl rfl ?_
  intro X
  show WC _ _ _ _ _ _ _ [Item.cells b [.slice ta n tc, .slice ra n rc, .slice aa n ac, .slice ga G.length gc, .bool true, .bool cl] 59, Item.own w0.heap.size ta n tc 3 1 (cellsOf encI T), Item.own w0.heap.size ra n rc 3 1 (cellsOf encI R), Item.own w0.heap.size aa n ac 4 1 (cellsOf encBo A), Item.own w0.heap.size ga G.length gc 47 3 (cellsOf encBag G), X]
  refine WC.seq ?_
  refine WC.region ?_
  refine SL.box rfl rfl rfl (fun b1 hb1 => ?_)
  refine SL.norm [_, _, _, _, _, _, _] rfl ?_
  refine SL.pure rfl rfl rfl (PureOp.assign rfl) ?_
  refine SL.nil_then ?_
  refine WC.seq ?_
  refine WC.seq ?_
  refine WC.region ?_
  refine SL.pure rfl rfl rfl (PureOp.move rfl) ?_
  refine SL.calle rfl rfl rfl rfl rfl rfl callable43 (fun w hw => rready_ok b T R A cl G ta ra aa ga n tc rc ac gc hM hn hR h9 hA hK (by omega) w (ObjIn.of hw 0 rfl) (SliceIn.rows (hw.mem (i := 1) rfl) encI_len (by omega)) (SliceIn.rows (hw.mem (i := 2) rfl) encI_len (by omega)) (SliceIn.rows (hw.mem (i := 3) rfl) encBo_len (by first | omega | (rw [hA]; exact Nat.le_refl _))) (SliceIn.rows (hw.mem (i := 4) rfl) encBag_len (Nat.le_refl _))) ?_
  refine SL.norm [_, _, _, _, _, _, _] rfl ?_
  refine SL.pure rfl rfl rfl (PureOp.assign rfl) ?_
  refine SL.nil_then ?_
  refine WC.seq ?_
  refine WC.region ?_
  refine SL.pure rfl rfl rfl (PureOp.move rfl) ?_
  refine SL.pure rfl rfl rfl (PureOp.neq rfl rfl) ?_
  refine SL.nil_then ?_
  refine WC.cond rfl (fun h1 => ?_) (fun h1 => ?_)
  · try simp only [Bool.and_eq_true, Bool.or_eq_true, Bool.not_eq_true', Bool.not_eq_false', Bool.and_eq_false_iff, Bool.or_eq_false_iff, decide_eq_true_eq, decide_eq_false_iff_not, Int.not_lt, Int.not_le, ne_eq, Decidable.not_not] at h1
    have hcl : cl = true := by
      by_cases q : cl = true
      · exact q
      · rw [if_neg q] at h1; exact absurd rfl h1
    refine WC.seq ?_
    refine WC.region ?_
    refine SL.pure rfl rfl rfl (PureOp.move rfl) ?_
    refine SL.pure rfl rfl rfl (PureOp.assign rfl) ?_
    refine SL.nil_then ?_
    refine WC.ret ?_
    refine QX.ret_then ?_
    refine QX.body1 rfl rfl ?_
    intro w hw
    have q : loadE T cl G x = 10 := by rw [loadE, if_pos hcl]
    have qb : loadG T cl G x = G := by rw [loadG, if_neg (by rw [q]; decide)]
    refine ⟨(ga, gc), by rw [q, if_pos hcl], trivial, ?_⟩
    rw [qb]
    exact HeapOk.pick [0, 1, 2, 3, 4, 5] (by decide) hw
  · try simp only [Bool.and_eq_true, Bool.or_eq_true, Bool.not_eq_true', Bool.not_eq_false', Bool.and_eq_false_iff, Bool.or_eq_false_iff, decide_eq_true_eq, decide_eq_false_iff_not, Int.not_lt, Int.not_le, ne_eq, Decidable.not_not] at h1
    have hcl : cl = false := by
      cases cl
      · rfl
      · exact absurd h1 (by decide)
    refine WC.skip ?_
    refine QX.then_ ?_
    refine WC.seq ?_
    refine WC.seq ?_
    refine WC.region ?_
    refine SL.pure rfl rfl rfl (PureOp.move rfl) ?_
    refine SL.pure rfl rfl rfl (PureOp.fieldAddrT 1 Try.underlying47 rfl sz3 rfl rfl) ?_
    refine SL.pure rfl rfl rfl (PureOp.load (v := .int .i64 x.2.1) Try.underlying3 rfl rfl (fun _ => (CellIs.cells 6 rfl rfl))) ?_
    refine SL.calle rfl rfl rfl rfl rfl rfl callable35 (fun w hw => rfind_ok b T R A cl G ta ra aa ga n tc rc ac gc hM hn hR h9 hA hK (by omega) x.2.1 w (ObjIn.of hw 0 rfl) (SliceIn.rows (hw.mem (i := 1) rfl) encI_len (by omega)) (SliceIn.rows (hw.mem (i := 2) rfl) encI_len (by omega)) (SliceIn.rows (hw.mem (i := 3) rfl) encBo_len (by first | omega | (rw [hA]; exact Nat.le_refl _))) (SliceIn.rows (hw.mem (i := 4) rfl) encBag_len (Nat.le_refl _))) ?_
    refine SL.norm [_, _, _, _, _, _, _] rfl ?_
    refine SL.pure rfl rfl rfl (PureOp.lss rfl rfl) ?_
    refine SL.nil_then ?_
    refine WC.cond rfl (fun h2 => ?_) (fun h2 => ?_)
    · try simp only [Bool.and_eq_true, Bool.or_eq_true, Bool.not_eq_true', Bool.not_eq_false', Bool.and_eq_false_iff, Bool.or_eq_false_iff, decide_eq_true_eq, decide_eq_false_iff_not, Int.not_lt, Int.not_le, ne_eq, Decidable.not_not] at h2
      refine WC.seq ?_
      refine WC.region ?_
      refine SL.pure rfl rfl rfl (PureOp.assign rfl) ?_
      refine SL.nil_then ?_
      refine WC.ret ?_
      refine QX.ret_then ?_
      refine QX.body1 rfl rfl ?_
      intro w hw
      have q : loadE T cl G x = 7 := by rw [loadE, if_neg (by rw [hcl]; decide), if_pos (by omega)]
      have qb : loadG T cl G x = G := by rw [loadG, if_neg (by rw [q]; decide)]
      refine ⟨(ga, gc), by rw [q], trivial, ?_⟩
      rw [qb]
      exact HeapOk.pick [0, 1, 2, 3, 4, 5] (by decide) hw
    · try simp only [Bool.and_eq_true, Bool.or_eq_true, Bool.not_eq_true', Bool.not_eq_false', Bool.and_eq_false_iff, Bool.or_eq_false_iff, decide_eq_true_eq, decide_eq_false_iff_not, Int.not_lt, Int.not_le, ne_eq, Decidable.not_not] at h2
      refine WC.skip ?_
      refine QX.then_ ?_
      refine WC.seq ?_
      refine WC.seq ?_
      refine WC.region ?_
      refine SL.pure rfl rfl rfl (PureOp.move rfl) ?_
      refine SL.pure rfl rfl rfl (PureOp.fieldAddrT 0 Try.underlying47 rfl sz3 rfl rfl) ?_
      refine SL.pure rfl rfl rfl (PureOp.load (v := .int .i64 x.1) Try.underlying3 rfl rfl (fun _ => (CellIs.cells 6 rfl rfl))) ?_
      refine SL.calle rfl rfl rfl rfl rfl rfl callable44 (fun w hw => rbag_ok b T R A cl G ta ra aa ga n tc rc ac gc hM hn hR h9 hA hK (by omega) x.1 w (ObjIn.of hw 0 rfl) (SliceIn.rows (hw.mem (i := 1) rfl) encI_len (by omega)) (SliceIn.rows (hw.mem (i := 2) rfl) encI_len (by omega)) (SliceIn.rows (hw.mem (i := 3) rfl) encBo_len (by first | omega | (rw [hA]; exact Nat.le_refl _))) (SliceIn.rows (hw.mem (i := 4) rfl) encBag_len (Nat.le_refl _))) ?_
      refine SL.norm [_, _, _, _, _, _, _] rfl ?_
      refine SL.pure rfl rfl rfl (PureOp.geq rfl rfl) ?_
      refine SL.nil_then ?_
      refine WC.cond rfl (fun h3 => ?_) (fun h3 => ?_)
      · try simp only [Bool.and_eq_true, Bool.or_eq_true, Bool.not_eq_true', Bool.not_eq_false', Bool.and_eq_false_iff, Bool.or_eq_false_iff, decide_eq_true_eq, decide_eq_false_iff_not, Int.not_lt, Int.not_le, ne_eq, Decidable.not_not] at h3
        refine WC.seq ?_
        refine WC.region ?_
        refine SL.pure rfl rfl rfl (PureOp.assign rfl) ?_
        refine SL.nil_then ?_
        refine WC.ret ?_
        refine QX.ret_then ?_
        refine QX.body1 rfl rfl ?_
        intro w hw
        have q : loadE T cl G x = 6 := by rw [loadE, if_neg (by rw [hcl]; decide), if_neg (by omega), if_pos (by omega)]
        have qb : loadG T cl G x = G := by rw [loadG, if_neg (by rw [q]; decide)]
        refine ⟨(ga, gc), by rw [q], trivial, ?_⟩
        rw [qb]
        exact HeapOk.pick [0, 1, 2, 3, 4, 5] (by decide) hw
      · try simp only [Bool.and_eq_true, Bool.or_eq_true, Bool.not_eq_true', Bool.not_eq_false', Bool.and_eq_false_iff, Bool.or_eq_false_iff, decide_eq_true_eq, decide_eq_false_iff_not, Int.not_lt, Int.not_le, ne_eq, Decidable.not_not] at h3
        refine WC.skip ?_
        refine QX.then_ ?_
        refine WC.seq ?_
        refine WC.drawh ([Item.triv, Item.own w0.heap.size ta n tc 3 1 (cellsOf encI T), Item.own w0.heap.size ra n rc 3 1 (cellsOf encI R), Item.own w0.heap.size aa n ac 4 1 (cellsOf encBo A), Item.triv, X, Item.cells b1 [.int .i64 x.1, .int .i64 x.2.1, .int .i64 x.2.2] 47]) 11 [false, false, false, false, false, false, false, false, false, false, false] rfl rfl rfl ?_
        refine SD.take 0 [true, false, false, false, false, false, false, false, false, false, false] rfl (by kernel_rfl) rfl (fun _ h => (HeapOk.settriv (HeapOk.settriv h (i := 0) rfl) (i := 4) rfl)) rfl rfl rfl (PureOp.move rfl) ?_
        refine SD.take 1 [true, true, false, false, false, false, false, false, false, false, false] rfl (by kernel_rfl) rfl (fun _ h => (HeapOk.settriv (HeapOk.settriv h (i := 0) rfl) (i := 4) rfl)) rfl rfl rfl (PureOp.move rfl) ?_
        refine SD.take 2 [true, true, true, false, false, false, false, false, false, false, false] rfl (by kernel_rfl) rfl (fun _ h => (HeapOk.settriv (HeapOk.settriv h (i := 0) rfl) (i := 4) rfl)) rfl rfl rfl (PureOp.nilCheckp rfl) ?_
        refine SD.take 3 [true, true, true, true, false, false, false, false, false, false, false] rfl (by kernel_rfl) rfl (fun _ h => (HeapOk.settriv (HeapOk.settriv h (i := 0) rfl) (i := 4) rfl)) rfl rfl rfl (PureOp.fieldAddrT 3 Try.underlying59 rfl sz38 rfl rfl) ?_
        refine SD.take 5 [true, true, true, true, false, true, false, false, false, false, false] rfl (by kernel_rfl) rfl (fun _ h => (HeapOk.settriv (HeapOk.settriv h (i := 0) rfl) (i := 4) rfl)) rfl rfl rfl (PureOp.loads (vs := [.int .i64 x.1, .int .i64 x.2.1, .int .i64 x.2.2]) Try.underlying47 rfl rfl (fun _ => (RowIs.cells 6 0 3 rfl rfl)) sz47) ?_
        refine SD.all [4, 6] (by kernel_rfl) (by simp) ⟨⟨_, [true, true, true, true, true, true, false, false, false, false, false], rfl, rfl, ?_⟩, ⟨_, [true, true, true, true, false, true, true, false, false, false, false], rfl, rfl, ?_⟩, trivial⟩
        · skip
          refine SL.pure rfl rfl rfl (PureOp.load (v := .slice ga G.length gc) Try.underlying38 rfl rfl (fun _ => (CellIs.cells 0 rfl rfl))) ?_
          refine SD.back (fun _ h => (HeapOk.settriv (HeapOk.settriv h (i := 0) rfl) (i := 4) rfl)) ?_
          refine SD.one 6 [true, true, true, true, true, true, true, false, false, false, false] (by kernel_rfl) rfl rfl ?_
          refine SL.buildSlice rfl rfl Try.underlying38 elem47 rfl rfl rfl rfl (fun b2 hb2 => ?_)
          refine SL.norm [_, _, _, _, _, _, _, _] rfl ?_
          refine SD.back (fun _ h => (HeapOk.settriv (HeapOk.settriv (HeapOk.take h 7) (i := 0) rfl) (i := 4) rfl)) ?_
          refine SD.one 7 [true, true, true, true, true, true, true, true, false, false, false] (by kernel_rfl) rfl rfl ?_
          refine SL.append 4 rfl rfl Try.underlying38 elem47 rfl rfl rfl rfl (SrcIs.own 7 rfl) (by rfl) (by omega) (by omega) (fun ao1_ cap1_ => ?_)
          refine SL.itemxs 4 rfl (show _ = cellsOf encBag (G ++ [x]) from by rw [cellsOf_append, cellsOf_one]; rfl) ?_
          refine SL.norm [_, _, _, _, _, _, _, _] rfl ?_
          refine SD.back (fun _ h => (HeapOk.settriv (HeapOk.settriv (HeapOk.take h 7) (i := 0) rfl) (i := 4) rfl)) ?_
          refine SD.take 8 [true, true, true, true, true, true, true, true, true, false, false] rfl (by kernel_rfl) rfl (fun _ h => (HeapOk.settriv (HeapOk.settriv (HeapOk.take h 7) (i := 0) rfl) (i := 4) rfl)) rfl rfl rfl (PureOp.nilCheckp rfl) ?_
          refine SD.take 9 [true, true, true, true, true, true, true, true, true, true, false] rfl (by kernel_rfl) rfl (fun _ h => (HeapOk.settriv (HeapOk.settriv (HeapOk.take h 7) (i := 0) rfl) (i := 4) rfl)) rfl rfl rfl (PureOp.fieldAddrT 3 Try.underlying59 rfl sz38 rfl rfl) ?_
          refine SD.one 10 [true, true, true, true, true, true, true, true, true, true, true] (by kernel_rfl) rfl rfl ?_
          refine SL.store 0 rfl rfl rfl rfl sz38 rfl rfl ?_
          refine SL.norm [_, _, _, _, _, _, _, _] rfl ?_
          refine SD.back (fun _ h => (HeapOk.settriv (HeapOk.settriv (HeapOk.take h 7) (i := 0) rfl) (i := 4) rfl)) ?_
          refine SD.done (by kernel_rfl) ?_
          refine QX.ofK ?_
          refine QX.then_ ?_
          refine WC.seq ?_
          refine WC.region ?_
          refine SL.pure rfl rfl rfl (PureOp.assign rfl) ?_
          refine SL.nil_then ?_
          refine WC.ret ?_
          refine QX.body1 rfl rfl ?_
          intro w hw
          have q : loadE T cl G x = 0 := by rw [loadE, if_neg (by rw [hcl]; decide), if_neg (by omega), if_neg (by omega)]
          have qb : loadG T cl G x = G ++ [x] := by rw [loadG, if_pos q]
          refine ⟨(ao1_, cap1_), by rw [q], trivial, ?_⟩
          rw [qb]
          have h := HeapOk.pick [0, 1, 2, 3, 4, 5] (by decide) hw
          rw [show (G ++ [x]).length = G.length + 1 from by simp]
          exact h
        · skip
          refine SL.buildSlice rfl rfl Try.underlying38 elem47 rfl rfl rfl rfl (fun b3 hb3 => ?_)
          refine SL.norm [_, _, _, _, _, _, _, _] rfl ?_
          refine SD.back (fun _ h => (HeapOk.settriv (HeapOk.settriv (HeapOk.take h 7) (i := 0) rfl) (i := 4) rfl)) ?_
          refine SD.one 4 [true, true, true, true, true, true, true, false, false, false, false] (by kernel_rfl) rfl rfl ?_
          refine SL.pure rfl rfl rfl (PureOp.load (v := .slice ga G.length gc) Try.underlying38 rfl rfl (fun _ => (CellIs.cells 0 rfl rfl))) ?_
          refine SD.back (fun _ h => (HeapOk.settriv (HeapOk.settriv (HeapOk.take h 7) (i := 0) rfl) (i := 4) rfl)) ?_
          refine SD.one 7 [true, true, true, true, true, true, true, true, false, false, false] (by kernel_rfl) rfl rfl ?_
          refine SL.append 4 rfl rfl Try.underlying38 elem47 rfl rfl rfl rfl (SrcIs.own 7 rfl) (by rfl) (by omega) (by omega) (fun ao2_ cap2_ => ?_)
          refine SL.itemxs 4 rfl (show _ = cellsOf encBag (G ++ [x]) from by rw [cellsOf_append, cellsOf_one]; rfl) ?_
          refine SL.norm [_, _, _, _, _, _, _, _] rfl ?_
          refine SD.back (fun _ h => (HeapOk.settriv (HeapOk.settriv (HeapOk.take h 7) (i := 0) rfl) (i := 4) rfl)) ?_
          refine SD.take 8 [true, true, true, true, true, true, true, true, true, false, false] rfl (by kernel_rfl) rfl (fun _ h => (HeapOk.settriv (HeapOk.settriv (HeapOk.take h 7) (i := 0) rfl) (i := 4) rfl)) rfl rfl rfl (PureOp.nilCheckp rfl) ?_
          refine SD.take 9 [true, true, true, true, true, true, true, true, true, true, false] rfl (by kernel_rfl) rfl (fun _ h => (HeapOk.settriv (HeapOk.settriv (HeapOk.take h 7) (i := 0) rfl) (i := 4) rfl)) rfl rfl rfl (PureOp.fieldAddrT 3 Try.underlying59 rfl sz38 rfl rfl) ?_
          refine SD.one 10 [true, true, true, true, true, true, true, true, true, true, true] (by kernel_rfl) rfl rfl ?_
          refine SL.store 0 rfl rfl rfl rfl sz38 rfl rfl ?_
          refine SL.norm [_, _, _, _, _, _, _, _] rfl ?_
          refine SD.back (fun _ h => (HeapOk.settriv (HeapOk.settriv (HeapOk.take h 7) (i := 0) rfl) (i := 4) rfl)) ?_
          refine SD.done (by kernel_rfl) ?_
          refine QX.ofK ?_
          refine QX.then_ ?_
          refine WC.seq ?_
          refine WC.region ?_
          refine SL.pure rfl rfl rfl (PureOp.assign rfl) ?_
          refine SL.nil_then ?_
          refine WC.ret ?_
          refine QX.body1 rfl rfl ?_
          intro w hw
          have q : loadE T cl G x = 0 := by rw [loadE, if_neg (by rw [hcl]; decide), if_neg (by omega), if_neg (by omega)]
          have qb : loadG T cl G x = G ++ [x] := by rw [loadG, if_pos q]
          refine ⟨(ao2_, cap2_), by rw [q], trivial, ?_⟩
          rw [qb]
          have h := HeapOk.pick [0, 1, 2, 3, 4, 5] (by decide) hw
          rw [show (G ++ [x]).length = G.length + 1 from by simp]
          exact h

set_option maxHeartbeats 4000000 in
set_option maxRecDepth 100000 in
theorem punload_ok (b : Nat) (T R : List Int) (A : List Bool) (cl : Bool) (G : List Bag) (ta ra aa ga : Option Addr) (n tc rc ac gc : Nat) (hM : Made T R) (hn : n = T.length) (hR : R.length = n) (h9 : n ≤ 999) (hA : A.length = n) (hK : Known T G) (hG : G.length ≤ 500) (g : Int) (w0 : World) : MC Try.prog 19 [.pointer (some ⟨b, 0, none⟩), .int .i64 g] w0 [Item.cells b [.bool true, .bool cl, .slice ta n tc, .slice ra n rc, .slice aa n ac, .slice ga G.length gc] 44, Item.own w0.heap.size ta n tc 3 1 (cellsOf encI T), Item.own w0.heap.size ra n rc 3 1 (cellsOf encI R), Item.own w0.heap.size aa n ac 4 1 (cellsOf encBo A), Item.own w0.heap.size ga G.length gc 47 3 (cellsOf encBag G)] (fun u_ : Option Addr × Nat => .tuple #[.agg (encBag (unB cl G g)).toArray, .int .i64 (unE cl G g)]) (fun u_ => [Item.cells b [.bool true, .bool cl, .slice ta n tc, .slice ra n rc, .slice aa n ac, .slice u_.1 ((unG cl G g).length) u_.2] 44, Item.own w0.heap.size ta n tc 3 1 (cellsOf encI T), Item.own w0.heap.size ra n rc 3 1 (cellsOf encI R), Item.own w0.heap.size aa n ac 4 1 (cellsOf encBo A), Item.own w0.heap.size u_.1 ((unG cl G g).length) u_.2 47 3 (cellsOf encBag (unG cl G g))]) (fun _ => True) (fun _ => []) := by
  refine mcalls (N := 40) Try.func19 rfl rfl rfl ?_
  intro X
  show WC _ _ _ _ _ _ _ [Item.cells b [.bool true, .bool cl, .slice ta n tc, .slice ra n rc, .slice aa n ac, .slice ga G.length gc] 44, Item.own w0.heap.size ta n tc 3 1 (cellsOf encI T), Item.own w0.heap.size ra n rc 3 1 (cellsOf encI R), Item.own w0.heap.size aa n ac 4 1 (cellsOf encBo A), Item.own w0.heap.size ga G.length gc 47 3 (cellsOf encBag G), X]
  refine WC.seq ?_
  refine WC.region ?_
  refine SL.alloc rfl rfl zero47 (fun b1 hb1 => ?_)
  refine SL.norm [_, _, _, _, _, _, _] rfl ?_
  refine SL.pure rfl rfl rfl (PureOp.assign rfl) ?_
  refine SL.nil_then ?_
  refine WC.seq ?_
  refine WC.seq ?_
  refine WC.region ?_
  refine SL.pure rfl rfl rfl (PureOp.move rfl) ?_
  refine SL.calle rfl rfl rfl rfl rfl rfl callable38 (fun w hw => popen_ok b T R A cl G ta ra aa ga n tc rc ac gc hM hn hR h9 hA hK (by omega) w (ObjIn.of hw 0 rfl) (SliceIn.rows (hw.mem (i := 1) rfl) encI_len (by omega)) (SliceIn.rows (hw.mem (i := 2) rfl) encI_len (by omega)) (SliceIn.rows (hw.mem (i := 3) rfl) encBo_len (by first | omega | (rw [hA]; exact Nat.le_refl _))) (SliceIn.rows (hw.mem (i := 4) rfl) encBag_len (Nat.le_refl _))) ?_
  refine SL.norm [_, _, _, _, _, _, _] rfl ?_
  refine SL.pure rfl rfl rfl (PureOp.assign rfl) ?_
  refine SL.nil_then ?_
  refine WC.seq ?_
  refine WC.region ?_
  refine SL.pure rfl rfl rfl (PureOp.move rfl) ?_
  refine SL.pure rfl rfl rfl (PureOp.neq rfl rfl) ?_
  refine SL.nil_then ?_
  refine WC.cond rfl (fun h1 => ?_) (fun h1 => ?_)
  · try simp only [Bool.and_eq_true, Bool.or_eq_true, Bool.not_eq_true', Bool.not_eq_false', Bool.and_eq_false_iff, Bool.or_eq_false_iff, decide_eq_true_eq, decide_eq_false_iff_not, Int.not_lt, Int.not_le, ne_eq, Decidable.not_not] at h1
    have hcl : cl = true := by
      by_cases q : cl = true
      · exact q
      · rw [if_neg q] at h1; exact absurd rfl h1
    refine WC.seq ?_
    refine WC.region ?_
    refine SL.pure rfl rfl rfl (PureOp.build bld47 rfl rfl) ?_
    refine SL.pure rfl rfl rfl (PureOp.move rfl) ?_
    refine SL.store 6 rfl rfl rfl rfl sz47 rfl rfl ?_
    refine SL.norm [_, _, _, _, _, _, _] rfl ?_
    refine SL.pure rfl rfl rfl (PureOp.assign rfl) ?_
    refine SL.nil_then ?_
    refine WC.ret ?_
    refine QX.ret_then ?_
    refine QX.bodyv rfl (RVs.cons (RV.cell rfl Try.underlying47 rfl (RowIs.cells 6 0 3 rfl rfl) sz47) (RVs.cons (RV.tmp rfl) RVs.nil)) ?_
    intro w hw
    have q : unE cl G g = 10 := by rw [unE, if_pos hcl]
    have qb : unG cl G g = G := by rw [unG, if_neg (by rw [q]; decide)]
    have qm : unB cl G g = (0, 0, 0) := by rw [unB, if_neg (by rw [q]; decide)]
    refine ⟨(ga, gc), by rw [q, qm, if_pos hcl]; rfl, trivial, ?_⟩
    rw [qb]
    exact HeapOk.pick [0, 1, 2, 3, 4, 5] (by decide) hw
  · try simp only [Bool.and_eq_true, Bool.or_eq_true, Bool.not_eq_true', Bool.not_eq_false', Bool.and_eq_false_iff, Bool.or_eq_false_iff, decide_eq_true_eq, decide_eq_false_iff_not, Int.not_lt, Int.not_le, ne_eq, Decidable.not_not] at h1
    have hcl : cl = false := by
      cases cl
      · rfl
      · exact absurd h1 (by decide)
    refine WC.skip ?_
    refine QX.then_ ?_
    refine WC.seq ?_
    refine WC.region ?_
    refine SL.pure rfl rfl rfl (PureOp.move rfl) ?_
    refine SL.pure rfl rfl rfl (PureOp.move rfl) ?_
    refine SL.calle rfl rfl rfl rfl rfl rfl callable39 (fun w hw => pbag_ok b T R A cl G ta ra aa ga n tc rc ac gc hM hn hR h9 hA hK (by omega) g w (ObjIn.of hw 0 rfl) (SliceIn.rows (hw.mem (i := 1) rfl) encI_len (by omega)) (SliceIn.rows (hw.mem (i := 2) rfl) encI_len (by omega)) (SliceIn.rows (hw.mem (i := 3) rfl) encBo_len (by first | omega | (rw [hA]; exact Nat.le_refl _))) (SliceIn.rows (hw.mem (i := 4) rfl) encBag_len (Nat.le_refl _))) ?_
    refine SL.norm [_, _, _, _, _, _, _] rfl ?_
    refine SL.pure rfl rfl rfl (PureOp.assign rfl) ?_
    refine SL.nil_then ?_
    refine WC.seq ?_
    refine WC.seq ?_
    refine WC.region ?_
    refine SL.pure rfl rfl rfl (PureOp.move rfl) ?_
    refine SL.pure rfl rfl rfl (PureOp.lss rfl rfl) ?_
    refine SL.nil_then ?_
    refine WC.cond rfl (fun h2 => ?_) (fun h2 => ?_)
    · try simp only [Bool.and_eq_true, Bool.or_eq_true, Bool.not_eq_true', Bool.not_eq_false', Bool.and_eq_false_iff, Bool.or_eq_false_iff, decide_eq_true_eq, decide_eq_false_iff_not, Int.not_lt, Int.not_le, ne_eq, Decidable.not_not] at h2
      refine WC.seq ?_
      refine WC.region ?_
      refine SL.pure rfl rfl rfl (PureOp.build bld47 rfl rfl) ?_
      refine SL.store 6 rfl rfl rfl rfl sz47 rfl rfl ?_
      refine SL.norm [_, _, _, _, _, _, _] rfl ?_
      refine SL.pure rfl rfl rfl (PureOp.assign rfl) ?_
      refine SL.nil_then ?_
      refine WC.ret ?_
      refine QX.ret_then ?_
      refine QX.bodyv rfl (RVs.cons (RV.cell rfl Try.underlying47 rfl (RowIs.cells 6 0 3 rfl rfl) sz47) (RVs.cons (RV.tmp rfl) RVs.nil)) ?_
      intro w hw
      have q : unE cl G g = 7 := by rw [unE, if_neg (by rw [hcl]; decide), if_pos (by omega)]
      have qb : unG cl G g = G := by rw [unG, if_neg (by rw [q]; decide)]
      have qm : unB cl G g = (0, 0, 0) := by rw [unB, if_neg (by rw [q]; decide)]
      refine ⟨(ga, gc), by rw [q, qm]; rfl, trivial, ?_⟩
      rw [qb]
      exact HeapOk.pick [0, 1, 2, 3, 4, 5] (by decide) hw
    · try simp only [Bool.and_eq_true, Bool.or_eq_true, Bool.not_eq_true', Bool.not_eq_false', Bool.and_eq_false_iff, Bool.or_eq_false_iff, decide_eq_true_eq, decide_eq_false_iff_not, Int.not_lt, Int.not_le, ne_eq, Decidable.not_not] at h2
      have qx := ixB_hit (G := G) (t := g) (by omega)
      refine WC.skip ?_
      refine QX.then_ ?_
      refine WC.seq ?_
      refine WC.region ?_
      refine SL.pure rfl rfl rfl (PureOp.move rfl) ?_
      refine SL.pure rfl rfl rfl (PureOp.nilCheckp rfl) ?_
      refine SL.pure rfl rfl rfl (PureOp.fieldAddrT 5 Try.underlying44 rfl sz38 rfl rfl) ?_
      refine SL.pure rfl rfl rfl (PureOp.load (v := .slice ga G.length gc) Try.underlying38 rfl rfl (fun _ => (CellIs.cells 0 rfl rfl))) ?_
      refine SL.pure rfl rfl rfl (PureOp.move rfl) ?_
      refine SL.pure rfl rfl rfl (PureOp.indexAddr Try.underlying38 sz47 rfl rfl (AoOk.own 4 rfl) (fun _ => by omega)) ?_
      refine SL.pure rfl rfl rfl (PureOp.loads (vs := [.int .i64 ((nth G ((ixB G g).toNat)).1), .int .i64 ((nth G ((ixB G g).toNat)).2.1), .int .i64 ((nth G ((ixB G g).toNat)).2.2)]) Try.underlying47 rfl rfl (fun _ => (RowIs.ownc 4 rfl ((ixB G g).toNat) 0 3 (rowsF encBag G (ixB G g).toNat) (fun j hj => encBag_get (by omega) (by omega)))) sz47) ?_
      refine SL.alloc rfl rfl zero47 (fun b2 hb2 => ?_)
      refine SL.norm [_, _, _, _, _, _, _, _] rfl ?_
      refine SL.store 7 rfl rfl rfl rfl sz47 rfl rfl ?_
      refine SL.norm [_, _, _, _, _, _, _, _] rfl ?_
      refine SL.nil_then ?_
      refine WC.seq ?_
      refine WC.region ?_
      refine SL.pure rfl rfl rfl (PureOp.move rfl) ?_
      refine SL.pure rfl rfl rfl (PureOp.move rfl) ?_
      refine SL.pure rfl rfl rfl (PureOp.nilCheckp rfl) ?_
      refine SL.pure rfl rfl rfl (PureOp.fieldAddrT 5 Try.underlying44 rfl sz38 rfl rfl) ?_
      refine SL.pure rfl rfl rfl (PureOp.load (v := .slice ga G.length gc) Try.underlying38 rfl rfl (fun _ => (CellIs.cells 0 rfl rfl))) ?_
      refine SL.pure rfl rfl rfl (PureOp.move rfl) ?_
      refine SL.reval 33 (.int .i64 (((ixB G g).toNat : Nat) : Int)) rfl (congrArg (Value.int .i64) qx.2.2) ?_
      refine SL.pure rfl rfl rfl (PureOp.move rfl) ?_
      refine SL.reval 34 (.int .i64 (((ixB G g).toNat : Nat) : Int)) rfl (congrArg (Value.int .i64) qx.2.2) ?_
      refine SL.pure rfl rfl rfl (PureOp.addN (k := 1) rfl rfl (fun _ => by omega)) ?_
      refine SL.callM [4] rfl rfl rfl rfl rfl rfl callable40 (by decide) (delete_ok G ga gc (ixB G g).toNat (by omega) (by omega) w0) rfl (fun _ _ => rfl) ?_
      rintro ⟨⟩ _
      refine SL.norm [_, _, _, _, _, _, _, _] rfl ?_
      refine SL.pure rfl rfl rfl (PureOp.nilCheckp rfl) ?_
      refine SL.pure rfl rfl rfl (PureOp.fieldAddrT 5 Try.underlying44 rfl sz38 rfl rfl) ?_
      refine SL.store 0 rfl rfl rfl rfl sz38 rfl rfl ?_
      refine SL.norm [_, _, _, _, _, _, _, _] rfl ?_
      refine SL.nil_then ?_
      refine WC.seq ?_
      refine WC.region ?_
      refine SL.pure rfl rfl rfl (PureOp.loads (vs := [.int .i64 ((nth G ((ixB G g).toNat)).1), .int .i64 ((nth G ((ixB G g).toNat)).2.1), .int .i64 ((nth G ((ixB G g).toNat)).2.2)]) Try.underlying47 rfl rfl (fun _ => (RowIs.cells 7 0 3 rfl rfl)) sz47) ?_
      refine SL.store 6 rfl rfl rfl rfl sz47 rfl rfl ?_
      refine SL.norm [_, _, _, _, _, _, _, _] rfl ?_
      refine SL.pure rfl rfl rfl (PureOp.assign rfl) ?_
      refine SL.nil_then ?_
      refine WC.ret ?_
      refine QX.bodyv rfl (RVs.cons (RV.cell rfl Try.underlying47 rfl (RowIs.cells 6 0 3 rfl rfl) sz47) (RVs.cons (RV.tmp rfl) RVs.nil)) ?_
      intro w hw
      have q : unE cl G g = 0 := by rw [unE, if_neg (by rw [hcl]; decide), if_neg (by omega)]
      have qb : unG cl G g = G.take (ixB G g).toNat ++ G.drop ((ixB G g).toNat + 1) := by rw [unG, if_pos q]
      have qm : unB cl G g = nth G (ixB G g).toNat := by rw [unB, if_pos q]
      have ql : (G.take (ixB G g).toNat ++ G.drop ((ixB G g).toNat + 1)).length = G.length - 1 := by simp only [List.length_append, List.length_take, List.length_drop]; omega
      refine ⟨(ga, gc), by rw [q, qm]; rfl, trivial, ?_⟩
      rw [qb]
      have h := HeapOk.pick [0, 1, 2, 3, 4, 5] (by decide) hw
      rw [ql]
      exact h

end Go.Proofs.Ythbgnjengkjigaa
