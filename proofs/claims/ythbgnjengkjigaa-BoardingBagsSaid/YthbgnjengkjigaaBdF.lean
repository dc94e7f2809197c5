import Derived.Test.YthbgnjengkjigaaBdE
namespace Go.Proofs.Ythbgnjengkjigaa
open Go Go.RowKit Eng
set_option linter.unusedVariables false
set_option linter.unusedSimpArgs false

set_option maxHeartbeats 4000000 in
set_option maxRecDepth 100000 in
theorem runload_ok (b : Nat) (T R : List Int) (A : List Bool) (cl : Bool) (G : List Bag) (ta ra aa ga : Option Addr) (n tc rc ac gc : Nat) (hM : Made T R) (hn : n = T.length) (hR : R.length = n) (h9 : n ≤ 999) (hA : A.length = n) (hK : Known T G) (hG : G.length ≤ 500) (g : Int) (w0 : World) : MC Try.prog 30 [.pointer (some ⟨b, 0, none⟩), .int .i64 g] w0 [Item.cells b [.slice ta n tc, .slice ra n rc, .slice aa n ac, .slice ga G.length gc, .bool true, .bool cl] 59, Item.own w0.heap.size ta n tc 3 1 (cellsOf encI T), Item.own w0.heap.size ra n rc 3 1 (cellsOf encI R), Item.own w0.heap.size aa n ac 4 1 (cellsOf encBo A), Item.own w0.heap.size ga G.length gc 47 3 (cellsOf encBag G)] (fun u_ : Option Addr × Nat => .tuple #[.agg (encBag (unB cl G g)).toArray, .int .i64 (unE cl G g)]) (fun u_ => [Item.cells b [.slice ta n tc, .slice ra n rc, .slice aa n ac, .slice u_.1 ((unG cl G g).length) u_.2, .bool true, .bool cl] 59, Item.own w0.heap.size ta n tc 3 1 (cellsOf encI T), Item.own w0.heap.size ra n rc 3 1 (cellsOf encI R), Item.own w0.heap.size aa n ac 4 1 (cellsOf encBo A), Item.own w0.heap.size u_.1 ((unG cl G g).length) u_.2 47 3 (cellsOf encBag (unG cl G g))]) (fun _ => True) (fun _ => []) := by
  refine mcalls (N := 48) Try.func30 rfl rfl rfl ?_
  intro X
  show WC _ _ _ _ _ _ _ [Item.cells b [.slice ta n tc, .slice ra n rc, .slice aa n ac, .slice ga G.length gc, .bool true, .bool cl] 59, Item.own w0.heap.size ta n tc 3 1 (cellsOf encI T), Item.own w0.heap.size ra n rc 3 1 (cellsOf encI R), Item.own w0.heap.size aa n ac 4 1 (cellsOf encBo A), Item.own w0.heap.size ga G.length gc 47 3 (cellsOf encBag G), X]
  refine WC.seq ?_
  refine WC.region ?_
  refine SL.alloc rfl rfl zero47 (fun b1 hb1 => ?_)
  refine SL.norm [_, _, _, _, _, _, _] rfl ?_
  refine SL.pure rfl rfl rfl (PureOp.assign rfl) ?_
  refine SL.nil_then ?_
  refine WC.seq ?_
  refine WC.seq ?_
  refine WC.region ?_
  refine SL.pure rfl rfl rfl (PureOp.move rfl) ?_
  refine SL.calle rfl rfl rfl rfl rfl rfl callable43 (fun w hw => rready_ok b T R A cl G ta ra aa ga n tc rc ac gc hM hn hR h9 hA hK (by omega) w (ObjIn.of hw 0 rfl) (SliceIn.rows (hw.mem (i := 1) rfl) encI_len (by omega)) (SliceIn.rows (hw.mem (i := 2) rfl) encI_len (by omega)) (SliceIn.rows (hw.mem (i := 3) rfl) encBo_len (by first | omega | (rw [hA]; exact Nat.le_refl _))) (SliceIn.rows (hw.mem (i := 4) rfl) encBag_len (Nat.le_refl _))) ?_
  refine SL.norm [_, _, _, _, _, _, _] rfl ?_
  refine SL.pure rfl rfl rfl (PureOp.assign rfl) ?_
  refine SL.nil_then ?_
  refine WC.seq ?_
  refine WC.region ?_
  refine SL.pure rfl rfl rfl (PureOp.move rfl) ?_
  refine SL.pure rfl rfl rfl (PureOp.neq rfl rfl) ?_
  refine SL.nil_then ?_
  refine WC.cond rfl (fun h1 => ?_) (fun h1 => ?_)
  · try simp only [Bool.and_eq_true, Bool.or_eq_true, Bool.not_eq_true', Bool.not_eq_false', Bool.and_eq_false_iff, Bool.or_eq_false_iff, decide_eq_true_eq, decide_eq_false_iff_not, Int.not_lt, Int.not_le, ne_eq, Decidable.not_not] at h1
    have hcl : cl = true := by
      by_cases q : cl = true
      · exact q
      · rw [if_neg q] at h1; exact absurd rfl h1
    refine WC.seq ?_
    refine WC.region ?_
    refine SL.pure rfl rfl rfl (PureOp.build bld47 rfl rfl) ?_
    refine SL.pure rfl rfl rfl (PureOp.move rfl) ?_
    refine SL.store 6 rfl rfl rfl rfl sz47 rfl rfl ?_
    refine SL.norm [_, _, _, _, _, _, _] rfl ?_
    refine SL.pure rfl rfl rfl (PureOp.assign rfl) ?_
    refine SL.nil_then ?_
    refine WC.ret ?_
    refine QX.ret_then ?_
    refine QX.bodyv rfl (RVs.cons (RV.cell rfl Try.underlying47 rfl (RowIs.cells 6 0 3 rfl rfl) sz47) (RVs.cons (RV.tmp rfl) RVs.nil)) ?_
    intro w hw
    have q : unE cl G g = 10 := by rw [unE, if_pos hcl]
    have qb : unG cl G g = G := by rw [unG, if_neg (by rw [q]; decide)]
    have qm : unB cl G g = (0, 0, 0) := by rw [unB, if_neg (by rw [q]; decide)]
    refine ⟨(ga, gc), by rw [q, qm, if_pos hcl]; rfl, trivial, ?_⟩
    rw [qb]
    exact HeapOk.pick [0, 1, 2, 3, 4, 5] (by decide) hw
  · try simp only [Bool.and_eq_true, Bool.or_eq_true, Bool.not_eq_true', Bool.not_eq_false', Bool.and_eq_false_iff, Bool.or_eq_false_iff, decide_eq_true_eq, decide_eq_false_iff_not, Int.not_lt, Int.not_le, ne_eq, Decidable.not_not] at h1
    have hcl : cl = false := by
      cases cl
      · rfl
      · exact absurd h1 (by decide)
    refine WC.skip ?_
    refine QX.then_ ?_
    refine WC.seq ?_
    refine WC.region ?_
    refine SL.pure rfl rfl rfl (PureOp.move rfl) ?_
    refine SL.pure rfl rfl rfl (PureOp.move rfl) ?_
    refine SL.calle rfl rfl rfl rfl rfl rfl callable44 (fun w hw => rbag_ok b T R A cl G ta ra aa ga n tc rc ac gc hM hn hR h9 hA hK (by omega) g w (ObjIn.of hw 0 rfl) (SliceIn.rows (hw.mem (i := 1) rfl) encI_len (by omega)) (SliceIn.rows (hw.mem (i := 2) rfl) encI_len (by omega)) (SliceIn.rows (hw.mem (i := 3) rfl) encBo_len (by first | omega | (rw [hA]; exact Nat.le_refl _))) (SliceIn.rows (hw.mem (i := 4) rfl) encBag_len (Nat.le_refl _))) ?_
    refine SL.norm [_, _, _, _, _, _, _] rfl ?_
    refine SL.pure rfl rfl rfl (PureOp.assign rfl) ?_
    refine SL.nil_then ?_
    refine WC.seq ?_
    refine WC.seq ?_
    refine WC.region ?_
    refine SL.pure rfl rfl rfl (PureOp.move rfl) ?_
    refine SL.pure rfl rfl rfl (PureOp.lss rfl rfl) ?_
    refine SL.nil_then ?_
    refine WC.cond rfl (fun h2 => ?_) (fun h2 => ?_)
    · try simp only [Bool.and_eq_true, Bool.or_eq_true, Bool.not_eq_true', Bool.not_eq_false', Bool.and_eq_false_iff, Bool.or_eq_false_iff, decide_eq_true_eq, decide_eq_false_iff_not, Int.not_lt, Int.not_le, ne_eq, Decidable.not_not] at h2
      refine WC.seq ?_
      refine WC.region ?_
      refine SL.pure rfl rfl rfl (PureOp.build bld47 rfl rfl) ?_
      refine SL.store 6 rfl rfl rfl rfl sz47 rfl rfl ?_
      refine SL.norm [_, _, _, _, _, _, _] rfl ?_
      refine SL.pure rfl rfl rfl (PureOp.assign rfl) ?_
      refine SL.nil_then ?_
      refine WC.ret ?_
      refine QX.ret_then ?_
      refine QX.bodyv rfl (RVs.cons (RV.cell rfl Try.underlying47 rfl (RowIs.cells 6 0 3 rfl rfl) sz47) (RVs.cons (RV.tmp rfl) RVs.nil)) ?_
      intro w hw
      have q : unE cl G g = 7 := by rw [unE, if_neg (by rw [hcl]; decide), if_pos (by omega)]
      have qb : unG cl G g = G := by rw [unG, if_neg (by rw [q]; decide)]
      have qm : unB cl G g = (0, 0, 0) := by rw [unB, if_neg (by rw [q]; decide)]
      refine ⟨(ga, gc), by rw [q, qm]; rfl, trivial, ?_⟩
      rw [qb]
      exact HeapOk.pick [0, 1, 2, 3, 4, 5] (by decide) hw
    · try simp only [Bool.and_eq_true, Bool.or_eq_true, Bool.not_eq_true', Bool.not_eq_false', Bool.and_eq_false_iff, Bool.or_eq_false_iff, decide_eq_true_eq, decide_eq_false_iff_not, Int.not_lt, Int.not_le, ne_eq, Decidable.not_not] at h2
      have qx := ixB_hit (G := G) (t := g) (by omega)
      refine WC.skip ?_
      refine QX.then_ ?_
      refine WC.seq ?_
      refine WC.region ?_
      refine SL.pure rfl rfl rfl (PureOp.move rfl) ?_
      refine SL.pure rfl rfl rfl (PureOp.nilCheckp rfl) ?_
      refine SL.pure rfl rfl rfl (PureOp.fieldAddrT 3 Try.underlying59 rfl sz38 rfl rfl) ?_
      refine SL.pure rfl rfl rfl (PureOp.load (v := .slice ga G.length gc) Try.underlying38 rfl rfl (fun _ => (CellIs.cells 0 rfl rfl))) ?_
      refine SL.pure rfl rfl rfl (PureOp.move rfl) ?_
      refine SL.pure rfl rfl rfl (PureOp.indexAddr Try.underlying38 sz47 rfl rfl (AoOk.own 4 rfl) (fun _ => by omega)) ?_
      refine SL.pure rfl rfl rfl (PureOp.loads (vs := [.int .i64 ((nth G ((ixB G g).toNat)).1), .int .i64 ((nth G ((ixB G g).toNat)).2.1), .int .i64 ((nth G ((ixB G g).toNat)).2.2)]) Try.underlying47 rfl rfl (fun _ => (RowIs.ownc 4 rfl ((ixB G g).toNat) 0 3 (rowsF encBag G (ixB G g).toNat) (fun j hj => encBag_get (by omega) (by omega)))) sz47) ?_
      refine SL.alloc rfl rfl zero47 (fun b2 hb2 => ?_)
      refine SL.norm [_, _, _, _, _, _, _, _] rfl ?_
      refine SL.store 7 rfl rfl rfl rfl sz47 rfl rfl ?_
      refine SL.norm [_, _, _, _, _, _, _, _] rfl ?_
      refine SL.nil_then ?_
      refine WC.seq ?_
      refine WC.drawh ([Item.triv, Item.own w0.heap.size ta n tc 3 1 (cellsOf encI T), Item.own w0.heap.size ra n rc 3 1 (cellsOf encI R), Item.own w0.heap.size aa n ac 4 1 (cellsOf encBo A), Item.own w0.heap.size ga G.length gc 47 3 (cellsOf encBag G), X, Item.cells b1 [.int .i64 0, .int .i64 0, .int .i64 0] 47, Item.cells b2 [.int .i64 ((nth G ((ixB G g).toNat)).1), .int .i64 ((nth G ((ixB G g).toNat)).2.1), .int .i64 ((nth G ((ixB G g).toNat)).2.2)] 47]) 20 [false, false, false, false, false, false, false, false, false, false, false, false, false, false, false, false, false, false, false, false] rfl rfl rfl ?_
      refine SD.take 0 [true, false, false, false, false, false, false, false, false, false, false, false, false, false, false, false, false, false, false, false] rfl (by kernel_rfl) rfl (fun _ h => (HeapOk.settriv h (i := 0) rfl)) rfl rfl rfl (PureOp.move rfl) ?_
      refine SD.take 2 [true, false, true, false, false, false, false, false, false, false, false, false, false, false, false, false, false, false, false, false] rfl (by kernel_rfl) rfl (fun _ h => (HeapOk.settriv h (i := 0) rfl)) rfl rfl rfl (PureOp.move rfl) ?_
      refine SD.take 3 [true, false, true, true, false, false, false, false, false, false, false, false, false, false, false, false, false, false, false, false] rfl (by kernel_rfl) rfl (fun _ h => (HeapOk.settriv h (i := 0) rfl)) rfl rfl rfl (PureOp.nilCheckp rfl) ?_
      refine SD.take 4 [true, false, true, true, true, false, false, false, false, false, false, false, false, false, false, false, false, false, false, false] rfl (by kernel_rfl) rfl (fun _ h => (HeapOk.settriv h (i := 0) rfl)) rfl rfl rfl (PureOp.fieldAddrT 3 Try.underlying59 rfl sz38 rfl rfl) ?_
      refine SD.take 6 [true, false, true, true, true, false, true, false, false, false, false, false, false, false, false, false, false, false, false, false] rfl (by kernel_rfl) rfl (fun _ h => (HeapOk.settriv h (i := 0) rfl)) rfl rfl rfl (PureOp.move rfl) ?_
      refine SD.take 9 [true, false, true, true, true, false, true, false, false, true, false, false, false, false, false, false, false, false, false, false] rfl (by kernel_rfl) rfl (fun _ h => (HeapOk.settriv h (i := 0) rfl)) rfl rfl rfl (PureOp.move rfl) ?_
      refine SD.take 10 [true, false, true, true, true, false, true, false, false, true, true, false, false, false, false, false, false, false, false, false] rfl (by kernel_rfl) rfl (fun _ h => (HeapOk.settriv h (i := 0) rfl)) rfl rfl rfl (PureOp.nilCheckp rfl) ?_
      refine SD.take 11 [true, false, true, true, true, false, true, false, false, true, true, true, false, false, false, false, false, false, false, false] rfl (by kernel_rfl) rfl (fun _ h => (HeapOk.settriv h (i := 0) rfl)) rfl rfl rfl (PureOp.fieldAddrT 3 Try.underlying59 rfl sz38 rfl rfl) ?_
      refine SD.take 13 [true, false, true, true, true, false, true, false, false, true, true, true, false, true, false, false, false, false, false, false] rfl (by kernel_rfl) rfl (fun _ h => (HeapOk.settriv h (i := 0) rfl)) rfl rfl rfl (PureOp.move rfl) ?_
      refine SD.take 14 [true, false, true, true, true, false, true, false, false, true, true, true, false, true, true, false, false, false, false, false] rfl (by kernel_rfl) rfl (fun _ h => (HeapOk.settriv h (i := 0) rfl)) rfl rfl rfl (PureOp.add rfl rfl (fun _ => by omega)) ?_
      refine SD.all [1, 5, 12] (by kernel_rfl) (by simp) ⟨⟨_, [true, true, true, true, true, false, true, false, false, true, true, true, false, true, true, false, false, false, false, false], rfl, rfl, ?_⟩, ⟨_, [true, false, true, true, true, true, true, false, false, true, true, true, false, true, true, false, false, false, false, false], rfl, rfl, ?_⟩, ⟨_, [true, false, true, true, true, false, true, false, false, true, true, true, true, true, true, false, false, false, false, false], rfl, rfl, ?_⟩, trivial⟩
      · skip
        refine SL.buildSlice0 rfl rfl Try.underlying38 elem47 (fun b3 hb3 => ?_)
        refine SL.norm [_, _, _, _, _, _, _, _, _] rfl ?_
        refine SD.back (fun _ h => (HeapOk.settriv (HeapOk.take h 8) (i := 0) rfl)) ?_
        refine SD.all [5, 12] (by kernel_rfl) (by simp) ⟨⟨_, [true, true, true, true, true, true, true, false, false, true, true, true, false, true, true, false, false, false, false, false], rfl, rfl, ?_⟩, ⟨_, [true, true, true, true, true, false, true, false, false, true, true, true, true, true, true, false, false, false, false, false], rfl, rfl, ?_⟩, trivial⟩
        · skip
          refine SL.pure rfl rfl rfl (PureOp.load (v := .slice ga G.length gc) Try.underlying38 rfl rfl (fun _ => (CellIs.cells 0 rfl rfl))) ?_
          refine SD.back (fun _ h => (HeapOk.settriv (HeapOk.take h 8) (i := 0) rfl)) ?_
          refine SD.take 7 [true, true, true, true, true, true, true, true, false, true, true, true, false, true, true, false, false, false, false, false] rfl (by kernel_rfl) rfl (fun _ h => (HeapOk.settriv (HeapOk.take h 8) (i := 0) rfl)) rfl rfl rfl (PureOp.sliceho 4 Try.underlying38 sz47 rfl rfl rfl (fun _ => by omega)) ?_
          refine SD.all [8, 12] (by kernel_rfl) (by simp) ⟨⟨_, [true, true, true, true, true, true, true, true, true, true, true, true, false, true, true, false, false, false, false, false], rfl, rfl, ?_⟩, ⟨_, [true, true, true, true, true, true, true, true, false, true, true, true, true, true, true, false, false, false, false, false], rfl, rfl, ?_⟩, trivial⟩
          · skip
            refine SL.append 8 rfl rfl Try.underlying38 elem47 rfl rfl rfl rfl (fun w hw => SrcIs.of (SliceIn.subrows (SliceIn.rows (hw.mem (i := 4) rfl) encBag_len (Nat.le_refl _)) rfl 0 ((ixB G g).toNat) (by omega) (by omega)) encBag_len (by simp only [List.length_take, List.length_drop]; omega)) (by exact all_one_cells (fun x => rfl) _) (by omega) (by omega) (fun ao1_ cap1_ => ?_)
            refine SL.norm [_, _, _, _, _, _, _, _, _] rfl ?_
            refine SD.back (fun _ h => (HeapOk.settriv (HeapOk.take h 8) (i := 0) rfl)) ?_
            refine SD.one 12 [true, true, true, true, true, true, true, true, true, true, true, true, true, true, true, false, false, false, false, false] (by kernel_rfl) rfl rfl ?_
            refine SL.pure rfl rfl rfl (PureOp.load (v := .slice ga G.length gc) Try.underlying38 rfl rfl (fun _ => (CellIs.cells 0 rfl rfl))) ?_
            refine SD.back (fun _ h => (HeapOk.settriv (HeapOk.take h 8) (i := 0) rfl)) ?_
            refine SD.take 15 [true, true, true, true, true, true, true, true, true, true, true, true, true, true, true, true, false, false, false, false] rfl (by kernel_rfl) rfl (fun _ h => (HeapOk.settriv (HeapOk.take h 8) (i := 0) rfl)) rfl rfl rfl (PureOp.slicel Try.underlying38 sz47 rfl rfl (fun _ => by omega)) ?_
            refine SD.one 16 [true, true, true, true, true, true, true, true, true, true, true, true, true, true, true, true, true, false, false, false] (by kernel_rfl) rfl rfl ?_
            refine SL.append 8 rfl rfl Try.underlying38 elem47 rfl rfl rfl rfl (fun w hw => SrcIs.of (SliceIn.subrows (SliceIn.rows (hw.mem (i := 4) rfl) encBag_len (Nat.le_refl _)) rfl ((ixB G g + 1).toNat) G.length (by omega) (by omega)) encBag_len (by simp only [List.length_take, List.length_drop]; omega)) (by exact all_one_cells (fun x => rfl) _) (by omega) (by omega) (fun ao2_ cap2_ => ?_)
            refine SL.itemxs 8 rfl (show _ = cellsOf encBag (G.take (ixB G g).toNat ++ G.drop ((ixB G g).toNat + 1)) from by rw [List.nil_append, ← cellsOf_append, List.drop_zero, Nat.sub_zero, List.take_of_length_le (show (G.drop (ixB G g + 1).toNat).length ≤ G.length - (ixB G g + 1).toNat from by rw [List.length_drop]; exact Nat.le_refl _), show (ixB G g + 1).toNat = (ixB G g).toNat + 1 from by omega]) ?_
            refine SL.norm [_, _, _, _, _, _, _, _, _] rfl ?_
            refine SD.back (fun _ h => (HeapOk.settriv (HeapOk.take h 8) (i := 0) rfl)) ?_
            refine SD.take 17 [true, true, true, true, true, true, true, true, true, true, true, true, true, true, true, true, true, true, false, false] rfl (by kernel_rfl) rfl (fun _ h => (HeapOk.settriv (HeapOk.take h 8) (i := 0) rfl)) rfl rfl rfl (PureOp.nilCheckp rfl) ?_
            refine SD.take 18 [true, true, true, true, true, true, true, true, true, true, true, true, true, true, true, true, true, true, true, false] rfl (by kernel_rfl) rfl (fun _ h => (HeapOk.settriv (HeapOk.take h 8) (i := 0) rfl)) rfl rfl rfl (PureOp.fieldAddrT 3 Try.underlying59 rfl sz38 rfl rfl) ?_
            refine SD.one 19 [true, true, true, true, true, true, true, true, true, true, true, true, true, true, true, true, true, true, true, true] (by kernel_rfl) rfl rfl ?_
            refine SL.store 0 rfl rfl rfl rfl sz38 rfl rfl ?_
            refine SL.norm [_, _, _, _, _, _, _, _, _] rfl ?_
            refine SD.back (fun _ h => (HeapOk.settriv (HeapOk.take h 8) (i := 0) rfl)) ?_
            refine SD.done (by kernel_rfl) ?_
            refine QX.ofK ?_
            refine QX.then_ ?_
            refine WC.seq ?_
            refine WC.region ?_
            refine SL.pure rfl rfl rfl (PureOp.loads (vs := [.int .i64 ((nth G ((ixB G g).toNat)).1), .int .i64 ((nth G ((ixB G g).toNat)).2.1), .int .i64 ((nth G ((ixB G g).toNat)).2.2)]) Try.underlying47 rfl rfl (fun _ => (RowIs.cells 7 0 3 rfl rfl)) sz47) ?_
            refine SL.store 6 rfl rfl rfl rfl sz47 rfl rfl ?_
            refine SL.norm [_, _, _, _, _, _, _, _, _] rfl ?_
            refine SL.pure rfl rfl rfl (PureOp.assign rfl) ?_
            refine SL.nil_then ?_
            refine WC.ret ?_
            refine QX.bodyv rfl (RVs.cons (RV.cell rfl Try.underlying47 rfl (RowIs.cells 6 0 3 rfl rfl) sz47) (RVs.cons (RV.tmp rfl) RVs.nil)) ?_
            intro w hw
            have q : unE cl G g = 0 := by rw [unE, if_neg (by rw [hcl]; decide), if_neg (by omega)]
            have qb : unG cl G g = G.take (ixB G g).toNat ++ G.drop ((ixB G g).toNat + 1) := by rw [unG, if_pos q]
            have qm : unB cl G g = nth G (ixB G g).toNat := by rw [unB, if_pos q]
            have ql : (G.take (ixB G g).toNat ++ G.drop ((ixB G g).toNat + 1)).length = G.length - 1 := by simp only [List.length_append, List.length_take, List.length_drop]; omega
            refine ⟨(ao2_, cap2_), by rw [q, qm]; rfl, trivial, ?_⟩
            rw [qb]
            have h := HeapOk.pick [0, 1, 2, 3, 8, 5] (by decide) hw
            rw [ql]
            have e : 0 + ((ixB G g).toNat - 0) + (G.length - (ixB G g + 1).toNat) = G.length - 1 := by omega
            rw [e] at h
            exact h
          · skip
            refine SL.pure rfl rfl rfl (PureOp.load (v := .slice ga G.length gc) Try.underlying38 rfl rfl (fun _ => (CellIs.cells 0 rfl rfl))) ?_
            refine SD.back (fun _ h => (HeapOk.settriv (HeapOk.take h 8) (i := 0) rfl)) ?_
            refine SD.take 15 [true, true, true, true, true, true, true, true, false, true, true, true, true, true, true, true, false, false, false, false] rfl (by kernel_rfl) rfl (fun _ h => (HeapOk.settriv (HeapOk.take h 8) (i := 0) rfl)) rfl rfl rfl (PureOp.slicel Try.underlying38 sz47 rfl rfl (fun _ => by omega)) ?_
            refine SD.one 8 [true, true, true, true, true, true, true, true, true, true, true, true, true, true, true, true, false, false, false, false] (by kernel_rfl) rfl rfl ?_
            refine SL.append 8 rfl rfl Try.underlying38 elem47 rfl rfl rfl rfl (fun w hw => SrcIs.of (SliceIn.subrows (SliceIn.rows (hw.mem (i := 4) rfl) encBag_len (Nat.le_refl _)) rfl 0 ((ixB G g).toNat) (by omega) (by omega)) encBag_len (by simp only [List.length_take, List.length_drop]; omega)) (by exact all_one_cells (fun x => rfl) _) (by omega) (by omega) (fun ao3_ cap3_ => ?_)
            refine SL.norm [_, _, _, _, _, _, _, _, _] rfl ?_
            refine SD.back (fun _ h => (HeapOk.settriv (HeapOk.take h 8) (i := 0) rfl)) ?_
            refine SD.one 16 [true, true, true, true, true, true, true, true, true, true, true, true, true, true, true, true, true, false, false, false] (by kernel_rfl) rfl rfl ?_
            refine SL.append 8 rfl rfl Try.underlying38 elem47 rfl rfl rfl rfl (fun w hw => SrcIs.of (SliceIn.subrows (SliceIn.rows (hw.mem (i := 4) rfl) encBag_len (Nat.le_refl _)) rfl ((ixB G g + 1).toNat) G.length (by omega) (by omega)) encBag_len (by simp only [List.length_take, List.length_drop]; omega)) (by exact all_one_cells (fun x => rfl) _) (by omega) (by omega) (fun ao4_ cap4_ => ?_)
            refine SL.itemxs 8 rfl (show _ = cellsOf encBag (G.take (ixB G g).toNat ++ G.drop ((ixB G g).toNat + 1)) from by rw [List.nil_append, ← cellsOf_append, List.drop_zero, Nat.sub_zero, List.take_of_length_le (show (G.drop (ixB G g + 1).toNat).length ≤ G.length - (ixB G g + 1).toNat from by rw [List.length_drop]; exact Nat.le_refl _), show (ixB G g + 1).toNat = (ixB G g).toNat + 1 from by omega]) ?_
            refine SL.norm [_, _, _, _, _, _, _, _, _] rfl ?_
            refine SD.back (fun _ h => (HeapOk.settriv (HeapOk.take h 8) (i := 0) rfl)) ?_
            refine SD.take 17 [true, true, true, true, true, true, true, true, true, true, true, true, true, true, true, true, true, true, false, false] rfl (by kernel_rfl) rfl (fun _ h => (HeapOk.settriv (HeapOk.take h 8) (i := 0) rfl)) rfl rfl rfl (PureOp.nilCheckp rfl) ?_
            refine SD.take 18 [true, true, true, true, true, true, true, true, true, true, true, true, true, true, true, true, true, true, true, false] rfl (by kernel_rfl) rfl (fun _ h => (HeapOk.settriv (HeapOk.take h 8) (i := 0) rfl)) rfl rfl rfl (PureOp.fieldAddrT 3 Try.underlying59 rfl sz38 rfl rfl) ?_
            refine SD.one 19 [true, true, true, true, true, true, true, true, true, true, true, true, true, true, true, true, true, true, true, true] (by kernel_rfl) rfl rfl ?_
            refine SL.store 0 rfl rfl rfl rfl sz38 rfl rfl ?_
            refine SL.norm [_, _, _, _, _, _, _, _, _] rfl ?_
            refine SD.back (fun _ h => (HeapOk.settriv (HeapOk.take h 8) (i := 0) rfl)) ?_
            refine SD.done (by kernel_rfl) ?_
            refine QX.ofK ?_
            refine QX.then_ ?_
            refine WC.seq ?_
            refine WC.region ?_
            refine SL.pure rfl rfl rfl (PureOp.loads (vs := [.int .i64 ((nth G ((ixB G g).toNat)).1), .int .i64 ((nth G ((ixB G g).toNat)).2.1), .int .i64 ((nth G ((ixB G g).toNat)).2.2)]) Try.underlying47 rfl rfl (fun _ => (RowIs.cells 7 0 3 rfl rfl)) sz47) ?_
            refine SL.store 6 rfl rfl rfl rfl sz47 rfl rfl ?_
            refine SL.norm [_, _, _, _, _, _, _, _, _] rfl ?_
            refine SL.pure rfl rfl rfl (PureOp.assign rfl) ?_
            refine SL.nil_then ?_
            refine WC.ret ?_
            refine QX.bodyv rfl (RVs.cons (RV.cell rfl Try.underlying47 rfl (RowIs.cells 6 0 3 rfl rfl) sz47) (RVs.cons (RV.tmp rfl) RVs.nil)) ?_
            intro w hw
            have q : unE cl G g = 0 := by rw [unE, if_neg (by rw [hcl]; decide), if_neg (by omega)]
            have qb : unG cl G g = G.take (ixB G g).toNat ++ G.drop ((ixB G g).toNat + 1) := by rw [unG, if_pos q]
            have qm : unB cl G g = nth G (ixB G g).toNat := by rw [unB, if_pos q]
            have ql : (G.take (ixB G g).toNat ++ G.drop ((ixB G g).toNat + 1)).length = G.length - 1 := by simp only [List.length_append, List.length_take, List.length_drop]; omega
            refine ⟨(ao4_, cap4_), by rw [q, qm]; rfl, trivial, ?_⟩
            rw [qb]
            have h := HeapOk.pick [0, 1, 2, 3, 8, 5] (by decide) hw
            rw [ql]
            have e : 0 + ((ixB G g).toNat - 0) + (G.length - (ixB G g + 1).toNat) = G.length - 1 := by omega
            rw [e] at h
            exact h
        · skip
          refine SL.pure rfl rfl rfl (PureOp.load (v := .slice ga G.length gc) Try.underlying38 rfl rfl (fun _ => (CellIs.cells 0 rfl rfl))) ?_
          refine SD.back (fun _ h => (HeapOk.settriv (HeapOk.take h 8) (i := 0) rfl)) ?_
          refine SD.take 15 [true, true, true, true, true, false, true, false, false, true, true, true, true, true, true, true, false, false, false, false] rfl (by kernel_rfl) rfl (fun _ h => (HeapOk.settriv (HeapOk.take h 8) (i := 0) rfl)) rfl rfl rfl (PureOp.slicel Try.underlying38 sz47 rfl rfl (fun _ => by omega)) ?_
          refine SD.one 5 [true, true, true, true, true, true, true, false, false, true, true, true, true, true, true, true, false, false, false, false] (by kernel_rfl) rfl rfl ?_
          refine SL.pure rfl rfl rfl (PureOp.load (v := .slice ga G.length gc) Try.underlying38 rfl rfl (fun _ => (CellIs.cells 0 rfl rfl))) ?_
          refine SD.back (fun _ h => (HeapOk.settriv (HeapOk.take h 8) (i := 0) rfl)) ?_
          refine SD.take 7 [true, true, true, true, true, true, true, true, false, true, true, true, true, true, true, true, false, false, false, false] rfl (by kernel_rfl) rfl (fun _ h => (HeapOk.settriv (HeapOk.take h 8) (i := 0) rfl)) rfl rfl rfl (PureOp.sliceho 4 Try.underlying38 sz47 rfl rfl rfl (fun _ => by omega)) ?_
          refine SD.one 8 [true, true, true, true, true, true, true, true, true, true, true, true, true, true, true, true, false, false, false, false] (by kernel_rfl) rfl rfl ?_
          refine SL.append 8 rfl rfl Try.underlying38 elem47 rfl rfl rfl rfl (fun w hw => SrcIs.of (SliceIn.subrows (SliceIn.rows (hw.mem (i := 4) rfl) encBag_len (Nat.le_refl _)) rfl 0 ((ixB G g).toNat) (by omega) (by omega)) encBag_len (by simp only [List.length_take, List.length_drop]; omega)) (by exact all_one_cells (fun x => rfl) _) (by omega) (by omega) (fun ao5_ cap5_ => ?_)
          refine SL.norm [_, _, _, _, _, _, _, _, _] rfl ?_
          refine SD.back (fun _ h => (HeapOk.settriv (HeapOk.take h 8) (i := 0) rfl)) ?_
          refine SD.one 16 [true, true, true, true, true, true, true, true, true, true, true, true, true, true, true, true, true, false, false, false] (by kernel_rfl) rfl rfl ?_
          refine SL.append 8 rfl rfl Try.underlying38 elem47 rfl rfl rfl rfl (fun w hw => SrcIs.of (SliceIn.subrows (SliceIn.rows (hw.mem (i := 4) rfl) encBag_len (Nat.le_refl _)) rfl ((ixB G g + 1).toNat) G.length (by omega) (by omega)) encBag_len (by simp only [List.length_take, List.length_drop]; omega)) (by exact all_one_cells (fun x => rfl) _) (by omega) (by omega) (fun ao6_ cap6_ => ?_)
          refine SL.itemxs 8 rfl (show _ = cellsOf encBag (G.take (ixB G g).toNat ++ G.drop ((ixB G g).toNat + 1)) from by rw [List.nil_append, ← cellsOf_append, List.drop_zero, Nat.sub_zero, List.take_of_length_le (show (G.drop (ixB G g + 1).toNat).length ≤ G.length - (ixB G g + 1).toNat from by rw [List.length_drop]; exact Nat.le_refl _), show (ixB G g + 1).toNat = (ixB G g).toNat + 1 from by omega]) ?_
          refine SL.norm [_, _, _, _, _, _, _, _, _] rfl ?_
          refine SD.back (fun _ h => (HeapOk.settriv (HeapOk.take h 8) (i := 0) rfl)) ?_
          refine SD.take 17 [true, true, true, true, true, true, true, true, true, true, true, true, true, true, true, true, true, true, false, false] rfl (by kernel_rfl) rfl (fun _ h => (HeapOk.settriv (HeapOk.take h 8) (i := 0) rfl)) rfl rfl rfl (PureOp.nilCheckp rfl) ?_
          refine SD.take 18 [true, true, true, true, true, true, true, true, true, true, true, true, true, true, true, true, true, true, true, false] rfl (by kernel_rfl) rfl (fun _ h => (HeapOk.settriv (HeapOk.take h 8) (i := 0) rfl)) rfl rfl rfl (PureOp.fieldAddrT 3 Try.underlying59 rfl sz38 rfl rfl) ?_
          refine SD.one 19 [true, true, true, true, true, true, true, true, true, true, true, true, true, true, true, true, true, true, true, true] (by kernel_rfl) rfl rfl ?_
          refine SL.store 0 rfl rfl rfl rfl sz38 rfl rfl ?_
          refine SL.norm [_, _, _, _, _, _, _, _, _] rfl ?_
          refine SD.back (fun _ h => (HeapOk.settriv (HeapOk.take h 8) (i := 0) rfl)) ?_
          refine SD.done (by kernel_rfl) ?_
          refine QX.ofK ?_
          refine QX.then_ ?_
          refine WC.seq ?_
          refine WC.region ?_
          refine SL.pure rfl rfl rfl (PureOp.loads (vs := [.int .i64 ((nth G ((ixB G g).toNat)).1), .int .i64 ((nth G ((ixB G g).toNat)).2.1), .int .i64 ((nth G ((ixB G g).toNat)).2.2)]) Try.underlying47 rfl rfl (fun _ => (RowIs.cells 7 0 3 rfl rfl)) sz47) ?_
          refine SL.store 6 rfl rfl rfl rfl sz47 rfl rfl ?_
          refine SL.norm [_, _, _, _, _, _, _, _, _] rfl ?_
          refine SL.pure rfl rfl rfl (PureOp.assign rfl) ?_
          refine SL.nil_then ?_
          refine WC.ret ?_
          refine QX.bodyv rfl (RVs.cons (RV.cell rfl Try.underlying47 rfl (RowIs.cells 6 0 3 rfl rfl) sz47) (RVs.cons (RV.tmp rfl) RVs.nil)) ?_
          intro w hw
          have q : unE cl G g = 0 := by rw [unE, if_neg (by rw [hcl]; decide), if_neg (by omega)]
          have qb : unG cl G g = G.take (ixB G g).toNat ++ G.drop ((ixB G g).toNat + 1) := by rw [unG, if_pos q]
          have qm : unB cl G g = nth G (ixB G g).toNat := by rw [unB, if_pos q]
          have ql : (G.take (ixB G g).toNat ++ G.drop ((ixB G g).toNat + 1)).length = G.length - 1 := by simp only [List.length_append, List.length_take, List.length_drop]; omega
          refine ⟨(ao6_, cap6_), by rw [q, qm]; rfl, trivial, ?_⟩
          rw [qb]
          have h := HeapOk.pick [0, 1, 2, 3, 8, 5] (by decide) hw
          rw [ql]
          have e : 0 + ((ixB G g).toNat - 0) + (G.length - (ixB G g + 1).toNat) = G.length - 1 := by omega
          rw [e] at h
          exact h
      · skip
        refine SL.pure rfl rfl rfl (PureOp.load (v := .slice ga G.length gc) Try.underlying38 rfl rfl (fun _ => (CellIs.cells 0 rfl rfl))) ?_
        refine SD.back (fun _ h => (HeapOk.settriv h (i := 0) rfl)) ?_
        refine SD.take 7 [true, false, true, true, true, true, true, true, false, true, true, true, false, true, true, false, false, false, false, false] rfl (by kernel_rfl) rfl (fun _ h => (HeapOk.settriv h (i := 0) rfl)) rfl rfl rfl (PureOp.sliceho 4 Try.underlying38 sz47 rfl rfl rfl (fun _ => by omega)) ?_
        refine SD.all [1, 12] (by kernel_rfl) (by simp) ⟨⟨_, [true, true, true, true, true, true, true, true, false, true, true, true, false, true, true, false, false, false, false, false], rfl, rfl, ?_⟩, ⟨_, [true, false, true, true, true, true, true, true, false, true, true, true, true, true, true, false, false, false, false, false], rfl, rfl, ?_⟩, trivial⟩
        · skip
          refine SL.buildSlice0 rfl rfl Try.underlying38 elem47 (fun b4 hb4 => ?_)
          refine SL.norm [_, _, _, _, _, _, _, _, _] rfl ?_
          refine SD.back (fun _ h => (HeapOk.settriv (HeapOk.take h 8) (i := 0) rfl)) ?_
          refine SD.all [8, 12] (by kernel_rfl) (by simp) ⟨⟨_, [true, true, true, true, true, true, true, true, true, true, true, true, false, true, true, false, false, false, false, false], rfl, rfl, ?_⟩, ⟨_, [true, true, true, true, true, true, true, true, false, true, true, true, true, true, true, false, false, false, false, false], rfl, rfl, ?_⟩, trivial⟩
          · skip
            refine SL.append 8 rfl rfl Try.underlying38 elem47 rfl rfl rfl rfl (fun w hw => SrcIs.of (SliceIn.subrows (SliceIn.rows (hw.mem (i := 4) rfl) encBag_len (Nat.le_refl _)) rfl 0 ((ixB G g).toNat) (by omega) (by omega)) encBag_len (by simp only [List.length_take, List.length_drop]; omega)) (by exact all_one_cells (fun x => rfl) _) (by omega) (by omega) (fun ao7_ cap7_ => ?_)
            refine SL.norm [_, _, _, _, _, _, _, _, _] rfl ?_
            refine SD.back (fun _ h => (HeapOk.settriv (HeapOk.take h 8) (i := 0) rfl)) ?_
            refine SD.one 12 [true, true, true, true, true, true, true, true, true, true, true, true, true, true, true, false, false, false, false, false] (by kernel_rfl) rfl rfl ?_
            refine SL.pure rfl rfl rfl (PureOp.load (v := .slice ga G.length gc) Try.underlying38 rfl rfl (fun _ => (CellIs.cells 0 rfl rfl))) ?_
            refine SD.back (fun _ h => (HeapOk.settriv (HeapOk.take h 8) (i := 0) rfl)) ?_
            refine SD.take 15 [true, true, true, true, true, true, true, true, true, true, true, true, true, true, true, true, false, false, false, false] rfl (by kernel_rfl) rfl (fun _ h => (HeapOk.settriv (HeapOk.take h 8) (i := 0) rfl)) rfl rfl rfl (PureOp.slicel Try.underlying38 sz47 rfl rfl (fun _ => by omega)) ?_
            refine SD.one 16 [true, true, true, true, true, true, true, true, true, true, true, true, true, true, true, true, true, false, false, false] (by kernel_rfl) rfl rfl ?_
            refine SL.append 8 rfl rfl Try.underlying38 elem47 rfl rfl rfl rfl (fun w hw => SrcIs.of (SliceIn.subrows (SliceIn.rows (hw.mem (i := 4) rfl) encBag_len (Nat.le_refl _)) rfl ((ixB G g + 1).toNat) G.length (by omega) (by omega)) encBag_len (by simp only [List.length_take, List.length_drop]; omega)) (by exact all_one_cells (fun x => rfl) _) (by omega) (by omega) (fun ao8_ cap8_ => ?_)
            refine SL.itemxs 8 rfl (show _ = cellsOf encBag (G.take (ixB G g).toNat ++ G.drop ((ixB G g).toNat + 1)) from by rw [List.nil_append, ← cellsOf_append, List.drop_zero, Nat.sub_zero, List.take_of_length_le (show (G.drop (ixB G g + 1).toNat).length ≤ G.length - (ixB G g + 1).toNat from by rw [List.length_drop]; exact Nat.le_refl _), show (ixB G g + 1).toNat = (ixB G g).toNat + 1 from by omega]) ?_
            refine SL.norm [_, _, _, _, _, _, _, _, _] rfl ?_
            refine SD.back (fun _ h => (HeapOk.settriv (HeapOk.take h 8) (i := 0) rfl)) ?_
            refine SD.take 17 [true, true, true, true, true, true, true, true, true, true, true, true, true, true, true, true, true, true, false, false] rfl (by kernel_rfl) rfl (fun _ h => (HeapOk.settriv (HeapOk.take h 8) (i := 0) rfl)) rfl rfl rfl (PureOp.nilCheckp rfl) ?_
            refine SD.take 18 [true, true, true, true, true, true, true, true, true, true, true, true, true, true, true, true, true, true, true, false] rfl (by kernel_rfl) rfl (fun _ h => (HeapOk.settriv (HeapOk.take h 8) (i := 0) rfl)) rfl rfl rfl (PureOp.fieldAddrT 3 Try.underlying59 rfl sz38 rfl rfl) ?_
            refine SD.one 19 [true, true, true, true, true, true, true, true, true, true, true, true, true, true, true, true, true, true, true, true] (by kernel_rfl) rfl rfl ?_
            refine SL.store 0 rfl rfl rfl rfl sz38 rfl rfl ?_
            refine SL.norm [_, _, _, _, _, _, _, _, _] rfl ?_
            refine SD.back (fun _ h => (HeapOk.settriv (HeapOk.take h 8) (i := 0) rfl)) ?_
            refine SD.done (by kernel_rfl) ?_
            refine QX.ofK ?_
            refine QX.then_ ?_
            refine WC.seq ?_
            refine WC.region ?_
            refine SL.pure rfl rfl rfl (PureOp.loads (vs := [.int .i64 ((nth G ((ixB G g).toNat)).1), .int .i64 ((nth G ((ixB G g).toNat)).2.1), .int .i64 ((nth G ((ixB G g).toNat)).2.2)]) Try.underlying47 rfl rfl (fun _ => (RowIs.cells 7 0 3 rfl rfl)) sz47) ?_
            refine SL.store 6 rfl rfl rfl rfl sz47 rfl rfl ?_
            refine SL.norm [_, _, _, _, _, _, _, _, _] rfl ?_
            refine SL.pure rfl rfl rfl (PureOp.assign rfl) ?_
            refine SL.nil_then ?_
            refine WC.ret ?_
            refine QX.bodyv rfl (RVs.cons (RV.cell rfl Try.underlying47 rfl (RowIs.cells 6 0 3 rfl rfl) sz47) (RVs.cons (RV.tmp rfl) RVs.nil)) ?_
            intro w hw
            have q : unE cl G g = 0 := by rw [unE, if_neg (by rw [hcl]; decide), if_neg (by omega)]
            have qb : unG cl G g = G.take (ixB G g).toNat ++ G.drop ((ixB G g).toNat + 1) := by rw [unG, if_pos q]
            have qm : unB cl G g = nth G (ixB G g).toNat := by rw [unB, if_pos q]
            have ql : (G.take (ixB G g).toNat ++ G.drop ((ixB G g).toNat + 1)).length = G.length - 1 := by simp only [List.length_append, List.length_take, List.length_drop]; omega
            refine ⟨(ao8_, cap8_), by rw [q, qm]; rfl, trivial, ?_⟩
            rw [qb]
            have h := HeapOk.pick [0, 1, 2, 3, 8, 5] (by decide) hw
            rw [ql]
            have e : 0 + ((ixB G g).toNat - 0) + (G.length - (ixB G g + 1).toNat) = G.length - 1 := by omega
            rw [e] at h
            exact h
          · skip
            refine SL.pure rfl rfl rfl (PureOp.load (v := .slice ga G.length gc) Try.underlying38 rfl rfl (fun _ => (CellIs.cells 0 rfl rfl))) ?_
            refine SD.back (fun _ h => (HeapOk.settriv (HeapOk.take h 8) (i := 0) rfl)) ?_
            refine SD.take 15 [true, true, true, true, true, true, true, true, false, true, true, true, true, true, true, true, false, false, false, false] rfl (by kernel_rfl) rfl (fun _ h => (HeapOk.settriv (HeapOk.take h 8) (i := 0) rfl)) rfl rfl rfl (PureOp.slicel Try.underlying38 sz47 rfl rfl (fun _ => by omega)) ?_
            refine SD.one 8 [true, true, true, true, true, true, true, true, true, true, true, true, true, true, true, true, false, false, false, false] (by kernel_rfl) rfl rfl ?_
            refine SL.append 8 rfl rfl Try.underlying38 elem47 rfl rfl rfl rfl (fun w hw => SrcIs.of (SliceIn.subrows (SliceIn.rows (hw.mem (i := 4) rfl) encBag_len (Nat.le_refl _)) rfl 0 ((ixB G g).toNat) (by omega) (by omega)) encBag_len (by simp only [List.length_take, List.length_drop]; omega)) (by exact all_one_cells (fun x => rfl) _) (by omega) (by omega) (fun ao9_ cap9_ => ?_)
            refine SL.norm [_, _, _, _, _, _, _, _, _] rfl ?_
            refine SD.back (fun _ h => (HeapOk.settriv (HeapOk.take h 8) (i := 0) rfl)) ?_
            refine SD.one 16 [true, true, true, true, true, true, true, true, true, true, true, true, true, true, true, true, true, false, false, false] (by kernel_rfl) rfl rfl ?_
            refine SL.append 8 rfl rfl Try.underlying38 elem47 rfl rfl rfl rfl (fun w hw => SrcIs.of (SliceIn.subrows (SliceIn.rows (hw.mem (i := 4) rfl) encBag_len (Nat.le_refl _)) rfl ((ixB G g + 1).toNat) G.length (by omega) (by omega)) encBag_len (by simp only [List.length_take, List.length_drop]; omega)) (by exact all_one_cells (fun x => rfl) _) (by omega) (by omega) (fun ao10_ cap10_ => ?_)
            refine SL.itemxs 8 rfl (show _ = cellsOf encBag (G.take (ixB G g).toNat ++ G.drop ((ixB G g).toNat + 1)) from by rw [List.nil_append, ← cellsOf_append, List.drop_zero, Nat.sub_zero, List.take_of_length_le (show (G.drop (ixB G g + 1).toNat).length ≤ G.length - (ixB G g + 1).toNat from by rw [List.length_drop]; exact Nat.le_refl _), show (ixB G g + 1).toNat = (ixB G g).toNat + 1 from by omega]) ?_
            refine SL.norm [_, _, _, _, _, _, _, _, _] rfl ?_
            refine SD.back (fun _ h => (HeapOk.settriv (HeapOk.take h 8) (i := 0) rfl)) ?_
            refine SD.take 17 [true, true, true, true, true, true, true, true, true, true, true, true, true, true, true, true, true, true, false, false] rfl (by kernel_rfl) rfl (fun _ h => (HeapOk.settriv (HeapOk.take h 8) (i := 0) rfl)) rfl rfl rfl (PureOp.nilCheckp rfl) ?_
            refine SD.take 18 [true, true, true, true, true, true, true, true, true, true, true, true, true, true, true, true, true, true, true, false] rfl (by kernel_rfl) rfl (fun _ h => (HeapOk.settriv (HeapOk.take h 8) (i := 0) rfl)) rfl rfl rfl (PureOp.fieldAddrT 3 Try.underlying59 rfl sz38 rfl rfl) ?_
            refine SD.one 19 [true, true, true, true, true, true, true, true, true, true, true, true, true, true, true, true, true, true, true, true] (by kernel_rfl) rfl rfl ?_
            refine SL.store 0 rfl rfl rfl rfl sz38 rfl rfl ?_
            refine SL.norm [_, _, _, _, _, _, _, _, _] rfl ?_
            refine SD.back (fun _ h => (HeapOk.settriv (HeapOk.take h 8) (i := 0) rfl)) ?_
            refine SD.done (by kernel_rfl) ?_
            refine QX.ofK ?_
            refine QX.then_ ?_
            refine WC.seq ?_
            refine WC.region ?_
            refine SL.pure rfl rfl rfl (PureOp.loads (vs := [.int .i64 ((nth G ((ixB G g).toNat)).1), .int .i64 ((nth G ((ixB G g).toNat)).2.1), .int .i64 ((nth G ((ixB G g).toNat)).2.2)]) Try.underlying47 rfl rfl (fun _ => (RowIs.cells 7 0 3 rfl rfl)) sz47) ?_
            refine SL.store 6 rfl rfl rfl rfl sz47 rfl rfl ?_
            refine SL.norm [_, _, _, _, _, _, _, _, _] rfl ?_
            refine SL.pure rfl rfl rfl (PureOp.assign rfl) ?_
            refine SL.nil_then ?_
            refine WC.ret ?_
            refine QX.bodyv rfl (RVs.cons (RV.cell rfl Try.underlying47 rfl (RowIs.cells 6 0 3 rfl rfl) sz47) (RVs.cons (RV.tmp rfl) RVs.nil)) ?_
            intro w hw
            have q : unE cl G g = 0 := by rw [unE, if_neg (by rw [hcl]; decide), if_neg (by omega)]
            have qb : unG cl G g = G.take (ixB G g).toNat ++ G.drop ((ixB G g).toNat + 1) := by rw [unG, if_pos q]
            have qm : unB cl G g = nth G (ixB G g).toNat := by rw [unB, if_pos q]
            have ql : (G.take (ixB G g).toNat ++ G.drop ((ixB G g).toNat + 1)).length = G.length - 1 := by simp only [List.length_append, List.length_take, List.length_drop]; omega
            refine ⟨(ao10_, cap10_), by rw [q, qm]; rfl, trivial, ?_⟩
            rw [qb]
            have h := HeapOk.pick [0, 1, 2, 3, 8, 5] (by decide) hw
            rw [ql]
            have e : 0 + ((ixB G g).toNat - 0) + (G.length - (ixB G g + 1).toNat) = G.length - 1 := by omega
            rw [e] at h
            exact h
        · skip
          refine SL.pure rfl rfl rfl (PureOp.load (v := .slice ga G.length gc) Try.underlying38 rfl rfl (fun _ => (CellIs.cells 0 rfl rfl))) ?_
          refine SD.back (fun _ h => (HeapOk.settriv h (i := 0) rfl)) ?_
          refine SD.take 15 [true, false, true, true, true, true, true, true, false, true, true, true, true, true, true, true, false, false, false, false] rfl (by kernel_rfl) rfl (fun _ h => (HeapOk.settriv h (i := 0) rfl)) rfl rfl rfl (PureOp.slicel Try.underlying38 sz47 rfl rfl (fun _ => by omega)) ?_
          refine SD.one 1 [true, true, true, true, true, true, true, true, false, true, true, true, true, true, true, true, false, false, false, false] (by kernel_rfl) rfl rfl ?_
          refine SL.buildSlice0 rfl rfl Try.underlying38 elem47 (fun b5 hb5 => ?_)
          refine SL.norm [_, _, _, _, _, _, _, _, _] rfl ?_
          refine SD.back (fun _ h => (HeapOk.settriv (HeapOk.take h 8) (i := 0) rfl)) ?_
          refine SD.one 8 [true, true, true, true, true, true, true, true, true, true, true, true, true, true, true, true, false, false, false, false] (by kernel_rfl) rfl rfl ?_
          refine SL.append 8 rfl rfl Try.underlying38 elem47 rfl rfl rfl rfl (fun w hw => SrcIs.of (SliceIn.subrows (SliceIn.rows (hw.mem (i := 4) rfl) encBag_len (Nat.le_refl _)) rfl 0 ((ixB G g).toNat) (by omega) (by omega)) encBag_len (by simp only [List.length_take, List.length_drop]; omega)) (by exact all_one_cells (fun x => rfl) _) (by omega) (by omega) (fun ao11_ cap11_ => ?_)
          refine SL.norm [_, _, _, _, _, _, _, _, _] rfl ?_
          refine SD.back (fun _ h => (HeapOk.settriv (HeapOk.take h 8) (i := 0) rfl)) ?_
          refine SD.one 16 [true, true, true, true, true, true, true, true, true, true, true, true, true, true, true, true, true, false, false, false] (by kernel_rfl) rfl rfl ?_
          refine SL.append 8 rfl rfl Try.underlying38 elem47 rfl rfl rfl rfl (fun w hw => SrcIs.of (SliceIn.subrows (SliceIn.rows (hw.mem (i := 4) rfl) encBag_len (Nat.le_refl _)) rfl ((ixB G g + 1).toNat) G.length (by omega) (by omega)) encBag_len (by simp only [List.length_take, List.length_drop]; omega)) (by exact all_one_cells (fun x => rfl) _) (by omega) (by omega) (fun ao12_ cap12_ => ?_)
          refine SL.itemxs 8 rfl (show _ = cellsOf encBag (G.take (ixB G g).toNat ++ G.drop ((ixB G g).toNat + 1)) from by rw [List.nil_append, ← cellsOf_append, List.drop_zero, Nat.sub_zero, List.take_of_length_le (show (G.drop (ixB G g + 1).toNat).length ≤ G.length - (ixB G g + 1).toNat from by rw [List.length_drop]; exact Nat.le_refl _), show (ixB G g + 1).toNat = (ixB G g).toNat + 1 from by omega]) ?_
          refine SL.norm [_, _, _, _, _, _, _, _, _] rfl ?_
          refine SD.back (fun _ h => (HeapOk.settriv (HeapOk.take h 8) (i := 0) rfl)) ?_
          refine SD.take 17 [true, true, true, true, true, true, true, true, true, true, true, true, true, true, true, true, true, true, false, false] rfl (by kernel_rfl) rfl (fun _ h => (HeapOk.settriv (HeapOk.take h 8) (i := 0) rfl)) rfl rfl rfl (PureOp.nilCheckp rfl) ?_
          refine SD.take 18 [true, true, true, true, true, true, true, true, true, true, true, true, true, true, true, true, true, true, true, false] rfl (by kernel_rfl) rfl (fun _ h => (HeapOk.settriv (HeapOk.take h 8) (i := 0) rfl)) rfl rfl rfl (PureOp.fieldAddrT 3 Try.underlying59 rfl sz38 rfl rfl) ?_
          refine SD.one 19 [true, true, true, true, true, true, true, true, true, true, true, true, true, true, true, true, true, true, true, true] (by kernel_rfl) rfl rfl ?_
          refine SL.store 0 rfl rfl rfl rfl sz38 rfl rfl ?_
          refine SL.norm [_, _, _, _, _, _, _, _, _] rfl ?_
          refine SD.back (fun _ h => (HeapOk.settriv (HeapOk.take h 8) (i := 0) rfl)) ?_
          refine SD.done (by kernel_rfl) ?_
          refine QX.ofK ?_
          refine QX.then_ ?_
          refine WC.seq ?_
          refine WC.region ?_
          refine SL.pure rfl rfl rfl (PureOp.loads (vs := [.int .i64 ((nth G ((ixB G g).toNat)).1), .int .i64 ((nth G ((ixB G g).toNat)).2.1), .int .i64 ((nth G ((ixB G g).toNat)).2.2)]) Try.underlying47 rfl rfl (fun _ => (RowIs.cells 7 0 3 rfl rfl)) sz47) ?_
          refine SL.store 6 rfl rfl rfl rfl sz47 rfl rfl ?_
          refine SL.norm [_, _, _, _, _, _, _, _, _] rfl ?_
          refine SL.pure rfl rfl rfl (PureOp.assign rfl) ?_
          refine SL.nil_then ?_
          refine WC.ret ?_
          refine QX.bodyv rfl (RVs.cons (RV.cell rfl Try.underlying47 rfl (RowIs.cells 6 0 3 rfl rfl) sz47) (RVs.cons (RV.tmp rfl) RVs.nil)) ?_
          intro w hw
          have q : unE cl G g = 0 := by rw [unE, if_neg (by rw [hcl]; decide), if_neg (by omega)]
          have qb : unG cl G g = G.take (ixB G g).toNat ++ G.drop ((ixB G g).toNat + 1) := by rw [unG, if_pos q]
          have qm : unB cl G g = nth G (ixB G g).toNat := by rw [unB, if_pos q]
          have ql : (G.take (ixB G g).toNat ++ G.drop ((ixB G g).toNat + 1)).length = G.length - 1 := by simp only [List.length_append, List.length_take, List.length_drop]; omega
          refine ⟨(ao12_, cap12_), by rw [q, qm]; rfl, trivial, ?_⟩
          rw [qb]
          have h := HeapOk.pick [0, 1, 2, 3, 8, 5] (by decide) hw
          rw [ql]
          have e : 0 + ((ixB G g).toNat - 0) + (G.length - (ixB G g + 1).toNat) = G.length - 1 := by omega
          rw [e] at h
          exact h
      · skip
        refine SL.pure rfl rfl rfl (PureOp.load (v := .slice ga G.length gc) Try.underlying38 rfl rfl (fun _ => (CellIs.cells 0 rfl rfl))) ?_
        refine SD.back (fun _ h => (HeapOk.settriv h (i := 0) rfl)) ?_
        refine SD.take 15 [true, false, true, true, true, false, true, false, false, true, true, true, true, true, true, true, false, false, false, false] rfl (by kernel_rfl) rfl (fun _ h => (HeapOk.settriv h (i := 0) rfl)) rfl rfl rfl (PureOp.slicel Try.underlying38 sz47 rfl rfl (fun _ => by omega)) ?_
        refine SD.all [1, 5] (by kernel_rfl) (by simp) ⟨⟨_, [true, true, true, true, true, false, true, false, false, true, true, true, true, true, true, true, false, false, false, false], rfl, rfl, ?_⟩, ⟨_, [true, false, true, true, true, true, true, false, false, true, true, true, true, true, true, true, false, false, false, false], rfl, rfl, ?_⟩, trivial⟩
        · skip
          refine SL.buildSlice0 rfl rfl Try.underlying38 elem47 (fun b6 hb6 => ?_)
          refine SL.norm [_, _, _, _, _, _, _, _, _] rfl ?_
          refine SD.back (fun _ h => (HeapOk.settriv (HeapOk.take h 8) (i := 0) rfl)) ?_
          refine SD.one 5 [true, true, true, true, true, true, true, false, false, true, true, true, true, true, true, true, false, false, false, false] (by kernel_rfl) rfl rfl ?_
          refine SL.pure rfl rfl rfl (PureOp.load (v := .slice ga G.length gc) Try.underlying38 rfl rfl (fun _ => (CellIs.cells 0 rfl rfl))) ?_
          refine SD.back (fun _ h => (HeapOk.settriv (HeapOk.take h 8) (i := 0) rfl)) ?_
          refine SD.take 7 [true, true, true, true, true, true, true, true, false, true, true, true, true, true, true, true, false, false, false, false] rfl (by kernel_rfl) rfl (fun _ h => (HeapOk.settriv (HeapOk.take h 8) (i := 0) rfl)) rfl rfl rfl (PureOp.sliceho 4 Try.underlying38 sz47 rfl rfl rfl (fun _ => by omega)) ?_
          refine SD.one 8 [true, true, true, true, true, true, true, true, true, true, true, true, true, true, true, true, false, false, false, false] (by kernel_rfl) rfl rfl ?_
          refine SL.append 8 rfl rfl Try.underlying38 elem47 rfl rfl rfl rfl (fun w hw => SrcIs.of (SliceIn.subrows (SliceIn.rows (hw.mem (i := 4) rfl) encBag_len (Nat.le_refl _)) rfl 0 ((ixB G g).toNat) (by omega) (by omega)) encBag_len (by simp only [List.length_take, List.length_drop]; omega)) (by exact all_one_cells (fun x => rfl) _) (by omega) (by omega) (fun ao13_ cap13_ => ?_)
          refine SL.norm [_, _, _, _, _, _, _, _, _] rfl ?_
          refine SD.back (fun _ h => (HeapOk.settriv (HeapOk.take h 8) (i := 0) rfl)) ?_
          refine SD.one 16 [true, true, true, true, true, true, true, true, true, true, true, true, true, true, true, true, true, false, false, false] (by kernel_rfl) rfl rfl ?_
          refine SL.append 8 rfl rfl Try.underlying38 elem47 rfl rfl rfl rfl (fun w hw => SrcIs.of (SliceIn.subrows (SliceIn.rows (hw.mem (i := 4) rfl) encBag_len (Nat.le_refl _)) rfl ((ixB G g + 1).toNat) G.length (by omega) (by omega)) encBag_len (by simp only [List.length_take, List.length_drop]; omega)) (by exact all_one_cells (fun x => rfl) _) (by omega) (by omega) (fun ao14_ cap14_ => ?_)
          refine SL.itemxs 8 rfl (show _ = cellsOf encBag (G.take (ixB G g).toNat ++ G.drop ((ixB G g).toNat + 1)) from by rw [List.nil_append, ← cellsOf_append, List.drop_zero, Nat.sub_zero, List.take_of_length_le (show (G.drop (ixB G g + 1).toNat).length ≤ G.length - (ixB G g + 1).toNat from by rw [List.length_drop]; exact Nat.le_refl _), show (ixB G g + 1).toNat = (ixB G g).toNat + 1 from by omega]) ?_
          refine SL.norm [_, _, _, _, _, _, _, _, _] rfl ?_
          refine SD.back (fun _ h => (HeapOk.settriv (HeapOk.take h 8) (i := 0) rfl)) ?_
          refine SD.take 17 [true, true, true, true, true, true, true, true, true, true, true, true, true, true, true, true, true, true, false, false] rfl (by kernel_rfl) rfl (fun _ h => (HeapOk.settriv (HeapOk.take h 8) (i := 0) rfl)) rfl rfl rfl (PureOp.nilCheckp rfl) ?_
          refine SD.take 18 [true, true, true, true, true, true, true, true, true, true, true, true, true, true, true, true, true, true, true, false] rfl (by kernel_rfl) rfl (fun _ h => (HeapOk.settriv (HeapOk.take h 8) (i := 0) rfl)) rfl rfl rfl (PureOp.fieldAddrT 3 Try.underlying59 rfl sz38 rfl rfl) ?_
          refine SD.one 19 [true, true, true, true, true, true, true, true, true, true, true, true, true, true, true, true, true, true, true, true] (by kernel_rfl) rfl rfl ?_
          refine SL.store 0 rfl rfl rfl rfl sz38 rfl rfl ?_
          refine SL.norm [_, _, _, _, _, _, _, _, _] rfl ?_
          refine SD.back (fun _ h => (HeapOk.settriv (HeapOk.take h 8) (i := 0) rfl)) ?_
          refine SD.done (by kernel_rfl) ?_
          refine QX.ofK ?_
          refine QX.then_ ?_
          refine WC.seq ?_
          refine WC.region ?_
          refine SL.pure rfl rfl rfl (PureOp.loads (vs := [.int .i64 ((nth G ((ixB G g).toNat)).1), .int .i64 ((nth G ((ixB G g).toNat)).2.1), .int .i64 ((nth G ((ixB G g).toNat)).2.2)]) Try.underlying47 rfl rfl (fun _ => (RowIs.cells 7 0 3 rfl rfl)) sz47) ?_
          refine SL.store 6 rfl rfl rfl rfl sz47 rfl rfl ?_
          refine SL.norm [_, _, _, _, _, _, _, _, _] rfl ?_
          refine SL.pure rfl rfl rfl (PureOp.assign rfl) ?_
          refine SL.nil_then ?_
          refine WC.ret ?_
          refine QX.bodyv rfl (RVs.cons (RV.cell rfl Try.underlying47 rfl (RowIs.cells 6 0 3 rfl rfl) sz47) (RVs.cons (RV.tmp rfl) RVs.nil)) ?_
          intro w hw
          have q : unE cl G g = 0 := by rw [unE, if_neg (by rw [hcl]; decide), if_neg (by omega)]
          have qb : unG cl G g = G.take (ixB G g).toNat ++ G.drop ((ixB G g).toNat + 1) := by rw [unG, if_pos q]
          have qm : unB cl G g = nth G (ixB G g).toNat := by rw [unB, if_pos q]
          have ql : (G.take (ixB G g).toNat ++ G.drop ((ixB G g).toNat + 1)).length = G.length - 1 := by simp only [List.length_append, List.length_take, List.length_drop]; omega
          refine ⟨(ao14_, cap14_), by rw [q, qm]; rfl, trivial, ?_⟩
          rw [qb]
          have h := HeapOk.pick [0, 1, 2, 3, 8, 5] (by decide) hw
          rw [ql]
          have e : 0 + ((ixB G g).toNat - 0) + (G.length - (ixB G g + 1).toNat) = G.length - 1 := by omega
          rw [e] at h
          exact h
        · skip
          refine SL.pure rfl rfl rfl (PureOp.load (v := .slice ga G.length gc) Try.underlying38 rfl rfl (fun _ => (CellIs.cells 0 rfl rfl))) ?_
          refine SD.back (fun _ h => (HeapOk.settriv h (i := 0) rfl)) ?_
          refine SD.take 7 [true, false, true, true, true, true, true, true, false, true, true, true, true, true, true, true, false, false, false, false] rfl (by kernel_rfl) rfl (fun _ h => (HeapOk.settriv h (i := 0) rfl)) rfl rfl rfl (PureOp.sliceho 4 Try.underlying38 sz47 rfl rfl rfl (fun _ => by omega)) ?_
          refine SD.one 1 [true, true, true, true, true, true, true, true, false, true, true, true, true, true, true, true, false, false, false, false] (by kernel_rfl) rfl rfl ?_
          refine SL.buildSlice0 rfl rfl Try.underlying38 elem47 (fun b7 hb7 => ?_)
          refine SL.norm [_, _, _, _, _, _, _, _, _] rfl ?_
          refine SD.back (fun _ h => (HeapOk.settriv (HeapOk.take h 8) (i := 0) rfl)) ?_
          refine SD.one 8 [true, true, true, true, true, true, true, true, true, true, true, true, true, true, true, true, false, false, false, false] (by kernel_rfl) rfl rfl ?_
          refine SL.append 8 rfl rfl Try.underlying38 elem47 rfl rfl rfl rfl (fun w hw => SrcIs.of (SliceIn.subrows (SliceIn.rows (hw.mem (i := 4) rfl) encBag_len (Nat.le_refl _)) rfl 0 ((ixB G g).toNat) (by omega) (by omega)) encBag_len (by simp only [List.length_take, List.length_drop]; omega)) (by exact all_one_cells (fun x => rfl) _) (by omega) (by omega) (fun ao15_ cap15_ => ?_)
          refine SL.norm [_, _, _, _, _, _, _, _, _] rfl ?_
          refine SD.back (fun _ h => (HeapOk.settriv (HeapOk.take h 8) (i := 0) rfl)) ?_
          refine SD.one 16 [true, true, true, true, true, true, true, true, true, true, true, true, true, true, true, true, true, false, false, false] (by kernel_rfl) rfl rfl ?_
          refine SL.append 8 rfl rfl Try.underlying38 elem47 rfl rfl rfl rfl (fun w hw => SrcIs.of (SliceIn.subrows (SliceIn.rows (hw.mem (i := 4) rfl) encBag_len (Nat.le_refl _)) rfl ((ixB G g + 1).toNat) G.length (by omega) (by omega)) encBag_len (by simp only [List.length_take, List.length_drop]; omega)) (by exact all_one_cells (fun x => rfl) _) (by omega) (by omega) (fun ao16_ cap16_ => ?_)
          refine SL.itemxs 8 rfl (show _ = cellsOf encBag (G.take (ixB G g).toNat ++ G.drop ((ixB G g).toNat + 1)) from by rw [List.nil_append, ← cellsOf_append, List.drop_zero, Nat.sub_zero, List.take_of_length_le (show (G.drop (ixB G g + 1).toNat).length ≤ G.length - (ixB G g + 1).toNat from by rw [List.length_drop]; exact Nat.le_refl _), show (ixB G g + 1).toNat = (ixB G g).toNat + 1 from by omega]) ?_
          refine SL.norm [_, _, _, _, _, _, _, _, _] rfl ?_
          refine SD.back (fun _ h => (HeapOk.settriv (HeapOk.take h 8) (i := 0) rfl)) ?_
          refine SD.take 17 [true, true, true, true, true, true, true, true, true, true, true, true, true, true, true, true, true, true, false, false] rfl (by kernel_rfl) rfl (fun _ h => (HeapOk.settriv (HeapOk.take h 8) (i := 0) rfl)) rfl rfl rfl (PureOp.nilCheckp rfl) ?_
          refine SD.take 18 [true, true, true, true, true, true, true, true, true, true, true, true, true, true, true, true, true, true, true, false] rfl (by kernel_rfl) rfl (fun _ h => (HeapOk.settriv (HeapOk.take h 8) (i := 0) rfl)) rfl rfl rfl (PureOp.fieldAddrT 3 Try.underlying59 rfl sz38 rfl rfl) ?_
          refine SD.one 19 [true, true, true, true, true, true, true, true, true, true, true, true, true, true, true, true, true, true, true, true] (by kernel_rfl) rfl rfl ?_
          refine SL.store 0 rfl rfl rfl rfl sz38 rfl rfl ?_
          refine SL.norm [_, _, _, _, _, _, _, _, _] rfl ?_
          refine SD.back (fun _ h => (HeapOk.settriv (HeapOk.take h 8) (i := 0) rfl)) ?_
          refine SD.done (by kernel_rfl) ?_
          refine QX.ofK ?_
          refine QX.then_ ?_
          refine WC.seq ?_
          refine WC.region ?_
          refine SL.pure rfl rfl rfl (PureOp.loads (vs := [.int .i64 ((nth G ((ixB G g).toNat)).1), .int .i64 ((nth G ((ixB G g).toNat)).2.1), .int .i64 ((nth G ((ixB G g).toNat)).2.2)]) Try.underlying47 rfl rfl (fun _ => (RowIs.cells 7 0 3 rfl rfl)) sz47) ?_
          refine SL.store 6 rfl rfl rfl rfl sz47 rfl rfl ?_
          refine SL.norm [_, _, _, _, _, _, _, _, _] rfl ?_
          refine SL.pure rfl rfl rfl (PureOp.assign rfl) ?_
          refine SL.nil_then ?_
          refine WC.ret ?_
          refine QX.bodyv rfl (RVs.cons (RV.cell rfl Try.underlying47 rfl (RowIs.cells 6 0 3 rfl rfl) sz47) (RVs.cons (RV.tmp rfl) RVs.nil)) ?_
          intro w hw
          have q : unE cl G g = 0 := by rw [unE, if_neg (by rw [hcl]; decide), if_neg (by omega)]
          have qb : unG cl G g = G.take (ixB G g).toNat ++ G.drop ((ixB G g).toNat + 1) := by rw [unG, if_pos q]
          have qm : unB cl G g = nth G (ixB G g).toNat := by rw [unB, if_pos q]
          have ql : (G.take (ixB G g).toNat ++ G.drop ((ixB G g).toNat + 1)).length = G.length - 1 := by simp only [List.length_append, List.length_take, List.length_drop]; omega
          refine ⟨(ao16_, cap16_), by rw [q, qm]; rfl, trivial, ?_⟩
          rw [qb]
          have h := HeapOk.pick [0, 1, 2, 3, 8, 5] (by decide) hw
          rw [ql]
          have e : 0 + ((ixB G g).toNat - 0) + (G.length - (ixB G g + 1).toNat) = G.length - 1 := by omega
          rw [e] at h
          exact h

set_option maxHeartbeats 4000000 in
set_option maxRecDepth 100000 in
theorem pmove_ok (b : Nat) (T R : List Int) (A : List Bool) (cl : Bool) (G : List Bag) (ta ra aa ga : Option Addr) (n tc rc ac gc : Nat) (hM : Made T R) (hn : n = T.length) (hR : R.length = n) (h9 : n ≤ 999) (hA : A.length = n) (hK : Known T G) (hG : G.length ≤ 500) (t : Int) (x : Bool) (al : Int) (hal : al ≠ 0) (w0 : World) : MC Try.prog 41 [.pointer (some ⟨b, 0, none⟩), .int .i64 t, .bool x, .int .i64 al] w0 [Item.cells b [.bool true, .bool cl, .slice ta n tc, .slice ra n rc, .slice aa n ac, .slice ga G.length gc] 44, Item.own w0.heap.size ta n tc 3 1 (cellsOf encI T), Item.own w0.heap.size ra n rc 3 1 (cellsOf encI R), Item.own w0.heap.size aa n ac 4 1 (cellsOf encBo A), Item.own w0.heap.size ga G.length gc 47 3 (cellsOf encBag G)] (fun u_ : Option Addr × Nat => .int .i64 (movE T A cl t x al)) (fun u_ => [Item.cells b [.bool true, .bool cl, .slice ta n tc, .slice ra n rc, .slice aa n ac, .slice u_.1 G.length u_.2] 44, Item.own w0.heap.size ta n tc 3 1 (cellsOf encI T), Item.own w0.heap.size ra n rc 3 1 (cellsOf encI R), Item.own w0.heap.size aa n ac 4 1 (cellsOf encBo (movA T A cl t x)), Item.own w0.heap.size u_.1 G.length u_.2 47 3 (cellsOf encBag G)]) (fun _ => True) (fun _ => []) := by
  refine mcalls (N := 38) Try.func41 rfl rfl rfl ?_
  intro X
  show WC _ _ _ _ _ _ _ [Item.cells b [.bool true, .bool cl, .slice ta n tc, .slice ra n rc, .slice aa n ac, .slice ga G.length gc] 44, Item.own w0.heap.size ta n tc 3 1 (cellsOf encI T), Item.own w0.heap.size ra n rc 3 1 (cellsOf encI R), Item.own w0.heap.size aa n ac 4 1 (cellsOf encBo A), Item.own w0.heap.size ga G.length gc 47 3 (cellsOf encBag G), X]
  refine WC.seq ?_
  refine WC.region ?_
  refine SL.pure rfl rfl rfl (PureOp.assign rfl) ?_
  refine SL.nil_then ?_
  refine WC.seq ?_
  refine WC.seq ?_
  refine WC.region ?_
  refine SL.pure rfl rfl rfl (PureOp.move rfl) ?_
  refine SL.calle rfl rfl rfl rfl rfl rfl callable38 (fun w hw => popen_ok b T R A cl G ta ra aa ga n tc rc ac gc hM hn hR h9 hA hK (by omega) w (ObjIn.of hw 0 rfl) (SliceIn.rows (hw.mem (i := 1) rfl) encI_len (by omega)) (SliceIn.rows (hw.mem (i := 2) rfl) encI_len (by omega)) (SliceIn.rows (hw.mem (i := 3) rfl) encBo_len (by first | omega | (rw [hA]; exact Nat.le_refl _))) (SliceIn.rows (hw.mem (i := 4) rfl) encBag_len (Nat.le_refl _))) ?_
  refine SL.norm [_, _, _, _, _, _] rfl ?_
  refine SL.pure rfl rfl rfl (PureOp.assign rfl) ?_
  refine SL.nil_then ?_
  refine WC.seq ?_
  refine WC.region ?_
  refine SL.pure rfl rfl rfl (PureOp.move rfl) ?_
  refine SL.pure rfl rfl rfl (PureOp.neq rfl rfl) ?_
  refine SL.nil_then ?_
  refine WC.cond rfl (fun h1 => ?_) (fun h1 => ?_)
  · try simp only [Bool.and_eq_true, Bool.or_eq_true, Bool.not_eq_true', Bool.not_eq_false', Bool.and_eq_false_iff, Bool.or_eq_false_iff, decide_eq_true_eq, decide_eq_false_iff_not, Int.not_lt, Int.not_le, ne_eq, Decidable.not_not] at h1
    have hcl : cl = true := by
      by_cases q : cl = true
      · exact q
      · rw [if_neg q] at h1; exact absurd rfl h1
    refine WC.seq ?_
    refine WC.region ?_
    refine SL.pure rfl rfl rfl (PureOp.move rfl) ?_
    refine SL.pure rfl rfl rfl (PureOp.assign rfl) ?_
    refine SL.nil_then ?_
    refine WC.ret ?_
    refine QX.ret_then ?_
    refine QX.body1 rfl rfl ?_
    intro w hw
    have q : movE T A cl t x al = 10 := by rw [movE, if_pos hcl]
    have qb : movA T A cl t x = A := by rw [movA_of (al := al) hal, if_neg (by rw [q]; decide)]
    refine ⟨(ga, gc), by rw [q, if_pos hcl], trivial, ?_⟩
    rw [qb]
    exact HeapOk.pick [0, 1, 2, 3, 4, 5] (by decide) hw
  · try simp only [Bool.and_eq_true, Bool.or_eq_true, Bool.not_eq_true', Bool.not_eq_false', Bool.and_eq_false_iff, Bool.or_eq_false_iff, decide_eq_true_eq, decide_eq_false_iff_not, Int.not_lt, Int.not_le, ne_eq, Decidable.not_not] at h1
    have hcl : cl = false := by
      cases cl
      · rfl
      · exact absurd h1 (by decide)
    refine WC.skip ?_
    refine QX.then_ ?_
    refine WC.seq ?_
    refine WC.region ?_
    refine SL.pure rfl rfl rfl (PureOp.move rfl) ?_
    refine SL.pure rfl rfl rfl (PureOp.move rfl) ?_
    refine SL.calle rfl rfl rfl rfl rfl rfl callable27 (fun w hw => pfind_ok b T R A cl G ta ra aa ga n tc rc ac gc hM hn hR h9 hA hK (by omega) t w (ObjIn.of hw 0 rfl) (SliceIn.rows (hw.mem (i := 1) rfl) encI_len (by omega)) (SliceIn.rows (hw.mem (i := 2) rfl) encI_len (by omega)) (SliceIn.rows (hw.mem (i := 3) rfl) encBo_len (by first | omega | (rw [hA]; exact Nat.le_refl _))) (SliceIn.rows (hw.mem (i := 4) rfl) encBag_len (Nat.le_refl _))) ?_
    refine SL.norm [_, _, _, _, _, _] rfl ?_
    refine SL.pure rfl rfl rfl (PureOp.assign rfl) ?_
    refine SL.nil_then ?_
    refine WC.seq ?_
    refine WC.seq ?_
    refine WC.region ?_
    refine SL.pure rfl rfl rfl (PureOp.move rfl) ?_
    refine SL.pure rfl rfl rfl (PureOp.lss rfl rfl) ?_
    refine SL.nil_then ?_
    refine WC.cond rfl (fun h2 => ?_) (fun h2 => ?_)
    · try simp only [Bool.and_eq_true, Bool.or_eq_true, Bool.not_eq_true', Bool.not_eq_false', Bool.and_eq_false_iff, Bool.or_eq_false_iff, decide_eq_true_eq, decide_eq_false_iff_not, Int.not_lt, Int.not_le, ne_eq, Decidable.not_not] at h2
      refine WC.seq ?_
      refine WC.region ?_
      refine SL.pure rfl rfl rfl (PureOp.assign rfl) ?_
      refine SL.nil_then ?_
      refine WC.ret ?_
      refine QX.ret_then ?_
      refine QX.body1 rfl rfl ?_
      intro w hw
      have q : movE T A cl t x al = 7 := by rw [movE, if_neg (by rw [hcl]; decide), if_pos (by omega)]
      have qb : movA T A cl t x = A := by rw [movA_of (al := al) hal, if_neg (by rw [q]; decide)]
      refine ⟨(ga, gc), by rw [q], trivial, ?_⟩
      rw [qb]
      exact HeapOk.pick [0, 1, 2, 3, 4, 5] (by decide) hw
    · try simp only [Bool.and_eq_true, Bool.or_eq_true, Bool.not_eq_true', Bool.not_eq_false', Bool.and_eq_false_iff, Bool.or_eq_false_iff, decide_eq_true_eq, decide_eq_false_iff_not, Int.not_lt, Int.not_le, ne_eq, Decidable.not_not] at h2
      have qx := ixT_hit (T := T) (t := t) (by omega)
      refine WC.skip ?_
      refine QX.then_ ?_
      refine WC.seq ?_
      refine WC.seq ?_
      refine WC.region ?_
      refine SL.pure rfl rfl rfl (PureOp.move rfl) ?_
      refine SL.pure rfl rfl rfl (PureOp.nilCheckp rfl) ?_
      refine SL.pure rfl rfl rfl (PureOp.fieldAddrT 4 Try.underlying44 rfl sz42 rfl rfl) ?_
      refine SL.pure rfl rfl rfl (PureOp.load (v := .slice aa n ac) Try.underlying42 rfl rfl (fun _ => (CellIs.cells 0 rfl rfl))) ?_
      refine SL.pure rfl rfl rfl (PureOp.move rfl) ?_
      refine SL.pure rfl rfl rfl (PureOp.indexAddr Try.underlying42 sz4 rfl rfl (AoOk.own 3 rfl) (fun _ => by omega)) ?_
      refine SL.pure rfl rfl rfl (PureOp.load (v := .bool (nth A ((ixT T t).toNat))) Try.underlying4 rfl rfl (fun _ => (CellIs.ownc 3 rfl ((ixT T t).toNat) 0 (by first | exact encBo_get (by omega) | exact encI_get (by omega) | exact encBag_get (by omega) (by decide))))) ?_
      refine SL.pure rfl rfl rfl (PureOp.move rfl) ?_
      refine SL.pure rfl rfl rfl (PureOp.eqlb rfl rfl Try.underlying4) ?_
      refine SL.nil_then ?_
      refine WC.cond rfl (fun h3 => ?_) (fun h3 => ?_)
      · try simp only [Bool.and_eq_true, Bool.or_eq_true, Bool.not_eq_true', Bool.not_eq_false', Bool.and_eq_false_iff, Bool.or_eq_false_iff, decide_eq_true_eq, decide_eq_false_iff_not, Int.not_lt, Int.not_le, ne_eq, Decidable.not_not] at h3
        refine WC.seq ?_
        refine WC.region ?_
        refine SL.pure rfl rfl rfl (PureOp.move rfl) ?_
        refine SL.pure rfl rfl rfl (PureOp.assign rfl) ?_
        refine SL.nil_then ?_
        refine WC.ret ?_
        refine QX.ret_then ?_
        refine QX.body1 rfl rfl ?_
        intro w hw
        have q : movE T A cl t x al = al := by rw [movE, if_neg (by rw [hcl]; decide), if_neg (by omega), if_pos (by simpa using h3)]
        have qb : movA T A cl t x = A := by rw [movA_of (al := al) hal, if_neg (by rw [q]; exact hal)]
        refine ⟨(ga, gc), by rw [q], trivial, ?_⟩
        rw [qb]
        exact HeapOk.pick [0, 1, 2, 3, 4, 5] (by decide) hw
      · try simp only [Bool.and_eq_true, Bool.or_eq_true, Bool.not_eq_true', Bool.not_eq_false', Bool.and_eq_false_iff, Bool.or_eq_false_iff, decide_eq_true_eq, decide_eq_false_iff_not, Int.not_lt, Int.not_le, ne_eq, Decidable.not_not] at h3
        refine WC.skip ?_
        refine QX.then_ ?_
        refine WC.seq ?_
        refine WC.region ?_
        refine SL.pure rfl rfl rfl (PureOp.move rfl) ?_
        refine SL.pure rfl rfl rfl (PureOp.nilCheckp rfl) ?_
        refine SL.pure rfl rfl rfl (PureOp.fieldAddrT 4 Try.underlying44 rfl sz42 rfl rfl) ?_
        refine SL.pure rfl rfl rfl (PureOp.load (v := .slice aa n ac) Try.underlying42 rfl rfl (fun _ => (CellIs.cells 0 rfl rfl))) ?_
        refine SL.pure rfl rfl rfl (PureOp.move rfl) ?_
        refine SL.pure rfl rfl rfl (PureOp.move rfl) ?_
        refine SL.pure rfl rfl rfl (PureOp.indexAddr Try.underlying42 sz4 rfl rfl (AoOk.own 3 rfl) (fun _ => by omega)) ?_
        refine SL.storeown (k := ((ixT T t).toNat)) (j := 0) 3 rfl rfl rfl rfl sz4 (by rw [cellsOf_length encBo_len]; omega) rfl ?_
        refine SL.itemxs 3 rfl (show _ = cellsOf encBo (A.set (ixT T t).toNat x) from encBo_set (by omega)) ?_
        refine SL.norm [_, _, _, _, _, _] rfl ?_
        refine SL.nil_then ?_
        refine WC.seq ?_
        refine WC.region ?_
        refine SL.pure rfl rfl rfl (PureOp.assign rfl) ?_
        refine SL.nil_then ?_
        refine WC.ret ?_
        refine QX.body1 rfl rfl ?_
        intro w hw
        have q : movE T A cl t x al = 0 := by rw [movE, if_neg (by rw [hcl]; decide), if_neg (by omega), if_neg (by simpa using h3)]
        have qb : movA T A cl t x = A.set (ixT T t).toNat x := by rw [movA_of (al := al) hal, if_pos q]
        refine ⟨(ga, gc), by rw [q], trivial, ?_⟩
        rw [qb]
        exact HeapOk.pick [0, 1, 2, 3, 4, 5] (by decide) hw

set_option maxHeartbeats 4000000 in
set_option maxRecDepth 100000 in
theorem rboard_ok (b : Nat) (T R : List Int) (A : List Bool) (cl : Bool) (G : List Bag) (ta ra aa ga : Option Addr) (n tc rc ac gc : Nat) (hM : Made T R) (hn : n = T.length) (hR : R.length = n) (h9 : n ≤ 999) (hA : A.length = n) (hK : Known T G) (hG : G.length ≤ 500) (t : Int) (w0 : World) : MC Try.prog 31 [.pointer (some ⟨b, 0, none⟩), .int .i64 t] w0 [Item.cells b [.slice ta n tc, .slice ra n rc, .slice aa n ac, .slice ga G.length gc, .bool true, .bool cl] 59, Item.own w0.heap.size ta n tc 3 1 (cellsOf encI T), Item.own w0.heap.size ra n rc 3 1 (cellsOf encI R), Item.own w0.heap.size aa n ac 4 1 (cellsOf encBo A), Item.own w0.heap.size ga G.length gc 47 3 (cellsOf encBag G)] (fun u_ : Option Addr × Nat => .int .i64 (movE T A cl t true 6)) (fun u_ => [Item.cells b [.slice ta n tc, .slice ra n rc, .slice aa n ac, .slice u_.1 G.length u_.2, .bool true, .bool cl] 59, Item.own w0.heap.size ta n tc 3 1 (cellsOf encI T), Item.own w0.heap.size ra n rc 3 1 (cellsOf encI R), Item.own w0.heap.size aa n ac 4 1 (cellsOf encBo (movA T A cl t true)), Item.own w0.heap.size u_.1 G.length u_.2 47 3 (cellsOf encBag G)]) (fun _ => True) (fun _ => []) := by
  refine mcalls (N := 30) Try.func31 rfl rfl rfl ?_
  intro X
  show WC _ _ _ _ _ _ _ [Item.cells b [.slice ta n tc, .slice ra n rc, .slice aa n ac, .slice ga G.length gc, .bool true, .bool cl] 59, Item.own w0.heap.size ta n tc 3 1 (cellsOf encI T), Item.own w0.heap.size ra n rc 3 1 (cellsOf encI R), Item.own w0.heap.size aa n ac 4 1 (cellsOf encBo A), Item.own w0.heap.size ga G.length gc 47 3 (cellsOf encBag G), X]
  refine WC.seq ?_
  refine WC.region ?_
  refine SL.pure rfl rfl rfl (PureOp.assign rfl) ?_
  refine SL.nil_then ?_
  refine WC.seq ?_
  refine WC.seq ?_
  refine WC.region ?_
  refine SL.pure rfl rfl rfl (PureOp.move rfl) ?_
  refine SL.calle rfl rfl rfl rfl rfl rfl callable43 (fun w hw => rready_ok b T R A cl G ta ra aa ga n tc rc ac gc hM hn hR h9 hA hK (by omega) w (ObjIn.of hw 0 rfl) (SliceIn.rows (hw.mem (i := 1) rfl) encI_len (by omega)) (SliceIn.rows (hw.mem (i := 2) rfl) encI_len (by omega)) (SliceIn.rows (hw.mem (i := 3) rfl) encBo_len (by first | omega | (rw [hA]; exact Nat.le_refl _))) (SliceIn.rows (hw.mem (i := 4) rfl) encBag_len (Nat.le_refl _))) ?_
  refine SL.norm [_, _, _, _, _, _] rfl ?_
  refine SL.pure rfl rfl rfl (PureOp.assign rfl) ?_
  refine SL.nil_then ?_
  refine WC.seq ?_
  refine WC.region ?_
  refine SL.pure rfl rfl rfl (PureOp.move rfl) ?_
  refine SL.pure rfl rfl rfl (PureOp.neq rfl rfl) ?_
  refine SL.nil_then ?_
  refine WC.cond rfl (fun h1 => ?_) (fun h1 => ?_)
  · try simp only [Bool.and_eq_true, Bool.or_eq_true, Bool.not_eq_true', Bool.not_eq_false', Bool.and_eq_false_iff, Bool.or_eq_false_iff, decide_eq_true_eq, decide_eq_false_iff_not, Int.not_lt, Int.not_le, ne_eq, Decidable.not_not] at h1
    have hcl : cl = true := by
      by_cases q : cl = true
      · exact q
      · rw [if_neg q] at h1; exact absurd rfl h1
    refine WC.seq ?_
    refine WC.region ?_
    refine SL.pure rfl rfl rfl (PureOp.move rfl) ?_
    refine SL.pure rfl rfl rfl (PureOp.assign rfl) ?_
    refine SL.nil_then ?_
    refine WC.ret ?_
    refine QX.ret_then ?_
    refine QX.body1 rfl rfl ?_
    intro w hw
    have q : movE T A cl t true 6 = 10 := by rw [movE, if_pos hcl]
    have qb : movA T A cl t true = A := by rw [movA_of (al := 6) (by decide), if_neg (by rw [q]; decide)]
    refine ⟨(ga, gc), by rw [q, if_pos hcl], trivial, ?_⟩
    rw [qb]
    exact HeapOk.pick [0, 1, 2, 3, 4, 5] (by decide) hw
  · try simp only [Bool.and_eq_true, Bool.or_eq_true, Bool.not_eq_true', Bool.not_eq_false', Bool.and_eq_false_iff, Bool.or_eq_false_iff, decide_eq_true_eq, decide_eq_false_iff_not, Int.not_lt, Int.not_le, ne_eq, Decidable.not_not] at h1
    have hcl : cl = false := by
      cases cl
      · rfl
      · exact absurd h1 (by decide)
    refine WC.skip ?_
    refine QX.then_ ?_
    refine WC.seq ?_
    refine WC.region ?_
    refine SL.pure rfl rfl rfl (PureOp.move rfl) ?_
    refine SL.pure rfl rfl rfl (PureOp.move rfl) ?_
    refine SL.calle rfl rfl rfl rfl rfl rfl callable35 (fun w hw => rfind_ok b T R A cl G ta ra aa ga n tc rc ac gc hM hn hR h9 hA hK (by omega) t w (ObjIn.of hw 0 rfl) (SliceIn.rows (hw.mem (i := 1) rfl) encI_len (by omega)) (SliceIn.rows (hw.mem (i := 2) rfl) encI_len (by omega)) (SliceIn.rows (hw.mem (i := 3) rfl) encBo_len (by first | omega | (rw [hA]; exact Nat.le_refl _))) (SliceIn.rows (hw.mem (i := 4) rfl) encBag_len (Nat.le_refl _))) ?_
    refine SL.norm [_, _, _, _, _, _] rfl ?_
    refine SL.pure rfl rfl rfl (PureOp.assign rfl) ?_
    refine SL.nil_then ?_
    refine WC.seq ?_
    refine WC.seq ?_
    refine WC.region ?_
    refine SL.pure rfl rfl rfl (PureOp.move rfl) ?_
    refine SL.pure rfl rfl rfl (PureOp.lss rfl rfl) ?_
    refine SL.nil_then ?_
    refine WC.cond rfl (fun h2 => ?_) (fun h2 => ?_)
    · try simp only [Bool.and_eq_true, Bool.or_eq_true, Bool.not_eq_true', Bool.not_eq_false', Bool.and_eq_false_iff, Bool.or_eq_false_iff, decide_eq_true_eq, decide_eq_false_iff_not, Int.not_lt, Int.not_le, ne_eq, Decidable.not_not] at h2
      refine WC.seq ?_
      refine WC.region ?_
      refine SL.pure rfl rfl rfl (PureOp.assign rfl) ?_
      refine SL.nil_then ?_
      refine WC.ret ?_
      refine QX.ret_then ?_
      refine QX.body1 rfl rfl ?_
      intro w hw
      have q : movE T A cl t true 6 = 7 := by rw [movE, if_neg (by rw [hcl]; decide), if_pos (by omega)]
      have qb : movA T A cl t true = A := by rw [movA_of (al := 6) (by decide), if_neg (by rw [q]; decide)]
      refine ⟨(ga, gc), by rw [q], trivial, ?_⟩
      rw [qb]
      exact HeapOk.pick [0, 1, 2, 3, 4, 5] (by decide) hw
    · try simp only [Bool.and_eq_true, Bool.or_eq_true, Bool.not_eq_true', Bool.not_eq_false', Bool.and_eq_false_iff, Bool.or_eq_false_iff, decide_eq_true_eq, decide_eq_false_iff_not, Int.not_lt, Int.not_le, ne_eq, Decidable.not_not] at h2
      have qx := ixT_hit (T := T) (t := t) (by omega)
      refine WC.skip ?_
      refine QX.then_ ?_
      refine WC.seq ?_
      refine WC.seq ?_
      refine WC.region ?_
      refine SL.pure rfl rfl rfl (PureOp.move rfl) ?_
      refine SL.pure rfl rfl rfl (PureOp.nilCheckp rfl) ?_
      refine SL.pure rfl rfl rfl (PureOp.fieldAddrT 2 Try.underlying59 rfl sz42 rfl rfl) ?_
      refine SL.pure rfl rfl rfl (PureOp.load (v := .slice aa n ac) Try.underlying42 rfl rfl (fun _ => (CellIs.cells 0 rfl rfl))) ?_
      refine SL.pure rfl rfl rfl (PureOp.move rfl) ?_
      refine SL.pure rfl rfl rfl (PureOp.indexAddr Try.underlying42 sz4 rfl rfl (AoOk.own 3 rfl) (fun _ => by omega)) ?_
      refine SL.pure rfl rfl rfl (PureOp.load (v := .bool (nth A ((ixT T t).toNat))) Try.underlying4 rfl rfl (fun _ => (CellIs.ownc 3 rfl ((ixT T t).toNat) 0 (by first | exact encBo_get (by omega) | exact encI_get (by omega) | exact encBag_get (by omega) (by decide))))) ?_
      refine SL.nil_then ?_
      refine WC.cond rfl (fun h3 => ?_) (fun h3 => ?_)
      · try simp only [Bool.and_eq_true, Bool.or_eq_true, Bool.not_eq_true', Bool.not_eq_false', Bool.and_eq_false_iff, Bool.or_eq_false_iff, decide_eq_true_eq, decide_eq_false_iff_not, Int.not_lt, Int.not_le, ne_eq, Decidable.not_not] at h3
        refine WC.seq ?_
        refine WC.region ?_
        refine SL.pure rfl rfl rfl (PureOp.assign rfl) ?_
        refine SL.nil_then ?_
        refine WC.ret ?_
        refine QX.ret_then ?_
        refine QX.body1 rfl rfl ?_
        intro w hw
        have q : movE T A cl t true 6 = 6 := by rw [movE, if_neg (by rw [hcl]; decide), if_neg (by omega), if_pos (by simpa using h3)]
        have qb : movA T A cl t true = A := by rw [movA_of (al := 6) (by decide), if_neg (by rw [q]; decide)]
        refine ⟨(ga, gc), by rw [q], trivial, ?_⟩
        rw [qb]
        exact HeapOk.pick [0, 1, 2, 3, 4, 5] (by decide) hw
      · try simp only [Bool.and_eq_true, Bool.or_eq_true, Bool.not_eq_true', Bool.not_eq_false', Bool.and_eq_false_iff, Bool.or_eq_false_iff, decide_eq_true_eq, decide_eq_false_iff_not, Int.not_lt, Int.not_le, ne_eq, Decidable.not_not] at h3
        refine WC.skip ?_
        refine QX.then_ ?_
        refine WC.seq ?_
        refine WC.region ?_
        refine SL.pure rfl rfl rfl (PureOp.move rfl) ?_
        refine SL.pure rfl rfl rfl (PureOp.nilCheckp rfl) ?_
        refine SL.pure rfl rfl rfl (PureOp.fieldAddrT 2 Try.underlying59 rfl sz42 rfl rfl) ?_
        refine SL.pure rfl rfl rfl (PureOp.load (v := .slice aa n ac) Try.underlying42 rfl rfl (fun _ => (CellIs.cells 0 rfl rfl))) ?_
        refine SL.pure rfl rfl rfl (PureOp.move rfl) ?_
        refine SL.pure rfl rfl rfl (PureOp.indexAddr Try.underlying42 sz4 rfl rfl (AoOk.own 3 rfl) (fun _ => by omega)) ?_
        refine SL.storeown (k := ((ixT T t).toNat)) (j := 0) 3 rfl rfl rfl rfl sz4 (by rw [cellsOf_length encBo_len]; omega) rfl ?_
        refine SL.itemxs 3 rfl (show _ = cellsOf encBo (A.set (ixT T t).toNat true) from encBo_set (by omega)) ?_
        refine SL.norm [_, _, _, _, _, _] rfl ?_
        refine SL.nil_then ?_
        refine WC.seq ?_
        refine WC.region ?_
        refine SL.pure rfl rfl rfl (PureOp.assign rfl) ?_
        refine SL.nil_then ?_
        refine WC.ret ?_
        refine QX.body1 rfl rfl ?_
        intro w hw
        have q : movE T A cl t true 6 = 0 := by rw [movE, if_neg (by rw [hcl]; decide), if_neg (by omega), if_neg (by rw [h3]; decide)]
        have qb : movA T A cl t true = A.set (ixT T t).toNat true := by rw [movA_of (al := 6) (by decide), if_pos q]
        refine ⟨(ga, gc), by rw [q], trivial, ?_⟩
        rw [qb]
        exact HeapOk.pick [0, 1, 2, 3, 4, 5] (by decide) hw

set_option maxHeartbeats 4000000 in
set_option maxRecDepth 100000 in
theorem roff_ok (b : Nat) (T R : List Int) (A : List Bool) (cl : Bool) (G : List Bag) (ta ra aa ga : Option Addr) (n tc rc ac gc : Nat) (hM : Made T R) (hn : n = T.length) (hR : R.length = n) (h9 : n ≤ 999) (hA : A.length = n) (hK : Known T G) (hG : G.length ≤ 500) (t : Int) (w0 : World) : MC Try.prog 32 [.pointer (some ⟨b, 0, none⟩), .int .i64 t] w0 [Item.cells b [.slice ta n tc, .slice ra n rc, .slice aa n ac, .slice ga G.length gc, .bool true, .bool cl] 59, Item.own w0.heap.size ta n tc 3 1 (cellsOf encI T), Item.own w0.heap.size ra n rc 3 1 (cellsOf encI R), Item.own w0.heap.size aa n ac 4 1 (cellsOf encBo A), Item.own w0.heap.size ga G.length gc 47 3 (cellsOf encBag G)] (fun u_ : Option Addr × Nat => .int .i64 (movE T A cl t false 10)) (fun u_ => [Item.cells b [.slice ta n tc, .slice ra n rc, .slice aa n ac, .slice u_.1 G.length u_.2, .bool true, .bool cl] 59, Item.own w0.heap.size ta n tc 3 1 (cellsOf encI T), Item.own w0.heap.size ra n rc 3 1 (cellsOf encI R), Item.own w0.heap.size aa n ac 4 1 (cellsOf encBo (movA T A cl t false)), Item.own w0.heap.size u_.1 G.length u_.2 47 3 (cellsOf encBag G)]) (fun _ => True) (fun _ => []) := by
  refine mcalls (N := 31) Try.func32 rfl rfl rfl ?_
  intro X
  show WC _ _ _ _ _ _ _ [Item.cells b [.slice ta n tc, .slice ra n rc, .slice aa n ac, .slice ga G.length gc, .bool true, .bool cl] 59, Item.own w0.heap.size ta n tc 3 1 (cellsOf encI T), Item.own w0.heap.size ra n rc 3 1 (cellsOf encI R), Item.own w0.heap.size aa n ac 4 1 (cellsOf encBo A), Item.own w0.heap.size ga G.length gc 47 3 (cellsOf encBag G), X]
  refine WC.seq ?_
  refine WC.region ?_
  refine SL.pure rfl rfl rfl (PureOp.assign rfl) ?_
  refine SL.nil_then ?_
  refine WC.seq ?_
  refine WC.seq ?_
  refine WC.region ?_
  refine SL.pure rfl rfl rfl (PureOp.move rfl) ?_
  refine SL.calle rfl rfl rfl rfl rfl rfl callable43 (fun w hw => rready_ok b T R A cl G ta ra aa ga n tc rc ac gc hM hn hR h9 hA hK (by omega) w (ObjIn.of hw 0 rfl) (SliceIn.rows (hw.mem (i := 1) rfl) encI_len (by omega)) (SliceIn.rows (hw.mem (i := 2) rfl) encI_len (by omega)) (SliceIn.rows (hw.mem (i := 3) rfl) encBo_len (by first | omega | (rw [hA]; exact Nat.le_refl _))) (SliceIn.rows (hw.mem (i := 4) rfl) encBag_len (Nat.le_refl _))) ?_
  refine SL.norm [_, _, _, _, _, _] rfl ?_
  refine SL.pure rfl rfl rfl (PureOp.assign rfl) ?_
  refine SL.nil_then ?_
  refine WC.seq ?_
  refine WC.region ?_
  refine SL.pure rfl rfl rfl (PureOp.move rfl) ?_
  refine SL.pure rfl rfl rfl (PureOp.neq rfl rfl) ?_
  refine SL.nil_then ?_
  refine WC.cond rfl (fun h1 => ?_) (fun h1 => ?_)
  · try simp only [Bool.and_eq_true, Bool.or_eq_true, Bool.not_eq_true', Bool.not_eq_false', Bool.and_eq_false_iff, Bool.or_eq_false_iff, decide_eq_true_eq, decide_eq_false_iff_not, Int.not_lt, Int.not_le, ne_eq, Decidable.not_not] at h1
    have hcl : cl = true := by
      by_cases q : cl = true
      · exact q
      · rw [if_neg q] at h1; exact absurd rfl h1
    refine WC.seq ?_
    refine WC.region ?_
    refine SL.pure rfl rfl rfl (PureOp.move rfl) ?_
    refine SL.pure rfl rfl rfl (PureOp.assign rfl) ?_
    refine SL.nil_then ?_
    refine WC.ret ?_
    refine QX.ret_then ?_
    refine QX.body1 rfl rfl ?_
    intro w hw
    have q : movE T A cl t false 10 = 10 := by rw [movE, if_pos hcl]
    have qb : movA T A cl t false = A := by rw [movA_of (al := 10) (by decide), if_neg (by rw [q]; decide)]
    refine ⟨(ga, gc), by rw [q, if_pos hcl], trivial, ?_⟩
    rw [qb]
    exact HeapOk.pick [0, 1, 2, 3, 4, 5] (by decide) hw
  · try simp only [Bool.and_eq_true, Bool.or_eq_true, Bool.not_eq_true', Bool.not_eq_false', Bool.and_eq_false_iff, Bool.or_eq_false_iff, decide_eq_true_eq, decide_eq_false_iff_not, Int.not_lt, Int.not_le, ne_eq, Decidable.not_not] at h1
    have hcl : cl = false := by
      cases cl
      · rfl
      · exact absurd h1 (by decide)
    refine WC.skip ?_
    refine QX.then_ ?_
    refine WC.seq ?_
    refine WC.region ?_
    refine SL.pure rfl rfl rfl (PureOp.move rfl) ?_
    refine SL.pure rfl rfl rfl (PureOp.move rfl) ?_
    refine SL.calle rfl rfl rfl rfl rfl rfl callable35 (fun w hw => rfind_ok b T R A cl G ta ra aa ga n tc rc ac gc hM hn hR h9 hA hK (by omega) t w (ObjIn.of hw 0 rfl) (SliceIn.rows (hw.mem (i := 1) rfl) encI_len (by omega)) (SliceIn.rows (hw.mem (i := 2) rfl) encI_len (by omega)) (SliceIn.rows (hw.mem (i := 3) rfl) encBo_len (by first | omega | (rw [hA]; exact Nat.le_refl _))) (SliceIn.rows (hw.mem (i := 4) rfl) encBag_len (Nat.le_refl _))) ?_
    refine SL.norm [_, _, _, _, _, _] rfl ?_
    refine SL.pure rfl rfl rfl (PureOp.assign rfl) ?_
    refine SL.nil_then ?_
    refine WC.seq ?_
    refine WC.seq ?_
    refine WC.region ?_
    refine SL.pure rfl rfl rfl (PureOp.move rfl) ?_
    refine SL.pure rfl rfl rfl (PureOp.lss rfl rfl) ?_
    refine SL.nil_then ?_
    refine WC.cond rfl (fun h2 => ?_) (fun h2 => ?_)
    · try simp only [Bool.and_eq_true, Bool.or_eq_true, Bool.not_eq_true', Bool.not_eq_false', Bool.and_eq_false_iff, Bool.or_eq_false_iff, decide_eq_true_eq, decide_eq_false_iff_not, Int.not_lt, Int.not_le, ne_eq, Decidable.not_not] at h2
      refine WC.seq ?_
      refine WC.region ?_
      refine SL.pure rfl rfl rfl (PureOp.assign rfl) ?_
      refine SL.nil_then ?_
      refine WC.ret ?_
      refine QX.ret_then ?_
      refine QX.body1 rfl rfl ?_
      intro w hw
      have q : movE T A cl t false 10 = 7 := by rw [movE, if_neg (by rw [hcl]; decide), if_pos (by omega)]
      have qb : movA T A cl t false = A := by rw [movA_of (al := 10) (by decide), if_neg (by rw [q]; decide)]
      refine ⟨(ga, gc), by rw [q], trivial, ?_⟩
      rw [qb]
      exact HeapOk.pick [0, 1, 2, 3, 4, 5] (by decide) hw
    · try simp only [Bool.and_eq_true, Bool.or_eq_true, Bool.not_eq_true', Bool.not_eq_false', Bool.and_eq_false_iff, Bool.or_eq_false_iff, decide_eq_true_eq, decide_eq_false_iff_not, Int.not_lt, Int.not_le, ne_eq, Decidable.not_not] at h2
      have qx := ixT_hit (T := T) (t := t) (by omega)
      refine WC.skip ?_
      refine QX.then_ ?_
      refine WC.seq ?_
      refine WC.seq ?_
      refine WC.region ?_
      refine SL.pure rfl rfl rfl (PureOp.move rfl) ?_
      refine SL.pure rfl rfl rfl (PureOp.nilCheckp rfl) ?_
      refine SL.pure rfl rfl rfl (PureOp.fieldAddrT 2 Try.underlying59 rfl sz42 rfl rfl) ?_
      refine SL.pure rfl rfl rfl (PureOp.load (v := .slice aa n ac) Try.underlying42 rfl rfl (fun _ => (CellIs.cells 0 rfl rfl))) ?_
      refine SL.pure rfl rfl rfl (PureOp.move rfl) ?_
      refine SL.pure rfl rfl rfl (PureOp.indexAddr Try.underlying42 sz4 rfl rfl (AoOk.own 3 rfl) (fun _ => by omega)) ?_
      refine SL.pure rfl rfl rfl (PureOp.load (v := .bool (nth A ((ixT T t).toNat))) Try.underlying4 rfl rfl (fun _ => (CellIs.ownc 3 rfl ((ixT T t).toNat) 0 (by first | exact encBo_get (by omega) | exact encI_get (by omega) | exact encBag_get (by omega) (by decide))))) ?_
      refine SL.pure rfl rfl rfl (PureOp.not rfl) ?_
      refine SL.nil_then ?_
      refine WC.cond rfl (fun h3 => ?_) (fun h3 => ?_)
      · try simp only [Bool.and_eq_true, Bool.or_eq_true, Bool.not_eq_true', Bool.not_eq_false', Bool.and_eq_false_iff, Bool.or_eq_false_iff, decide_eq_true_eq, decide_eq_false_iff_not, Int.not_lt, Int.not_le, ne_eq, Decidable.not_not] at h3
        refine WC.seq ?_
        refine WC.region ?_
        refine SL.pure rfl rfl rfl (PureOp.assign rfl) ?_
        refine SL.nil_then ?_
        refine WC.ret ?_
        refine QX.ret_then ?_
        refine QX.body1 rfl rfl ?_
        intro w hw
        have q : movE T A cl t false 10 = 10 := by rw [movE, if_neg (by rw [hcl]; decide), if_neg (by omega), if_pos (by simpa using h3)]
        have qb : movA T A cl t false = A := by rw [movA_of (al := 10) (by decide), if_neg (by rw [q]; decide)]
        refine ⟨(ga, gc), by rw [q], trivial, ?_⟩
        rw [qb]
        exact HeapOk.pick [0, 1, 2, 3, 4, 5] (by decide) hw
      · try simp only [Bool.and_eq_true, Bool.or_eq_true, Bool.not_eq_true', Bool.not_eq_false', Bool.and_eq_false_iff, Bool.or_eq_false_iff, decide_eq_true_eq, decide_eq_false_iff_not, Int.not_lt, Int.not_le, ne_eq, Decidable.not_not] at h3
        refine WC.skip ?_
        refine QX.then_ ?_
        refine WC.seq ?_
        refine WC.region ?_
        refine SL.pure rfl rfl rfl (PureOp.move rfl) ?_
        refine SL.pure rfl rfl rfl (PureOp.nilCheckp rfl) ?_
        refine SL.pure rfl rfl rfl (PureOp.fieldAddrT 2 Try.underlying59 rfl sz42 rfl rfl) ?_
        refine SL.pure rfl rfl rfl (PureOp.load (v := .slice aa n ac) Try.underlying42 rfl rfl (fun _ => (CellIs.cells 0 rfl rfl))) ?_
        refine SL.pure rfl rfl rfl (PureOp.move rfl) ?_
        refine SL.pure rfl rfl rfl (PureOp.indexAddr Try.underlying42 sz4 rfl rfl (AoOk.own 3 rfl) (fun _ => by omega)) ?_
        refine SL.storeown (k := ((ixT T t).toNat)) (j := 0) 3 rfl rfl rfl rfl sz4 (by rw [cellsOf_length encBo_len]; omega) rfl ?_
        refine SL.itemxs 3 rfl (show _ = cellsOf encBo (A.set (ixT T t).toNat false) from encBo_set (by omega)) ?_
        refine SL.norm [_, _, _, _, _, _] rfl ?_
        refine SL.nil_then ?_
        refine WC.seq ?_
        refine WC.region ?_
        refine SL.pure rfl rfl rfl (PureOp.assign rfl) ?_
        refine SL.nil_then ?_
        refine WC.ret ?_
        refine QX.body1 rfl rfl ?_
        intro w hw
        have q : movE T A cl t false 10 = 0 := by rw [movE, if_neg (by rw [hcl]; decide), if_neg (by omega), if_neg (by rw [show nth A (ixT T t).toNat = true from by simpa using h3]; decide)]
        have qb : movA T A cl t false = A.set (ixT T t).toNat false := by rw [movA_of (al := 10) (by decide), if_pos q]
        refine ⟨(ga, gc), by rw [q], trivial, ?_⟩
        rw [qb]
        exact HeapOk.pick [0, 1, 2, 3, 4, 5] (by decide) hw

set_option maxHeartbeats 4000000 in
set_option maxRecDepth 100000 in
theorem pboard_ok (b : Nat) (T R : List Int) (A : List Bool) (cl : Bool) (G : List Bag) (ta ra aa ga : Option Addr) (n tc rc ac gc : Nat) (hM : Made T R) (hn : n = T.length) (hR : R.length = n) (h9 : n ≤ 999) (hA : A.length = n) (hK : Known T G) (hG : G.length ≤ 500) (t : Int) (w0 : World) : MC Try.prog 22 [.pointer (some ⟨b, 0, none⟩), .int .i64 t] w0 [Item.cells b [.bool true, .bool cl, .slice ta n tc, .slice ra n rc, .slice aa n ac, .slice ga G.length gc] 44, Item.own w0.heap.size ta n tc 3 1 (cellsOf encI T), Item.own w0.heap.size ra n rc 3 1 (cellsOf encI R), Item.own w0.heap.size aa n ac 4 1 (cellsOf encBo A), Item.own w0.heap.size ga G.length gc 47 3 (cellsOf encBag G)] (fun u_ : Option Addr × Nat => .int .i64 (movE T A cl t true 6)) (fun u_ => [Item.cells b [.bool true, .bool cl, .slice ta n tc, .slice ra n rc, .slice aa n ac, .slice u_.1 G.length u_.2] 44, Item.own w0.heap.size ta n tc 3 1 (cellsOf encI T), Item.own w0.heap.size ra n rc 3 1 (cellsOf encI R), Item.own w0.heap.size aa n ac 4 1 (cellsOf encBo (movA T A cl t true)), Item.own w0.heap.size u_.1 G.length u_.2 47 3 (cellsOf encBag G)]) (fun _ => True) (fun _ => []) := by
  refine mcalls (N := 8) Try.func22 rfl rfl rfl ?_
  intro X
  show WC _ _ _ _ _ _ _ [Item.cells b [.bool true, .bool cl, .slice ta n tc, .slice ra n rc, .slice aa n ac, .slice ga G.length gc] 44, Item.own w0.heap.size ta n tc 3 1 (cellsOf encI T), Item.own w0.heap.size ra n rc 3 1 (cellsOf encI R), Item.own w0.heap.size aa n ac 4 1 (cellsOf encBo A), Item.own w0.heap.size ga G.length gc 47 3 (cellsOf encBag G), X]
  refine WC.seq ?_
  refine WC.region ?_
  refine SL.pure rfl rfl rfl (PureOp.assign rfl) ?_
  refine SL.nil_then ?_
  refine WC.seq ?_
  refine WC.region ?_
  refine SL.pure rfl rfl rfl (PureOp.move rfl) ?_
  refine SL.pure rfl rfl rfl (PureOp.move rfl) ?_
  refine SL.callM [0, 1, 2, 3, 4] rfl rfl rfl rfl rfl rfl callable41 (by decide) (pmove_ok b T R A cl G ta ra aa ga n tc rc ac gc hM hn hR h9 hA hK hG t true 6 (by decide) w0) rfl (fun _ _ => rfl) ?_
  rintro ⟨ga2, gc2⟩ _
  refine SL.norm [_, _, _, _, _, _] rfl ?_
  refine SL.pure rfl rfl rfl (PureOp.assign rfl) ?_
  refine SL.nil_then ?_
  refine WC.ret ?_
  refine QX.body1 rfl rfl ?_
  intro w hw
  refine ⟨(ga2, gc2), rfl, trivial, ?_⟩
  exact HeapOk.pick [0, 1, 2, 3, 4, 5] (by decide) hw

set_option maxHeartbeats 4000000 in
set_option maxRecDepth 100000 in
theorem poff_ok (b : Nat) (T R : List Int) (A : List Bool) (cl : Bool) (G : List Bag) (ta ra aa ga : Option Addr) (n tc rc ac gc : Nat) (hM : Made T R) (hn : n = T.length) (hR : R.length = n) (h9 : n ≤ 999) (hA : A.length = n) (hK : Known T G) (hG : G.length ≤ 500) (t : Int) (w0 : World) : MC Try.prog 23 [.pointer (some ⟨b, 0, none⟩), .int .i64 t] w0 [Item.cells b [.bool true, .bool cl, .slice ta n tc, .slice ra n rc, .slice aa n ac, .slice ga G.length gc] 44, Item.own w0.heap.size ta n tc 3 1 (cellsOf encI T), Item.own w0.heap.size ra n rc 3 1 (cellsOf encI R), Item.own w0.heap.size aa n ac 4 1 (cellsOf encBo A), Item.own w0.heap.size ga G.length gc 47 3 (cellsOf encBag G)] (fun u_ : Option Addr × Nat => .int .i64 (movE T A cl t false 10)) (fun u_ => [Item.cells b [.bool true, .bool cl, .slice ta n tc, .slice ra n rc, .slice aa n ac, .slice u_.1 G.length u_.2] 44, Item.own w0.heap.size ta n tc 3 1 (cellsOf encI T), Item.own w0.heap.size ra n rc 3 1 (cellsOf encI R), Item.own w0.heap.size aa n ac 4 1 (cellsOf encBo (movA T A cl t false)), Item.own w0.heap.size u_.1 G.length u_.2 47 3 (cellsOf encBag G)]) (fun _ => True) (fun _ => []) := by
  refine mcalls (N := 8) Try.func23 rfl rfl rfl ?_
  intro X
  show WC _ _ _ _ _ _ _ [Item.cells b [.bool true, .bool cl, .slice ta n tc, .slice ra n rc, .slice aa n ac, .slice ga G.length gc] 44, Item.own w0.heap.size ta n tc 3 1 (cellsOf encI T), Item.own w0.heap.size ra n rc 3 1 (cellsOf encI R), Item.own w0.heap.size aa n ac 4 1 (cellsOf encBo A), Item.own w0.heap.size ga G.length gc 47 3 (cellsOf encBag G), X]
  refine WC.seq ?_
  refine WC.region ?_
  refine SL.pure rfl rfl rfl (PureOp.assign rfl) ?_
  refine SL.nil_then ?_
  refine WC.seq ?_
  refine WC.region ?_
  refine SL.pure rfl rfl rfl (PureOp.move rfl) ?_
  refine SL.pure rfl rfl rfl (PureOp.move rfl) ?_
  refine SL.callM [0, 1, 2, 3, 4] rfl rfl rfl rfl rfl rfl callable41 (by decide) (pmove_ok b T R A cl G ta ra aa ga n tc rc ac gc hM hn hR h9 hA hK hG t false 10 (by decide) w0) rfl (fun _ _ => rfl) ?_
  rintro ⟨ga2, gc2⟩ _
  refine SL.norm [_, _, _, _, _, _] rfl ?_
  refine SL.pure rfl rfl rfl (PureOp.assign rfl) ?_
  refine SL.nil_then ?_
  refine WC.ret ?_
  refine QX.body1 rfl rfl ?_
  intro w hw
  refine ⟨(ga2, gc2), rfl, trivial, ?_⟩
  exact HeapOk.pick [0, 1, 2, 3, 4, 5] (by decide) hw

end Go.Proofs.Ythbgnjengkjigaa
