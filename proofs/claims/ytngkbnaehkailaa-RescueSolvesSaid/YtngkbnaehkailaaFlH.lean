import Derived.Test.YtngkbnaehkailaaFlG
import Derived.Test.YtngkbnaehkailaaFlow
namespace Go.Proofs.Ytngkbnaehkailaa
open Go Go.RowKit Eng
set_option linter.unusedVariables false
set_option linter.unusedSimpArgs false

set_option maxHeartbeats 4000000 in
set_option maxRecDepth 100000 in
theorem solve_bad (n : Int) (l : List Ed) (ea : Option Addr) (m ec : Nat) (hm : m = l.length) (s t most : Int) (hbad : checkE n l s t ≠ 0 ∨ most < 0) (w0 : World) (sE : SliceIn w0 4 ea m ec (rowsF encEd l)) : FnC Try.prog 18 [.int .i64 n, .slice ea m ec, .int .i64 s, .int .i64 t, .int .i64 most] w0 fun v w' => v = .tuple #[.slice none 0 0, .int .i64 0, .int .i64 0, .int .i64 (if checkE n l s t ≠ 0 then checkE n l s t else 2)] := by
  refine fnc (N := 182) Try.func18 rfl rfl rfl ?_
  refine WC.seq ?_
  refine WC.region ?_
  refine SL.pure rfl rfl rfl (PureOp.assign rfl) ?_
  refine SL.pure rfl rfl rfl (PureOp.assign rfl) ?_
  refine SL.pure rfl rfl rfl (PureOp.assign rfl) ?_
  refine SL.pure rfl rfl rfl (PureOp.assign rfl) ?_
  refine SL.nil_then ?_
  refine WC.seq ?_
  refine WC.seq ?_
  refine WC.region ?_
  refine SL.pure rfl rfl rfl (PureOp.move rfl) ?_
  refine SL.pure rfl rfl rfl (PureOp.move rfl) ?_
  refine SL.pure rfl rfl rfl (PureOp.move rfl) ?_
  refine SL.pure rfl rfl rfl (PureOp.move rfl) ?_
  refine SL.calle rfl rfl rfl rfl rfl rfl callable12 (fun w hw => pcheck_ok n l ea m ec hm s t w (sE.below hw.below)) ?_
  refine SL.norm [] rfl ?_
  refine SL.pure rfl rfl rfl (PureOp.assign rfl) ?_
  refine SL.nil_then ?_
  refine WC.seq ?_
  refine WC.region ?_
  refine SL.pure rfl rfl rfl (PureOp.move rfl) ?_
  refine SL.pure rfl rfl rfl (PureOp.neq rfl rfl) ?_
  refine SL.nil_then ?_
  refine WC.cond rfl (fun h1 => ?_) (fun h1 => ?_)
  · try simp only [Bool.and_eq_true, Bool.or_eq_true, Bool.not_eq_true', Bool.not_eq_false', Bool.and_eq_false_iff, Bool.or_eq_false_iff, decide_eq_true_eq, decide_eq_false_iff_not, Int.not_lt, Int.not_le, ne_eq, Decidable.not_not] at h1
    refine WC.seq ?_
    refine WC.region ?_
    refine SL.pure rfl rfl rfl (PureOp.move rfl) ?_
    refine SL.pure rfl rfl rfl (PureOp.assign rfl) ?_
    refine SL.pure rfl rfl rfl (PureOp.assign rfl) ?_
    refine SL.pure rfl rfl rfl (PureOp.assign rfl) ?_
    refine SL.pure rfl rfl rfl (PureOp.assign rfl) ?_
    refine SL.nil_then ?_
    refine WC.ret ?_
    refine QX.ret_then ?_
    refine QX.retv rfl (RVs.cons (RV.tmp rfl) (RVs.cons (RV.tmp rfl) (RVs.cons (RV.tmp rfl) (RVs.cons (RV.tmp rfl) RVs.nil)))) ?_
    intro w hw
    rw [if_pos h1]; rfl
  · try simp only [Bool.and_eq_true, Bool.or_eq_true, Bool.not_eq_true', Bool.not_eq_false', Bool.and_eq_false_iff, Bool.or_eq_false_iff, decide_eq_true_eq, decide_eq_false_iff_not, Int.not_lt, Int.not_le, ne_eq, Decidable.not_not] at h1
    refine WC.skip ?_
    refine QX.then_ ?_
    refine WC.seq ?_
    refine WC.seq ?_
    refine WC.region ?_
    refine SL.pure rfl rfl rfl (PureOp.move rfl) ?_
    refine SL.pure rfl rfl rfl (PureOp.lss rfl rfl) ?_
    refine SL.nil_then ?_
    refine WC.cond rfl (fun h2 => ?_) (fun h2 => ?_)
    · try simp only [Bool.and_eq_true, Bool.or_eq_true, Bool.not_eq_true', Bool.not_eq_false', Bool.and_eq_false_iff, Bool.or_eq_false_iff, decide_eq_true_eq, decide_eq_false_iff_not, Int.not_lt, Int.not_le, ne_eq, Decidable.not_not] at h2
      refine WC.seq ?_
      refine WC.region ?_
      refine SL.pure rfl rfl rfl (PureOp.assign rfl) ?_
      refine SL.pure rfl rfl rfl (PureOp.assign rfl) ?_
      refine SL.pure rfl rfl rfl (PureOp.assign rfl) ?_
      refine SL.pure rfl rfl rfl (PureOp.assign rfl) ?_
      refine SL.nil_then ?_
      refine WC.ret ?_
      refine QX.ret_then ?_
      refine QX.retv rfl (RVs.cons (RV.tmp rfl) (RVs.cons (RV.tmp rfl) (RVs.cons (RV.tmp rfl) (RVs.cons (RV.tmp rfl) RVs.nil)))) ?_
      intro w hw
      rw [if_neg (by simp [h1])]; rfl
    · try simp only [Bool.and_eq_true, Bool.or_eq_true, Bool.not_eq_true', Bool.not_eq_false', Bool.and_eq_false_iff, Bool.or_eq_false_iff, decide_eq_true_eq, decide_eq_false_iff_not, Int.not_lt, Int.not_le, ne_eq, Decidable.not_not] at h2
      exact (by exfalso; exact hbad.elim (fun h => h h1) (fun h => by omega))

set_option maxHeartbeats 4000000 in
set_option maxRecDepth 100000 in
theorem solve_ok (n : Int) (l : List Ed) (ea : Option Addr) (m ec : Nat) (hm : m = l.length) (s t most : Int) (hck : checkE n l s t = 0) (hmo : 0 ≤ most ∧ most ≤ 9223372036854775807) (K0 : Nat) (R : List Int × Int × Int) (hR : slv l n.toNat s t most K0 (List.replicate l.length 0) 0 0 = some R) (w0 : World) (sE : SliceIn w0 4 ea m ec (rowsF encEd l)) : FnC Try.prog 18 [.int .i64 n, .slice ea m ec, .int .i64 s, .int .i64 t, .int .i64 most] w0 fun v w' => ∃ a c, v = .tuple #[.slice a m c, .int .i64 R.2.1, .int .i64 R.2.2, .int .i64 0] ∧ w'.ownsRow w0.heap.size 3 1 (.slice a m c) m (cellsOf encI R.1) := by
  refine fnc (N := 182) Try.func18 rfl rfl rfl ?_
  refine WC.seq ?_
  refine WC.region ?_
  refine SL.pure rfl rfl rfl (PureOp.assign rfl) ?_
  refine SL.pure rfl rfl rfl (PureOp.assign rfl) ?_
  refine SL.pure rfl rfl rfl (PureOp.assign rfl) ?_
  refine SL.pure rfl rfl rfl (PureOp.assign rfl) ?_
  refine SL.nil_then ?_
  refine WC.seq ?_
  refine WC.seq ?_
  refine WC.region ?_
  refine SL.pure rfl rfl rfl (PureOp.move rfl) ?_
  refine SL.pure rfl rfl rfl (PureOp.move rfl) ?_
  refine SL.pure rfl rfl rfl (PureOp.move rfl) ?_
  refine SL.pure rfl rfl rfl (PureOp.move rfl) ?_
  refine SL.calle rfl rfl rfl rfl rfl rfl callable12 (fun w hw => pcheck_ok n l ea m ec hm s t w (sE.below hw.below)) ?_
  refine SL.norm [] rfl ?_
  refine SL.pure rfl rfl rfl (PureOp.assign rfl) ?_
  refine SL.nil_then ?_
  refine WC.seq ?_
  refine WC.region ?_
  refine SL.pure rfl rfl rfl (PureOp.move rfl) ?_
  refine SL.pure rfl rfl rfl (PureOp.neq rfl rfl) ?_
  refine SL.nil_then ?_
  refine WC.cond rfl (fun h1 => ?_) (fun h1 => ?_)
  · try simp only [Bool.and_eq_true, Bool.or_eq_true, Bool.not_eq_true', Bool.not_eq_false', Bool.and_eq_false_iff, Bool.or_eq_false_iff, decide_eq_true_eq, decide_eq_false_iff_not, Int.not_lt, Int.not_le, ne_eq, Decidable.not_not] at h1
    exact absurd hck h1
  · try simp only [Bool.and_eq_true, Bool.or_eq_true, Bool.not_eq_true', Bool.not_eq_false', Bool.and_eq_false_iff, Bool.or_eq_false_iff, decide_eq_true_eq, decide_eq_false_iff_not, Int.not_lt, Int.not_le, ne_eq, Decidable.not_not] at h1
    obtain ⟨hc, hE⟩ := check_ok (n := n) (l := l) (s := s) (t := t) (by assumption)
    obtain ⟨nu, rfl⟩ : ∃ k : Nat, n = (k : Int) := ⟨n.toNat, by omega⟩
    refine WC.skip ?_
    refine QX.then_ ?_
    refine WC.seq ?_
    refine WC.seq ?_
    refine WC.region ?_
    refine SL.pure rfl rfl rfl (PureOp.move rfl) ?_
    refine SL.pure rfl rfl rfl (PureOp.lss rfl rfl) ?_
    refine SL.nil_then ?_
    refine WC.cond rfl (fun h2 => ?_) (fun h2 => ?_)
    · try simp only [Bool.and_eq_true, Bool.or_eq_true, Bool.not_eq_true', Bool.not_eq_false', Bool.and_eq_false_iff, Bool.or_eq_false_iff, decide_eq_true_eq, decide_eq_false_iff_not, Int.not_lt, Int.not_le, ne_eq, Decidable.not_not] at h2
      exact absurd hmo.1 (by omega)
    · try simp only [Bool.and_eq_true, Bool.or_eq_true, Bool.not_eq_true', Bool.not_eq_false', Bool.and_eq_false_iff, Bool.or_eq_false_iff, decide_eq_true_eq, decide_eq_false_iff_not, Int.not_lt, Int.not_le, ne_eq, Decidable.not_not] at h2
      refine WC.skip ?_
      refine QX.then_ ?_
      refine WC.seq ?_
      refine WC.region ?_
      refine SL.pure rfl rfl rfl (PureOp.move rfl) ?_
      refine SL.pure rfl rfl rfl (PureOp.len rfl Try.underlying22) ?_
      refine SL.make rfl rfl Try.underlying29 elem3 rfl rfl (by omega) (by omega) (fun b1 hb1 => ?_)
      refine SL.itemxs 0 rfl (show _ = cellsOf encI (List.replicate l.length 0) from by rw [rep_int, hm]) ?_
      refine SL.norm [_] rfl ?_
      refine SL.pure rfl rfl rfl (PureOp.assign rfl) ?_
      refine SL.nil_then ?_
      refine WC.seq ?_
      refine WC.region ?_
      refine SL.pure rfl rfl rfl (PureOp.assign rfl) ?_
      refine SL.pure rfl rfl rfl (PureOp.assign rfl) ?_
      refine SL.nil_then ?_
      refine WC.seq ?_
      refine WC.block ?_
      refine WC.loop (σ := Nat × List Int × Int × Int) (fun q_ => [(0, 0, .int .i64 ((nu : Nat) : Int)), (1, 0, .slice ea m ec), (2, 0, .int .i64 s), (3, 0, .int .i64 t), (4, 0, .int .i64 most), (10, 0, .slice none 0 0), (11, 0, .int .i64 0), (12, 0, .int .i64 0), (13, 0, .int .i64 0), (14, 0, .int .i64 (checkE (nu : Int) l s t)), (15, 0, .slice (some ⟨b1, 0, none⟩) m m), (28, 0, .int .i64 ((nu : Nat) : Int)), (29, 0, .slice ea m ec), (30, 0, .int .i64 s), (31, 0, .int .i64 t), (32, 0, .int .i64 (checkE (nu : Int) l s t)), (33, 0, .int .i64 (checkE (nu : Int) l s t)), (34, 0, .bool (decide (checkE (nu : Int) l s t ≠ 0))), (36, 0, .int .i64 most), (37, 0, .bool (decide (most < 0))), (38, 0, .slice ea m ec), (39, 0, .int .i64 ((m : Nat) : Int)), (40, 0, .slice (some ⟨b1, 0, none⟩) m m), (16, 0, .int .i64 q_.2.2.1), (17, 0, .int .i64 q_.2.2.2)]) (fun q_ => [Item.own w0.heap.size (some ⟨b1, 0, none⟩) m m 3 1 (cellsOf encI (q_.2.1))]) (fun q_ => slv l nu s t most q_.1 q_.2.1 q_.2.2.1 q_.2.2.2 = some R ∧ (∀ i, i < l.length → 0 ≤ nth q_.2.1 i ∧ nth q_.2.1 i ≤ (nth l i).2.2.1) ∧ q_.2.1.length = m ∧ 0 ≤ q_.2.2.1) (fun q_ => q_.1) 1 ((K0, List.replicate l.length 0, 0, 0)) (⟨hR, flow_zero hE, by rw [List.length_replicate]; exact hm.symm, Int.le_refl _⟩) ⟨rfl, rfl, rfl, rfl, rfl, rfl, rfl, rfl, rfl, rfl, rfl, rfl, rfl, rfl, rfl, rfl, rfl, rfl, rfl, rfl, rfl, rfl, rfl, rfl, rfl, rfl, rfl, rfl, rfl, rfl, rfl, rfl, rfl, rfl, rfl, rfl, rfl, rfl, rfl, rfl, rfl, rfl, rfl, rfl, rfl, rfl, rfl, rfl, rfl, rfl, trivial⟩ rfl ?_
      rintro ⟨K, f, a, z⟩ ⟨hs, hWf, hfl, ha0⟩
      try dsimp only at *
      refine WC.seq ?_
      refine WC.seq ?_
      refine WC.region ?_
      refine SL.pure rfl rfl rfl (PureOp.move rfl) ?_
      refine SL.pure rfl rfl rfl (PureOp.move rfl) ?_
      refine SL.pure rfl rfl rfl (PureOp.lss rfl rfl) ?_
      refine SL.nil_then ?_
      refine WC.cond rfl (fun h3 => ?_) (fun h3 => ?_)
      · try simp only [Bool.and_eq_true, Bool.or_eq_true, Bool.not_eq_true', Bool.not_eq_false', Bool.and_eq_false_iff, Bool.or_eq_false_iff, decide_eq_true_eq, decide_eq_false_iff_not, Int.not_lt, Int.not_le, ne_eq, Decidable.not_not] at h3
        refine WC.skip ?_
        refine QX.then_ ?_
        refine WC.block ?_
        refine WC.cutx (σ := Nat × Nat × Nat) (fun q_ => [(0, 0, .int .i64 ((nu : Nat) : Int)), (1, 0, .slice ea m ec), (2, 0, .int .i64 s), (3, 0, .int .i64 t), (4, 0, .int .i64 most), (10, 0, .slice none 0 0), (11, 0, .int .i64 0), (12, 0, .int .i64 0), (13, 0, .int .i64 0), (14, 0, .int .i64 (checkE (nu : Int) l s t)), (15, 0, .slice (some ⟨b1, 0, none⟩) m m), (16, 0, .int .i64 a), (17, 0, .int .i64 z), (28, 0, .int .i64 ((nu : Nat) : Int)), (29, 0, .slice ea m ec), (30, 0, .int .i64 s), (31, 0, .int .i64 t), (32, 0, .int .i64 (checkE (nu : Int) l s t)), (33, 0, .int .i64 (checkE (nu : Int) l s t)), (34, 0, .bool (decide (checkE (nu : Int) l s t ≠ 0))), (36, 0, .int .i64 most), (37, 0, .bool (decide (most < 0))), (38, 0, .slice ea m ec), (39, 0, .int .i64 ((m : Nat) : Int)), (40, 0, .slice (some ⟨b1, 0, none⟩) m m), (41, 0, .int .i64 a), (42, 0, .int .i64 most), (43, 0, .bool (decide (a < most))), (18, 0, .pointer (some ⟨q_.2.2, 0, none⟩))]) (fun q_ => [Item.own w0.heap.size (some ⟨b1, 0, none⟩) m m 3 1 (cellsOf encI (f)), Item.cells q_.2.2 [.slice ea m ec, .slice (some ⟨b1, 0, none⟩) m m, .slice (some ⟨q_.1, 0, none⟩) nu nu, .slice (some ⟨q_.2.1, 0, none⟩) nu nu] 67, Item.own w0.heap.size (some ⟨q_.1, 0, none⟩) nu nu 3 1 (cellsOf encI (filK 1152921504606846976 nu 0)), Item.own w0.heap.size (some ⟨q_.2.1, 0, none⟩) nu nu 3 1 (cellsOf encI (filK (-1) nu 0))]) (fun q_ => True) ?_ ?_
        · skip
          refine WC.drawH 9 [false, false, false, false, false, false, false, false, false] rfl rfl rfl ?_
          refine SD.take 0 [true, false, false, false, false, false, false, false, false] rfl (by kernel_rfl) rfl (fun _ h => h) rfl rfl rfl (PureOp.move rfl) ?_
          refine SD.take 1 [true, true, false, false, false, false, false, false, false] rfl (by kernel_rfl) rfl (fun _ h => h) rfl rfl rfl (PureOp.move rfl) ?_
          refine SD.take 2 [true, true, true, false, false, false, false, false, false] rfl (by kernel_rfl) rfl (fun _ h => h) rfl rfl rfl (PureOp.move rfl) ?_
          refine SD.take 4 [true, true, true, false, true, false, false, false, false] rfl (by kernel_rfl) rfl (fun _ h => h) rfl rfl rfl (PureOp.move rfl) ?_
          refine SD.all [3, 5, 7] (by kernel_rfl) (by simp) ⟨⟨_, [true, true, true, true, true, false, false, false, false], rfl, rfl, ?_⟩, ⟨_, [true, true, true, false, true, true, false, false, false], rfl, rfl, ?_⟩, ⟨_, [true, true, true, false, true, false, false, true, false], rfl, rfl, ?_⟩, trivial⟩
          · skip
            refine SL.make rfl rfl Try.underlying29 elem3 rfl rfl (by omega) (by omega) (fun b2 hb2 => ?_)
            refine SL.itemxs 1 rfl (show _ = cellsOf encI (filK 1152921504606846976 nu 0) from by rw [rep_int, filK_zero]) ?_
            refine SL.norm [_, _] rfl ?_
            refine SD.back (fun _ h => HeapOk.take h 1) ?_
            refine SD.all [5, 7] (by kernel_rfl) (by simp) ⟨⟨_, [true, true, true, true, true, true, false, false, false], rfl, rfl, ?_⟩, ⟨_, [true, true, true, true, true, false, false, true, false], rfl, rfl, ?_⟩, trivial⟩
            · skip
              refine SL.make rfl rfl Try.underlying29 elem3 rfl rfl (by omega) (by omega) (fun b3 hb3 => ?_)
              refine SL.itemxs 2 rfl (show _ = cellsOf encI (filK (-1) nu 0) from by rw [rep_int, filK_zero]) ?_
              refine SL.norm [_, _, _] rfl ?_
              refine SD.back (fun _ h => HeapOk.take h 1) ?_
              refine SD.take 6 [true, true, true, true, true, true, true, false, false] rfl (by kernel_rfl) rfl (fun _ h => HeapOk.take h 1) rfl rfl rfl (PureOp.build bld67 rfl rfl) ?_
              refine SD.one 7 [true, true, true, true, true, true, true, true, false] (by kernel_rfl) rfl rfl ?_
              refine SL.alloc rfl rfl zero67 (fun b4 hb4 => ?_)
              refine SL.norm [_, _, _, _] rfl ?_
              refine SD.back (fun _ h => HeapOk.take h 1) ?_
              refine SD.one 8 [true, true, true, true, true, true, true, true, true] (by kernel_rfl) rfl rfl ?_
              refine SL.store 3 rfl rfl rfl rfl sz67 rfl rfl ?_
              refine SL.norm [_, _, _, _] rfl ?_
              refine SD.back (fun _ h => HeapOk.take h 1) ?_
              refine SD.done (by kernel_rfl) ?_
              refine QX.ofK ?_
              refine QX.heap (fun _ h => HeapOk.pick [0, 3, 1, 2] (by decide) h) ?_
              refine QX.cutx (σ := Nat × Nat × Nat) (E' := fun q_ => [(0, 0, .int .i64 ((nu : Nat) : Int)), (1, 0, .slice ea m ec), (2, 0, .int .i64 s), (3, 0, .int .i64 t), (4, 0, .int .i64 most), (10, 0, .slice none 0 0), (11, 0, .int .i64 0), (12, 0, .int .i64 0), (13, 0, .int .i64 0), (14, 0, .int .i64 (checkE (nu : Int) l s t)), (15, 0, .slice (some ⟨b1, 0, none⟩) m m), (16, 0, .int .i64 a), (17, 0, .int .i64 z), (28, 0, .int .i64 ((nu : Nat) : Int)), (29, 0, .slice ea m ec), (30, 0, .int .i64 s), (31, 0, .int .i64 t), (32, 0, .int .i64 (checkE (nu : Int) l s t)), (33, 0, .int .i64 (checkE (nu : Int) l s t)), (34, 0, .bool (decide (checkE (nu : Int) l s t ≠ 0))), (36, 0, .int .i64 most), (37, 0, .bool (decide (most < 0))), (38, 0, .slice ea m ec), (39, 0, .int .i64 ((m : Nat) : Int)), (40, 0, .slice (some ⟨b1, 0, none⟩) m m), (41, 0, .int .i64 a), (42, 0, .int .i64 most), (43, 0, .bool (decide (a < most))), (18, 0, .pointer (some ⟨q_.2.2, 0, none⟩))]) (H' := fun q_ => [Item.own w0.heap.size (some ⟨b1, 0, none⟩) m m 3 1 (cellsOf encI (f)), Item.cells q_.2.2 [.slice ea m ec, .slice (some ⟨b1, 0, none⟩) m m, .slice (some ⟨q_.1, 0, none⟩) nu nu, .slice (some ⟨q_.2.1, 0, none⟩) nu nu] 67, Item.own w0.heap.size (some ⟨q_.1, 0, none⟩) nu nu 3 1 (cellsOf encI (filK 1152921504606846976 nu 0)), Item.own w0.heap.size (some ⟨q_.2.1, 0, none⟩) nu nu 3 1 (cellsOf encI (filK (-1) nu 0))]) (I := fun q_ => True) 4 ((b2, b3, b4)) (trivial) ⟨rfl, rfl, rfl, rfl, rfl, rfl, rfl, rfl, rfl, rfl, rfl, rfl, rfl, rfl, rfl, rfl, rfl, rfl, rfl, rfl, rfl, rfl, rfl, rfl, rfl, rfl, rfl, rfl, rfl, rfl, rfl, rfl, rfl, rfl, rfl, rfl, rfl, rfl, rfl, rfl, rfl, rfl, rfl, rfl, rfl, rfl, rfl, rfl, rfl, rfl, rfl, rfl, rfl, rfl, rfl, rfl, rfl, rfl, trivial⟩ rfl
            · skip
              refine SL.alloc rfl rfl zero67 (fun b5 hb5 => ?_)
              refine SL.norm [_, _, _] rfl ?_
              refine SD.back (fun _ h => HeapOk.take h 1) ?_
              refine SD.one 5 [true, true, true, true, true, true, false, true, false] (by kernel_rfl) rfl rfl ?_
              refine SL.make rfl rfl Try.underlying29 elem3 rfl rfl (by omega) (by omega) (fun b6 hb6 => ?_)
              refine SL.itemxs 3 rfl (show _ = cellsOf encI (filK (-1) nu 0) from by rw [rep_int, filK_zero]) ?_
              refine SL.norm [_, _, _, _] rfl ?_
              refine SD.back (fun _ h => HeapOk.take h 1) ?_
              refine SD.take 6 [true, true, true, true, true, true, true, true, false] rfl (by kernel_rfl) rfl (fun _ h => HeapOk.take h 1) rfl rfl rfl (PureOp.build bld67 rfl rfl) ?_
              refine SD.one 8 [true, true, true, true, true, true, true, true, true] (by kernel_rfl) rfl rfl ?_
              refine SL.store 2 rfl rfl rfl rfl sz67 rfl rfl ?_
              refine SL.norm [_, _, _, _] rfl ?_
              refine SD.back (fun _ h => HeapOk.take h 1) ?_
              refine SD.done (by kernel_rfl) ?_
              refine QX.ofK ?_
              refine QX.heap (fun _ h => HeapOk.pick [0, 2, 1, 3] (by decide) h) ?_
              refine QX.cutx (σ := Nat × Nat × Nat) (E' := fun q_ => [(0, 0, .int .i64 ((nu : Nat) : Int)), (1, 0, .slice ea m ec), (2, 0, .int .i64 s), (3, 0, .int .i64 t), (4, 0, .int .i64 most), (10, 0, .slice none 0 0), (11, 0, .int .i64 0), (12, 0, .int .i64 0), (13, 0, .int .i64 0), (14, 0, .int .i64 (checkE (nu : Int) l s t)), (15, 0, .slice (some ⟨b1, 0, none⟩) m m), (16, 0, .int .i64 a), (17, 0, .int .i64 z), (28, 0, .int .i64 ((nu : Nat) : Int)), (29, 0, .slice ea m ec), (30, 0, .int .i64 s), (31, 0, .int .i64 t), (32, 0, .int .i64 (checkE (nu : Int) l s t)), (33, 0, .int .i64 (checkE (nu : Int) l s t)), (34, 0, .bool (decide (checkE (nu : Int) l s t ≠ 0))), (36, 0, .int .i64 most), (37, 0, .bool (decide (most < 0))), (38, 0, .slice ea m ec), (39, 0, .int .i64 ((m : Nat) : Int)), (40, 0, .slice (some ⟨b1, 0, none⟩) m m), (41, 0, .int .i64 a), (42, 0, .int .i64 most), (43, 0, .bool (decide (a < most))), (18, 0, .pointer (some ⟨q_.2.2, 0, none⟩))]) (H' := fun q_ => [Item.own w0.heap.size (some ⟨b1, 0, none⟩) m m 3 1 (cellsOf encI (f)), Item.cells q_.2.2 [.slice ea m ec, .slice (some ⟨b1, 0, none⟩) m m, .slice (some ⟨q_.1, 0, none⟩) nu nu, .slice (some ⟨q_.2.1, 0, none⟩) nu nu] 67, Item.own w0.heap.size (some ⟨q_.1, 0, none⟩) nu nu 3 1 (cellsOf encI (filK 1152921504606846976 nu 0)), Item.own w0.heap.size (some ⟨q_.2.1, 0, none⟩) nu nu 3 1 (cellsOf encI (filK (-1) nu 0))]) (I := fun q_ => True) 4 ((b2, b6, b5)) (trivial) ⟨rfl, rfl, rfl, rfl, rfl, rfl, rfl, rfl, rfl, rfl, rfl, rfl, rfl, rfl, rfl, rfl, rfl, rfl, rfl, rfl, rfl, rfl, rfl, rfl, rfl, rfl, rfl, rfl, rfl, rfl, rfl, rfl, rfl, rfl, rfl, rfl, rfl, rfl, rfl, rfl, rfl, rfl, rfl, rfl, rfl, rfl, rfl, rfl, rfl, rfl, rfl, rfl, rfl, rfl, rfl, rfl, rfl, rfl, trivial⟩ rfl
          · skip
            refine SL.make rfl rfl Try.underlying29 elem3 rfl rfl (by omega) (by omega) (fun b7 hb7 => ?_)
            refine SL.itemxs 1 rfl (show _ = cellsOf encI (filK (-1) nu 0) from by rw [rep_int, filK_zero]) ?_
            refine SL.norm [_, _] rfl ?_
            refine SD.back (fun _ h => HeapOk.take h 1) ?_
            refine SD.all [3, 7] (by kernel_rfl) (by simp) ⟨⟨_, [true, true, true, true, true, true, false, false, false], rfl, rfl, ?_⟩, ⟨_, [true, true, true, false, true, true, false, true, false], rfl, rfl, ?_⟩, trivial⟩
            · skip
              refine SL.make rfl rfl Try.underlying29 elem3 rfl rfl (by omega) (by omega) (fun b8 hb8 => ?_)
              refine SL.itemxs 2 rfl (show _ = cellsOf encI (filK 1152921504606846976 nu 0) from by rw [rep_int, filK_zero]) ?_
              refine SL.norm [_, _, _] rfl ?_
              refine SD.back (fun _ h => HeapOk.take h 1) ?_
              refine SD.take 6 [true, true, true, true, true, true, true, false, false] rfl (by kernel_rfl) rfl (fun _ h => HeapOk.take h 1) rfl rfl rfl (PureOp.build bld67 rfl rfl) ?_
              refine SD.one 7 [true, true, true, true, true, true, true, true, false] (by kernel_rfl) rfl rfl ?_
              refine SL.alloc rfl rfl zero67 (fun b9 hb9 => ?_)
              refine SL.norm [_, _, _, _] rfl ?_
              refine SD.back (fun _ h => HeapOk.take h 1) ?_
              refine SD.one 8 [true, true, true, true, true, true, true, true, true] (by kernel_rfl) rfl rfl ?_
              refine SL.store 3 rfl rfl rfl rfl sz67 rfl rfl ?_
              refine SL.norm [_, _, _, _] rfl ?_
              refine SD.back (fun _ h => HeapOk.take h 1) ?_
              refine SD.done (by kernel_rfl) ?_
              refine QX.ofK ?_
              refine QX.heap (fun _ h => HeapOk.pick [0, 3, 2, 1] (by decide) h) ?_
              refine QX.cutx (σ := Nat × Nat × Nat) (E' := fun q_ => [(0, 0, .int .i64 ((nu : Nat) : Int)), (1, 0, .slice ea m ec), (2, 0, .int .i64 s), (3, 0, .int .i64 t), (4, 0, .int .i64 most), (10, 0, .slice none 0 0), (11, 0, .int .i64 0), (12, 0, .int .i64 0), (13, 0, .int .i64 0), (14, 0, .int .i64 (checkE (nu : Int) l s t)), (15, 0, .slice (some ⟨b1, 0, none⟩) m m), (16, 0, .int .i64 a), (17, 0, .int .i64 z), (28, 0, .int .i64 ((nu : Nat) : Int)), (29, 0, .slice ea m ec), (30, 0, .int .i64 s), (31, 0, .int .i64 t), (32, 0, .int .i64 (checkE (nu : Int) l s t)), (33, 0, .int .i64 (checkE (nu : Int) l s t)), (34, 0, .bool (decide (checkE (nu : Int) l s t ≠ 0))), (36, 0, .int .i64 most), (37, 0, .bool (decide (most < 0))), (38, 0, .slice ea m ec), (39, 0, .int .i64 ((m : Nat) : Int)), (40, 0, .slice (some ⟨b1, 0, none⟩) m m), (41, 0, .int .i64 a), (42, 0, .int .i64 most), (43, 0, .bool (decide (a < most))), (18, 0, .pointer (some ⟨q_.2.2, 0, none⟩))]) (H' := fun q_ => [Item.own w0.heap.size (some ⟨b1, 0, none⟩) m m 3 1 (cellsOf encI (f)), Item.cells q_.2.2 [.slice ea m ec, .slice (some ⟨b1, 0, none⟩) m m, .slice (some ⟨q_.1, 0, none⟩) nu nu, .slice (some ⟨q_.2.1, 0, none⟩) nu nu] 67, Item.own w0.heap.size (some ⟨q_.1, 0, none⟩) nu nu 3 1 (cellsOf encI (filK 1152921504606846976 nu 0)), Item.own w0.heap.size (some ⟨q_.2.1, 0, none⟩) nu nu 3 1 (cellsOf encI (filK (-1) nu 0))]) (I := fun q_ => True) 4 ((b8, b7, b9)) (trivial) ⟨rfl, rfl, rfl, rfl, rfl, rfl, rfl, rfl, rfl, rfl, rfl, rfl, rfl, rfl, rfl, rfl, rfl, rfl, rfl, rfl, rfl, rfl, rfl, rfl, rfl, rfl, rfl, rfl, rfl, rfl, rfl, rfl, rfl, rfl, rfl, rfl, rfl, rfl, rfl, rfl, rfl, rfl, rfl, rfl, rfl, rfl, rfl, rfl, rfl, rfl, rfl, rfl, rfl, rfl, rfl, rfl, rfl, rfl, trivial⟩ rfl
            · skip
              refine SL.alloc rfl rfl zero67 (fun b10 hb10 => ?_)
              refine SL.norm [_, _, _] rfl ?_
              refine SD.back (fun _ h => HeapOk.take h 1) ?_
              refine SD.one 3 [true, true, true, true, true, true, false, true, false] (by kernel_rfl) rfl rfl ?_
              refine SL.make rfl rfl Try.underlying29 elem3 rfl rfl (by omega) (by omega) (fun b11 hb11 => ?_)
              refine SL.itemxs 3 rfl (show _ = cellsOf encI (filK 1152921504606846976 nu 0) from by rw [rep_int, filK_zero]) ?_
              refine SL.norm [_, _, _, _] rfl ?_
              refine SD.back (fun _ h => HeapOk.take h 1) ?_
              refine SD.take 6 [true, true, true, true, true, true, true, true, false] rfl (by kernel_rfl) rfl (fun _ h => HeapOk.take h 1) rfl rfl rfl (PureOp.build bld67 rfl rfl) ?_
              refine SD.one 8 [true, true, true, true, true, true, true, true, true] (by kernel_rfl) rfl rfl ?_
              refine SL.store 2 rfl rfl rfl rfl sz67 rfl rfl ?_
              refine SL.norm [_, _, _, _] rfl ?_
              refine SD.back (fun _ h => HeapOk.take h 1) ?_
              refine SD.done (by kernel_rfl) ?_
              refine QX.ofK ?_
              refine QX.heap (fun _ h => HeapOk.pick [0, 2, 3, 1] (by decide) h) ?_
              refine QX.cutx (σ := Nat × Nat × Nat) (E' := fun q_ => [(0, 0, .int .i64 ((nu : Nat) : Int)), (1, 0, .slice ea m ec), (2, 0, .int .i64 s), (3, 0, .int .i64 t), (4, 0, .int .i64 most), (10, 0, .slice none 0 0), (11, 0, .int .i64 0), (12, 0, .int .i64 0), (13, 0, .int .i64 0), (14, 0, .int .i64 (checkE (nu : Int) l s t)), (15, 0, .slice (some ⟨b1, 0, none⟩) m m), (16, 0, .int .i64 a), (17, 0, .int .i64 z), (28, 0, .int .i64 ((nu : Nat) : Int)), (29, 0, .slice ea m ec), (30, 0, .int .i64 s), (31, 0, .int .i64 t), (32, 0, .int .i64 (checkE (nu : Int) l s t)), (33, 0, .int .i64 (checkE (nu : Int) l s t)), (34, 0, .bool (decide (checkE (nu : Int) l s t ≠ 0))), (36, 0, .int .i64 most), (37, 0, .bool (decide (most < 0))), (38, 0, .slice ea m ec), (39, 0, .int .i64 ((m : Nat) : Int)), (40, 0, .slice (some ⟨b1, 0, none⟩) m m), (41, 0, .int .i64 a), (42, 0, .int .i64 most), (43, 0, .bool (decide (a < most))), (18, 0, .pointer (some ⟨q_.2.2, 0, none⟩))]) (H' := fun q_ => [Item.own w0.heap.size (some ⟨b1, 0, none⟩) m m 3 1 (cellsOf encI (f)), Item.cells q_.2.2 [.slice ea m ec, .slice (some ⟨b1, 0, none⟩) m m, .slice (some ⟨q_.1, 0, none⟩) nu nu, .slice (some ⟨q_.2.1, 0, none⟩) nu nu] 67, Item.own w0.heap.size (some ⟨q_.1, 0, none⟩) nu nu 3 1 (cellsOf encI (filK 1152921504606846976 nu 0)), Item.own w0.heap.size (some ⟨q_.2.1, 0, none⟩) nu nu 3 1 (cellsOf encI (filK (-1) nu 0))]) (I := fun q_ => True) 4 ((b11, b7, b10)) (trivial) ⟨rfl, rfl, rfl, rfl, rfl, rfl, rfl, rfl, rfl, rfl, rfl, rfl, rfl, rfl, rfl, rfl, rfl, rfl, rfl, rfl, rfl, rfl, rfl, rfl, rfl, rfl, rfl, rfl, rfl, rfl, rfl, rfl, rfl, rfl, rfl, rfl, rfl, rfl, rfl, rfl, rfl, rfl, rfl, rfl, rfl, rfl, rfl, rfl, rfl, rfl, rfl, rfl, rfl, rfl, rfl, rfl, rfl, rfl, trivial⟩ rfl
          · skip
            refine SL.alloc rfl rfl zero67 (fun b12 hb12 => ?_)
            refine SL.norm [_, _] rfl ?_
            refine SD.back (fun _ h => HeapOk.take h 1) ?_
            refine SD.all [3, 5] (by kernel_rfl) (by simp) ⟨⟨_, [true, true, true, true, true, false, false, true, false], rfl, rfl, ?_⟩, ⟨_, [true, true, true, false, true, true, false, true, false], rfl, rfl, ?_⟩, trivial⟩
            · skip
              refine SL.make rfl rfl Try.underlying29 elem3 rfl rfl (by omega) (by omega) (fun b13 hb13 => ?_)
              refine SL.itemxs 2 rfl (show _ = cellsOf encI (filK 1152921504606846976 nu 0) from by rw [rep_int, filK_zero]) ?_
              refine SL.norm [_, _, _] rfl ?_
              refine SD.back (fun _ h => HeapOk.take h 1) ?_
              refine SD.one 5 [true, true, true, true, true, true, false, true, false] (by kernel_rfl) rfl rfl ?_
              refine SL.make rfl rfl Try.underlying29 elem3 rfl rfl (by omega) (by omega) (fun b14 hb14 => ?_)
              refine SL.itemxs 3 rfl (show _ = cellsOf encI (filK (-1) nu 0) from by rw [rep_int, filK_zero]) ?_
              refine SL.norm [_, _, _, _] rfl ?_
              refine SD.back (fun _ h => HeapOk.take h 1) ?_
              refine SD.take 6 [true, true, true, true, true, true, true, true, false] rfl (by kernel_rfl) rfl (fun _ h => HeapOk.take h 1) rfl rfl rfl (PureOp.build bld67 rfl rfl) ?_
              refine SD.one 8 [true, true, true, true, true, true, true, true, true] (by kernel_rfl) rfl rfl ?_
              refine SL.store 1 rfl rfl rfl rfl sz67 rfl rfl ?_
              refine SL.norm [_, _, _, _] rfl ?_
              refine SD.back (fun _ h => HeapOk.take h 1) ?_
              refine SD.done (by kernel_rfl) ?_
              refine QX.ofK ?_
              refine QX.heap (fun _ h => HeapOk.pick [0, 1, 2, 3] (by decide) h) ?_
              refine QX.cutx (σ := Nat × Nat × Nat) (E' := fun q_ => [(0, 0, .int .i64 ((nu : Nat) : Int)), (1, 0, .slice ea m ec), (2, 0, .int .i64 s), (3, 0, .int .i64 t), (4, 0, .int .i64 most), (10, 0, .slice none 0 0), (11, 0, .int .i64 0), (12, 0, .int .i64 0), (13, 0, .int .i64 0), (14, 0, .int .i64 (checkE (nu : Int) l s t)), (15, 0, .slice (some ⟨b1, 0, none⟩) m m), (16, 0, .int .i64 a), (17, 0, .int .i64 z), (28, 0, .int .i64 ((nu : Nat) : Int)), (29, 0, .slice ea m ec), (30, 0, .int .i64 s), (31, 0, .int .i64 t), (32, 0, .int .i64 (checkE (nu : Int) l s t)), (33, 0, .int .i64 (checkE (nu : Int) l s t)), (34, 0, .bool (decide (checkE (nu : Int) l s t ≠ 0))), (36, 0, .int .i64 most), (37, 0, .bool (decide (most < 0))), (38, 0, .slice ea m ec), (39, 0, .int .i64 ((m : Nat) : Int)), (40, 0, .slice (some ⟨b1, 0, none⟩) m m), (41, 0, .int .i64 a), (42, 0, .int .i64 most), (43, 0, .bool (decide (a < most))), (18, 0, .pointer (some ⟨q_.2.2, 0, none⟩))]) (H' := fun q_ => [Item.own w0.heap.size (some ⟨b1, 0, none⟩) m m 3 1 (cellsOf encI (f)), Item.cells q_.2.2 [.slice ea m ec, .slice (some ⟨b1, 0, none⟩) m m, .slice (some ⟨q_.1, 0, none⟩) nu nu, .slice (some ⟨q_.2.1, 0, none⟩) nu nu] 67, Item.own w0.heap.size (some ⟨q_.1, 0, none⟩) nu nu 3 1 (cellsOf encI (filK 1152921504606846976 nu 0)), Item.own w0.heap.size (some ⟨q_.2.1, 0, none⟩) nu nu 3 1 (cellsOf encI (filK (-1) nu 0))]) (I := fun q_ => True) 4 ((b13, b14, b12)) (trivial) ⟨rfl, rfl, rfl, rfl, rfl, rfl, rfl, rfl, rfl, rfl, rfl, rfl, rfl, rfl, rfl, rfl, rfl, rfl, rfl, rfl, rfl, rfl, rfl, rfl, rfl, rfl, rfl, rfl, rfl, rfl, rfl, rfl, rfl, rfl, rfl, rfl, rfl, rfl, rfl, rfl, rfl, rfl, rfl, rfl, rfl, rfl, rfl, rfl, rfl, rfl, rfl, rfl, rfl, rfl, rfl, rfl, rfl, rfl, trivial⟩ rfl
            · skip
              refine SL.make rfl rfl Try.underlying29 elem3 rfl rfl (by omega) (by omega) (fun b15 hb15 => ?_)
              refine SL.itemxs 2 rfl (show _ = cellsOf encI (filK (-1) nu 0) from by rw [rep_int, filK_zero]) ?_
              refine SL.norm [_, _, _] rfl ?_
              refine SD.back (fun _ h => HeapOk.take h 1) ?_
              refine SD.one 3 [true, true, true, true, true, true, false, true, false] (by kernel_rfl) rfl rfl ?_
              refine SL.make rfl rfl Try.underlying29 elem3 rfl rfl (by omega) (by omega) (fun b16 hb16 => ?_)
              refine SL.itemxs 3 rfl (show _ = cellsOf encI (filK 1152921504606846976 nu 0) from by rw [rep_int, filK_zero]) ?_
              refine SL.norm [_, _, _, _] rfl ?_
              refine SD.back (fun _ h => HeapOk.take h 1) ?_
              refine SD.take 6 [true, true, true, true, true, true, true, true, false] rfl (by kernel_rfl) rfl (fun _ h => HeapOk.take h 1) rfl rfl rfl (PureOp.build bld67 rfl rfl) ?_
              refine SD.one 8 [true, true, true, true, true, true, true, true, true] (by kernel_rfl) rfl rfl ?_
              refine SL.store 1 rfl rfl rfl rfl sz67 rfl rfl ?_
              refine SL.norm [_, _, _, _] rfl ?_
              refine SD.back (fun _ h => HeapOk.take h 1) ?_
              refine SD.done (by kernel_rfl) ?_
              refine QX.ofK ?_
              refine QX.heap (fun _ h => HeapOk.pick [0, 1, 3, 2] (by decide) h) ?_
              refine QX.cutx (σ := Nat × Nat × Nat) (E' := fun q_ => [(0, 0, .int .i64 ((nu : Nat) : Int)), (1, 0, .slice ea m ec), (2, 0, .int .i64 s), (3, 0, .int .i64 t), (4, 0, .int .i64 most), (10, 0, .slice none 0 0), (11, 0, .int .i64 0), (12, 0, .int .i64 0), (13, 0, .int .i64 0), (14, 0, .int .i64 (checkE (nu : Int) l s t)), (15, 0, .slice (some ⟨b1, 0, none⟩) m m), (16, 0, .int .i64 a), (17, 0, .int .i64 z), (28, 0, .int .i64 ((nu : Nat) : Int)), (29, 0, .slice ea m ec), (30, 0, .int .i64 s), (31, 0, .int .i64 t), (32, 0, .int .i64 (checkE (nu : Int) l s t)), (33, 0, .int .i64 (checkE (nu : Int) l s t)), (34, 0, .bool (decide (checkE (nu : Int) l s t ≠ 0))), (36, 0, .int .i64 most), (37, 0, .bool (decide (most < 0))), (38, 0, .slice ea m ec), (39, 0, .int .i64 ((m : Nat) : Int)), (40, 0, .slice (some ⟨b1, 0, none⟩) m m), (41, 0, .int .i64 a), (42, 0, .int .i64 most), (43, 0, .bool (decide (a < most))), (18, 0, .pointer (some ⟨q_.2.2, 0, none⟩))]) (H' := fun q_ => [Item.own w0.heap.size (some ⟨b1, 0, none⟩) m m 3 1 (cellsOf encI (f)), Item.cells q_.2.2 [.slice ea m ec, .slice (some ⟨b1, 0, none⟩) m m, .slice (some ⟨q_.1, 0, none⟩) nu nu, .slice (some ⟨q_.2.1, 0, none⟩) nu nu] 67, Item.own w0.heap.size (some ⟨q_.1, 0, none⟩) nu nu 3 1 (cellsOf encI (filK 1152921504606846976 nu 0)), Item.own w0.heap.size (some ⟨q_.2.1, 0, none⟩) nu nu 3 1 (cellsOf encI (filK (-1) nu 0))]) (I := fun q_ => True) 4 ((b16, b15, b12)) (trivial) ⟨rfl, rfl, rfl, rfl, rfl, rfl, rfl, rfl, rfl, rfl, rfl, rfl, rfl, rfl, rfl, rfl, rfl, rfl, rfl, rfl, rfl, rfl, rfl, rfl, rfl, rfl, rfl, rfl, rfl, rfl, rfl, rfl, rfl, rfl, rfl, rfl, rfl, rfl, rfl, rfl, rfl, rfl, rfl, rfl, rfl, rfl, rfl, rfl, rfl, rfl, rfl, rfl, rfl, rfl, rfl, rfl, rfl, rfl, trivial⟩ rfl
        rintro ⟨cb, lb, sb⟩ _
        try dsimp only at *
        refine WC.seq ?_
        refine WC.seq ?_
        refine WC.region ?_
        refine SL.pure rfl rfl rfl (PureOp.move rfl) ?_
        refine SL.pure rfl rfl rfl (PureOp.move rfl) ?_
        refine SL.nil_then ?_
        refine WC.block ?_
        refine WC.loop (σ := Nat) (fun q_ => [(0, 0, .int .i64 ((nu : Nat) : Int)), (1, 0, .slice ea m ec), (2, 0, .int .i64 s), (3, 0, .int .i64 t), (4, 0, .int .i64 most), (10, 0, .slice none 0 0), (11, 0, .int .i64 0), (12, 0, .int .i64 0), (13, 0, .int .i64 0), (14, 0, .int .i64 (checkE (nu : Int) l s t)), (15, 0, .slice (some ⟨b1, 0, none⟩) m m), (16, 0, .int .i64 a), (17, 0, .int .i64 z), (18, 0, .pointer (some ⟨sb, 0, none⟩)), (28, 0, .int .i64 ((nu : Nat) : Int)), (29, 0, .slice ea m ec), (30, 0, .int .i64 s), (31, 0, .int .i64 t), (32, 0, .int .i64 (checkE (nu : Int) l s t)), (33, 0, .int .i64 (checkE (nu : Int) l s t)), (34, 0, .bool (decide (checkE (nu : Int) l s t ≠ 0))), (36, 0, .int .i64 most), (37, 0, .bool (decide (most < 0))), (38, 0, .slice ea m ec), (39, 0, .int .i64 ((m : Nat) : Int)), (40, 0, .slice (some ⟨b1, 0, none⟩) m m), (41, 0, .int .i64 a), (42, 0, .int .i64 most), (43, 0, .bool (decide (a < most))), (51, 0, .int .i64 ((nu : Nat) : Int)), (52, 0, .int .i64 ((q_ : Nat) : Int))]) (fun q_ => [Item.own w0.heap.size (some ⟨b1, 0, none⟩) m m 3 1 (cellsOf encI (f)), Item.cells sb [.slice ea m ec, .slice (some ⟨b1, 0, none⟩) m m, .slice (some ⟨cb, 0, none⟩) nu nu, .slice (some ⟨lb, 0, none⟩) nu nu] 67, Item.own w0.heap.size (some ⟨cb, 0, none⟩) nu nu 3 1 (cellsOf encI (filK 1152921504606846976 nu q_)), Item.own w0.heap.size (some ⟨lb, 0, none⟩) nu nu 3 1 (cellsOf encI (filK (-1) nu q_))]) (fun q_ => q_ ≤ nu) (fun q_ => nu - q_) 4 (0) (Nat.zero_le _) ⟨rfl, rfl, rfl, rfl, rfl, rfl, rfl, rfl, rfl, rfl, rfl, rfl, rfl, rfl, rfl, rfl, rfl, rfl, rfl, rfl, rfl, rfl, rfl, rfl, rfl, rfl, rfl, rfl, rfl, rfl, rfl, rfl, rfl, rfl, rfl, rfl, rfl, rfl, rfl, rfl, rfl, rfl, rfl, rfl, rfl, rfl, rfl, rfl, rfl, rfl, rfl, rfl, rfl, rfl, rfl, rfl, rfl, rfl, rfl, rfl, rfl, rfl, trivial⟩ rfl ?_
        rintro k hk
        refine WC.seq ?_
        refine WC.region ?_
        refine SL.pure rfl rfl rfl (PureOp.lss rfl rfl) ?_
        refine SL.nil_then ?_
        refine WC.seq ?_
        refine WC.cond rfl (fun h4 => ?_) (fun h4 => ?_)
        · try simp only [Bool.and_eq_true, Bool.or_eq_true, Bool.not_eq_true', Bool.not_eq_false', Bool.and_eq_false_iff, Bool.or_eq_false_iff, decide_eq_true_eq, decide_eq_false_iff_not, Int.not_lt, Int.not_le, ne_eq, Decidable.not_not] at h4
          refine WC.skip ?_
          refine QX.then_ ?_
          refine WC.seq ?_
          refine WC.block ?_
          refine WC.seq ?_
          refine WC.region ?_
          refine SL.pure rfl rfl rfl (PureOp.move rfl) ?_
          refine SL.pure rfl rfl rfl (PureOp.assign rfl) ?_
          refine SL.nil_then ?_
          refine WC.region ?_
          refine SL.pure rfl rfl rfl (PureOp.fieldAddrT 2 Try.underlying67 rfl sz29 rfl rfl) ?_
          refine SL.pure rfl rfl rfl (PureOp.load (v := .slice (some ⟨cb, 0, none⟩) nu nu) Try.underlying29 rfl rfl (fun _ => (CellIs.cells 1 rfl rfl))) ?_
          refine SL.pure rfl rfl rfl (PureOp.move rfl) ?_
          refine SL.pure rfl rfl rfl (PureOp.fieldAddrT 3 Try.underlying67 rfl sz29 rfl rfl) ?_
          refine SL.pure rfl rfl rfl (PureOp.load (v := .slice (some ⟨lb, 0, none⟩) nu nu) Try.underlying29 rfl rfl (fun _ => (CellIs.cells 1 rfl rfl))) ?_
          refine SL.pure rfl rfl rfl (PureOp.move rfl) ?_
          refine SL.pure rfl rfl rfl (PureOp.indexAddrN Try.underlying29 sz3 rfl rfl AoOk.lit (fun _ => by omega)) ?_
          refine SL.storeown (k := k) (j := 0) 2 rfl rfl rfl rfl sz3 (by first | (rw [cellsOf_length encI_len]; omega) | (rw [cellsOf_length encI_len, filK_len (by omega)]; omega)) rfl ?_
          refine SL.itemxs 2 rfl (show _ = cellsOf encI (filK 1152921504606846976 nu (k + 1)) from by rw [encI_set (by rw [filK_len (by omega)]; omega), filK_set (by omega)]) ?_
          refine SL.norm [_, _, _, _] rfl ?_
          refine SL.pure rfl rfl rfl (PureOp.indexAddrN Try.underlying29 sz3 rfl rfl AoOk.lit (fun _ => by omega)) ?_
          refine SL.storeown (k := k) (j := 0) 3 rfl rfl rfl rfl sz3 (by first | (rw [cellsOf_length encI_len]; omega) | (rw [cellsOf_length encI_len, filK_len (by omega)]; omega)) rfl ?_
          refine SL.itemxs 3 rfl (show _ = cellsOf encI (filK (-1) nu (k + 1)) from by rw [encI_set (by rw [filK_len (by omega)]; omega), filK_set (by omega)]) ?_
          refine SL.norm [_, _, _, _] rfl ?_
          refine SL.nil ?_
          refine QX.normal_in ?_
          refine QX.then_ ?_
          refine WC.region ?_
          refine SL.pure rfl rfl rfl (PureOp.addN (k := 1) rfl rfl (fun _ => by omega)) ?_
          refine SL.pure rfl rfl rfl (PureOp.move rfl) ?_
          refine SL.nil ?_
          refine QX.round 4 (k + 1) ⟨(by first | omega | (dsimp only; omega)), by first | omega | (dsimp only; omega)⟩ ⟨rfl, rfl, rfl, rfl, rfl, rfl, rfl, rfl, rfl, rfl, rfl, rfl, rfl, rfl, rfl, rfl, rfl, rfl, rfl, rfl, rfl, rfl, rfl, rfl, rfl, rfl, rfl, rfl, rfl, rfl, rfl, rfl, rfl, rfl, rfl, rfl, rfl, rfl, rfl, rfl, rfl, rfl, rfl, rfl, rfl, rfl, rfl, rfl, rfl, rfl, rfl, rfl, rfl, rfl, rfl, rfl, rfl, rfl, rfl, rfl, rfl, rfl, trivial⟩ rfl
        · try simp only [Bool.and_eq_true, Bool.or_eq_true, Bool.not_eq_true', Bool.not_eq_false', Bool.and_eq_false_iff, Bool.or_eq_false_iff, decide_eq_true_eq, decide_eq_false_iff_not, Int.not_lt, Int.not_le, ne_eq, Decidable.not_not] at h4
          have ek : k = nu := by omega
          refine WC.exit ?_
          refine QX.exit_then ?_
          refine QX.exit_then ?_
          refine QX.exit_hit ?_
          refine QX.then_ ?_
          refine WC.seq ?_
          refine WC.region ?_
          refine SL.pure rfl rfl rfl (PureOp.fieldAddrT 2 Try.underlying67 rfl sz29 rfl rfl) ?_
          refine SL.pure rfl rfl rfl (PureOp.load (v := .slice (some ⟨cb, 0, none⟩) nu nu) Try.underlying29 rfl rfl (fun _ => (CellIs.cells 1 rfl rfl))) ?_
          refine SL.pure rfl rfl rfl (PureOp.move rfl) ?_
          refine SL.pure rfl rfl rfl (PureOp.indexAddr Try.underlying29 sz3 rfl rfl AoOk.lit (fun _ => by omega)) ?_
          refine SL.storeown (k := ((s).toNat)) (j := 0) 2 rfl rfl rfl rfl sz3 (by first | (rw [cellsOf_length encI_len]; omega) | (rw [cellsOf_length encI_len, filK_len (by omega)]; omega)) rfl ?_
          refine SL.itemxs 2 rfl (show _ = cellsOf encI (initC nu s) from by rw [show k = nu from ek, filK_full]; exact encI_set (by simp; omega)) ?_
          refine SL.norm [_, _, _, _] rfl ?_
          refine SL.nil_then ?_
          refine WC.seq ?_
          refine WC.region ?_
          refine SL.itemxs 3 rfl (show _ = cellsOf encI (List.replicate nu (-1)) from by rw [show k = nu from ek, filK_full]) ?_
          refine SL.norm [_, _, _, _] rfl ?_
          refine SL.callM [1, 2, 3, 0] rfl rfl rfl rfl rfl rfl callable42 (by decide) (runo_ok sb nu l ea m ec hm (by omega) f (some ⟨b1, 0, none⟩) m m (by omega) rfl (initC nu s) (List.replicate nu (-1)) cb lb 0 hE initC_bd (by simp) (by omega) (by omega) (by omega) w0 sE) rfl (fun _ _ => rfl) ?_
          rintro ⟨⟩ ⟨hcB, hlaL⟩
          have hsr : runF l f (nu + 1) (initC nu s) (List.replicate nu (-1)) = srch l f nu s := rfl
          rw [hsr] at hcB hlaL ⊢
          refine SL.norm [_, _, _, _] rfl ?_
          refine SL.nil_then ?_
          refine WC.seq ?_
          refine WC.seq ?_
          refine WC.region ?_
          refine SL.pure rfl rfl rfl (PureOp.fieldAddrT 2 Try.underlying67 rfl sz29 rfl rfl) ?_
          refine SL.pure rfl rfl rfl (PureOp.load (v := .slice (some ⟨cb, 0, none⟩) nu nu) Try.underlying29 rfl rfl (fun _ => (CellIs.cells 1 rfl rfl))) ?_
          refine SL.pure rfl rfl rfl (PureOp.move rfl) ?_
          refine SL.pure rfl rfl rfl (PureOp.indexAddr Try.underlying29 sz3 rfl rfl AoOk.lit (fun _ => by omega)) ?_
          refine SL.pure rfl rfl rfl (PureOp.load (v := .int .i64 (nth ((srch l f nu s).1) ((t).toNat))) Try.underlying3 rfl rfl (fun _ => (CellIs.ownc 2 rfl ((t).toNat) 0 (by exact encI_get (by first | omega | (rw [hcB.len]; omega)))))) ?_
          refine SL.pure rfl rfl rfl (PureOp.eql rfl rfl) ?_
          refine SL.nil_then ?_
          refine WC.cond rfl (fun h5 => ?_) (fun h5 => ?_)
          · try simp only [Bool.and_eq_true, Bool.or_eq_true, Bool.not_eq_true', Bool.not_eq_false', Bool.and_eq_false_iff, Bool.or_eq_false_iff, decide_eq_true_eq, decide_eq_false_iff_not, Int.not_lt, Int.not_le, ne_eq, Decidable.not_not] at h5
            refine WC.exit ?_
            refine QX.exit_then ?_
            refine QX.exit_miss rfl ?_
            refine QX.exit_then ?_
            refine QX.exit_hit ?_
            refine QX.then_ ?_
            refine WC.seq ?_
            refine WC.region ?_
            refine SL.pure rfl rfl rfl (PureOp.move rfl) ?_
            refine SL.pure rfl rfl rfl (PureOp.move rfl) ?_
            refine SL.pure rfl rfl rfl (PureOp.move rfl) ?_
            refine SL.pure rfl rfl rfl (PureOp.assign rfl) ?_
            refine SL.pure rfl rfl rfl (PureOp.assign rfl) ?_
            refine SL.pure rfl rfl rfl (PureOp.assign rfl) ?_
            refine SL.pure rfl rfl rfl (PureOp.assign rfl) ?_
            refine SL.nil_then ?_
            refine WC.ret ?_
            refine QX.retv rfl (RVs.cons (RV.tmp rfl) (RVs.cons (RV.tmp rfl) (RVs.cons (RV.tmp rfl) (RVs.cons (RV.tmp rfl) RVs.nil)))) ?_
            intro w hw
            have eR := slv_far hs h3 h5
            subst eR
            refine ⟨_, _, rfl, ?_⟩
            exact hw.mem (i := 0) rfl
          · try simp only [Bool.and_eq_true, Bool.or_eq_true, Bool.not_eq_true', Bool.not_eq_false', Bool.and_eq_false_iff, Bool.or_eq_false_iff, decide_eq_true_eq, decide_eq_false_iff_not, Int.not_lt, Int.not_le, ne_eq, Decidable.not_not] at h5
            obtain ⟨Kp, Y, G, rfl, htr, hbd, htr2, hs⟩ := slv_step hs h3 h5
            have hMl := mul_bd2 (A := 65536) (B := 17592186044416) hbd.1 hbd.2.1 hbd.2.2.2.1 hbd.2.2.2.2.1
            refine WC.skip ?_
            refine QX.then_ ?_
            refine WC.seq ?_
            refine WC.region ?_
            refine SL.pure rfl rfl rfl (PureOp.move rfl) ?_
            refine SL.pure rfl rfl rfl (PureOp.move rfl) ?_
            refine SL.pure rfl rfl rfl (PureOp.sub rfl rfl (fun _ => by omega)) ?_
            refine SL.pure rfl rfl rfl (PureOp.assign rfl) ?_
            refine SL.nil_then ?_
            refine WC.seq ?_
            refine WC.seq ?_
            refine WC.region ?_
            refine SL.pure rfl rfl rfl (PureOp.move rfl) ?_
            refine SL.pure rfl rfl rfl (PureOp.assign rfl) ?_
            refine SL.nil_then ?_
            refine WC.block ?_
            refine WC.loop (σ := Nat × Int × Int) (fun q_ => [(0, 0, .int .i64 ((nu : Nat) : Int)), (1, 0, .slice ea m ec), (2, 0, .int .i64 s), (3, 0, .int .i64 t), (4, 0, .int .i64 most), (10, 0, .slice none 0 0), (11, 0, .int .i64 0), (12, 0, .int .i64 0), (13, 0, .int .i64 0), (14, 0, .int .i64 (checkE (nu : Int) l s t)), (15, 0, .slice (some ⟨b1, 0, none⟩) m m), (16, 0, .int .i64 a), (17, 0, .int .i64 z), (18, 0, .pointer (some ⟨sb, 0, none⟩)), (28, 0, .int .i64 ((nu : Nat) : Int)), (29, 0, .slice ea m ec), (30, 0, .int .i64 s), (31, 0, .int .i64 t), (32, 0, .int .i64 (checkE (nu : Int) l s t)), (33, 0, .int .i64 (checkE (nu : Int) l s t)), (34, 0, .bool (decide (checkE (nu : Int) l s t ≠ 0))), (36, 0, .int .i64 most), (37, 0, .bool (decide (most < 0))), (38, 0, .slice ea m ec), (39, 0, .int .i64 ((m : Nat) : Int)), (40, 0, .slice (some ⟨b1, 0, none⟩) m m), (41, 0, .int .i64 a), (42, 0, .int .i64 most), (43, 0, .bool (decide (a < most))), (51, 0, .int .i64 ((nu : Nat) : Int)), (52, 0, .int .i64 ((k : Nat) : Int)), (53, 0, .bool (decide (((k : Nat) : Int) < ((nu : Nat) : Int)))), (64, 0, .pointer (some ⟨sb, 2, none⟩)), (65, 0, .slice (some ⟨cb, 0, none⟩) nu nu), (66, 0, .int .i64 s), (67, 0, .pointer (some ⟨blk (some ⟨cb, 0, none⟩), off (some ⟨cb, 0, none⟩) + ((s).toNat) * 1, none⟩)), (69, 0, .pointer (some ⟨sb, 2, none⟩)), (70, 0, .slice (some ⟨cb, 0, none⟩) nu nu), (71, 0, .int .i64 t), (72, 0, .pointer (some ⟨blk (some ⟨cb, 0, none⟩), off (some ⟨cb, 0, none⟩) + ((t).toNat) * 1, none⟩)), (73, 0, .int .i64 (nth ((srch l f nu s).1) ((t).toNat))), (74, 0, .bool (decide (nth ((srch l f nu s).1) ((t).toNat) = 1152921504606846976))), (75, 0, .int .i64 most), (76, 0, .int .i64 a), (77, 0, .int .i64 (most - a)), (78, 0, .int .i64 t), (21, 0, .int .i64 q_.2.1), (20, 0, .int .i64 q_.2.2)]) (fun q_ => [Item.own w0.heap.size (some ⟨b1, 0, none⟩) m m 3 1 (cellsOf encI f), Item.cells sb [.slice ea m ec, .slice (some ⟨b1, 0, none⟩) m m, .slice (some ⟨cb, 0, none⟩) nu nu, .slice (some ⟨lb, 0, none⟩) nu nu] 67, Item.own w0.heap.size (some ⟨cb, 0, none⟩) nu nu 3 1 (cellsOf encI ((srch l f nu s).1)), Item.own w0.heap.size (some ⟨lb, 0, none⟩) nu nu 3 1 (cellsOf encI ((srch l f nu s).2.1))]) (fun q_ => tr1 l f (srch l f nu s).1 (srch l f nu s).2.1 s q_.1 q_.2.1 q_.2.2 = some Y ∧ 0 ≤ q_.2.1 ∧ q_.2.1 < nu) (fun q_ => q_.1) 4 ((nu + 1, t, most - a)) (⟨htr, by dsimp only; omega, by dsimp only; omega⟩) ⟨rfl, rfl, rfl, rfl, rfl, rfl, rfl, rfl, rfl, rfl, rfl, rfl, rfl, rfl, rfl, rfl, rfl, rfl, rfl, rfl, rfl, rfl, rfl, rfl, rfl, rfl, rfl, rfl, rfl, rfl, rfl, rfl, rfl, rfl, rfl, rfl, rfl, rfl, rfl, rfl, rfl, rfl, rfl, rfl, rfl, rfl, rfl, rfl, rfl, rfl, rfl, rfl, rfl, rfl, rfl, rfl, rfl, rfl, rfl, rfl, rfl, rfl, rfl, rfl, rfl, rfl, rfl, rfl, rfl, rfl, rfl, rfl, rfl, rfl, rfl, rfl, rfl, rfl, rfl, rfl, rfl, rfl, rfl, rfl, rfl, rfl, rfl, rfl, rfl, rfl, rfl, rfl, rfl, rfl, rfl, rfl, trivial⟩ rfl ?_
            rintro ⟨Kc, v_, y⟩ ⟨htr1, hv0, hv1⟩
            try dsimp only at *
            refine WC.seq ?_
            refine WC.seq ?_
            refine WC.region ?_
            refine SL.pure rfl rfl rfl (PureOp.move rfl) ?_
            refine SL.pure rfl rfl rfl (PureOp.move rfl) ?_
            refine SL.pure rfl rfl rfl (PureOp.neq rfl rfl) ?_
            refine SL.nil_then ?_
            refine WC.cond rfl (fun h6 => ?_) (fun h6 => ?_)
            · try simp only [Bool.and_eq_true, Bool.or_eq_true, Bool.not_eq_true', Bool.not_eq_false', Bool.and_eq_false_iff, Bool.or_eq_false_iff, decide_eq_true_eq, decide_eq_false_iff_not, Int.not_lt, Int.not_le, ne_eq, Decidable.not_not] at h6
              obtain ⟨Kq, rfl, hl2, htrn⟩ := tr1_step htr1 h6
              have hbv := backV_in (f := f) (c := (srch l f nu s).1) hE hl2
              have hl3 : nth (srch l f nu s).2.1 v_.toNat < m := by omega
              refine WC.skip ?_
              refine QX.then_ ?_
              refine WC.block ?_
              refine WC.seq ?_
              refine WC.region ?_
              refine SL.pure rfl rfl rfl (PureOp.move rfl) ?_
              refine SL.calle rfl rfl rfl rfl rfl rfl callable43 (fun w hw => back_ok sb nu l ea m ec hm (by omega) f (some ⟨b1, 0, none⟩) m m (by omega) rfl (srch l f nu s).1 (srch l f nu s).2.1 cb lb (-1152921504606846976) hE hcB hlaL (by omega) (by omega) hWf v_ ⟨by omega, by omega⟩ ⟨hl2.1, hl3⟩ w (ObjIn.of hw 1 rfl) (sE.below hw.below) (SliceIn.rows (l := f) (hw.mem (i := 0) rfl) encI_len (by omega)) (SliceIn.rows (l := (srch l f nu s).1) (hw.mem (i := 2) rfl) encI_len (by rw [hcB.len]; exact Nat.le_refl _)) (SliceIn.rows (l := (srch l f nu s).2.1) (hw.mem (i := 3) rfl) encI_len (by omega))) ?_
              refine SL.norm [_, _, _, _] rfl ?_
              refine SL.pure rfl rfl rfl (PureOp.move rfl) ?_
              refine SL.pure rfl rfl rfl (PureOp.extract rfl rfl) ?_
              refine SL.pure rfl rfl rfl (PureOp.extract rfl rfl) ?_
              refine SL.pure rfl rfl rfl (PureOp.assign rfl) ?_
              refine SL.pure rfl rfl rfl (PureOp.assign rfl) ?_
              refine SL.nil_then ?_
              refine WC.region ?_
              refine SL.pure rfl rfl rfl (PureOp.move rfl) ?_
              refine SL.pure rfl rfl rfl (PureOp.move rfl) ?_
              refine SL.pure rfl rfl rfl (PureOp.min_ rfl rfl) ?_
              refine SL.pure rfl rfl rfl (PureOp.move rfl) ?_
              refine SL.pure rfl rfl rfl (PureOp.assign rfl) ?_
              refine SL.pure rfl rfl rfl (PureOp.assign rfl) ?_
              refine SL.nil ?_
              refine QX.normal_in ?_
              refine QX.round (σ := Nat × Int × Int) (Ef := fun q_ => [(0, 0, .int .i64 ((nu : Nat) : Int)), (1, 0, .slice ea m ec), (2, 0, .int .i64 s), (3, 0, .int .i64 t), (4, 0, .int .i64 most), (10, 0, .slice none 0 0), (11, 0, .int .i64 0), (12, 0, .int .i64 0), (13, 0, .int .i64 0), (14, 0, .int .i64 (checkE (nu : Int) l s t)), (15, 0, .slice (some ⟨b1, 0, none⟩) m m), (16, 0, .int .i64 a), (17, 0, .int .i64 z), (18, 0, .pointer (some ⟨sb, 0, none⟩)), (28, 0, .int .i64 ((nu : Nat) : Int)), (29, 0, .slice ea m ec), (30, 0, .int .i64 s), (31, 0, .int .i64 t), (32, 0, .int .i64 (checkE (nu : Int) l s t)), (33, 0, .int .i64 (checkE (nu : Int) l s t)), (34, 0, .bool (decide (checkE (nu : Int) l s t ≠ 0))), (36, 0, .int .i64 most), (37, 0, .bool (decide (most < 0))), (38, 0, .slice ea m ec), (39, 0, .int .i64 ((m : Nat) : Int)), (40, 0, .slice (some ⟨b1, 0, none⟩) m m), (41, 0, .int .i64 a), (42, 0, .int .i64 most), (43, 0, .bool (decide (a < most))), (51, 0, .int .i64 ((nu : Nat) : Int)), (52, 0, .int .i64 ((k : Nat) : Int)), (53, 0, .bool (decide (((k : Nat) : Int) < ((nu : Nat) : Int)))), (64, 0, .pointer (some ⟨sb, 2, none⟩)), (65, 0, .slice (some ⟨cb, 0, none⟩) nu nu), (66, 0, .int .i64 s), (67, 0, .pointer (some ⟨blk (some ⟨cb, 0, none⟩), off (some ⟨cb, 0, none⟩) + ((s).toNat) * 1, none⟩)), (69, 0, .pointer (some ⟨sb, 2, none⟩)), (70, 0, .slice (some ⟨cb, 0, none⟩) nu nu), (71, 0, .int .i64 t), (72, 0, .pointer (some ⟨blk (some ⟨cb, 0, none⟩), off (some ⟨cb, 0, none⟩) + ((t).toNat) * 1, none⟩)), (73, 0, .int .i64 (nth ((srch l f nu s).1) ((t).toNat))), (74, 0, .bool (decide (nth ((srch l f nu s).1) ((t).toNat) = 1152921504606846976))), (75, 0, .int .i64 most), (76, 0, .int .i64 a), (77, 0, .int .i64 (most - a)), (78, 0, .int .i64 t), (21, 0, .int .i64 q_.2.1), (20, 0, .int .i64 q_.2.2)]) (Hf := fun q_ => [Item.own w0.heap.size (some ⟨b1, 0, none⟩) m m 3 1 (cellsOf encI f), Item.cells sb [.slice ea m ec, .slice (some ⟨b1, 0, none⟩) m m, .slice (some ⟨cb, 0, none⟩) nu nu, .slice (some ⟨lb, 0, none⟩) nu nu] 67, Item.own w0.heap.size (some ⟨cb, 0, none⟩) nu nu 3 1 (cellsOf encI ((srch l f nu s).1)), Item.own w0.heap.size (some ⟨lb, 0, none⟩) nu nu 3 1 (cellsOf encI ((srch l f nu s).2.1))]) (I := fun q_ => tr1 l f (srch l f nu s).1 (srch l f nu s).2.1 s q_.1 q_.2.1 q_.2.2 = some Y ∧ 0 ≤ q_.2.1 ∧ q_.2.1 < nu) (μ := fun q_ => q_.1) (s := ((Kq + 1), v_, y)) 4 ((Kq, backV l f (srch l f nu s).1 (srch l f nu s).2.1 v_, min y (backR l f (srch l f nu s).1 (srch l f nu s).2.1 v_))) ⟨⟨htrn, hbv.1, hbv.2⟩, by first | omega | (dsimp only; omega)⟩ ⟨rfl, rfl, rfl, rfl, rfl, rfl, rfl, rfl, rfl, rfl, rfl, rfl, rfl, rfl, rfl, rfl, rfl, rfl, rfl, rfl, rfl, rfl, rfl, rfl, rfl, rfl, rfl, rfl, rfl, rfl, rfl, rfl, rfl, rfl, rfl, rfl, rfl, rfl, rfl, rfl, rfl, rfl, rfl, rfl, rfl, rfl, rfl, rfl, rfl, rfl, rfl, rfl, rfl, rfl, rfl, rfl, rfl, rfl, rfl, rfl, rfl, rfl, rfl, rfl, rfl, rfl, rfl, rfl, rfl, rfl, rfl, rfl, rfl, rfl, rfl, rfl, rfl, rfl, rfl, rfl, rfl, rfl, rfl, rfl, rfl, rfl, rfl, rfl, rfl, rfl, rfl, rfl, rfl, rfl, rfl, rfl, trivial⟩ rfl
            · try simp only [Bool.and_eq_true, Bool.or_eq_true, Bool.not_eq_true', Bool.not_eq_false', Bool.and_eq_false_iff, Bool.or_eq_false_iff, decide_eq_true_eq, decide_eq_false_iff_not, Int.not_lt, Int.not_le, ne_eq, Decidable.not_not] at h6
              have ey := tr1_end htr1 h6
              subst ey
              refine WC.exit ?_
              refine QX.exit_then ?_
              refine QX.exit_then ?_
              refine QX.exit_hit ?_
              refine QX.then_ ?_
              refine WC.seq ?_
              refine WC.seq ?_
              refine WC.region ?_
              refine SL.pure rfl rfl rfl (PureOp.move rfl) ?_
              refine SL.pure rfl rfl rfl (PureOp.assign rfl) ?_
              refine SL.nil_then ?_
              refine WC.block ?_
              refine WC.loop (σ := Nat × Int × List Int) (fun q_ => [(0, 0, .int .i64 ((nu : Nat) : Int)), (1, 0, .slice ea m ec), (2, 0, .int .i64 s), (3, 0, .int .i64 t), (4, 0, .int .i64 most), (10, 0, .slice none 0 0), (11, 0, .int .i64 0), (12, 0, .int .i64 0), (13, 0, .int .i64 0), (14, 0, .int .i64 (checkE (nu : Int) l s t)), (15, 0, .slice (some ⟨b1, 0, none⟩) m m), (16, 0, .int .i64 a), (17, 0, .int .i64 z), (18, 0, .pointer (some ⟨sb, 0, none⟩)), (20, 0, .int .i64 y), (21, 0, .int .i64 v_), (28, 0, .int .i64 ((nu : Nat) : Int)), (29, 0, .slice ea m ec), (30, 0, .int .i64 s), (31, 0, .int .i64 t), (32, 0, .int .i64 (checkE (nu : Int) l s t)), (33, 0, .int .i64 (checkE (nu : Int) l s t)), (34, 0, .bool (decide (checkE (nu : Int) l s t ≠ 0))), (36, 0, .int .i64 most), (37, 0, .bool (decide (most < 0))), (38, 0, .slice ea m ec), (39, 0, .int .i64 ((m : Nat) : Int)), (40, 0, .slice (some ⟨b1, 0, none⟩) m m), (41, 0, .int .i64 a), (42, 0, .int .i64 most), (43, 0, .bool (decide (a < most))), (51, 0, .int .i64 ((nu : Nat) : Int)), (52, 0, .int .i64 ((k : Nat) : Int)), (53, 0, .bool (decide (((k : Nat) : Int) < ((nu : Nat) : Int)))), (64, 0, .pointer (some ⟨sb, 2, none⟩)), (65, 0, .slice (some ⟨cb, 0, none⟩) nu nu), (66, 0, .int .i64 s), (67, 0, .pointer (some ⟨blk (some ⟨cb, 0, none⟩), off (some ⟨cb, 0, none⟩) + ((s).toNat) * 1, none⟩)), (69, 0, .pointer (some ⟨sb, 2, none⟩)), (70, 0, .slice (some ⟨cb, 0, none⟩) nu nu), (71, 0, .int .i64 t), (72, 0, .pointer (some ⟨blk (some ⟨cb, 0, none⟩), off (some ⟨cb, 0, none⟩) + ((t).toNat) * 1, none⟩)), (73, 0, .int .i64 (nth ((srch l f nu s).1) ((t).toNat))), (74, 0, .bool (decide (nth ((srch l f nu s).1) ((t).toNat) = 1152921504606846976))), (75, 0, .int .i64 most), (76, 0, .int .i64 a), (77, 0, .int .i64 (most - a)), (78, 0, .int .i64 t), (79, 0, .int .i64 v_), (80, 0, .int .i64 s), (81, 0, .bool (decide (v_ ≠ s))), (91, 0, .int .i64 t), (24, 0, .int .i64 q_.2.1)]) (fun q_ => [Item.own w0.heap.size (some ⟨b1, 0, none⟩) m m 3 1 (cellsOf encI (q_.2.2)), Item.cells sb [.slice ea m ec, .slice (some ⟨b1, 0, none⟩) m m, .slice (some ⟨cb, 0, none⟩) nu nu, .slice (some ⟨lb, 0, none⟩) nu nu] 67, Item.own w0.heap.size (some ⟨cb, 0, none⟩) nu nu 3 1 (cellsOf encI ((srch l f nu s).1)), Item.own w0.heap.size (some ⟨lb, 0, none⟩) nu nu 3 1 (cellsOf encI ((srch l f nu s).2.1))]) (fun q_ => tr2 l (srch l f nu s).1 (srch l f nu s).2.1 s y q_.1 q_.2.1 q_.2.2 = some G ∧ 0 ≤ q_.2.1 ∧ q_.2.1 < nu ∧ (∀ i, i < l.length → 0 ≤ nth q_.2.2 i ∧ nth q_.2.2 i ≤ (nth l i).2.2.1) ∧ q_.2.2.length = m) (fun q_ => q_.1) 4 ((nu + 1, t, f)) (⟨htr2, by dsimp only; omega, by dsimp only; omega, hWf, hfl⟩) ⟨rfl, rfl, rfl, rfl, rfl, rfl, rfl, rfl, rfl, rfl, rfl, rfl, rfl, rfl, rfl, rfl, rfl, rfl, rfl, rfl, rfl, rfl, rfl, rfl, rfl, rfl, rfl, rfl, rfl, rfl, rfl, rfl, rfl, rfl, rfl, rfl, rfl, rfl, rfl, rfl, rfl, rfl, rfl, rfl, rfl, rfl, rfl, rfl, rfl, rfl, rfl, rfl, rfl, rfl, rfl, rfl, rfl, rfl, rfl, rfl, rfl, rfl, rfl, rfl, rfl, rfl, rfl, rfl, rfl, rfl, rfl, rfl, rfl, rfl, rfl, rfl, rfl, rfl, rfl, rfl, rfl, rfl, rfl, rfl, rfl, rfl, rfl, rfl, rfl, rfl, rfl, rfl, rfl, rfl, rfl, rfl, rfl, rfl, rfl, rfl, rfl, rfl, rfl, rfl, rfl, rfl, trivial⟩ rfl ?_
              rintro ⟨Kd, u_, g⟩ ⟨htd, hu0, hu1, hWg, hgl⟩
              try dsimp only at *
              refine WC.seq ?_
              refine WC.seq ?_
              refine WC.region ?_
              refine SL.pure rfl rfl rfl (PureOp.move rfl) ?_
              refine SL.pure rfl rfl rfl (PureOp.move rfl) ?_
              refine SL.pure rfl rfl rfl (PureOp.neq rfl rfl) ?_
              refine SL.nil_then ?_
              refine WC.cond rfl (fun h7 => ?_) (fun h7 => ?_)
              · try simp only [Bool.and_eq_true, Bool.or_eq_true, Bool.not_eq_true', Bool.not_eq_false', Bool.and_eq_false_iff, Bool.or_eq_false_iff, decide_eq_true_eq, decide_eq_false_iff_not, Int.not_lt, Int.not_le, ne_eq, Decidable.not_not] at h7
                obtain ⟨Kr, rfl, hl2, hnf, htdn⟩ := tr2_step htd h7
                have hbv := backV_in (f := g) (c := (srch l f nu s).1) hE hl2
                have hl3 : nth (srch l f nu s).2.1 u_.toNat < m := by omega
                have hEi := hE ((nth (srch l f nu s).2.1 u_.toNat).toNat) (by omega)
                have hWi := hWg ((nth (srch l f nu s).2.1 u_.toNat).toNat) (by omega)
                have hcl := hcB.len
                have hcb := hcB.bd (backV l g (srch l f nu s).1 (srch l f nu s).2.1 u_).toNat (by omega)
                have hcu := hcB.bd u_.toNat (by omega)
                refine WC.skip ?_
                refine QX.then_ ?_
                refine WC.block ?_
                refine WC.seq ?_
                refine WC.region ?_
                refine SL.pure rfl rfl rfl (PureOp.fieldAddrT 3 Try.underlying67 rfl sz29 rfl rfl) ?_
                refine SL.pure rfl rfl rfl (PureOp.load (v := .slice (some ⟨lb, 0, none⟩) nu nu) Try.underlying29 rfl rfl (fun _ => (CellIs.cells 1 rfl rfl))) ?_
                refine SL.pure rfl rfl rfl (PureOp.move rfl) ?_
                refine SL.pure rfl rfl rfl (PureOp.indexAddr Try.underlying29 sz3 rfl rfl AoOk.lit (fun _ => by omega)) ?_
                refine SL.pure rfl rfl rfl (PureOp.load (v := .int .i64 (nth ((srch l f nu s).2.1) ((u_).toNat))) Try.underlying3 rfl rfl (fun _ => (CellIs.ownc 3 rfl ((u_).toNat) 0 (by exact encI_get (by first | omega | (rw [hcB.len]; omega)))))) ?_
                refine SL.pure rfl rfl rfl (PureOp.assign rfl) ?_
                refine SL.nil_then ?_
                refine WC.seq ?_
                refine WC.region ?_
                refine SL.pure rfl rfl rfl (PureOp.move rfl) ?_
                refine SL.calle rfl rfl rfl rfl rfl rfl callable43 (fun w hw => back_ok sb nu l ea m ec hm (by omega) g (some ⟨b1, 0, none⟩) m m (by omega) rfl (srch l f nu s).1 (srch l f nu s).2.1 cb lb (-1152921504606846976) hE hcB hlaL (by omega) (by omega) hWg u_ ⟨by omega, by omega⟩ ⟨hl2.1, hl3⟩ w (ObjIn.of hw 1 rfl) (sE.below hw.below) (SliceIn.rows (l := g) (hw.mem (i := 0) rfl) encI_len (by omega)) (SliceIn.rows (l := (srch l f nu s).1) (hw.mem (i := 2) rfl) encI_len (by rw [hcB.len]; exact Nat.le_refl _)) (SliceIn.rows (l := (srch l f nu s).2.1) (hw.mem (i := 3) rfl) encI_len (by omega))) ?_
                refine SL.norm [_, _, _, _] rfl ?_
                refine SL.pure rfl rfl rfl (PureOp.move rfl) ?_
                refine SL.pure rfl rfl rfl (PureOp.extract rfl rfl) ?_
                refine SL.pure rfl rfl rfl (PureOp.extract rfl rfl) ?_
                refine SL.pure rfl rfl rfl (PureOp.assign rfl) ?_
                refine SL.pure rfl rfl rfl (PureOp.assign rfl) ?_
                refine SL.nil_then ?_
                refine WC.seq ?_
                refine WC.seq ?_
                refine WC.quiet rfl (by kernel_rfl) ?_
                refine SQ.pure rfl rfl rfl (PureOp.move rfl) ?_
                refine SQ.pure rfl rfl rfl (PureOp.move rfl) ?_
                refine SQ.pure rfl rfl rfl (PureOp.move rfl) ?_
                refine SQ.pure rfl rfl rfl (PureOp.indexAddr Try.underlying22 sz61 rfl rfl (AoOk.in_ sE) (fun _ => by omega)) ?_
                refine SQ.pure rfl rfl rfl (PureOp.fieldAddr 0 Try.underlying61 rfl rfl sz3 rfl) ?_
                refine SQ.pure rfl rfl rfl (PureOp.load (v := .int .i64 ((nth l ((nth ((srch l f nu s).2.1) ((u_).toNat)).toNat)).1)) Try.underlying3 rfl rfl (fun _ => (CellIs.in_ sE ((nth ((srch l f nu s).2.1) ((u_).toNat)).toNat) 0 (by omega) (by omega)))) ?_
                refine SQ.pure rfl rfl rfl (PureOp.eql rfl rfl) ?_
                refine SQ.pure rfl rfl rfl (PureOp.move rfl) ?_
                refine SQ.newg 112 true rfl ?_
                refine SQ.gpure (c := 1) rfl rfl rfl rfl rfl rfl rfl (PureOp.move rfl) ?_
                refine SQ.gpure (c := 1) rfl rfl rfl rfl rfl rfl rfl (PureOp.move rfl) ?_
                refine SQ.gpure (c := 1) rfl rfl rfl rfl rfl rfl rfl (PureOp.indexAddr Try.underlying22 sz61 rfl rfl (AoOk.in_ sE) (by intro hg; simp [gval] at hg; omega)) ?_
                refine SQ.gpure (c := 1) rfl rfl rfl rfl rfl rfl rfl (PureOp.fieldAddr 1 Try.underlying61 rfl rfl sz3 rfl) ?_
                refine SQ.gpure (c := 1) rfl rfl rfl rfl rfl rfl rfl (PureOp.load (v := .int .i64 ((nth l ((nth ((srch l f nu s).2.1) ((u_).toNat)).toNat)).2.1)) Try.underlying3 rfl rfl (by intro hg; simp [gval] at hg; exact (CellIs.in_ sE ((nth ((srch l f nu s).2.1) ((u_).toNat)).toNat) 1 (by omega) (by omega)))) ?_
                refine SQ.gpure (c := 1) rfl rfl rfl rfl rfl rfl rfl (PureOp.move rfl) ?_
                refine SQ.gpure (c := 1) rfl rfl rfl rfl rfl rfl rfl (PureOp.eql rfl rfl) ?_
                refine SQ.pure rfl rfl rfl (PureOp.and_ rfl rfl rfl rfl) ?_
                refine SQ.pure rfl rfl rfl (PureOp.move rfl) ?_
                refine SQ.newg 121 true rfl ?_
                refine SQ.gpure (c := 2) rfl rfl rfl rfl rfl rfl rfl (PureOp.move rfl) ?_
                refine SQ.gpure (c := 2) rfl rfl rfl rfl rfl rfl rfl (PureOp.move rfl) ?_
                refine SQ.gpure (c := 2) rfl rfl rfl rfl rfl rfl rfl (PureOp.indexAddr Try.underlying29 sz3 rfl rfl AoOk.lit (by intro hg; simp [gval] at hg; omega)) ?_
                refine SQ.gpure (c := 2) rfl rfl rfl rfl rfl rfl rfl (PureOp.load (v := .int .i64 (nth g ((nth ((srch l f nu s).2.1) ((u_).toNat)).toNat))) Try.underlying3 rfl rfl (by intro hg; simp [gval] at hg; exact (CellIs.ownc 0 rfl ((nth ((srch l f nu s).2.1) ((u_).toNat)).toNat) 0 (by exact encI_get (by first | omega | (rw [hcB.len]; omega)))))) ?_
                refine SQ.gpure (c := 2) rfl rfl rfl rfl rfl rfl rfl (PureOp.move rfl) ?_
                refine SQ.gpure (c := 2) rfl rfl rfl rfl rfl rfl rfl (PureOp.move rfl) ?_
                refine SQ.gpure (c := 2) rfl rfl rfl rfl rfl rfl rfl (PureOp.indexAddr Try.underlying22 sz61 rfl rfl (AoOk.in_ sE) (by intro hg; simp [gval] at hg; omega)) ?_
                refine SQ.gpure (c := 2) rfl rfl rfl rfl rfl rfl rfl (PureOp.fieldAddr 2 Try.underlying61 rfl rfl sz3 rfl) ?_
                refine SQ.gpure (c := 2) rfl rfl rfl rfl rfl rfl rfl (PureOp.load (v := .int .i64 ((nth l ((nth ((srch l f nu s).2.1) ((u_).toNat)).toNat)).2.2.1)) Try.underlying3 rfl rfl (by intro hg; simp [gval] at hg; exact (CellIs.in_ sE ((nth ((srch l f nu s).2.1) ((u_).toNat)).toNat) 2 (by omega) (by omega)))) ?_
                refine SQ.gpure (c := 2) rfl rfl rfl rfl rfl rfl rfl (PureOp.lss rfl rfl) ?_
                refine SQ.pure rfl rfl rfl (PureOp.and_ rfl rfl rfl rfl) ?_
                refine SQ.pure rfl rfl rfl (PureOp.move rfl) ?_
                refine SQ.newg 133 true rfl ?_
                refine SQ.gpure (c := 3) rfl rfl rfl rfl rfl rfl rfl (PureOp.fieldAddrT 2 Try.underlying67 rfl sz29 rfl rfl) ?_
                refine SQ.gpure (c := 3) rfl rfl rfl rfl rfl rfl rfl (PureOp.load (v := .slice (some ⟨cb, 0, none⟩) nu nu) Try.underlying29 rfl rfl (fun _ => (CellIs.cells 1 rfl rfl))) ?_
                refine SQ.gpure (c := 3) rfl rfl rfl rfl rfl rfl rfl (PureOp.move rfl) ?_
                refine SQ.gpure (c := 3) rfl rfl rfl rfl rfl rfl rfl (PureOp.indexAddr Try.underlying29 sz3 rfl rfl AoOk.lit (by intro hg; simp [gval] at hg; omega)) ?_
                refine SQ.gpure (c := 3) rfl rfl rfl rfl rfl rfl rfl (PureOp.load (v := .int .i64 (nth ((srch l f nu s).1) ((backV l g (srch l f nu s).1 (srch l f nu s).2.1 u_).toNat))) Try.underlying3 rfl rfl (by intro hg; simp [gval] at hg; exact (CellIs.ownc 2 rfl ((backV l g (srch l f nu s).1 (srch l f nu s).2.1 u_).toNat) 0 (by exact encI_get (by first | omega | (rw [hcB.len]; omega)))))) ?_
                refine SQ.gpure (c := 3) rfl rfl rfl rfl rfl rfl rfl (PureOp.move rfl) ?_
                refine SQ.gpure (c := 3) rfl rfl rfl rfl rfl rfl rfl (PureOp.move rfl) ?_
                refine SQ.gpure (c := 3) rfl rfl rfl rfl rfl rfl rfl (PureOp.indexAddr Try.underlying22 sz61 rfl rfl (AoOk.in_ sE) (by intro hg; simp [gval] at hg; omega)) ?_
                refine SQ.gpure (c := 3) rfl rfl rfl rfl rfl rfl rfl (PureOp.fieldAddr 3 Try.underlying61 rfl rfl sz3 rfl) ?_
                refine SQ.gpure (c := 3) rfl rfl rfl rfl rfl rfl rfl (PureOp.load (v := .int .i64 ((nth l ((nth ((srch l f nu s).2.1) ((u_).toNat)).toNat)).2.2.2)) Try.underlying3 rfl rfl (by intro hg; simp [gval] at hg; exact (CellIs.in_ sE ((nth ((srch l f nu s).2.1) ((u_).toNat)).toNat) 3 (by omega) (by omega)))) ?_
                refine SQ.gpure (c := 3) rfl rfl rfl rfl rfl rfl rfl (PureOp.add rfl rfl (by intro hg; simp [gval] at hg; omega)) ?_
                refine SQ.gpure (c := 3) rfl rfl rfl rfl rfl rfl rfl (PureOp.fieldAddrT 2 Try.underlying67 rfl sz29 rfl rfl) ?_
                refine SQ.gpure (c := 3) rfl rfl rfl rfl rfl rfl rfl (PureOp.load (v := .slice (some ⟨cb, 0, none⟩) nu nu) Try.underlying29 rfl rfl (fun _ => (CellIs.cells 1 rfl rfl))) ?_
                refine SQ.gpure (c := 3) rfl rfl rfl rfl rfl rfl rfl (PureOp.move rfl) ?_
                refine SQ.gpure (c := 3) rfl rfl rfl rfl rfl rfl rfl (PureOp.indexAddr Try.underlying29 sz3 rfl rfl AoOk.lit (by intro hg; simp [gval] at hg; omega)) ?_
                refine SQ.gpure (c := 3) rfl rfl rfl rfl rfl rfl rfl (PureOp.load (v := .int .i64 (nth ((srch l f nu s).1) ((u_).toNat))) Try.underlying3 rfl rfl (by intro hg; simp [gval] at hg; exact (CellIs.ownc 2 rfl ((u_).toNat) 0 (by exact encI_get (by first | omega | (rw [hcB.len]; omega)))))) ?_
                refine SQ.gpure (c := 3) rfl rfl rfl rfl rfl rfl rfl (PureOp.eql rfl rfl) ?_
                refine SQ.pure rfl rfl rfl (PureOp.and_ rfl rfl rfl rfl) ?_
                refine SQ.nil_then ?_
                refine WC.cond rfl (fun h8 => ?_) (fun h8 => ?_)
                · try simp only [Bool.and_eq_true, Bool.or_eq_true, Bool.not_eq_true', Bool.not_eq_false', Bool.and_eq_false_iff, Bool.or_eq_false_iff, decide_eq_true_eq, decide_eq_false_iff_not, Int.not_lt, Int.not_le, ne_eq, Decidable.not_not] at h8
                  have hN1 : tr2N l g (srch l f nu s).1 (srch l f nu s).2.1 u_ y = nth g ((nth (srch l f nu s).2.1 u_.toNat).toNat) + y := if_pos (by unfold tr2C; simp only [backI, Bool.and_eq_true, decide_eq_true_iff]; exact h8)
                  refine WC.region ?_
                  refine SL.pure rfl rfl rfl (PureOp.move rfl) ?_
                  refine SL.pure rfl rfl rfl (PureOp.move rfl) ?_
                  refine SL.pure rfl rfl rfl (PureOp.indexAddr Try.underlying29 sz3 rfl rfl AoOk.lit (fun _ => by omega)) ?_
                  refine SL.pure rfl rfl rfl (PureOp.load (v := .int .i64 (nth g ((nth ((srch l f nu s).2.1) ((u_).toNat)).toNat))) Try.underlying3 rfl rfl (fun _ => (CellIs.ownc 0 rfl ((nth ((srch l f nu s).2.1) ((u_).toNat)).toNat) 0 (by exact encI_get (by first | omega | (rw [hcB.len]; omega)))))) ?_
                  refine SL.pure rfl rfl rfl (PureOp.move rfl) ?_
                  refine SL.pure rfl rfl rfl (PureOp.add rfl rfl (fun _ => by omega)) ?_
                  refine SL.pure rfl rfl rfl (PureOp.indexAddr Try.underlying29 sz3 rfl rfl AoOk.lit (fun _ => by omega)) ?_
                  refine SL.storeown (k := ((nth ((srch l f nu s).2.1) ((u_).toNat)).toNat)) (j := 0) 0 rfl rfl rfl rfl sz3 (by first | (rw [cellsOf_length encI_len]; omega) | (rw [cellsOf_length encI_len, filK_len (by omega)]; omega)) rfl ?_
                  refine SL.itemxs 0 rfl (show _ = cellsOf encI (g.set ((nth (srch l f nu s).2.1 u_.toNat).toNat) (nth g ((nth (srch l f nu s).2.1 u_.toNat).toNat) + y)) from encI_set (by omega)) ?_
                  refine SL.norm [_, _, _, _] rfl ?_
                  refine SL.nil_then ?_
                  refine WC.region ?_
                  refine SL.pure rfl rfl rfl (PureOp.move rfl) ?_
                  refine SL.pure rfl rfl rfl (PureOp.assign rfl) ?_
                  refine SL.nil ?_
                  refine QX.normal_in ?_
                  refine QX.round (σ := Nat × Int × List Int) (Ef := fun q_ => [(0, 0, .int .i64 ((nu : Nat) : Int)), (1, 0, .slice ea m ec), (2, 0, .int .i64 s), (3, 0, .int .i64 t), (4, 0, .int .i64 most), (10, 0, .slice none 0 0), (11, 0, .int .i64 0), (12, 0, .int .i64 0), (13, 0, .int .i64 0), (14, 0, .int .i64 (checkE (nu : Int) l s t)), (15, 0, .slice (some ⟨b1, 0, none⟩) m m), (16, 0, .int .i64 a), (17, 0, .int .i64 z), (18, 0, .pointer (some ⟨sb, 0, none⟩)), (20, 0, .int .i64 y), (21, 0, .int .i64 v_), (28, 0, .int .i64 ((nu : Nat) : Int)), (29, 0, .slice ea m ec), (30, 0, .int .i64 s), (31, 0, .int .i64 t), (32, 0, .int .i64 (checkE (nu : Int) l s t)), (33, 0, .int .i64 (checkE (nu : Int) l s t)), (34, 0, .bool (decide (checkE (nu : Int) l s t ≠ 0))), (36, 0, .int .i64 most), (37, 0, .bool (decide (most < 0))), (38, 0, .slice ea m ec), (39, 0, .int .i64 ((m : Nat) : Int)), (40, 0, .slice (some ⟨b1, 0, none⟩) m m), (41, 0, .int .i64 a), (42, 0, .int .i64 most), (43, 0, .bool (decide (a < most))), (51, 0, .int .i64 ((nu : Nat) : Int)), (52, 0, .int .i64 ((k : Nat) : Int)), (53, 0, .bool (decide (((k : Nat) : Int) < ((nu : Nat) : Int)))), (64, 0, .pointer (some ⟨sb, 2, none⟩)), (65, 0, .slice (some ⟨cb, 0, none⟩) nu nu), (66, 0, .int .i64 s), (67, 0, .pointer (some ⟨blk (some ⟨cb, 0, none⟩), off (some ⟨cb, 0, none⟩) + ((s).toNat) * 1, none⟩)), (69, 0, .pointer (some ⟨sb, 2, none⟩)), (70, 0, .slice (some ⟨cb, 0, none⟩) nu nu), (71, 0, .int .i64 t), (72, 0, .pointer (some ⟨blk (some ⟨cb, 0, none⟩), off (some ⟨cb, 0, none⟩) + ((t).toNat) * 1, none⟩)), (73, 0, .int .i64 (nth ((srch l f nu s).1) ((t).toNat))), (74, 0, .bool (decide (nth ((srch l f nu s).1) ((t).toNat) = 1152921504606846976))), (75, 0, .int .i64 most), (76, 0, .int .i64 a), (77, 0, .int .i64 (most - a)), (78, 0, .int .i64 t), (79, 0, .int .i64 v_), (80, 0, .int .i64 s), (81, 0, .bool (decide (v_ ≠ s))), (91, 0, .int .i64 t), (24, 0, .int .i64 q_.2.1)]) (Hf := fun q_ => [Item.own w0.heap.size (some ⟨b1, 0, none⟩) m m 3 1 (cellsOf encI (q_.2.2)), Item.cells sb [.slice ea m ec, .slice (some ⟨b1, 0, none⟩) m m, .slice (some ⟨cb, 0, none⟩) nu nu, .slice (some ⟨lb, 0, none⟩) nu nu] 67, Item.own w0.heap.size (some ⟨cb, 0, none⟩) nu nu 3 1 (cellsOf encI ((srch l f nu s).1)), Item.own w0.heap.size (some ⟨lb, 0, none⟩) nu nu 3 1 (cellsOf encI ((srch l f nu s).2.1))]) (I := fun q_ => tr2 l (srch l f nu s).1 (srch l f nu s).2.1 s y q_.1 q_.2.1 q_.2.2 = some G ∧ 0 ≤ q_.2.1 ∧ q_.2.1 < nu ∧ (∀ i, i < l.length → 0 ≤ nth q_.2.2 i ∧ nth q_.2.2 i ≤ (nth l i).2.2.1) ∧ q_.2.2.length = m) (μ := fun q_ => q_.1) (s := ((Kr + 1), u_, g)) 4 ((Kr, (backV l g (srch l f nu s).1 (srch l f nu s).2.1 u_), g.set ((nth (srch l f nu s).2.1 u_.toNat).toNat) (nth g ((nth (srch l f nu s).2.1 u_.toNat).toNat) + y))) ⟨⟨by rw [hN1] at htdn; exact htdn, hbv.1, hbv.2, flow_set hWg (by omega) (by rw [hN1] at hnf; exact hnf), by rw [List.length_set]; exact hgl⟩, by first | omega | (dsimp only; omega)⟩ ⟨rfl, rfl, rfl, rfl, rfl, rfl, rfl, rfl, rfl, rfl, rfl, rfl, rfl, rfl, rfl, rfl, rfl, rfl, rfl, rfl, rfl, rfl, rfl, rfl, rfl, rfl, rfl, rfl, rfl, rfl, rfl, rfl, rfl, rfl, rfl, rfl, rfl, rfl, rfl, rfl, rfl, rfl, rfl, rfl, rfl, rfl, rfl, rfl, rfl, rfl, rfl, rfl, rfl, rfl, rfl, rfl, rfl, rfl, rfl, rfl, rfl, rfl, rfl, rfl, rfl, rfl, rfl, rfl, rfl, rfl, rfl, rfl, rfl, rfl, rfl, rfl, rfl, rfl, rfl, rfl, rfl, rfl, rfl, rfl, rfl, rfl, rfl, rfl, rfl, rfl, rfl, rfl, rfl, rfl, rfl, rfl, rfl, rfl, rfl, rfl, rfl, rfl, rfl, rfl, rfl, rfl, trivial⟩ rfl
                · try simp only [Bool.and_eq_true, Bool.or_eq_true, Bool.not_eq_true', Bool.not_eq_false', Bool.and_eq_false_iff, Bool.or_eq_false_iff, decide_eq_true_eq, decide_eq_false_iff_not, Int.not_lt, Int.not_le, ne_eq, Decidable.not_not] at h8
                  have hN2 : tr2N l g (srch l f nu s).1 (srch l f nu s).2.1 u_ y = nth g ((nth (srch l f nu s).2.1 u_.toNat).toNat) - y := if_neg (by unfold tr2C; simp only [backI, Bool.and_eq_true, decide_eq_true_iff]; omega)
                  refine WC.region ?_
                  refine SL.pure rfl rfl rfl (PureOp.move rfl) ?_
                  refine SL.pure rfl rfl rfl (PureOp.move rfl) ?_
                  refine SL.pure rfl rfl rfl (PureOp.indexAddr Try.underlying29 sz3 rfl rfl AoOk.lit (fun _ => by omega)) ?_
                  refine SL.pure rfl rfl rfl (PureOp.load (v := .int .i64 (nth g ((nth ((srch l f nu s).2.1) ((u_).toNat)).toNat))) Try.underlying3 rfl rfl (fun _ => (CellIs.ownc 0 rfl ((nth ((srch l f nu s).2.1) ((u_).toNat)).toNat) 0 (by exact encI_get (by first | omega | (rw [hcB.len]; omega)))))) ?_
                  refine SL.pure rfl rfl rfl (PureOp.move rfl) ?_
                  refine SL.pure rfl rfl rfl (PureOp.sub rfl rfl (fun _ => by omega)) ?_
                  refine SL.pure rfl rfl rfl (PureOp.indexAddr Try.underlying29 sz3 rfl rfl AoOk.lit (fun _ => by omega)) ?_
                  refine SL.storeown (k := ((nth ((srch l f nu s).2.1) ((u_).toNat)).toNat)) (j := 0) 0 rfl rfl rfl rfl sz3 (by first | (rw [cellsOf_length encI_len]; omega) | (rw [cellsOf_length encI_len, filK_len (by omega)]; omega)) rfl ?_
                  refine SL.itemxs 0 rfl (show _ = cellsOf encI (g.set ((nth (srch l f nu s).2.1 u_.toNat).toNat) (nth g ((nth (srch l f nu s).2.1 u_.toNat).toNat) - y)) from encI_set (by omega)) ?_
                  refine SL.norm [_, _, _, _] rfl ?_
                  refine SL.nil_then ?_
                  refine WC.region ?_
                  refine SL.pure rfl rfl rfl (PureOp.move rfl) ?_
                  refine SL.pure rfl rfl rfl (PureOp.assign rfl) ?_
                  refine SL.nil ?_
                  refine QX.normal_in ?_
                  refine QX.round (σ := Nat × Int × List Int) (Ef := fun q_ => [(0, 0, .int .i64 ((nu : Nat) : Int)), (1, 0, .slice ea m ec), (2, 0, .int .i64 s), (3, 0, .int .i64 t), (4, 0, .int .i64 most), (10, 0, .slice none 0 0), (11, 0, .int .i64 0), (12, 0, .int .i64 0), (13, 0, .int .i64 0), (14, 0, .int .i64 (checkE (nu : Int) l s t)), (15, 0, .slice (some ⟨b1, 0, none⟩) m m), (16, 0, .int .i64 a), (17, 0, .int .i64 z), (18, 0, .pointer (some ⟨sb, 0, none⟩)), (20, 0, .int .i64 y), (21, 0, .int .i64 v_), (28, 0, .int .i64 ((nu : Nat) : Int)), (29, 0, .slice ea m ec), (30, 0, .int .i64 s), (31, 0, .int .i64 t), (32, 0, .int .i64 (checkE (nu : Int) l s t)), (33, 0, .int .i64 (checkE (nu : Int) l s t)), (34, 0, .bool (decide (checkE (nu : Int) l s t ≠ 0))), (36, 0, .int .i64 most), (37, 0, .bool (decide (most < 0))), (38, 0, .slice ea m ec), (39, 0, .int .i64 ((m : Nat) : Int)), (40, 0, .slice (some ⟨b1, 0, none⟩) m m), (41, 0, .int .i64 a), (42, 0, .int .i64 most), (43, 0, .bool (decide (a < most))), (51, 0, .int .i64 ((nu : Nat) : Int)), (52, 0, .int .i64 ((k : Nat) : Int)), (53, 0, .bool (decide (((k : Nat) : Int) < ((nu : Nat) : Int)))), (64, 0, .pointer (some ⟨sb, 2, none⟩)), (65, 0, .slice (some ⟨cb, 0, none⟩) nu nu), (66, 0, .int .i64 s), (67, 0, .pointer (some ⟨blk (some ⟨cb, 0, none⟩), off (some ⟨cb, 0, none⟩) + ((s).toNat) * 1, none⟩)), (69, 0, .pointer (some ⟨sb, 2, none⟩)), (70, 0, .slice (some ⟨cb, 0, none⟩) nu nu), (71, 0, .int .i64 t), (72, 0, .pointer (some ⟨blk (some ⟨cb, 0, none⟩), off (some ⟨cb, 0, none⟩) + ((t).toNat) * 1, none⟩)), (73, 0, .int .i64 (nth ((srch l f nu s).1) ((t).toNat))), (74, 0, .bool (decide (nth ((srch l f nu s).1) ((t).toNat) = 1152921504606846976))), (75, 0, .int .i64 most), (76, 0, .int .i64 a), (77, 0, .int .i64 (most - a)), (78, 0, .int .i64 t), (79, 0, .int .i64 v_), (80, 0, .int .i64 s), (81, 0, .bool (decide (v_ ≠ s))), (91, 0, .int .i64 t), (24, 0, .int .i64 q_.2.1)]) (Hf := fun q_ => [Item.own w0.heap.size (some ⟨b1, 0, none⟩) m m 3 1 (cellsOf encI (q_.2.2)), Item.cells sb [.slice ea m ec, .slice (some ⟨b1, 0, none⟩) m m, .slice (some ⟨cb, 0, none⟩) nu nu, .slice (some ⟨lb, 0, none⟩) nu nu] 67, Item.own w0.heap.size (some ⟨cb, 0, none⟩) nu nu 3 1 (cellsOf encI ((srch l f nu s).1)), Item.own w0.heap.size (some ⟨lb, 0, none⟩) nu nu 3 1 (cellsOf encI ((srch l f nu s).2.1))]) (I := fun q_ => tr2 l (srch l f nu s).1 (srch l f nu s).2.1 s y q_.1 q_.2.1 q_.2.2 = some G ∧ 0 ≤ q_.2.1 ∧ q_.2.1 < nu ∧ (∀ i, i < l.length → 0 ≤ nth q_.2.2 i ∧ nth q_.2.2 i ≤ (nth l i).2.2.1) ∧ q_.2.2.length = m) (μ := fun q_ => q_.1) (s := ((Kr + 1), u_, g)) 4 ((Kr, (backV l g (srch l f nu s).1 (srch l f nu s).2.1 u_), g.set ((nth (srch l f nu s).2.1 u_.toNat).toNat) (nth g ((nth (srch l f nu s).2.1 u_.toNat).toNat) - y))) ⟨⟨by rw [hN2] at htdn; exact htdn, hbv.1, hbv.2, flow_set hWg (by omega) (by rw [hN2] at hnf; exact hnf), by rw [List.length_set]; exact hgl⟩, by first | omega | (dsimp only; omega)⟩ ⟨rfl, rfl, rfl, rfl, rfl, rfl, rfl, rfl, rfl, rfl, rfl, rfl, rfl, rfl, rfl, rfl, rfl, rfl, rfl, rfl, rfl, rfl, rfl, rfl, rfl, rfl, rfl, rfl, rfl, rfl, rfl, rfl, rfl, rfl, rfl, rfl, rfl, rfl, rfl, rfl, rfl, rfl, rfl, rfl, rfl, rfl, rfl, rfl, rfl, rfl, rfl, rfl, rfl, rfl, rfl, rfl, rfl, rfl, rfl, rfl, rfl, rfl, rfl, rfl, rfl, rfl, rfl, rfl, rfl, rfl, rfl, rfl, rfl, rfl, rfl, rfl, rfl, rfl, rfl, rfl, rfl, rfl, rfl, rfl, rfl, rfl, rfl, rfl, rfl, rfl, rfl, rfl, rfl, rfl, rfl, rfl, rfl, rfl, rfl, rfl, rfl, rfl, rfl, rfl, rfl, rfl, trivial⟩ rfl
              · try simp only [Bool.and_eq_true, Bool.or_eq_true, Bool.not_eq_true', Bool.not_eq_false', Bool.and_eq_false_iff, Bool.or_eq_false_iff, decide_eq_true_eq, decide_eq_false_iff_not, Int.not_lt, Int.not_le, ne_eq, Decidable.not_not] at h7
                have eg := tr2_end htd h7
                subst eg
                refine WC.exit ?_
                refine QX.exit_then ?_
                refine QX.exit_then ?_
                refine QX.exit_hit ?_
                refine QX.then_ ?_
                refine WC.quiet rfl (by kernel_rfl) ?_
                refine SQ.pure rfl rfl rfl (PureOp.move rfl) ?_
                refine SQ.pure rfl rfl rfl (PureOp.move rfl) ?_
                refine SQ.pure rfl rfl rfl (PureOp.add rfl rfl (fun _ => by omega)) ?_
                refine SQ.pure rfl rfl rfl (PureOp.move rfl) ?_
                refine SQ.pure rfl rfl rfl (PureOp.move rfl) ?_
                refine SQ.pure rfl rfl rfl (PureOp.fieldAddrT 2 Try.underlying67 rfl sz29 rfl rfl) ?_
                refine SQ.pure rfl rfl rfl (PureOp.load (v := .slice (some ⟨cb, 0, none⟩) nu nu) Try.underlying29 rfl rfl (fun _ => (CellIs.cells 1 rfl rfl))) ?_
                refine SQ.pure rfl rfl rfl (PureOp.move rfl) ?_
                refine SQ.pure rfl rfl rfl (PureOp.indexAddr Try.underlying29 sz3 rfl rfl AoOk.lit (fun _ => by omega)) ?_
                refine SQ.pure rfl rfl rfl (PureOp.load (v := .int .i64 (nth ((srch l f nu s).1) ((t).toNat))) Try.underlying3 rfl rfl (fun _ => (CellIs.ownc 2 rfl ((t).toNat) 0 (by exact encI_get (by first | omega | (rw [hcB.len]; omega)))))) ?_
                refine SQ.pure rfl rfl rfl (PureOp.mul rfl rfl (fun _ => by omega)) ?_
                refine SQ.pure rfl rfl rfl (PureOp.add rfl rfl (fun _ => by omega)) ?_
                refine SQ.pure rfl rfl rfl (PureOp.assign rfl) ?_
                refine SQ.pure rfl rfl rfl (PureOp.assign rfl) ?_
                refine SQ.nil ?_
                refine QX.normal_in ?_
                refine QX.round (σ := Nat × List Int × Int × Int) (Ef := fun q_ => [(0, 0, .int .i64 ((nu : Nat) : Int)), (1, 0, .slice ea m ec), (2, 0, .int .i64 s), (3, 0, .int .i64 t), (4, 0, .int .i64 most), (10, 0, .slice none 0 0), (11, 0, .int .i64 0), (12, 0, .int .i64 0), (13, 0, .int .i64 0), (14, 0, .int .i64 (checkE (nu : Int) l s t)), (15, 0, .slice (some ⟨b1, 0, none⟩) m m), (28, 0, .int .i64 ((nu : Nat) : Int)), (29, 0, .slice ea m ec), (30, 0, .int .i64 s), (31, 0, .int .i64 t), (32, 0, .int .i64 (checkE (nu : Int) l s t)), (33, 0, .int .i64 (checkE (nu : Int) l s t)), (34, 0, .bool (decide (checkE (nu : Int) l s t ≠ 0))), (36, 0, .int .i64 most), (37, 0, .bool (decide (most < 0))), (38, 0, .slice ea m ec), (39, 0, .int .i64 ((m : Nat) : Int)), (40, 0, .slice (some ⟨b1, 0, none⟩) m m), (16, 0, .int .i64 q_.2.2.1), (17, 0, .int .i64 q_.2.2.2)]) (Hf := fun q_ => [Item.own w0.heap.size (some ⟨b1, 0, none⟩) m m 3 1 (cellsOf encI (q_.2.1))]) (I := fun q_ => slv l nu s t most q_.1 q_.2.1 q_.2.2.1 q_.2.2.2 = some R ∧ (∀ i, i < l.length → 0 ≤ nth q_.2.1 i ∧ nth q_.2.1 i ≤ (nth l i).2.2.1) ∧ q_.2.1.length = m ∧ 0 ≤ q_.2.2.1) (μ := fun q_ => q_.1) (s := ((Kp + 1), f, a, z)) 1 ((Kp, g, a + y, z + y * nth (srch l f nu s).1 t.toNat)) ⟨⟨hs, hWg, hgl, by dsimp only; omega⟩, by first | omega | (dsimp only; omega)⟩ ⟨rfl, rfl, rfl, rfl, rfl, rfl, rfl, rfl, rfl, rfl, rfl, rfl, rfl, rfl, rfl, rfl, rfl, rfl, rfl, rfl, rfl, rfl, rfl, rfl, rfl, rfl, rfl, rfl, rfl, rfl, rfl, rfl, rfl, rfl, rfl, rfl, rfl, rfl, rfl, rfl, rfl, rfl, rfl, rfl, rfl, rfl, rfl, rfl, rfl, rfl, trivial⟩ rfl
      · try simp only [Bool.and_eq_true, Bool.or_eq_true, Bool.not_eq_true', Bool.not_eq_false', Bool.and_eq_false_iff, Bool.or_eq_false_iff, decide_eq_true_eq, decide_eq_false_iff_not, Int.not_lt, Int.not_le, ne_eq, Decidable.not_not] at h3
        refine WC.exit ?_
        refine QX.exit_then ?_
        refine QX.exit_then ?_
        refine QX.exit_hit ?_
        refine QX.then_ ?_
        refine WC.seq ?_
        refine WC.region ?_
        refine SL.pure rfl rfl rfl (PureOp.move rfl) ?_
        refine SL.pure rfl rfl rfl (PureOp.move rfl) ?_
        refine SL.pure rfl rfl rfl (PureOp.move rfl) ?_
        refine SL.pure rfl rfl rfl (PureOp.assign rfl) ?_
        refine SL.pure rfl rfl rfl (PureOp.assign rfl) ?_
        refine SL.pure rfl rfl rfl (PureOp.assign rfl) ?_
        refine SL.pure rfl rfl rfl (PureOp.assign rfl) ?_
        refine SL.nil_then ?_
        refine WC.ret ?_
        refine QX.retv rfl (RVs.cons (RV.tmp rfl) (RVs.cons (RV.tmp rfl) (RVs.cons (RV.tmp rfl) (RVs.cons (RV.tmp rfl) RVs.nil)))) ?_
        intro w hw
        have eR := slv_done hs (by omega)
        subst eR
        refine ⟨_, _, rfl, ?_⟩
        exact hw.mem (i := 0) rfl

end Go.Proofs.Ytngkbnaehkailaa
