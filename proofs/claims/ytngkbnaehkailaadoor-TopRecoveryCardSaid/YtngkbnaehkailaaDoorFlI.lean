import Derived.Test.YtngkbnaehkailaaDoorFlH
namespace Go.Proofs.YtngkbnaehkailaaDoor
open Go Go.RowKit Eng
set_option linter.unusedVariables false
set_option linter.unusedSimpArgs false

set_option maxHeartbeats 4000000 in
set_option maxRecDepth 100000 in
theorem prices_ok (n : Int) (l : List Ed) (ea : Option Addr) (m ec : Nat) (hm : m = l.length) (f : List Int) (fa : Option Addr) (q fc : Nat) (hq : q = f.length) (w0 : World) (sE : SliceIn w0 4 ea m ec (rowsF encEd l)) (sF : SliceIn w0 1 fa q fc (rowsF encI f)) : FnC Tryd.prog 9 [.int .i64 n, .slice ea m ec, .slice fa q fc] w0 fun v w' => ∃ a c, v = .tuple #[.slice a (pricesF n l f).1.length c, .bool (pricesF n l f).2] ∧ w'.ownsRow w0.heap.size 3 1 (.slice a (pricesF n l f).1.length c) (pricesF n l f).1.length (cellsOf encI (pricesF n l f).1) := by
  refine fnc (N := 25) Tryd.func9 rfl rfl rfl ?_
  refine WC.seq ?_
  refine WC.region ?_
  refine SL.pure rfl rfl rfl (PureOp.assign rfl) ?_
  refine SL.pure rfl rfl rfl (PureOp.assign rfl) ?_
  refine SL.nil_then ?_
  refine WC.seq ?_
  refine WC.seq ?_
  refine WC.region ?_
  refine SL.pure rfl rfl rfl (PureOp.move rfl) ?_
  refine SL.pure rfl rfl rfl (PureOp.move rfl) ?_
  refine SL.pure rfl rfl rfl (PureOp.move rfl) ?_
  refine SL.calle rfl rfl rfl rfl rfl rfl callable19 (fun w hw => right_ok n l ea m ec hm f fa q fc hq w (sE.below hw.below) (sF.below hw.below)) ?_
  refine SL.norm [] rfl ?_
  refine SL.pure rfl rfl rfl (PureOp.not rfl) ?_
  refine SL.nil_then ?_
  refine WC.cond rfl (fun h1 => ?_) (fun h1 => ?_)
  · try simp only [Bool.and_eq_true, Bool.or_eq_true, Bool.not_eq_true', Bool.not_eq_false', Bool.and_eq_false_iff, Bool.or_eq_false_iff, decide_eq_true_eq, decide_eq_false_iff_not, Int.not_lt, Int.not_le, ne_eq, Decidable.not_not] at h1
    refine WC.seq ?_
    refine WC.region ?_
    refine SL.pure rfl rfl rfl (PureOp.assign rfl) ?_
    refine SL.pure rfl rfl rfl (PureOp.assign rfl) ?_
    refine SL.nil_then ?_
    refine WC.ret ?_
    refine QX.ret_then ?_
    refine QX.ret2 rfl rfl rfl ?_
    intro w hw
    have e : pricesF n l f = ([], false) := if_neg (by rw [h1]; simp)
    rw [e]
    exact ⟨none, 0, rfl, ownsRow_nil⟩
  · try simp only [Bool.and_eq_true, Bool.or_eq_true, Bool.not_eq_true', Bool.not_eq_false', Bool.and_eq_false_iff, Bool.or_eq_false_iff, decide_eq_true_eq, decide_eq_false_iff_not, Int.not_lt, Int.not_le, ne_eq, Decidable.not_not] at h1
    obtain ⟨hc0, hw0⟩ := right_parts h1
    have hql := (within_ok hw0).1
    obtain ⟨hc, hE⟩ := check_ok (n := n) (l := l) (s := 0) (t := 1) (by assumption)
    obtain ⟨nu, rfl⟩ : ∃ k : Nat, n = (k : Int) := ⟨n.toNat, by omega⟩
    refine WC.skip ?_
    refine QX.then_ ?_
    refine WC.cutx (σ := Nat × Nat × Nat) (fun q_ => [(0, 0, .int .i64 ((nu : Nat) : Int)), (1, 0, .slice ea m ec), (2, 0, .slice fa q fc), (6, 0, .slice none 0 0), (7, 0, .bool false), (9, 0, .int .i64 ((nu : Nat) : Int)), (10, 0, .slice ea m ec), (11, 0, .slice fa q fc), (12, 0, .bool (rightB (nu : Int) l f)), (13, 0, .bool (!(rightB (nu : Int) l f))), (8, 0, .pointer (some ⟨q_.2.2, 0, none⟩))]) (fun q_ => [Item.cells q_.2.2 [.slice ea m ec, .slice fa q fc, .slice (some ⟨q_.1, 0, none⟩) nu nu, .slice (some ⟨q_.2.1, 0, none⟩) nu nu] 58, Item.own w0.heap.size (some ⟨q_.1, 0, none⟩) nu nu 3 1 (cellsOf encI (List.replicate nu 0)), Item.own w0.heap.size (some ⟨q_.2.1, 0, none⟩) nu nu 3 1 (cellsOf encI (List.replicate nu 0))]) (fun q_ => True) ?_ ?_
    · skip
      refine WC.drawH 9 [false, false, false, false, false, false, false, false, false] rfl rfl rfl ?_
      refine SD.take 0 [true, false, false, false, false, false, false, false, false] rfl (by kernel_rfl) rfl (fun _ h => h) rfl rfl rfl (PureOp.move rfl) ?_
      refine SD.take 1 [true, true, false, false, false, false, false, false, false] rfl (by kernel_rfl) rfl (fun _ h => h) rfl rfl rfl (PureOp.move rfl) ?_
      refine SD.take 2 [true, true, true, false, false, false, false, false, false] rfl (by kernel_rfl) rfl (fun _ h => h) rfl rfl rfl (PureOp.move rfl) ?_
      refine SD.take 4 [true, true, true, false, true, false, false, false, false] rfl (by kernel_rfl) rfl (fun _ h => h) rfl rfl rfl (PureOp.move rfl) ?_
      refine SD.all [3, 5, 7] (by kernel_rfl) (by simp) ⟨⟨_, [true, true, true, true, true, false, false, false, false], rfl, rfl, ?_⟩, ⟨_, [true, true, true, false, true, true, false, false, false], rfl, rfl, ?_⟩, ⟨_, [true, true, true, false, true, false, false, true, false], rfl, rfl, ?_⟩, trivial⟩
      · skip
        refine SL.make rfl rfl Tryd.underlying23 elem3 rfl rfl (by omega) (by omega) (fun b1 hb1 => ?_)
        refine SL.itemxs 0 rfl (show _ = cellsOf encI (List.replicate nu 0) from by rw [rep_int]) ?_
        refine SL.norm [_] rfl ?_
        refine SD.back (fun _ h => HeapOk.take h 0) ?_
        refine SD.all [5, 7] (by kernel_rfl) (by simp) ⟨⟨_, [true, true, true, true, true, true, false, false, false], rfl, rfl, ?_⟩, ⟨_, [true, true, true, true, true, false, false, true, false], rfl, rfl, ?_⟩, trivial⟩
        · skip
          refine SL.make rfl rfl Tryd.underlying23 elem3 rfl rfl (by omega) (by omega) (fun b2 hb2 => ?_)
          refine SL.itemxs 1 rfl (show _ = cellsOf encI (List.replicate nu 0) from by rw [rep_int]) ?_
          refine SL.norm [_, _] rfl ?_
          refine SD.back (fun _ h => HeapOk.take h 0) ?_
          refine SD.take 6 [true, true, true, true, true, true, true, false, false] rfl (by kernel_rfl) rfl (fun _ h => HeapOk.take h 0) rfl rfl rfl (PureOp.build bld58 rfl rfl) ?_
          refine SD.one 7 [true, true, true, true, true, true, true, true, false] (by kernel_rfl) rfl rfl ?_
          refine SL.alloc rfl rfl zero58 (fun b3 hb3 => ?_)
          refine SL.norm [_, _, _] rfl ?_
          refine SD.back (fun _ h => HeapOk.take h 0) ?_
          refine SD.one 8 [true, true, true, true, true, true, true, true, true] (by kernel_rfl) rfl rfl ?_
          refine SL.store 2 rfl rfl rfl rfl sz58 rfl rfl ?_
          refine SL.norm [_, _, _] rfl ?_
          refine SD.back (fun _ h => HeapOk.take h 0) ?_
          refine SD.done (by kernel_rfl) ?_
          refine QX.ofK ?_
          refine QX.heap (fun _ h => HeapOk.pick [2, 0, 1] (by decide) h) ?_
          refine QX.cutx (σ := Nat × Nat × Nat) (E' := fun q_ => [(0, 0, .int .i64 ((nu : Nat) : Int)), (1, 0, .slice ea m ec), (2, 0, .slice fa q fc), (6, 0, .slice none 0 0), (7, 0, .bool false), (9, 0, .int .i64 ((nu : Nat) : Int)), (10, 0, .slice ea m ec), (11, 0, .slice fa q fc), (12, 0, .bool (rightB (nu : Int) l f)), (13, 0, .bool (!(rightB (nu : Int) l f))), (8, 0, .pointer (some ⟨q_.2.2, 0, none⟩))]) (H' := fun q_ => [Item.cells q_.2.2 [.slice ea m ec, .slice fa q fc, .slice (some ⟨q_.1, 0, none⟩) nu nu, .slice (some ⟨q_.2.1, 0, none⟩) nu nu] 58, Item.own w0.heap.size (some ⟨q_.1, 0, none⟩) nu nu 3 1 (cellsOf encI (List.replicate nu 0)), Item.own w0.heap.size (some ⟨q_.2.1, 0, none⟩) nu nu 3 1 (cellsOf encI (List.replicate nu 0))]) (I := fun q_ => True) 3 ((b1, b2, b3)) (trivial) ⟨rfl, rfl, rfl, rfl, rfl, rfl, rfl, rfl, rfl, rfl, rfl, rfl, rfl, rfl, rfl, rfl, rfl, rfl, rfl, rfl, rfl, rfl, trivial⟩ rfl
        · skip
          refine SL.alloc rfl rfl zero58 (fun b4 hb4 => ?_)
          refine SL.norm [_, _] rfl ?_
          refine SD.back (fun _ h => HeapOk.take h 0) ?_
          refine SD.one 5 [true, true, true, true, true, true, false, true, false] (by kernel_rfl) rfl rfl ?_
          refine SL.make rfl rfl Tryd.underlying23 elem3 rfl rfl (by omega) (by omega) (fun b5 hb5 => ?_)
          refine SL.itemxs 2 rfl (show _ = cellsOf encI (List.replicate nu 0) from by rw [rep_int]) ?_
          refine SL.norm [_, _, _] rfl ?_
          refine SD.back (fun _ h => HeapOk.take h 0) ?_
          refine SD.take 6 [true, true, true, true, true, true, true, true, false] rfl (by kernel_rfl) rfl (fun _ h => HeapOk.take h 0) rfl rfl rfl (PureOp.build bld58 rfl rfl) ?_
          refine SD.one 8 [true, true, true, true, true, true, true, true, true] (by kernel_rfl) rfl rfl ?_
          refine SL.store 1 rfl rfl rfl rfl sz58 rfl rfl ?_
          refine SL.norm [_, _, _] rfl ?_
          refine SD.back (fun _ h => HeapOk.take h 0) ?_
          refine SD.done (by kernel_rfl) ?_
          refine QX.ofK ?_
          refine QX.heap (fun _ h => HeapOk.pick [1, 0, 2] (by decide) h) ?_
          refine QX.cutx (σ := Nat × Nat × Nat) (E' := fun q_ => [(0, 0, .int .i64 ((nu : Nat) : Int)), (1, 0, .slice ea m ec), (2, 0, .slice fa q fc), (6, 0, .slice none 0 0), (7, 0, .bool false), (9, 0, .int .i64 ((nu : Nat) : Int)), (10, 0, .slice ea m ec), (11, 0, .slice fa q fc), (12, 0, .bool (rightB (nu : Int) l f)), (13, 0, .bool (!(rightB (nu : Int) l f))), (8, 0, .pointer (some ⟨q_.2.2, 0, none⟩))]) (H' := fun q_ => [Item.cells q_.2.2 [.slice ea m ec, .slice fa q fc, .slice (some ⟨q_.1, 0, none⟩) nu nu, .slice (some ⟨q_.2.1, 0, none⟩) nu nu] 58, Item.own w0.heap.size (some ⟨q_.1, 0, none⟩) nu nu 3 1 (cellsOf encI (List.replicate nu 0)), Item.own w0.heap.size (some ⟨q_.2.1, 0, none⟩) nu nu 3 1 (cellsOf encI (List.replicate nu 0))]) (I := fun q_ => True) 3 ((b1, b5, b4)) (trivial) ⟨rfl, rfl, rfl, rfl, rfl, rfl, rfl, rfl, rfl, rfl, rfl, rfl, rfl, rfl, rfl, rfl, rfl, rfl, rfl, rfl, rfl, rfl, trivial⟩ rfl
      · skip
        refine SL.make rfl rfl Tryd.underlying23 elem3 rfl rfl (by omega) (by omega) (fun b6 hb6 => ?_)
        refine SL.itemxs 0 rfl (show _ = cellsOf encI (List.replicate nu 0) from by rw [rep_int]) ?_
        refine SL.norm [_] rfl ?_
        refine SD.back (fun _ h => HeapOk.take h 0) ?_
        refine SD.all [3, 7] (by kernel_rfl) (by simp) ⟨⟨_, [true, true, true, true, true, true, false, false, false], rfl, rfl, ?_⟩, ⟨_, [true, true, true, false, true, true, false, true, false], rfl, rfl, ?_⟩, trivial⟩
        · skip
          refine SL.make rfl rfl Tryd.underlying23 elem3 rfl rfl (by omega) (by omega) (fun b7 hb7 => ?_)
          refine SL.itemxs 1 rfl (show _ = cellsOf encI (List.replicate nu 0) from by rw [rep_int]) ?_
          refine SL.norm [_, _] rfl ?_
          refine SD.back (fun _ h => HeapOk.take h 0) ?_
          refine SD.take 6 [true, true, true, true, true, true, true, false, false] rfl (by kernel_rfl) rfl (fun _ h => HeapOk.take h 0) rfl rfl rfl (PureOp.build bld58 rfl rfl) ?_
          refine SD.one 7 [true, true, true, true, true, true, true, true, false] (by kernel_rfl) rfl rfl ?_
          refine SL.alloc rfl rfl zero58 (fun b8 hb8 => ?_)
          refine SL.norm [_, _, _] rfl ?_
          refine SD.back (fun _ h => HeapOk.take h 0) ?_
          refine SD.one 8 [true, true, true, true, true, true, true, true, true] (by kernel_rfl) rfl rfl ?_
          refine SL.store 2 rfl rfl rfl rfl sz58 rfl rfl ?_
          refine SL.norm [_, _, _] rfl ?_
          refine SD.back (fun _ h => HeapOk.take h 0) ?_
          refine SD.done (by kernel_rfl) ?_
          refine QX.ofK ?_
          refine QX.heap (fun _ h => HeapOk.pick [2, 1, 0] (by decide) h) ?_
          refine QX.cutx (σ := Nat × Nat × Nat) (E' := fun q_ => [(0, 0, .int .i64 ((nu : Nat) : Int)), (1, 0, .slice ea m ec), (2, 0, .slice fa q fc), (6, 0, .slice none 0 0), (7, 0, .bool false), (9, 0, .int .i64 ((nu : Nat) : Int)), (10, 0, .slice ea m ec), (11, 0, .slice fa q fc), (12, 0, .bool (rightB (nu : Int) l f)), (13, 0, .bool (!(rightB (nu : Int) l f))), (8, 0, .pointer (some ⟨q_.2.2, 0, none⟩))]) (H' := fun q_ => [Item.cells q_.2.2 [.slice ea m ec, .slice fa q fc, .slice (some ⟨q_.1, 0, none⟩) nu nu, .slice (some ⟨q_.2.1, 0, none⟩) nu nu] 58, Item.own w0.heap.size (some ⟨q_.1, 0, none⟩) nu nu 3 1 (cellsOf encI (List.replicate nu 0)), Item.own w0.heap.size (some ⟨q_.2.1, 0, none⟩) nu nu 3 1 (cellsOf encI (List.replicate nu 0))]) (I := fun q_ => True) 3 ((b7, b6, b8)) (trivial) ⟨rfl, rfl, rfl, rfl, rfl, rfl, rfl, rfl, rfl, rfl, rfl, rfl, rfl, rfl, rfl, rfl, rfl, rfl, rfl, rfl, rfl, rfl, trivial⟩ rfl
        · skip
          refine SL.alloc rfl rfl zero58 (fun b9 hb9 => ?_)
          refine SL.norm [_, _] rfl ?_
          refine SD.back (fun _ h => HeapOk.take h 0) ?_
          refine SD.one 3 [true, true, true, true, true, true, false, true, false] (by kernel_rfl) rfl rfl ?_
          refine SL.make rfl rfl Tryd.underlying23 elem3 rfl rfl (by omega) (by omega) (fun b10 hb10 => ?_)
          refine SL.itemxs 2 rfl (show _ = cellsOf encI (List.replicate nu 0) from by rw [rep_int]) ?_
          refine SL.norm [_, _, _] rfl ?_
          refine SD.back (fun _ h => HeapOk.take h 0) ?_
          refine SD.take 6 [true, true, true, true, true, true, true, true, false] rfl (by kernel_rfl) rfl (fun _ h => HeapOk.take h 0) rfl rfl rfl (PureOp.build bld58 rfl rfl) ?_
          refine SD.one 8 [true, true, true, true, true, true, true, true, true] (by kernel_rfl) rfl rfl ?_
          refine SL.store 1 rfl rfl rfl rfl sz58 rfl rfl ?_
          refine SL.norm [_, _, _] rfl ?_
          refine SD.back (fun _ h => HeapOk.take h 0) ?_
          refine SD.done (by kernel_rfl) ?_
          refine QX.ofK ?_
          refine QX.heap (fun _ h => HeapOk.pick [1, 2, 0] (by decide) h) ?_
          refine QX.cutx (σ := Nat × Nat × Nat) (E' := fun q_ => [(0, 0, .int .i64 ((nu : Nat) : Int)), (1, 0, .slice ea m ec), (2, 0, .slice fa q fc), (6, 0, .slice none 0 0), (7, 0, .bool false), (9, 0, .int .i64 ((nu : Nat) : Int)), (10, 0, .slice ea m ec), (11, 0, .slice fa q fc), (12, 0, .bool (rightB (nu : Int) l f)), (13, 0, .bool (!(rightB (nu : Int) l f))), (8, 0, .pointer (some ⟨q_.2.2, 0, none⟩))]) (H' := fun q_ => [Item.cells q_.2.2 [.slice ea m ec, .slice fa q fc, .slice (some ⟨q_.1, 0, none⟩) nu nu, .slice (some ⟨q_.2.1, 0, none⟩) nu nu] 58, Item.own w0.heap.size (some ⟨q_.1, 0, none⟩) nu nu 3 1 (cellsOf encI (List.replicate nu 0)), Item.own w0.heap.size (some ⟨q_.2.1, 0, none⟩) nu nu 3 1 (cellsOf encI (List.replicate nu 0))]) (I := fun q_ => True) 3 ((b10, b6, b9)) (trivial) ⟨rfl, rfl, rfl, rfl, rfl, rfl, rfl, rfl, rfl, rfl, rfl, rfl, rfl, rfl, rfl, rfl, rfl, rfl, rfl, rfl, rfl, rfl, trivial⟩ rfl
      · skip
        refine SL.alloc rfl rfl zero58 (fun b11 hb11 => ?_)
        refine SL.norm [_] rfl ?_
        refine SD.back (fun _ h => HeapOk.take h 0) ?_
        refine SD.all [3, 5] (by kernel_rfl) (by simp) ⟨⟨_, [true, true, true, true, true, false, false, true, false], rfl, rfl, ?_⟩, ⟨_, [true, true, true, false, true, true, false, true, false], rfl, rfl, ?_⟩, trivial⟩
        · skip
          refine SL.make rfl rfl Tryd.underlying23 elem3 rfl rfl (by omega) (by omega) (fun b12 hb12 => ?_)
          refine SL.itemxs 1 rfl (show _ = cellsOf encI (List.replicate nu 0) from by rw [rep_int]) ?_
          refine SL.norm [_, _] rfl ?_
          refine SD.back (fun _ h => HeapOk.take h 0) ?_
          refine SD.one 5 [true, true, true, true, true, true, false, true, false] (by kernel_rfl) rfl rfl ?_
          refine SL.make rfl rfl Tryd.underlying23 elem3 rfl rfl (by omega) (by omega) (fun b13 hb13 => ?_)
          refine SL.itemxs 2 rfl (show _ = cellsOf encI (List.replicate nu 0) from by rw [rep_int]) ?_
          refine SL.norm [_, _, _] rfl ?_
          refine SD.back (fun _ h => HeapOk.take h 0) ?_
          refine SD.take 6 [true, true, true, true, true, true, true, true, false] rfl (by kernel_rfl) rfl (fun _ h => HeapOk.take h 0) rfl rfl rfl (PureOp.build bld58 rfl rfl) ?_
          refine SD.one 8 [true, true, true, true, true, true, true, true, true] (by kernel_rfl) rfl rfl ?_
          refine SL.store 0 rfl rfl rfl rfl sz58 rfl rfl ?_
          refine SL.norm [_, _, _] rfl ?_
          refine SD.back (fun _ h => HeapOk.take h 0) ?_
          refine SD.done (by kernel_rfl) ?_
          refine QX.ofK ?_
          refine QX.heap (fun _ h => HeapOk.pick [0, 1, 2] (by decide) h) ?_
          refine QX.cutx (σ := Nat × Nat × Nat) (E' := fun q_ => [(0, 0, .int .i64 ((nu : Nat) : Int)), (1, 0, .slice ea m ec), (2, 0, .slice fa q fc), (6, 0, .slice none 0 0), (7, 0, .bool false), (9, 0, .int .i64 ((nu : Nat) : Int)), (10, 0, .slice ea m ec), (11, 0, .slice fa q fc), (12, 0, .bool (rightB (nu : Int) l f)), (13, 0, .bool (!(rightB (nu : Int) l f))), (8, 0, .pointer (some ⟨q_.2.2, 0, none⟩))]) (H' := fun q_ => [Item.cells q_.2.2 [.slice ea m ec, .slice fa q fc, .slice (some ⟨q_.1, 0, none⟩) nu nu, .slice (some ⟨q_.2.1, 0, none⟩) nu nu] 58, Item.own w0.heap.size (some ⟨q_.1, 0, none⟩) nu nu 3 1 (cellsOf encI (List.replicate nu 0)), Item.own w0.heap.size (some ⟨q_.2.1, 0, none⟩) nu nu 3 1 (cellsOf encI (List.replicate nu 0))]) (I := fun q_ => True) 3 ((b12, b13, b11)) (trivial) ⟨rfl, rfl, rfl, rfl, rfl, rfl, rfl, rfl, rfl, rfl, rfl, rfl, rfl, rfl, rfl, rfl, rfl, rfl, rfl, rfl, rfl, rfl, trivial⟩ rfl
        · skip
          refine SL.make rfl rfl Tryd.underlying23 elem3 rfl rfl (by omega) (by omega) (fun b14 hb14 => ?_)
          refine SL.itemxs 1 rfl (show _ = cellsOf encI (List.replicate nu 0) from by rw [rep_int]) ?_
          refine SL.norm [_, _] rfl ?_
          refine SD.back (fun _ h => HeapOk.take h 0) ?_
          refine SD.one 3 [true, true, true, true, true, true, false, true, false] (by kernel_rfl) rfl rfl ?_
          refine SL.make rfl rfl Tryd.underlying23 elem3 rfl rfl (by omega) (by omega) (fun b15 hb15 => ?_)
          refine SL.itemxs 2 rfl (show _ = cellsOf encI (List.replicate nu 0) from by rw [rep_int]) ?_
          refine SL.norm [_, _, _] rfl ?_
          refine SD.back (fun _ h => HeapOk.take h 0) ?_
          refine SD.take 6 [true, true, true, true, true, true, true, true, false] rfl (by kernel_rfl) rfl (fun _ h => HeapOk.take h 0) rfl rfl rfl (PureOp.build bld58 rfl rfl) ?_
          refine SD.one 8 [true, true, true, true, true, true, true, true, true] (by kernel_rfl) rfl rfl ?_
          refine SL.store 0 rfl rfl rfl rfl sz58 rfl rfl ?_
          refine SL.norm [_, _, _] rfl ?_
          refine SD.back (fun _ h => HeapOk.take h 0) ?_
          refine SD.done (by kernel_rfl) ?_
          refine QX.ofK ?_
          refine QX.heap (fun _ h => HeapOk.pick [0, 2, 1] (by decide) h) ?_
          refine QX.cutx (σ := Nat × Nat × Nat) (E' := fun q_ => [(0, 0, .int .i64 ((nu : Nat) : Int)), (1, 0, .slice ea m ec), (2, 0, .slice fa q fc), (6, 0, .slice none 0 0), (7, 0, .bool false), (9, 0, .int .i64 ((nu : Nat) : Int)), (10, 0, .slice ea m ec), (11, 0, .slice fa q fc), (12, 0, .bool (rightB (nu : Int) l f)), (13, 0, .bool (!(rightB (nu : Int) l f))), (8, 0, .pointer (some ⟨q_.2.2, 0, none⟩))]) (H' := fun q_ => [Item.cells q_.2.2 [.slice ea m ec, .slice fa q fc, .slice (some ⟨q_.1, 0, none⟩) nu nu, .slice (some ⟨q_.2.1, 0, none⟩) nu nu] 58, Item.own w0.heap.size (some ⟨q_.1, 0, none⟩) nu nu 3 1 (cellsOf encI (List.replicate nu 0)), Item.own w0.heap.size (some ⟨q_.2.1, 0, none⟩) nu nu 3 1 (cellsOf encI (List.replicate nu 0))]) (I := fun q_ => True) 3 ((b15, b14, b11)) (trivial) ⟨rfl, rfl, rfl, rfl, rfl, rfl, rfl, rfl, rfl, rfl, rfl, rfl, rfl, rfl, rfl, rfl, rfl, rfl, rfl, rfl, rfl, rfl, trivial⟩ rfl
    rintro ⟨cb, lb, sb⟩ _
    try dsimp only at *
    refine WC.seq ?_
    refine WC.seq ?_
    refine WC.region ?_
    refine SL.callM [0, 1, 2] rfl rfl rfl rfl rfl rfl callable17 (by decide) (runa_ok sb nu l ea m ec hm (by omega) f fa q fc hq (by omega) (List.replicate nu 0) (List.replicate nu 0) cb lb 0 hE (rep_bd (by omega)) (by simp) (by omega) (by omega) (by omega) w0 sE sF) rfl (fun _ _ => rfl) ?_
    rintro ⟨⟩ ⟨hcB, hlaL⟩
    refine SL.norm [_, _, _] rfl ?_
    refine SL.pure rfl rfl rfl (PureOp.not rfl) ?_
    refine SL.nil_then ?_
    refine WC.cond rfl (fun h2 => ?_) (fun h2 => ?_)
    · try simp only [Bool.and_eq_true, Bool.or_eq_true, Bool.not_eq_true', Bool.not_eq_false', Bool.and_eq_false_iff, Bool.or_eq_false_iff, decide_eq_true_eq, decide_eq_false_iff_not, Int.not_lt, Int.not_le, ne_eq, Decidable.not_not] at h2
      refine WC.seq ?_
      refine WC.region ?_
      refine SL.pure rfl rfl rfl (PureOp.assign rfl) ?_
      refine SL.pure rfl rfl rfl (PureOp.assign rfl) ?_
      refine SL.nil_then ?_
      refine WC.ret ?_
      refine QX.ret_then ?_
      refine QX.ret2 rfl rfl rfl ?_
      intro w hw
      have e : pricesF (nu : Int) l f = ([], false) := if_neg (by intro hx; have h3 := hx.2; rw [show (nu : Int).toNat = nu from rfl, h2] at h3; cases h3)
      rw [e]
      exact ⟨none, 0, rfl, ownsRow_nil⟩
    · try simp only [Bool.and_eq_true, Bool.or_eq_true, Bool.not_eq_true', Bool.not_eq_false', Bool.and_eq_false_iff, Bool.or_eq_false_iff, decide_eq_true_eq, decide_eq_false_iff_not, Int.not_lt, Int.not_le, ne_eq, Decidable.not_not] at h2
      refine WC.skip ?_
      refine QX.then_ ?_
      refine WC.seq ?_
      refine WC.region ?_
      refine SL.pure rfl rfl rfl (PureOp.fieldAddrT 2 Tryd.underlying58 rfl sz23 rfl rfl) ?_
      refine SL.pure rfl rfl rfl (PureOp.load (v := .slice (some ⟨cb, 0, none⟩) nu nu) Tryd.underlying23 rfl rfl (fun _ => (CellIs.cells 0 rfl rfl))) ?_
      refine SL.pure rfl rfl rfl (PureOp.assign rfl) ?_
      refine SL.pure rfl rfl rfl (PureOp.assign rfl) ?_
      refine SL.nil_then ?_
      refine WC.ret ?_
      refine QX.ret2 rfl rfl rfl ?_
      intro w hw
      have e : pricesF (nu : Int) l f = ((runF l f (nu + 1) (List.replicate nu 0) (List.replicate nu 0)).1, true) := if_pos ⟨h1, h2⟩
      rw [e, show ((runF l f (nu + 1) (List.replicate nu 0) (List.replicate nu 0)).1, true).1.length = nu from hcB.len]
      exact ⟨_, _, rfl, hw.mem (i := 1) rfl⟩

end Go.Proofs.YtngkbnaehkailaaDoor
